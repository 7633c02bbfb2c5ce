import PyProof.Rows.All
import Wide.All
import OpenK.AllK
import Wide.FinOn
import HandS.ForMost
import HandS.ForExc
import KE.SortData
import KE.DataMinMax
import KE.KDictKeyed
import KE.KDictWalk
import KE.KDictList
import KE.KDictPairs
import KE.KeyNested
import KE.KDictDisplayH
import KE.KDictLaw
import HandS.Deep
import HandS.Flow
import HandS.Style
import HandS.TupAny
import HandS.TupMul
import HandS.TupLe
import HandS.IsInst
import PyProof.TupleOfStr
import KE.KDictCopyH
import HandS.ExcOwn
import HandS.List
import HandS.Comp
import HandS.TryOnly
import HandS.Zip
import HandS.ExcIs
import HandS.TryMany
import HandS.Dict
import HandS.EndBits
import KE.KIntText
import PySem.Challenge.RW_gridwhole_k68_sorted_tables
set_option Elab.async false
set_option linter.all false
set_option maxRecDepth 100000
/-! G1: a small language over PyData (no heap), its evaluator. -/
namespace G
open PySem

abbrev D := PyData

/-- what a slot holds: frozen data, an owned list, an owned dict, the script -/
inductive AV where
  | d (x : D)
  | ol (xs : List D)
  | od (kvs : List (D × D))
  | sc (ns : List Int)
abbrev Env := List (Option AV)

inductive Ex where
  | unfit | wide
  deriving DecidableEq

inductive R (α : Type) where
  | ok (a : α) (ρ : Env)
  | exc (c : Ex) (ρ : Env)
  | err
def R.bind {α β : Type} (x : R α) (f : α → Env → R β) : R β :=
  match x with
  | .ok a ρ => f a ρ
  | .exc c ρ => .exc c ρ
  | .err => .err
@[simp] theorem R.bind_ok {α β : Type} (a : α) (ρ : Env) (f : α → Env → R β) : (R.ok a ρ).bind f = f a ρ := rfl
@[simp] theorem R.bind_exc {α β : Type} (c : Ex) (ρ : Env) (f : α → Env → R β) : (R.exc c ρ).bind f = .exc c ρ := rfl
@[simp] theorem R.bind_err {α β : Type} (f : α → Env → R β) : (R.err : R α).bind f = .err := rfl
/-- no exception -/
def R.nox {α : Type} (x : R α) : R α := match x with | .ok a ρ => .ok a ρ | .exc _ _ => .err | .err => .err
@[simp] theorem R.nox_ok {α : Type} (a : α) (ρ : Env) : (R.ok a ρ).nox = R.ok a ρ := rfl
@[simp] theorem R.nox_exc {α : Type} (c : Ex) (ρ : Env) : (R.exc c ρ : R α).nox = R.err := rfl
@[simp] theorem R.nox_err {α : Type} : (R.err : R α).nox = R.err := rfl
/-- a pure part that may be stuck -/
def R.opt {α : Type} (o : Option α) (ρ : Env) : R α := match o with | some a => .ok a ρ | none => .err
@[simp] theorem R.opt_some {α : Type} (a : α) (ρ : Env) : R.opt (some a) ρ = .ok a ρ := rfl
@[simp] theorem R.opt_none {α : Type} (ρ : Env) : R.opt (none : Option α) ρ = .err := rfl

inductive BOp where
  | add | sub | mul | fdiv | mod | pow
inductive COp where
  | eq | ne | lt | le | gt | ge | isin | notin
/-- built-in functions of data -/
inductive Bi where
  | len | tuple | list | int | sorted | repr | str | min1 | max1 | min2 | max2 | max4 | sum | dict | abs
  | lenSet | sortedSet | isTuple | isInt | isBool | isStr | isList | isIntTup | values | items | join | index | count | get

inductive Tg where
  | n (i : Nat)
  | t (ts : List Tg)

mutual
inductive E where
  | var (i : Nat)
  | bor (i : Nat)
  | scr (i : Nat)
  | non | bl (b : Bool) | int (n : Int) | str (s : Str)
  | glob (x : Str) (v : D)
  | tup (es : List E) | lst (es : List E)
  | bin (op : BOp) (a b : E)
  | neg (a : E) | nt (a : E)
  | and (a b : E) | or (a b : E)
  | cmp (op : COp) (a b : E)
  | chain (op : COp) (op' : COp) (a b c : E)
  | isNon (neg : Bool) (a : E)
  | isTru (neg : Bool) (a : E)
  | ife (c a b : E)
  | idx (a b : E)
  | slc (a : E) (lo hi : Option E)
  | rev (a : E)
  | call (f : Nat) (es : List E)
  | callS (f : Nat) (i : Nat) (es : List E)
  | bi (b : Bi) (es : List E)
  | pop (i : Nat) (e : E)
  | dict0
  | dict1 (k v : E)
  | lit (it : It)
  | lc (elt : E) (vs : List Nat) (tg : Tg) (it : It) (cond : Option E)
  | lc2 (elt : E) (vs : List Nat) (tg : Tg) (it : It) (vs2 : List Nat) (tg2 : Tg) (it2 : It) (cond : Option E)
  | dc (k v : E) (vs : List Nat) (tg : Tg) (it : It)
inductive It where
  | e (m : E)
  | r1 (b : E) | r2 (a b : E) | r3 (a b c : E)
  | enum (m : E)
  | zip (a b : E)
end

/-- most of what grows -/
abbrev LIM : Nat := 1000000

/-! ### operations of data -/
def shp (d : D) : Bool := SeqAt.shaped d
def nonD : D → Bool
  | .none => true
  | _ => false
def okLen (n : Nat) : Bool := decide (n ≤ LIM)
def truD : D → Option Bool
  | .none => some false
  | .bool b => some b
  | .int i => some (i != 0)
  | .str s => if okLen s.length then some (s.length != 0) else none
  | .list xs => some (!xs.isEmpty)
  | .tuple xs => some (!xs.isEmpty)
  | .dict _ => none


def mulOk (a b : Int) : Bool := (decide (-(2 ^ 64) < a) && decide (a < 2 ^ 64)) || (decide (-(2 ^ 64) < b) && decide (b < 2 ^ 64))

def addD : D → D → Option D
  | .int a, .int b => some (.int (a + b))
  | .str a, .str b => if okLen (a.length + b.length) then some (.str (a ++ b)) else none
  | .tuple a, .tuple b => if okLen (a.length + b.length) then some (.tuple (a ++ b)) else none
  | .list a, .list b => if okLen (a.length + b.length) then some (.list (a ++ b)) else none
  | _, _ => none
def subD : D → D → Option D
  | .int a, .int b => some (.int (a - b))
  | _, _ => none
def mulD : D → D → Option D
  | .int a, .int b => if mulOk a b then some (.int (a * b)) else none
  | .tuple [x], .int k => if decide (1 ≤ k) && decide (k ≤ 1000) then some (.tuple (List.replicate k.toNat x)) else none
  | _, _ => none
def fdivD : D → D → Option D
  | .int a, .int b => if decide (b ≠ 0) && decide (b.natAbs < 1073741824) then some (.int (a.fdiv b)) else none
  | _, _ => none
def modD : D → D → Option D
  | .int a, .int b => if decide (b ≠ 0) then some (.int (a.fmod b)) else none
  | _, _ => none
def powD : D → D → Option D
  | .int a, .int b => if decide (0 ≤ b) && decide (b ≤ 1000000) && decide (a.natAbs < 2 ^ 64) then some (.int (a ^ b.toNat)) else none
  | _, _ => none
def binD : BOp → D → D → Option D
  | .add => addD | .sub => subD | .mul => mulD | .fdiv => fdivD | .mod => modD | .pow => powD

mutual
/-- the order of ints, and of tuples of such at any depth -/
def ltD : D → D → Option Bool
  | .int a, .int b => some (decide (a < b))
  | .tuple xs, .tuple ys => ltDs xs ys
  | _, _ => none
def ltDs : List D → List D → Option Bool
  | [], [] => some false
  | [], _ :: _ => some true
  | _ :: _, [] => some false
  | x :: xs, y :: ys => (ltDs xs ys).bind fun r => if PyData.eqv x y then some r else ltD x y
end

/-- keys of dicts: tuples of ints and such -/
def lookD (kvs : List (D × D)) (k : D) : Option D := (kvs.find? fun p => PyData.eqv p.1 k).map (·.2)
def putD (kvs : List (D × D)) (k v : D) : List (D × D) :=
  if kvs.any (fun p => PyData.eqv p.1 k) then kvs.map fun p => if PyData.eqv p.1 k then (p.1, v) else p else kvs ++ [(k, v)]
mutual
def keyD : D → Bool
  | .int _ => true
  | .tuple xs => keyDs xs
  | _ => false
def keyDs : List D → Bool
  | [] => true
  | x :: xs => keyD x && keyDs xs
end
/-- a key of a dict: a tuple, not too deep -/
def isKey : D → Bool
  | .tuple xs => keyDs xs && decide (PyData.depth (.tuple xs) ≤ 8)
  | _ => false


def inD (x : D) : D → Option Bool
  | .list xs => if shp x && shp (.list xs) then some (xs.any fun z => PyData.eqv z x) else none
  | .tuple xs => if shp x && shp (.tuple xs) then some (xs.any fun z => PyData.eqv z x) else none
  | .dict kvs => if isKey x then some (kvs.any fun p => PyData.eqv p.1 x) else none
  | _ => none
def eqD (a b : D) : Option Bool := if shp a && shp b then some (PyData.eqv a b) else none
def neD (a b : D) : Option Bool := if shp a && shp b then some (!PyData.eqv a b) else none
def gtD : D → D → Option Bool
  | .int a, .int b => some (decide (b < a))
  | _, _ => none
def leD : D → D → Option Bool
  | .int a, .int b => some (decide (a ≤ b))
  | _, _ => none
def geD : D → D → Option Bool
  | .int a, .int b => some (decide (b ≤ a))
  | _, _ => none
def ltT (a b : D) : Option Bool := if shp a && shp b then ltD a b else none
def notinD (a b : D) : Option Bool := (inD a b).map (!·)
def cmpD : COp → D → D → Option Bool
  | .eq => eqD | .ne => neD | .lt => ltT | .gt => gtD | .le => leD | .ge => geD | .isin => inD | .notin => notinD

def idxD : D → D → Option D
  | .list xs, .int i => L2.atI xs i
  | .tuple xs, .int i => L2.atI xs i
  | .dict kvs, k => if isKey k then lookD kvs k else none
  | _, _ => none
/-- a part of a list -/
def cutL (xs : List D) (lo hi : Option Int) : List D := (xs.drop (HT.sIx xs.length 0 lo)).take (HT.sIx xs.length xs.length hi - HT.sIx xs.length 0 lo)
def slcD (d : D) (lo hi : Option Int) : Option D :=
  match d with
  | .list xs => some (.list (cutL xs lo hi))
  | .tuple xs => some (.tuple (cutL xs lo hi))
  | .str s => if okLen s.length then some (.str (L2.cutS s lo hi)) else none
  | _ => none
def revD : D → Option D
  | .list xs => some (.list xs.reverse)
  | .tuple xs => some (.tuple xs.reverse)
  | .str s => if okLen s.length then some (.str ⟨s.cps.reverse⟩) else none
  | _ => none

/-- what is walked -/
def itemsD : D → Option (List D)
  | .list xs => some xs
  | .tuple xs => some xs
  | .dict kvs => some (kvs.map (·.1))
  | _ => none
def rngL (a b : Int) : List D := (List.range (b - a).toNat).map fun (i : Nat) => PyData.int (a + i)
/-- a step that isn't 1 -/
def rng3n (a b c : Int) : Nat := if 0 < c then ((b - a + c - 1) / c).toNat else ((a - b + -c - 1) / -c).toNat
def rngL3 (a b c : Int) : List D := (List.range (rng3n a b c)).map fun (i : Nat) => PyData.int (a + i * c)
def enumL : Nat → List D → List D
  | _, [] => []
  | n, x :: xs => .tuple [.int n, x] :: enumL (n + 1) xs
def zipL : List D → List D → List D
  | x :: xs, y :: ys => .tuple [x, y] :: zipL xs ys
  | _, _ => []

def intsD : List D → Option (List Int)
  | [] => some []
  | .int i :: r => (intsD r).map (i :: ·)
  | _ :: _ => none
def strsD : List D → Option (List Str)
  | [] => some []
  | .str i :: r => (strsD r).map (i :: ·)
  | _ :: _ => none

/-- items of a list or a tuple -/
def seqD : D → Option (List D)
  | .list xs => some xs
  | .tuple xs => some xs
  | _ => none
/-- data that can be put in order -/
def alB (xs : List D) : Bool := (xs.all fun x => xs.all fun y => PySem.W.alike x y) && (xs.all fun x => !nonD x) && !PyData.hasDictAll xs && decide (PyData.depthAll xs ≤ 60)
def isT1 : D → Bool
  | .tuple (_ :: _) => true
  | _ => false
def noT : D → Bool
  | .tuple _ => false
  | .none => false
  | _ => true
def soB (xs : List D) : Bool := xs.all isT1 || xs.all noT
/-- sorted: what doesn't differ keeps its turns -/
def sortD (xs : List D) : Option (List D) := if alB xs && soB xs && okLen xs.length then some (xs.mergeSort (PySem.W.dataLe false id)) else none
def minD (xs : List D) : Option D := match xs with
  | [] => none
  | x :: r => if alB (x :: r) then some (PySem.W.minD x r) else none
def maxD (xs : List D) : Option D := match xs with
  | [] => none
  | x :: r => if alB (x :: r) then some (PySem.W.maxD x r) else none
/-- neither list nor dict -/
def flatT : D → Bool
  | .list _ => false
  | .dict _ => false
  | _ => true
def maxN (xs : List D) : Option D := if xs.all flatT then maxD xs else none
/-- each once -/
def onceD : List D → List D
  | [] => []
  | x :: xs => x :: (onceD xs).filter fun y => !PyData.eqv y x
def pairsD : List D → Option (List (D × D))
  | [] => some []
  | .tuple [k, v] :: r => if isKey k then (pairsD r).map ((k, v) :: ·) else none
  | _ :: _ => none
def hashable : D → Bool
  | .int _ => true
  | d => isKey d

def charsD (s : Str) : List D := s.cps.toList.map fun c => .str ⟨#[c]⟩

def idxOf (x : D) : Nat → List D → Option Nat
  | _, [] => none
  | n, y :: ys => if PyData.eqv y x then some n else idxOf x (n + 1) ys

def biD (b : Bi) (ds : List D) : Option D :=
  match b, ds with
  | .len, [.list xs] => some (.int xs.length)
  | .len, [.tuple xs] => some (.int xs.length)
  | .len, [.dict xs] => if okLen xs.length then some (.int xs.length) else none
  | .len, [.str s] => if okLen s.length then some (.int s.length) else none
  | .tuple, [.list xs] => some (.tuple xs)
  | .tuple, [.tuple xs] => some (.tuple xs)
  | .tuple, [.str s] => if okLen s.length then some (.tuple (charsD s)) else none
  | .list, [.list xs] => some (.list xs)
  | .list, [.tuple xs] => some (.list xs)
  | .list, [.dict kvs] => if okLen kvs.length then some (.list (kvs.map (·.1))) else none
  | .int, [.int i] => some (.int i)
  | .int, [.bool b] => some (.int (if b then 1 else 0))
  | .sorted, [d] => (seqD d).bind fun xs => (sortD xs).map .list
  | .repr, [.tuple xs] => if (PyData.showable (.tuple xs)) && !(PyData.hasDict (.tuple xs)) && decide (PyData.depth (.tuple xs) ≤ 64) && okLen (PyData.shown (.tuple xs)).length then some (.str (PyData.shown (.tuple xs))) else none
  | .str, [.int i] => if decide (i.natAbs.log2 < 1920) then some (.str (toString i)) else none
  | .min1, [d] => (seqD d).bind minD
  | .max1, [d] => (seqD d).bind maxD
  | .min2, [.int i, .int j] => some (.int (if j < i then j else i))
  | .max2, [a, b] => maxN [a, b]
  | .max4, [a, b, c, d] => maxN [a, b, c, d]
  | .sum, [d] => (seqD d).bind fun xs => (intsD xs).map fun ns => .int ns.sum
  | .dict, [d] => (itemsD d).bind fun xs => (pairsD xs).map fun kvs => .dict (kvs.foldl (fun acc p => putD acc p.1 p.2) [])
  | .abs, [.int i] => some (.int (if i < 0 then -i else i))
  | .lenSet, [d] => (itemsD d).bind fun xs => if xs.all hashable then some (.int (onceD xs).length) else none
  | .sortedSet, [d] => (itemsD d).bind fun xs => if xs.all hashable then (sortD (onceD xs)).map .list else none
  | .isTuple, [d] => some (.bool (match d with | .tuple _ => true | _ => false))
  | .isInt, [d] => some (.bool (match d with | .int _ => true | .bool _ => true | _ => false))
  | .isBool, [d] => some (.bool (match d with | .bool _ => true | _ => false))
  | .isStr, [d] => some (.bool (match d with | .str _ => true | _ => false))
  | .isList, [d] => some (.bool (match d with | .list _ => true | _ => false))
  | .isIntTup, [d] => some (.bool (match d with | .int _ => true | .bool _ => true | .tuple _ => true | _ => false))
  | .values, [.dict kvs] => if okLen kvs.length then some (.list (kvs.map (·.2))) else none
  | .items, [.dict kvs] => if okLen kvs.length then some (.list (kvs.map fun p => .tuple [p.1, p.2])) else none
  | .join, [.tuple xs] => (strsD xs).bind fun ss => if okLen ((ss.map Str.length).sum) then some (.str (Txt.join (Str.ofString "") ss)) else none
  | .index, [.list xs, x] => if shp x && shp (.list xs) then (idxOf x 0 xs).map fun n => .int n else none
  | .index, [.tuple xs, x] => if shp x && shp (.tuple xs) then (idxOf x 0 xs).map fun n => .int n else none
  | .count, [.list xs, x] => if shp x && shp (.list xs) then some (.int (xs.countP fun y => PyData.eqv y x)) else none
  | .get, [.dict kvs, k, v] => if isKey k then some ((lookD kvs k).getD v) else none
  | _, _ => none

/-! ### slots -/
def rd (ρ : Env) (i : Nat) : Option D := match ρ[i]? with | some (some (.d x)) => some x | _ => none
/-- read, owned or not -/
def rdB (ρ : Env) (i : Nat) : Option D := match ρ[i]? with
  | some (some (.d x)) => some x
  | some (some (.ol xs)) => some (.list xs)
  | some (some (.od kvs)) => some (.dict kvs)
  | _ => none
/-- an owned slot, read -/
def rdO (ρ : Env) (i : Nat) : Option D := match ρ[i]? with
  | some (some (.ol xs)) => some (.list xs)
  | some (some (.od kvs)) => some (.dict kvs)
  | _ => none
def frz (ρ : Env) (i : Nat) : Env := match rdB ρ i with | some x => ρ.set i (some (.d x)) | none => ρ
def wr (ρ : Env) (i : Nat) (x : D) : Option Env := if i < ρ.length then some (ρ.set i (some (.d x))) else none
def kill (ρ : Env) (vs : List Nat) : Env := vs.foldl (fun ρ i => ρ.set i none) ρ
/-- the slots vs as they were -/
def back (vs : List Nat) (ρ ρ' : Env) : Env := vs.foldl (fun r i => r.set i (ρ.getD i none)) ρ'
def own (ρ : Env) (i : Nat) : Option (List D) := match ρ[i]? with | some (some (.ol xs)) => some xs | _ => none
def ownD (ρ : Env) (i : Nat) : Option (List (D × D)) := match ρ[i]? with | some (some (.od xs)) => some xs | _ => none

mutual
def Tg.bind : Tg → D → Env → Option Env
  | .n i, x, ρ => wr ρ i x
  | .t ts, .tuple xs, ρ => Tg.binds ts xs ρ
  | .t ts, .list xs, ρ => Tg.binds ts xs ρ
  | .t _, _, _ => none
def Tg.binds : List Tg → List D → Env → Option Env
  | [], [], ρ => some ρ
  | g :: gs, x :: xs, ρ => (Tg.bind g x ρ).bind fun ρ => Tg.binds gs xs ρ
  | _, _, _ => none
end

/-! ### loops of comprehensions -/
/-- step by step, the results joined -/
def joinR (f : D → Env → R (List D)) : List D → Env → R (List D)
  | [], ρ => .ok [] ρ
  | x :: xs, ρ => (f x ρ).bind fun r ρ => (joinR f xs ρ).bind fun r' ρ => .ok (r ++ r') ρ
def limR (x : R (List D)) : R (List D) := x.bind fun r ρ => if okLen r.length then .ok r ρ else .err
/-- a dict's comprehension -/
def joinK (f : D → Env → R (D × D)) : List D → Env → List (D × D) → R (List (D × D))
  | [], ρ, acc => .ok acc ρ
  | x :: xs, ρ, acc => (f x ρ).bind fun p ρ => if isKey p.1 && okLen acc.length then joinK f xs ρ (putD acc p.1 p.2) else .err

/-- a call's end -/
inductive CR where
  | ok (d : D) (st : List D)
  | exc (c : Ex)
  | err
abbrev CS := Nat → List D → List D → CR

def callP (r : CR) (ρ : Env) : R D := match r with
  | .ok d _ => .ok d ρ
  | .exc c => .exc c ρ
  | .err => .err
def callQ (cs : CS) (f i : Nat) (ds : List D) (ρ : Env) : R D := match own ρ i with
  | none => .err
  | some st => match cs f st ds with
    | .ok d st' => .ok d (ρ.set i (some (.ol st')))
    | _ => .err
def popQ (i : Nat) (k : D) (ρ : Env) : R D := match own ρ i, k with
  | some xs, .int j => if decide (-(2 ^ 63) ≤ j) && decide (j < 2 ^ 63) then match L2.ixN xs.length j with
      | some n => match xs[n]? with
        | some x => .ok x (ρ.set i (some (.ol (xs.eraseIdx n))))
        | none => .err
      | none => .err
    else .err
  | _, _ => .err
def truR (x : R D) : R Bool := x.bind fun d ρ => R.opt (truD d) ρ

mutual
def evE (cs : CS) : E → Env → R D
  | .var i, ρ => R.opt (rd ρ i) ρ
  | .bor i, ρ => R.opt (rdB ρ i) ρ
  | .scr i, ρ => match ρ[i]? with | some (some (.sc ns)) => .ok (.list (ns.map .int)) ρ | _ => .err
  | .non, ρ => .ok .none ρ
  | .bl b, ρ => .ok (.bool b) ρ
  | .int n, ρ => .ok (.int n) ρ
  | .str s, ρ => .ok (.str s) ρ
  | .glob _ v, ρ => .ok v ρ
  | .tup es, ρ => (evEs cs es ρ).bind fun ds ρ => .ok (.tuple ds) ρ
  | .lst es, ρ => (evEs cs es ρ).bind fun ds ρ => .ok (.list ds) ρ
  | .bin op a b, ρ => (evE cs a ρ).bind fun x ρ => (evE cs b ρ).bind fun y ρ => R.opt (binD op x y) ρ
  | .neg a, ρ => (evE cs a ρ).bind fun x ρ => match x with | .int i => .ok (.int (-i)) ρ | _ => .err
  | .nt a, ρ => (truR (evE cs a ρ)).bind fun b ρ => .ok (.bool (!b)) ρ
  | .and a b, ρ => (evE cs a ρ).bind fun x ρ => match truD x with
    | some true => evE cs b ρ
    | some false => .ok x ρ
    | none => .err
  | .or a b, ρ => (evE cs a ρ).bind fun x ρ => match truD x with
    | some true => .ok x ρ
    | some false => evE cs b ρ
    | none => .err
  | .cmp op a b, ρ => (evE cs a ρ).bind fun x ρ => (evE cs b ρ).bind fun y ρ => (R.opt (cmpD op x y) ρ).bind fun b ρ => .ok (.bool b) ρ
  | .chain op op' a b c, ρ => (evE cs a ρ).bind fun x ρ => (evE cs b ρ).bind fun y ρ => (R.opt (cmpD op x y) ρ).bind fun t ρ =>
      if t then (evE cs c ρ).bind fun z ρ => (R.opt (cmpD op' y z) ρ).bind fun b ρ => .ok (.bool b) ρ else .ok (.bool false) ρ
  | .isNon ng a, ρ => (evE cs a ρ).bind fun x ρ => .ok (.bool (xor ng (nonD x))) ρ
  | .isTru ng a, ρ => (evE cs a ρ).bind fun x ρ => match x with | .bool b => .ok (.bool (xor ng b)) ρ | _ => .err
  | .ife c a b, ρ => (truR (evE cs c ρ)).bind fun t ρ => if t then evE cs a ρ else evE cs b ρ
  | .idx a b, ρ => (evE cs a ρ).bind fun x ρ => (evE cs b ρ).bind fun y ρ => R.opt (idxD x y) ρ
  | .slc a lo hi, ρ => (evE cs a ρ).bind fun x ρ => (evO cs lo ρ).bind fun l ρ => (evO cs hi ρ).bind fun h ρ =>
      R.opt (slcD x l h) ρ
  | .rev a, ρ => (evE cs a ρ).bind fun x ρ => R.opt (revD x) ρ
  | .call f es, ρ => (evEs cs es ρ).bind fun ds ρ => callP (cs f [] ds) ρ
  | .callS f i es, ρ => (R.opt (own ρ i) ρ).bind fun _ ρ => (evEs cs es ρ).bind fun ds ρ => callQ cs f i ds ρ
  | .bi b es, ρ => (evEs cs es ρ).bind fun ds ρ => R.opt (biD b ds) ρ
  | .pop i e, ρ => (R.opt (own ρ i) ρ).bind fun _ ρ => (evE cs e ρ).bind fun k ρ => popQ i k ρ
  | .dict0, ρ => .ok (.dict []) ρ
  | .dict1 k v, ρ => (evE cs k ρ).bind fun k ρ => (evE cs v ρ).bind fun v ρ => if isKey k then .ok (.dict [(k, v)]) ρ else .err
  | .lit it, ρ => (evI cs it ρ).bind fun xs ρ => if okLen xs.length then .ok (.list xs) ρ else .err
  | .lc elt vs tg it cond, ρ => (evI cs it ρ).bind fun xs ρ1 =>
      (limR (joinR (fun x ρ => (R.opt (tg.bind x (kill ρ vs)) ρ).bind fun ρa _ => (evC cs cond ρa).nox.bind fun t ρ =>
        if t then (evE cs elt ρ).nox.bind fun d ρ => .ok [d] ρ else .ok [] ρ) xs ρ1)).bind fun ds ρ2 => .ok (.list ds) (back vs ρ1 ρ2)
  | .lc2 elt vs tg it vs2 tg2 it2 cond, ρ => (evI cs it ρ).bind fun xs ρ1 =>
      (limR (joinR (fun x ρ => (R.opt (tg.bind x (kill ρ vs)) ρ).bind fun ρa _ => (evI cs it2 ρa).nox.bind fun ys ρ =>
        joinR (fun y ρ => (R.opt (tg2.bind y (kill ρ vs2)) ρ).bind fun ρb _ => (evC cs cond ρb).nox.bind fun t ρ =>
          if t then (evE cs elt ρ).nox.bind fun d ρ => .ok [d] ρ else .ok [] ρ) ys ρ) xs ρ1)).bind fun ds ρ2 => .ok (.list ds) (back vs ρ1 ρ2)
  | .dc k v vs tg it, ρ => (evI cs it ρ).bind fun xs ρ1 =>
      (joinK (fun x ρ => (R.opt (tg.bind x (kill ρ vs)) ρ).bind fun ρa _ => (evE cs k ρa).nox.bind fun k ρ => (evE cs v ρ).nox.bind fun v ρ => .ok (k, v) ρ) xs ρ1 []).bind fun kvs ρ2 => .ok (.dict kvs) (back vs ρ1 ρ2)
def evEs (cs : CS) : List E → Env → R (List D)
  | [], ρ => .ok [] ρ
  | e :: es, ρ => (evE cs e ρ).bind fun d ρ => (evEs cs es ρ).bind fun ds ρ => .ok (d :: ds) ρ
def evO (cs : CS) : Option E → Env → R (Option Int)
  | none, ρ => .ok none ρ
  | some e, ρ => (evE cs e ρ).bind fun d ρ => match d with | .int i => .ok (some i) ρ | _ => .err
def evC (cs : CS) : Option E → Env → R Bool
  | none, ρ => .ok true ρ
  | some e, ρ => truR (evE cs e ρ)
def evI (cs : CS) : It → Env → R (List D)
  | .e m, ρ => (evE cs m ρ).bind fun d ρ => R.opt (itemsD d) ρ
  | .r1 b, ρ => (evE cs b ρ).bind fun y ρ => match y with
    | .int j => if decide (-(2 ^ 62) ≤ j) && decide (j < 2 ^ 62) then .ok (rngL 0 j) ρ else .err
    | _ => .err
  | .r2 a b, ρ => (evE cs a ρ).bind fun x ρ => (evE cs b ρ).bind fun y ρ => match x, y with
    | .int i, .int j => if decide (-(2 ^ 62) ≤ i) && decide (i < 2 ^ 62) && decide (-(2 ^ 62) ≤ j) && decide (j < 2 ^ 62) then .ok (rngL i j) ρ else .err
    | _, _ => .err
  | .r3 a b c, ρ => (evE cs a ρ).bind fun x ρ => (evE cs b ρ).bind fun y ρ => (evE cs c ρ).bind fun z ρ => match x, y, z with
    | .int i, .int j, .int k => if decide (-(2 ^ 62) ≤ i) && decide (i < 2 ^ 62) && decide (-(2 ^ 62) ≤ j) && decide (j < 2 ^ 62) && decide (k = -1) then .ok (rngL3 i j k) ρ else .err
    | _, _, _ => .err
  | .enum m, ρ => (evE cs m ρ).bind fun d ρ => match d with
    | .list xs => .ok (enumL 0 xs) ρ
    | .tuple xs => .ok (enumL 0 xs) ρ
    | _ => .err
  | .zip a b, ρ => (evE cs a ρ).bind fun x ρ => (evE cs b ρ).bind fun y ρ => match x, y with
    | .list xs, .list ys => .ok (zipL xs ys) ρ
    | .tuple xs, .tuple ys => .ok (zipL xs ys) ρ
    | _, _ => .err
end

/-! ### statements -/
inductive S where
  | setv (tg : Tg) (e : E)
  | seto (i : Nat) (e : E)
  | par (is : List (Nat × Bool)) (es : List E)
  | setx (i : Nat) (k e : E)
  | augx (i : Nat) (k : E) (op : BOp) (e : E)
  | aug (i : Nat) (op : BOp) (e : E)
  | app (i : Nat) (e : E)
  | ext (i : Nat) (e : E)
  | setdef (i : Nat) (k e : E)
  | expr (e : E)
  | ift (c : E) (a b : List S)
  | whl (c : E) (body : List S)
  | fr (tg : Tg) (it : It) (body : List S)
  | brk | cont
  | ret (e : E)
  | raise (c : Ex)
  | tr (body : List S) (hs : List (Ex × Nat × Bool))
  | kl (vs : List Nat)
  | fz (vs : List Nat)

inductive Fl where
  | next (ρ : Env)
  | ret (d : D) (ρ : Env)
  | brk (ρ : Env)
  | cont (ρ : Env)
  | exc (c : Ex) (ρ : Env)
  | err

def R.fl {α : Type} (x : R α) (f : α → Env → Fl) : Fl := match x with
  | .ok a ρ => f a ρ
  | .exc c ρ => .exc c ρ
  | .err => .err
@[simp] theorem R.fl_ok {α : Type} (a : α) (ρ : Env) (f : α → Env → Fl) : (R.ok a ρ).fl f = f a ρ := rfl
@[simp] theorem R.fl_exc {α : Type} (c : Ex) (ρ : Env) (f : α → Env → Fl) : (R.exc c ρ).fl f = .exc c ρ := rfl
@[simp] theorem R.fl_err {α : Type} (f : α → Env → Fl) : (R.err : R α).fl f = .err := rfl
def Fl.opt (o : Option Env) : Fl := match o with | some ρ => .next ρ | none => .err
@[simp] theorem Fl.opt_some (ρ : Env) : Fl.opt (some ρ) = .next ρ := rfl
@[simp] theorem Fl.opt_none : Fl.opt none = .err := rfl
def Fl.bind (x : Fl) (f : Env → Fl) : Fl := match x with
  | .next ρ => f ρ
  | .ret d ρ => .ret d ρ
  | .brk ρ => .brk ρ
  | .cont ρ => .cont ρ
  | .exc c ρ => .exc c ρ
  | .err => .err
@[simp] theorem Fl.bind_next (ρ : Env) (f : Env → Fl) : (Fl.next ρ).bind f = f ρ := rfl
@[simp] theorem Fl.bind_ret (d : D) (ρ : Env) (f : Env → Fl) : (Fl.ret d ρ).bind f = .ret d ρ := rfl
@[simp] theorem Fl.bind_brk (ρ : Env) (f : Env → Fl) : (Fl.brk ρ).bind f = .brk ρ := rfl
@[simp] theorem Fl.bind_cont (ρ : Env) (f : Env → Fl) : (Fl.cont ρ).bind f = .cont ρ := rfl
@[simp] theorem Fl.bind_exc (c : Ex) (ρ : Env) (f : Env → Fl) : (Fl.exc c ρ).bind f = .exc c ρ := rfl
@[simp] theorem Fl.bind_err (f : Env → Fl) : Fl.err.bind f = .err := rfl

/-- a loop's turn: what follows it -/
def Fl.turn (x : Fl) (f : Env → Fl) : Fl := match x with
  | .next ρ => f ρ
  | .cont ρ => f ρ
  | .brk ρ => .next ρ
  | .ret d ρ => .ret d ρ
  | .exc c ρ => .exc c ρ
  | .err => .err
@[simp] theorem Fl.turn_next (ρ : Env) (f : Env → Fl) : (Fl.next ρ).turn f = f ρ := rfl
@[simp] theorem Fl.turn_cont (ρ : Env) (f : Env → Fl) : (Fl.cont ρ).turn f = f ρ := rfl
@[simp] theorem Fl.turn_brk (ρ : Env) (f : Env → Fl) : (Fl.brk ρ).turn f = .next ρ := rfl
@[simp] theorem Fl.turn_ret (d : D) (ρ : Env) (f : Env → Fl) : (Fl.ret d ρ).turn f = .ret d ρ := rfl
@[simp] theorem Fl.turn_exc (c : Ex) (ρ : Env) (f : Env → Fl) : (Fl.exc c ρ).turn f = .exc c ρ := rfl
@[simp] theorem Fl.turn_err (f : Env → Fl) : Fl.err.turn f = .err := rfl

def forL (bd : D → Env → Option Env) (body : Env → Fl) : List D → Env → Fl
  | [], ρ => .next ρ
  | x :: xs, ρ => (Fl.opt (bd x ρ)).bind fun ρ => (body ρ).turn fun ρ => forL bd body xs ρ
def whlL (c : Env → R Bool) (body : Env → Fl) : Nat → Env → Fl
  | 0, _ => .err
  | n + 1, ρ => (c ρ).fl fun t ρ => if t then (body ρ).turn fun ρ => whlL c body n ρ else .next ρ
abbrev WF : Nat := 100000

def wrO (ρ : Env) (i : Nat) (x : D) : Option Env := if i < ρ.length then (match x with
  | .list xs => some (ρ.set i (some (.ol xs)))
  | .dict kvs => some (ρ.set i (some (.od kvs)))
  | _ => none) else none
def wrs : List (Nat × Bool) → List D → Env → Option Env
  | [], [], ρ => some ρ
  | (i, o) :: is, x :: xs, ρ => (if o then wrO ρ i x else wr ρ i x).bind fun ρ => wrs is xs ρ
  | _, _, _ => none
def setQ (i : Nat) (k v : D) (ρ : Env) : Option Env := match ρ[i]? with
  | some (some (.ol xs)) => (match k with
    | .int j => (L2.ixN xs.length j).map fun n => ρ.set i (some (.ol (xs.set n v)))
    | _ => none)
  | some (some (.od kvs)) => if isKey k && okLen kvs.length then some (ρ.set i (some (.od (putD kvs k v)))) else none
  | _ => none
def appQ (i : Nat) (v : D) (ρ : Env) : Option Env := (own ρ i).bind fun xs => if okLen xs.length then some (ρ.set i (some (.ol (xs ++ [v])))) else none
def extQ (i : Nat) (v : D) (ρ : Env) : Option Env := (own ρ i).bind fun xs => match v with
  | .list ys => if okLen (xs.length + ys.length) then some (ρ.set i (some (.ol (xs ++ ys)))) else none
  | _ => none
def setdefQ (i : Nat) (k v : D) (ρ : Env) : Option Env := (ownD ρ i).bind fun kvs => if isKey k && okLen kvs.length then
  (match lookD kvs k with | some _ => some ρ | none => some (ρ.set i (some (.od (putD kvs k v))))) else none

/-- clauses: of a class, with a slot; the one returns (), the other goes on -/
def hdl (c : Ex) (ρ : Env) : List (Ex × Nat × Bool) → Fl
  | [] => .exc c ρ
  | (c', i, b) :: hs => if c = c' then (if b then .ret (.tuple []) (ρ.set i none) else .next (ρ.set i none)) else hdl c ρ hs
/-- lists, dicts -/
def isLD : D → Bool
  | .list _ => true
  | .dict _ => true
  | _ => false
def evPs (cs : CS) : List Bool → List E → Env → R (List D)
  | [], [], ρ => .ok [] ρ
  | o :: os, e :: es, ρ => (evE cs e ρ).bind fun d ρ => if o && !isLD d then .err else (evPs cs os es ρ).bind fun ds ρ => .ok (d :: ds) ρ
  | _, _, _ => .err
def augD : BOp → D → D → Option D
  | .add, .int a, .int b => some (.int (a + b))
  | .sub, .int a, .int b => some (.int (a - b))
  | _, _, _ => none
mutual
def exS (cs : CS) : S → Env → Fl
  | .setv tg e, ρ => (evE cs e ρ).fl fun d ρ => Fl.opt (tg.bind d ρ)
  | .seto i e, ρ => (evE cs e ρ).fl fun d ρ => Fl.opt (wrO ρ i d)
  | .par is es, ρ => (evPs cs (is.map (·.2)) es ρ).fl fun ds ρ => Fl.opt (wrs is ds ρ)
  | .setx i k e, ρ => (evE cs e ρ).fl fun d ρ => (R.opt (rdO ρ i) ρ).fl fun _ ρ => (evE cs k ρ).fl fun k ρ => Fl.opt (setQ i k d ρ)
  | .augx i k op e, ρ => (R.opt (rdO ρ i) ρ).fl fun _ ρ => (evE cs k ρ).fl fun k ρ => (R.opt ((rdO ρ i).bind fun x => idxD x k) ρ).fl fun old ρ => (evE cs e ρ).fl fun d ρ =>
      (R.opt (augD op old d) ρ).fl fun z ρ => Fl.opt (setQ i k z ρ)
  | .aug i op e, ρ => (R.opt (rd ρ i) ρ).fl fun old ρ => (evE cs e ρ).fl fun d ρ => (R.opt (augD op old d) ρ).fl fun z ρ => Fl.opt (wr ρ i z)
  | .app i e, ρ => (R.opt (own ρ i) ρ).fl fun _ ρ => (evE cs e ρ).fl fun d ρ => Fl.opt (appQ i d ρ)
  | .ext i e, ρ => (R.opt (own ρ i) ρ).fl fun _ ρ => (evE cs e ρ).fl fun d ρ => Fl.opt (extQ i d ρ)
  | .setdef i k e, ρ => (R.opt (ownD ρ i) ρ).fl fun _ ρ => (evE cs k ρ).fl fun k ρ => (evE cs e ρ).fl fun d ρ => Fl.opt (setdefQ i k d ρ)
  | .expr e, ρ => (evE cs e ρ).fl fun _ ρ => .next ρ
  | .ift c a b, ρ => (truR (evE cs c ρ)).fl fun t ρ => if t then exB cs a ρ else exB cs b ρ
  | .whl c body, ρ => whlL (fun ρ => truR (evE cs c ρ)) (fun ρ => exB cs body ρ) WF ρ
  | .fr tg it body, ρ => (evI cs it ρ).fl fun xs ρ => forL tg.bind (fun ρ => exB cs body ρ) xs ρ
  | .brk, ρ => .brk ρ
  | .cont, ρ => .cont ρ
  | .ret e, ρ => (evE cs e ρ).fl fun d ρ => .ret d ρ
  | .raise c, ρ => .exc c ρ
  | .tr body hs, ρ => match exB cs body ρ with
    | .exc c ρ' => hdl c ρ' hs
    | x => x
  | .kl vs, ρ => .next (kill ρ vs)
  | .fz vs, ρ => .next (vs.foldl frz ρ)
def exB (cs : CS) : List S → Env → Fl
  | [], ρ => .next ρ
  | s :: ss, ρ => (exS cs s ρ).bind fun ρ => exB cs ss ρ
end

structure FD where
  np : Nat
  io : Bool
  ns : Nat
  body : List S

def outS (d : D) (ρ : Env) : CR := match own ρ 0 with | some st => .ok d st | none => .err
def runF (cs : CS) (fd : FD) (st : List D) (ds : List D) : CR :=
  if fd.io then
    if ds.length + 1 = fd.np then
      match exB cs fd.body (some (.ol st) :: ds.map (fun d => some (.d d)) ++ List.replicate (fd.ns - fd.np) none) with
      | .ret d ρ => outS d ρ
      | .next ρ => outS .none ρ
      | _ => .err
    else .err
  else
    if ds.length = fd.np then
      match exB cs fd.body (ds.map (fun d => some (.d d)) ++ List.replicate (fd.ns - fd.np) none) with
      | .ret d _ => .ok d []
      | .next _ => .ok .none []
      | .exc c _ => .exc c
      | _ => .err
    else .err

/-- the program: its defs by number -/
abbrev Prog := Nat → Option FD
def callN (P : Prog) : Nat → CS
  | 0 => fun _ _ _ => .err
  | n + 1 => fun f st ds => match P f with
    | some fd => runF (callN P n) fd st ds
    | none => .err
end G

set_option Elab.async false
set_option linter.all false
set_option maxRecDepth 100000
set_option autoImplicit false
/-! G2: values and heaps against data; slots against an environment. -/
namespace G
open PySem PySem.Spec PyProof.Rows L2

abbrev NG := Addr → Prop
/-- the fixed things: program, world, written part -/
structure Sx where
  P : Program
  w : World
  K : PySem.W.Frag

def dph (a : Addr) (es : Array DictEntry) (ep : Nat) : Heap → Prop := fun h => h.DictRaw a es ep ∧ (a == sysModules) = false
def KTup (K : PySem.W.Frag) (a : Addr) (vs : List V) : Prop :=
  ∃ (o : Obj) (its : Array Value) (n : Nat), K.lookup a = some o ∧ o.cls = .type "tuple" ∧ o.data = .seq its n ∧ its.size ≤ sizeLine ∧ Vals vs its.toList

mutual
inductive Rep (c : Sx) (N : NG) (H : Hp) : V → D → Prop
  | non : Rep c N H .non .none
  | bl (b : Bool) : Rep c N H (.bl b) (.bool b)
  | int (i : Int) : Rep c N H (.int i) (.int i)
  | str (x : Str) : Rep c N H (.str x) (.str x)
  | lst {a : Addr} {vs : List V} {ds : List D} : H a = some (.lst vs) → ¬ N a → RepAll c N H vs ds → Rep c N H (.ref a) (.list ds)
  | tup {a : Addr} {vs : List V} {ds : List D} : Rd H a (.tup vs) → ¬ N a → RepAll c N H vs ds → Rep c N H (.ref a) (.tuple ds)
  | ktup {a : Addr} {vs : List V} {ds : List D} : KTup c.K a vs → RepAll c N H vs ds → Rep c N H (.ref a) (.tuple ds)
  | dic {a : Addr} {es : Array DictEntry} {ep : Nat} {xs : List (NestedKey × Addr × Value)} {kvs : List (D × D)} : H a = some (.ext (dph a es ep)) → ¬ N a →
      es.toList = xs.map (entryOfKey (nestedKind c.P c.w)) → (xs.map (·.1)).Nodup → RepK c N H xs kvs → Rep c N H (.ref a) (.dict kvs)
inductive RepAll (c : Sx) (N : NG) (H : Hp) : List V → List D → Prop
  | nil : RepAll c N H [] []
  | cons {v : V} {vs : List V} {d : D} {ds : List D} : Rep c N H v d → RepAll c N H vs ds → RepAll c N H (v :: vs) (d :: ds)
inductive RepK (c : Sx) (N : NG) (H : Hp) : List (NestedKey × Addr × Value) → List (D × D) → Prop
  | nil : RepK c N H [] []
  | cons {x : NestedKey × Addr × Value} {xs : List (NestedKey × Addr × Value)} {v : V} {d : D} {kvs : List (D × D)} : isKey (NestedKey.data x.1) = true →
      Rep c N H (.ref x.2.1) (NestedKey.data x.1) → RelV v x.2.2 → Rep c N H v d → RepK c N H xs kvs → RepK c N H (x :: xs) ((NestedKey.data x.1, d) :: kvs)
end

section
variable {c : Sx} {N N' : NG} {H H' : Hp}
theorem rd_some {H : Hp} {a : Addr} {u : HO} (h : Rd H a u) : ∃ o, H a = some o := by
  rcases h with h | ⟨o, h⟩
  · exact ⟨_, h⟩
  · exact ⟨_, h⟩
/-- only what N names is written -/
def Keep (N : NG) (H H' : Hp) : Prop := ∀ a o, H a = some o → ¬ N a → H' a = some o
theorem Keep.rd {a : Addr} {u : HO} (k : Keep N H H') (h : Rd H a u) (n : ¬ N a) : Rd H' a u := by
  rcases h with h | ⟨o, h⟩
  · exact .inl (k _ _ h n)
  · exact .inr ⟨o, k _ _ h n⟩
mutual
theorem Rep.mono (k : Keep N H H') (n : ∀ a, N' a → N a ∨ H a = none) : ∀ {v : V} {d : D}, Rep c N H v d → Rep c N' H' v d
  | _, _, .non => .non
  | _, _, .bl b => .bl b
  | _, _, .int i => .int i
  | _, _, .str x => .str x
  | _, _, .lst h1 h2 h3 => .lst (k _ _ h1 h2) (fun q => by
      rcases n _ q with z | z
      · exact h2 z
      · rw [z] at h1; cases h1) (RepAll.mono k n h3)
  | _, _, .tup h1 h2 h3 => .tup (k.rd h1 h2) (fun q => by
      obtain ⟨o, e⟩ := rd_some h1
      rcases n _ q with z | z
      · exact h2 z
      · rw [z] at e; cases e) (RepAll.mono k n h3)
  | _, _, .ktup h1 h3 => .ktup h1 (RepAll.mono k n h3)
  | _, _, .dic h1 h2 h3 h4 h5 => .dic (k _ _ h1 h2) (fun q => by
      rcases n _ q with z | z
      · exact h2 z
      · rw [z] at h1; cases h1) h3 h4 (RepK.mono k n h5)
theorem RepAll.mono (k : Keep N H H') (n : ∀ a, N' a → N a ∨ H a = none) : ∀ {vs : List V} {ds : List D}, RepAll c N H vs ds → RepAll c N' H' vs ds
  | _, _, .nil => .nil
  | _, _, .cons h1 h2 => .cons (Rep.mono k n h1) (RepAll.mono k n h2)
theorem RepK.mono (k : Keep N H H') (n : ∀ a, N' a → N a ∨ H a = none) : ∀ {xs : List (NestedKey × Addr × Value)} {kvs : List (D × D)}, RepK c N H xs kvs → RepK c N' H' xs kvs
  | _, _, .nil => .nil
  | _, _, .cons h1 h2 h3 h4 h5 => .cons h1 (Rep.mono k n h2) h3 (Rep.mono k n h4) (RepK.mono k n h5)
end
/-- nothing is changed -/
def Grow (H H' : Hp) : Prop := ∀ a o, H a = some o → H' a = some o
theorem Grow.refl : Grow H H := fun _ _ h => h
theorem Grow.trans {H'' : Hp} (a : Grow H H') (b : Grow H' H'') : Grow H H'' := fun p o h => b p o (a p o h)
theorem Grow.keep (g : Grow H H') : Keep N H H' := fun a o h _ => g a o h
theorem Grow.upd {a : Addr} {o : HO} (h : H a = none) : Grow H (upd H a o) := fun b u e => by
  rw [upd_ne (ne_of_none e h)]
  exact e
theorem Rep.grow (g : Grow H H') {v : V} {d : D} (r : Rep c N H v d) : Rep c N H' v d := r.mono g.keep fun _ h => .inl h
theorem RepAll.grow (g : Grow H H') {v : List V} {d : List D} (r : RepAll c N H v d) : RepAll c N H' v d := r.mono g.keep fun _ h => .inl h
theorem RepK.grow (g : Grow H H') {v : List (NestedKey × Addr × Value)} {d : List (D × D)} (r : RepK c N H v d) : RepK c N H' v d := r.mono g.keep fun _ h => .inl h
theorem Keep.refl : Keep N H H := fun _ _ h _ => h
theorem RepAll.length : ∀ {vs : List V} {ds : List D}, RepAll c N H vs ds → vs.length = ds.length
  | _, _, .nil => rfl
  | _, _, .cons _ h => by rw [List.length_cons, List.length_cons, RepAll.length h]
theorem RepAll.get : ∀ {vs : List V} {ds : List D} {i : Nat} {d : D}, RepAll c N H vs ds → ds[i]? = some d → ∃ v, vs[i]? = some v ∧ Rep c N H v d
  | _, _, _, _, .nil, e => by simp at e
  | _, _, 0, _, .cons h _, e => by simp at e; subst e; exact ⟨_, rfl, h⟩
  | _, _, i + 1, d, .cons _ h, e => by
    obtain ⟨v, h1, h2⟩ := RepAll.get (i := i) (d := d) h (by simpa using e)
    exact ⟨v, by simpa using h1, h2⟩
theorem RepAll.getV : ∀ {vs : List V} {ds : List D} {i : Nat} {v : V}, RepAll c N H vs ds → vs[i]? = some v → ∃ d, ds[i]? = some d ∧ Rep c N H v d
  | _, _, _, _, .nil, e => by simp at e
  | _, _, 0, _, .cons h _, e => by simp at e; subst e; exact ⟨_, rfl, h⟩
  | _, _, i + 1, d, .cons _ h, e => by
    obtain ⟨v, h1, h2⟩ := RepAll.getV (i := i) (v := d) h (by simpa using e)
    exact ⟨v, by simpa using h1, h2⟩
theorem RepAll.append : ∀ {vs us : List V} {ds es : List D}, RepAll c N H vs ds → RepAll c N H us es → RepAll c N H (vs ++ us) (ds ++ es)
  | _, _, _, _, .nil, h => h
  | _, _, _, _, .cons h1 h2, h => .cons h1 (RepAll.append h2 h)
theorem RepAll.take : ∀ {vs : List V} {ds : List D} (n : Nat), RepAll c N H vs ds → RepAll c N H (vs.take n) (ds.take n)
  | _, _, 0, _ => .nil
  | _, _, _ + 1, .nil => .nil
  | _, _, n + 1, .cons r t => .cons r (RepAll.take n t)
theorem RepAll.drop : ∀ {vs : List V} {ds : List D} (n : Nat), RepAll c N H vs ds → RepAll c N H (vs.drop n) (ds.drop n)
  | _, _, 0, r => r
  | _, _, _ + 1, .nil => .nil
  | _, _, n + 1, .cons _ t => RepAll.drop n t
theorem RepAll.reverse {vs : List V} {ds : List D} (h : RepAll c N H vs ds) : RepAll c N H vs.reverse ds.reverse := by
  induction vs generalizing ds with
  | nil => cases h; exact .nil
  | cons v vs ih =>
    cases h with
    | cons h1 h2 =>
      rw [List.reverse_cons, List.reverse_cons]
      exact (ih h2).append (.cons h1 .nil)
theorem RepAll.set {v : V} {d : D} (r : Rep c N H v d) : ∀ {vs : List V} {ds : List D} (i : Nat), RepAll c N H vs ds → RepAll c N H (vs.set i v) (ds.set i d)
  | _, _, _, .nil => .nil
  | _, _, 0, .cons _ t => .cons r t
  | _, _, i + 1, .cons q t => .cons q (RepAll.set r i t)
theorem RepAll.erase : ∀ {vs : List V} {ds : List D} (i : Nat), RepAll c N H vs ds → RepAll c N H (vs.eraseIdx i) (ds.eraseIdx i)
  | _, _, _, .nil => .nil
  | _, _, 0, .cons _ t => t
  | _, _, i + 1, .cons q t => .cons q (RepAll.erase i t)
theorem RepAll.single {v : V} {d : D} (r : Rep c N H v d) : RepAll c N H [v] [d] := .cons r .nil
theorem RepAll.rep {v : V} {d : D} (r : Rep c N H v d) : ∀ n : Nat, RepAll c N H (List.replicate n v) (List.replicate n d)
  | 0 => .nil
  | n + 1 => by rw [List.replicate_succ, List.replicate_succ]; exact .cons r (RepAll.rep r n)

/-- an operand: its root may be owned -/
inductive RepB (c : Sx) (N : NG) (H : Hp) : V → D → Prop
  | of {v : V} {d : D} : Rep c N H v d → RepB c N H v d
  | lst {a : Addr} {vs : List V} {ds : List D} : H a = some (.lst vs) → RepAll c N H vs ds → RepB c N H (.ref a) (.list ds)
  | dic {a : Addr} {es : Array DictEntry} {ep : Nat} {xs : List (NestedKey × Addr × Value)} {kvs : List (D × D)} : H a = some (.ext (dph a es ep)) →
      es.toList = xs.map (entryOfKey (nestedKind c.P c.w)) → (xs.map (·.1)).Nodup → RepK c N H xs kvs → RepB c N H (.ref a) (.dict kvs)

theorem KTup.sq {K : PySem.W.Frag} {a : Addr} {vs : List V} (h : KTup K a vs) : SqT K H a vs := .inr h
/-- what a list, a tuple, a dict is -/
theorem RepB.list {v : V} {ds : List D} (h : RepB c N H v (.list ds)) : ∃ a vs, v = .ref a ∧ H a = some (.lst vs) ∧ RepAll c N H vs ds := by
  cases h with
  | of h => cases h with | lst h1 h2 h3 => exact ⟨_, _, rfl, h1, h3⟩
  | lst h1 h3 => exact ⟨_, _, rfl, h1, h3⟩
theorem RepB.tuple {v : V} {ds : List D} (h : RepB c N H v (.tuple ds)) : ∃ a vs, v = .ref a ∧ SqT c.K H a vs ∧ RepAll c N H vs ds := by
  cases h with
  | of h => cases h with
    | tup h1 h2 h3 => exact ⟨_, _, rfl, .inl h1, h3⟩
    | ktup h1 h3 => exact ⟨_, _, rfl, .inr h1, h3⟩
theorem RepB.dict {v : V} {kvs : List (D × D)} (h : RepB c N H v (.dict kvs)) : ∃ a es ep xs, v = .ref a ∧ H a = some (.ext (dph a es ep)) ∧ es.toList = xs.map (entryOfKey (nestedKind c.P c.w)) ∧ (xs.map (·.1)).Nodup ∧ RepK c N H xs kvs := by
  cases h with
  | of h => cases h with | dic h1 h2 h3 h4 h5 => exact ⟨_, _, _, _, rfl, h1, h3, h4, h5⟩
  | dic h1 h3 h4 h5 => exact ⟨_, _, _, _, rfl, h1, h3, h4, h5⟩
theorem RepB.int {v : V} {i : Int} (h : RepB c N H v (.int i)) : v = .int i := by
  cases h with | of h => cases h; rfl
theorem RepB.str {v : V} {i : Str} (h : RepB c N H v (.str i)) : v = .str i := by
  cases h with | of h => cases h; rfl
theorem RepB.bool {v : V} {i : Bool} (h : RepB c N H v (.bool i)) : v = .bl i := by
  cases h with | of h => cases h; rfl
theorem RepB.none {v : V} (h : RepB c N H v .none) : v = .non := by
  cases h with | of h => cases h; rfl
theorem RepB.grow (g : Grow H H') {v : V} {d : D} (r : RepB c N H v d) : RepB c N H' v d := by
  cases r with
  | of h => exact .of (h.grow g)
  | lst h1 h2 => exact .lst (g _ _ h1) (h2.grow g)
  | dic h1 h2 h3 h4 => exact .dic (g _ _ h1) h2 h3 (h4.grow g)

/-! ### data that == and repr read -/
mutual
theorem Rep.dp : ∀ {v : V} {d : D}, d.canLay0 = true → Rep c N H v d → Dp c.K H v d
  | _, _, _, .non => .non
  | _, _, _, .bl b => .bl b
  | _, _, _, .int i => .int i
  | _, _, _, .str x => .str x
  | _, _, q, .lst h1 _ h3 => .lst (.inl (.inl h1)) (RepAll.dp (by simpa [PyData.canLay0] using q) h3)
  | _, _, q, .tup h1 _ h3 => .tup (.inl h1) (RepAll.dp (by simpa [PyData.canLay0] using q) h3)
  | _, _, q, .ktup h1 h3 => .tup (.inr h1) (RepAll.dp (by simpa [PyData.canLay0] using q) h3)
  | _, _, q, .dic _ _ _ _ _ => by simp [PyData.canLay0] at q
theorem RepAll.dp : ∀ {vs : List V} {ds : List D}, PyData.canLayAll0 ds = true → RepAll c N H vs ds → DpAll c.K H vs ds
  | _, _, _, .nil => .nil
  | _, _, q, .cons h1 h2 => by
    rw [PyData.canLayAll0, Bool.and_eq_true] at q
    exact .cons (Rep.dp q.1 h1) (RepAll.dp q.2 h2)
end
theorem RepB.dp {v : V} {d : D} (q : d.canLay0 = true) (h : RepB c N H v d) : Dp c.K H v d := by
  cases h with
  | of h => exact h.dp q
  | lst h1 h2 => exact .lst (.inl (.inl h1)) (h2.dp (by simpa [PyData.canLay0] using q))
  | dic h1 h2 h3 h4 => simp [PyData.canLay0] at q

mutual
/-- without dicts: repr reads it -/
theorem Rep.dpN : ∀ {v : V} {d : D}, d.hasDict = false → Rep c N H v d → Dp c.K H v d
  | _, _, _, .non => .non
  | _, _, _, .bl b => .bl b
  | _, _, _, .int i => .int i
  | _, _, _, .str x => .str x
  | _, _, q, .lst h1 _ h3 => .lst (.inl (.inl h1)) (RepAll.dpN (by simpa [PyData.hasDict] using q) h3)
  | _, _, q, .tup h1 _ h3 => .tup (.inl h1) (RepAll.dpN (by simpa [PyData.hasDict] using q) h3)
  | _, _, q, .ktup h1 h3 => .tup (.inr h1) (RepAll.dpN (by simpa [PyData.hasDict] using q) h3)
  | _, _, q, .dic _ _ _ _ _ => by simp [PyData.hasDict] at q
theorem RepAll.dpN : ∀ {vs : List V} {ds : List D}, PyData.hasDictAll ds = false → RepAll c N H vs ds → DpAll c.K H vs ds
  | _, _, _, .nil => .nil
  | _, _, q, .cons h1 h2 => by
    rw [PyData.hasDictAll, Bool.or_eq_false_iff] at q
    exact .cons (Rep.dpN q.1 h1) (RepAll.dpN q.2 h2)
end
theorem RepB.dpN {v : V} {d : D} (q : d.hasDict = false) (h : RepB c N H v d) : Dp c.K H v d := by
  cases h with
  | of h => exact h.dpN q
  | lst h1 h2 => exact .lst (.inl (.inl h1)) (h2.dpN (by simpa [PyData.hasDict] using q))
  | dic h1 h2 h3 h4 => simp [PyData.hasDict] at q
end

/-! ### slots -/
def isOwn : Option (Option AV) → Prop
  | some (some (.ol _)) => True
  | some (some (.od _)) => True
  | _ => False
def OwnI (ρ : Env) (σ : L2.St) (i : Nat) (a : Addr) : Prop := isOwn ρ[i]? ∧ σ[i]? = some (some (.ref a))
def OwnA (ρ : Env) (σ : L2.St) : NG := fun a => ∃ i, OwnI ρ σ i a
def No (B : NG) (ρ : Env) (σ : L2.St) : NG := fun a => B a ∨ OwnA ρ σ a
/-- what an owned slot holds at a -/
def OwnOk (c : Sx) (N : NG) (H : Hp) (a : Addr) : AV → Prop
  | .d _ => False
  | .sc _ => False
  | .ol xs => ∃ vs, H a = some (.lst vs) ∧ RepAll c N H vs xs
  | .od kvs => ∃ es ep xs, H a = some (.ext (dph a es ep)) ∧ es.toList = xs.map (entryOfKey (nestedKind c.P c.w)) ∧ (xs.map (·.1)).Nodup ∧ RepK c N H xs kvs
def SlotOk (c : Sx) (N : NG) (H : Hp) (sv : Option (Option V)) : AV → Prop
  | .d x => ∃ v, sv = some (some v) ∧ Rep c N H v x
  | .sc ns => ∃ a, sv = some (some (.ref a)) ∧ (((∃ o, H a = some (.frz o (.lst (ns.map V.int)))) ∧ ¬ N a) ∨ SqL c.K (fun _ => none) a (ns.map V.int))
  | .ol xs => ∃ a, sv = some (some (.ref a)) ∧ OwnOk c N H a (.ol xs)
  | .od xs => ∃ a, sv = some (some (.ref a)) ∧ OwnOk c N H a (.od xs)

/-- slots that keep their own object; slots that may own one -/
structure Ks where
  fx : List Nat
  ow : List Nat
abbrev Io := List (Nat × Addr)
structure Rel (c : Sx) (ks : Ks) (io : Io) (B : NG) (ρ : Env) (σ : L2.St) (H : Hp) : Prop where
  len : ρ.length = σ.length
  slot : ∀ (i : Nat) (x : AV), ρ[i]? = some (some x) → SlotOk c (No B ρ σ) H σ[i]? x
  dist : ∀ (i j : Nat) (a : Addr), OwnI ρ σ i a → OwnI ρ σ j a → i = j
  apart : ∀ a, OwnA ρ σ a → ¬ B a
  btr : ∀ a, B a → ∃ o, H a = some o
  io : ∀ p ∈ io, p.1 ∈ ks.fx ∧ OwnI ρ σ p.1 p.2
  ow : ∀ i : Nat, isOwn ρ[i]? → i ∈ ks.ow

section
variable {c : Sx} {ks : Ks} {io : Io} {B B' : NG} {ρ ρ' : Env} {σ σ' : L2.St} {H H' : Hp}
theorem OwnOk.tr {N : NG} {a : Addr} {x : AV} (h : OwnOk c N H a x) : ∃ o, H a = some o := by
  cases x with
  | d _ => exact h.elim
  | sc _ => exact h.elim
  | ol xs => obtain ⟨vs, h, _⟩ := h; exact ⟨_, h⟩
  | od xs => obtain ⟨es, ep, ys, h, _⟩ := h; exact ⟨_, h⟩
theorem Rel.ownOk (r : Rel c ks io B ρ σ H) {i : Nat} {a : Addr} (h : OwnI ρ σ i a) : ∃ x, ρ[i]? = some (some x) ∧ OwnOk c (No B ρ σ) H a x := by
  obtain ⟨h1, h2⟩ := h
  cases e : ρ[i]? with
  | none => rw [e] at h1; exact h1.elim
  | some o =>
    cases o with
    | none => rw [e] at h1; exact h1.elim
    | some x =>
      have s := r.slot i x e
      cases x with
      | d y => rw [e] at h1; exact h1.elim
      | sc y => rw [e] at h1; exact h1.elim
      | ol xs =>
        obtain ⟨a', e1, s⟩ := s
        rw [h2] at e1
        cases e1
        exact ⟨_, rfl, s⟩
      | od xs =>
        obtain ⟨a', e1, s⟩ := s
        rw [h2] at e1
        cases e1
        exact ⟨_, rfl, s⟩
theorem Rel.ownTr (r : Rel c ks io B ρ σ H) {a : Addr} (h : OwnA ρ σ a) : ∃ o, H a = some o := by
  obtain ⟨i, h⟩ := h
  obtain ⟨x, _, s⟩ := r.ownOk h
  exact s.tr
theorem Rel.noTr (r : Rel c ks io B ρ σ H) {a : Addr} (h : No B ρ σ a) : ∃ o, H a = some o := by
  rcases h with h | h
  · exact r.btr a h
  · exact r.ownTr h
theorem Rel.noNew (r : Rel c ks io B ρ σ H) {a : Addr} (h : H a = none) : ¬ No B ρ σ a := fun q => by
  obtain ⟨o, e⟩ := r.noTr q
  rw [h] at e; cases e
theorem OwnOk.mono {N N' : NG} {a : Addr} {x : AV} (h : OwnOk c N H a x) (ha : ∀ o, H a = some o → H' a = some o) (k : Keep N H H') (n : ∀ a, N' a → N a ∨ H a = none) : OwnOk c N' H' a x := by
  cases x with
  | d _ => exact h
  | sc _ => exact h
  | ol xs => obtain ⟨vs, h1, h2⟩ := h; exact ⟨vs, ha _ h1, h2.mono k n⟩
  | od xs => obtain ⟨es, ep, ys, h1, h2, h3, h4⟩ := h; exact ⟨es, ep, ys, ha _ h1, h2, h3, h4.mono k n⟩
theorem SlotOk.mono {N N' : NG} {sv : Option (Option V)} {x : AV} (h : SlotOk c N H sv x) (ha : ∀ a o, sv = some (some (.ref a)) → isOwn (some (some x)) → H a = some o → H' a = some o) (k : Keep N H H') (n : ∀ a, N' a → N a ∨ H a = none) : SlotOk c N' H' sv x := by
  cases x with
  | d y => obtain ⟨v, e, r⟩ := h; exact ⟨v, e, r.mono k n⟩
  | sc y =>
    obtain ⟨a, e, s⟩ := h
    refine ⟨a, e, s.elim (fun ⟨⟨o, h1⟩, h2⟩ => .inl ⟨⟨o, k _ _ h1 h2⟩, fun q => ?_⟩) .inr⟩
    rcases n _ q with z | z
    · exact h2 z
    · rw [z] at h1; cases h1
  | ol xs => obtain ⟨a, e, s⟩ := h; exact ⟨a, e, s.mono (fun o q => ha a o e trivial q) k n⟩
  | od xs => obtain ⟨a, e, s⟩ := h; exact ⟨a, e, s.mono (fun o q => ha a o e trivial q) k n⟩
/-- the heap grows -/
theorem Rel.grow (r : Rel c ks io B ρ σ H) (g : Grow H H') : Rel c ks io B ρ σ H' :=
  ⟨r.len, fun i x e => (r.slot i x e).mono (fun a o _ _ q => g a o q) g.keep fun _ q => .inl q, r.dist, r.apart, fun a h => let ⟨o, e⟩ := r.btr a h; ⟨o, g a o e⟩, r.io, r.ow⟩
/-- the barrier made smaller -/
theorem Rel.less (r : Rel c ks io B ρ σ H) (h : ∀ a, B' a → B a) : Rel c ks io B' ρ σ H :=
  ⟨r.len, fun i x e => (r.slot i x e).mono (fun _ _ _ _ q => q) .refl (fun a q => .inl (q.elim (fun z => .inl (h a z)) .inr)), r.dist, fun a q z => r.apart a q (h a z), fun a q => r.btr a (h a q), r.io, r.ow⟩
/-- .. greater, by what no slot reaches (a new object) -/
theorem Rel.more (r : Rel c ks io B ρ σ H) {p : Addr} (hp : H p = none) (g : Grow H H') (hq : ∃ o, H' p = some o) : Rel c ks io (fun a => B a ∨ a = p) ρ σ H' := by
  refine ⟨r.len, fun i x e => (r.slot i x e).mono (fun a o _ _ q => g a o q) g.keep fun a q => ?_, r.dist, fun a h z => ?_, fun a z => ?_, r.io, r.ow⟩
  · rcases q with (q | q) | q
    · exact .inl (.inl q)
    · subst q; exact .inr hp
    · exact .inl (.inr q)
  · rcases z with z | z
    · exact r.apart a h z
    · subst z
      obtain ⟨o, e⟩ := r.ownTr h
      rw [hp] at e; cases e
  · rcases z with z | z
    · obtain ⟨o, e⟩ := r.btr a z
      exact ⟨o, g a o e⟩
    · subst z; exact hq

/-- a step: the same slots, owned contents may change -/
structure Stp (ρ : Env) (σ : L2.St) (H : Hp) (ρ' : Env) (H' : Hp) : Prop where
  keep : Keep (OwnA ρ σ) H H'
  own : ∀ i : Nat, isOwn ρ'[i]? → isOwn ρ[i]?
  tr : ∀ a o, H a = some o → ∃ o', H' a = some o'
theorem Stp.refl : Stp ρ σ H ρ H := ⟨.refl, fun _ h => h, fun a o h => ⟨o, h⟩⟩
theorem Stp.grow (g : Grow H H') : Stp ρ σ H ρ H' := ⟨g.keep, fun _ h => h, fun a o h => ⟨o, g a o h⟩⟩
theorem Stp.ownA {ρ' : Env} (s : Stp ρ σ H ρ' H') {a : Addr} (h : OwnA ρ' σ a) : OwnA ρ σ a := let ⟨i, h1, h2⟩ := h; ⟨i, s.own i h1, h2⟩
theorem Stp.trans {ρ1 ρ2 : Env} {H1 H2 : Hp} (a : Stp ρ σ H ρ1 H1) (b : Stp ρ1 σ H1 ρ2 H2) : Stp ρ σ H ρ2 H2 :=
  ⟨fun p o h n => b.keep p o (a.keep p o h n) (fun q => n (a.ownA q)), fun i h => a.own i (b.own i h), fun p o h => let ⟨o1, h1⟩ := a.tr p o h; b.tr p o1 h1⟩
theorem Stp.rep {ρ1 : Env} {H1 : Hp} (s : Stp ρ σ H ρ1 H1) {v : V} {d : D} (r : Rep c (No B ρ σ) H v d) : Rep c (No B ρ1 σ) H1 v d :=
  r.mono (fun a o h n => s.keep a o h fun q => n (.inr q)) fun a q => .inl (q.elim .inl fun z => .inr (s.ownA z))
theorem Stp.reps {ρ1 : Env} {H1 : Hp} (s : Stp ρ σ H ρ1 H1) {v : List V} {d : List D} (r : RepAll c (No B ρ σ) H v d) : RepAll c (No B ρ1 σ) H1 v d :=
  r.mono (fun a o h n => s.keep a o h fun q => n (.inr q)) fun a q => .inl (q.elim .inl fun z => .inr (s.ownA z))
theorem Stp.new {ρ1 : Env} {H1 : Hp} (s : Stp ρ σ H ρ1 H1) {p : Addr} (h : H1 p = none) : H p = none := by
  cases e : H p with
  | none => rfl
  | some o =>
    obtain ⟨o', e'⟩ := s.tr p o e
    rw [h] at e'; cases e'
end

/-! ### readings -/
abbrev WXs := Ex → L2.St → Hp → Prop
section
variable (c : Sx) (ks : Ks) (wx : WXs)
/-- what an evaluation's end is worth, with a word F for its value -/
def PostG {α β : Type} (io : Io) (B : NG) (σ : L2.St) (ρ : Env) (H : Hp) (F : Env → Hp → α → β → Prop) (r : R β) (Q : α → Hp → Prop) : Prop :=
  match r with
  | .ok d ρ' => ∀ v H', Rel c ks io B ρ' σ H' → Stp ρ σ H ρ' H' → F ρ' H' v d → Q v H'
  | .exc e ρ' => ∀ H', Rel c ks io B ρ' σ H' → Stp ρ σ H ρ' H' → wx e σ H'
  | .err => False
def FE (B : NG) (σ : L2.St) : Env → Hp → V → D → Prop := fun ρ' H' v d => Rep c (No B ρ' σ) H' v d
def FL (B : NG) (σ : L2.St) : Env → Hp → List V → List D → Prop := fun ρ' H' v d => RepAll c (No B ρ' σ) H' v d
/-- an operand: also what an owned slot holds -/
def RepO (B : NG) (σ : L2.St) (ρ : Env) (H : Hp) (v : V) (d : D) : Prop :=
  Rep c (No B ρ σ) H v d ∨ ∃ i a, OwnI ρ σ i a ∧ v = .ref a ∧ rdB ρ i = some d
def FO (B : NG) (σ : L2.St) : Env → Hp → V → D → Prop := fun ρ' H' v d => RepO c B σ ρ' H' v d
inductive RepsO (B : NG) (σ : L2.St) (ρ : Env) (H : Hp) : List V → List D → Prop
  | nil : RepsO B σ ρ H [] []
  | cons {v : V} {vs : List V} {d : D} {ds : List D} : RepO c B σ ρ H v d → RepsO B σ ρ H vs ds → RepsO B σ ρ H (v :: vs) (d :: ds)
def FB : Env → Hp → Bool → Bool → Prop := fun _ _ b d => b = d
def tE (ev : Env → R D) : TE := fun σ H Q => ∃ io B ρ, Rel c ks io B ρ σ H ∧ PostG c ks wx io B σ ρ H (FE c B σ) (ev ρ) Q
def tO (ev : Env → R D) : TE := fun σ H Q => ∃ io B ρ, Rel c ks io B ρ σ H ∧ PostG c ks wx io B σ ρ H (FO c B σ) (ev ρ) Q
def tL (ev : Env → R (List D)) : TA := fun σ H Q => ∃ io B ρ, Rel c ks io B ρ σ H ∧ PostG c ks wx io B σ ρ H (FL c B σ) (ev ρ) Q
def tLO (ev : Env → R (List D)) : TA := fun σ H Q => ∃ io B ρ, Rel c ks io B ρ σ H ∧ PostG c ks wx io B σ ρ H (RepsO c B σ) (ev ρ) Q
def tT (ev : Env → R Bool) : TT := fun σ H Q => ∃ io B ρ, Rel c ks io B ρ σ H ∧ PostG c ks wx io B σ ρ H FB (ev ρ) Q
/-- a new list or dict -/
def PostF (io : Io) (B : NG) (σ : L2.St) (ρ : Env) (H : Hp) (r : R D) (Q : VK) : Prop :=
  match r with
  | .ok (.list ds) ρ' => ∀ p H', H p = none → Rel c ks io (fun a => B a ∨ a = p) ρ' σ H' → Stp ρ σ H ρ' H' → OwnOk c (No (fun a => B a ∨ a = p) ρ' σ) H' p (.ol ds) → Q (.ref p) H'
  | .ok (.dict ds) ρ' => ∀ p H', H p = none → Rel c ks io (fun a => B a ∨ a = p) ρ' σ H' → Stp ρ σ H ρ' H' → OwnOk c (No (fun a => B a ∨ a = p) ρ' σ) H' p (.od ds) → Q (.ref p) H'
  | .ok _ _ => False
  | .exc e ρ' => ∀ H', Rel c ks io B ρ' σ H' → Stp ρ σ H ρ' H' → wx e σ H'
  | .err => False
def tF (ev : Env → R D) : TE := fun σ H Q => ∃ io B ρ, Rel c ks io B ρ σ H ∧ PostF c ks wx io B σ ρ H (ev ρ) Q
end

section
variable {c : Sx} {ks : Ks} {wx : WXs} {io : Io} {B : NG} {σ : L2.St} {ρ ρ1 : Env} {H H1 : Hp}
theorem PostG.step {α β : Type} {F : Env → Hp → α → β → Prop} {r : R β} {Q : α → Hp → Prop} (h : PostG c ks wx io B σ ρ H F r Q) (s : Stp ρ σ H ρ1 H1) : PostG c ks wx io B σ ρ1 H1 F r Q := by
  cases r with
  | ok d ρ' => exact fun v H' r1 s1 f => h v H' r1 (s.trans s1) f
  | exc e ρ' => exact fun H' r1 s1 => h H' r1 (s.trans s1)
  | err => exact h
/-- one after another -/
theorem PostG.bind {α β γ δ : Type} {F : Env → Hp → α → β → Prop} {G : Env → Hp → γ → δ → Prop} {x : R β} {k : β → Env → R δ} {Q : γ → Hp → Prop} (h : PostG c ks wx io B σ ρ H G (x.bind k) Q) :
    PostG c ks wx io B σ ρ H F x fun v H1 => ∃ d ρ1, x = .ok d ρ1 ∧ Rel c ks io B ρ1 σ H1 ∧ Stp ρ σ H ρ1 H1 ∧ F ρ1 H1 v d ∧ PostG c ks wx io B σ ρ1 H1 G (k d ρ1) Q := by
  cases x with
  | ok d ρ' => exact fun v H' r1 s1 f => ⟨d, ρ', rfl, r1, s1, f, h.step s1⟩
  | exc e ρ' => exact h
  | err => exact h
theorem PostG.imp {α β : Type} {F : Env → Hp → α → β → Prop} {r : R β} {Q Q' : α → Hp → Prop} (h : PostG c ks wx io B σ ρ H F r Q) (q : ∀ v H, Q v H → Q' v H) : PostG c ks wx io B σ ρ H F r Q' := by
  cases r with
  | ok d ρ' => exact fun v H' r1 s1 f => q _ _ (h v H' r1 s1 f)
  | exc e ρ' => exact h
  | err => exact h
/-- a stronger word for the value -/
theorem PostG.str {α β : Type} {F F' : Env → Hp → α → β → Prop} {r : R β} {Q : α → Hp → Prop} (h : PostG c ks wx io B σ ρ H F r Q) (q : ∀ ρ H v d, Rel c ks io B ρ σ H → F' ρ H v d → F ρ H v d) : PostG c ks wx io B σ ρ H F' r Q := by
  cases r with
  | ok d ρ' => exact fun v H' r1 s1 f => h v H' r1 s1 (q _ _ _ _ r1 f)
  | exc e ρ' => exact h
  | err => exact h
theorem PostG.done {α β : Type} {F : Env → Hp → α → β → Prop} {d : β} {Q : α → Hp → Prop} {v : α} (h : PostG c ks wx io B σ ρ H F (.ok d ρ) Q) (r : Rel c ks io B ρ σ H) (f : F ρ H v d) : Q v H := h v H r .refl f
theorem tO_tE {ev : Env → R D} {Q : VK} (h : tO c ks wx ev σ H Q) : tE c ks wx ev σ H Q := by
  obtain ⟨io, B, ρ, r, p⟩ := h
  exact ⟨io, B, ρ, r, p.str fun _ _ _ _ _ f => .inl f⟩
theorem tE_tF {ev : Env → R D} {Q : VK} (hl : ∀ ρ d ρ', ev ρ = .ok d ρ' → (∃ ds, d = .list ds) ∨ ∃ ds, d = .dict ds) (h : tE c ks wx ev σ H Q) : tF c ks wx ev σ H Q := by
  obtain ⟨io, B, ρ, r, p⟩ := h
  refine ⟨io, B, ρ, r, ?_⟩
  cases e : ev ρ with
  | err => rw [e] at p; exact p
  | exc x ρ' => rw [e] at p; exact p
  | ok d ρ' =>
    rw [e] at p
    have np : ∀ {q : Addr} {H' : Hp}, H q = none → Stp ρ σ H ρ' H' → ¬ No B ρ' σ q := fun {q H'} hq s z => by
      rcases z with z | z
      · obtain ⟨o, e⟩ := r.btr q z
        rw [hq] at e; cases e
      · obtain ⟨o, e⟩ := r.ownTr (s.ownA z)
        rw [hq] at e; cases e
    have less : ∀ {q : Addr} (a : Addr), No B ρ' σ a → No (fun a => B a ∨ a = q) ρ' σ a := fun {q} a z => z.elim (fun y => .inl (.inl y)) .inr
    rcases hl ρ d ρ' e with ⟨ds, rfl⟩ | ⟨ds, rfl⟩
    · intro q H' hq r1 s1 ⟨vs, h1, h2⟩
      exact p _ _ (r1.less fun a z => .inl z) s1 (.lst h1 (np hq s1) (h2.mono .refl fun a z => .inl (less a z)))
    · intro q H' hq r1 s1 ⟨es, ep, xs, h1, h2, h3, h4⟩
      exact p _ _ (r1.less fun a z => .inl z) s1 (.dic h1 (np hq s1) h2 h3 (h4.mono .refl fun a z => .inl (less a z)))
theorem PostF.step {r : R D} {Q : VK} (h : PostF c ks wx io B σ ρ H r Q) (s : Stp ρ σ H ρ1 H1) : PostF c ks wx io B σ ρ1 H1 r Q := by
  cases r with
  | ok d ρ' =>
    cases d with
    | list ds => exact fun p H' hp r1 s1 f => h p H' (s.new hp) r1 (s.trans s1) f
    | dict ds => exact fun p H' hp r1 s1 f => h p H' (s.new hp) r1 (s.trans s1) f
    | _ => exact h
  | exc e ρ' => exact fun H' r1 s1 => h H' r1 (s.trans s1)
  | err => exact h
theorem PostF.bind {α β : Type} {F : Env → Hp → α → β → Prop} {x : R β} {k : β → Env → R D} {Q : VK} (h : PostF c ks wx io B σ ρ H (x.bind k) Q) :
    PostG c ks wx io B σ ρ H F x fun v H1 => ∃ d ρ1, x = .ok d ρ1 ∧ Rel c ks io B ρ1 σ H1 ∧ Stp ρ σ H ρ1 H1 ∧ F ρ1 H1 v d ∧ PostF c ks wx io B σ ρ1 H1 (k d ρ1) Q := by
  cases x with
  | ok d ρ' => exact fun v H' r1 s1 f => ⟨d, ρ', rfl, r1, s1, f, h.step s1⟩
  | exc e ρ' => exact h
  | err => exact h
/-- operands as values -/
theorem RepO.b (r : Rel c ks io B ρ σ H) {v : V} {d : D} (h : RepO c B σ ρ H v d) : RepB c (No B ρ σ) H v d := by
  rcases h with h | ⟨i, a, h1, rfl, h3⟩
  · exact .of h
  · obtain ⟨x, e, s⟩ := r.ownOk h1
    unfold rdB at h3
    rw [e] at h3
    cases x with
    | d y => exact s.elim
    | sc y => exact s.elim
    | ol xs =>
      cases h3
      obtain ⟨vs, h1, h2⟩ := s
      exact .lst h1 h2
    | od xs =>
      cases h3
      obtain ⟨es, ep, ys, h1, h2, h3, h4⟩ := s
      exact .dic h1 h2 h3 h4
theorem RepO.step {ρ1 : Env} {H1 : Hp} (s : Stp ρ σ H ρ1 H1) {v : V} {d : D} (h : RepO c B σ ρ H v d) (e : (∃ i a, OwnI ρ σ i a ∧ v = .ref a ∧ rdB ρ i = some d) → ρ1 = ρ) : RepO c B σ ρ1 H1 v d := by
  rcases h with h | h
  · exact .inl (s.rep h)
  · obtain rfl := e h
    exact .inr h
theorem _root_.L2.PE.imp {X : Cx} {e : Expr} {t t' : TE} (h : PE X e t) (q : ∀ σ H Q, t' σ H Q → t σ H Q) : PE X e t' := ⟨fun pins s σ H Q I w => h.run pins s σ H Q I (q σ H Q w)⟩
theorem _root_.L2.PT.imp {X : Cx} {e : Expr} {t t' : TT} (h : PT X e t) (q : ∀ σ H Q, t' σ H Q → t σ H Q) : PT X e t' := ⟨fun pins s σ H Q I w => h.run pins s σ H Q I (q σ H Q w)⟩
theorem _root_.L2.PA.imp {X : Cx} {e : List Expr} {t t' : TA} (h : PA X e t) (q : ∀ σ H Q, t' σ H Q → t σ H Q) : PA X e t' := ⟨fun pos pins s σ H Q I w => h.run pos pins s σ H Q I (q σ H Q w)⟩
theorem _root_.L2.PS.imp {X : Cx} {e : Stmt} {t t' : TS} (h : PS X e t) (q : ∀ D σ H, t' D σ H → t D σ H) : PS X e t' := ⟨fun pins s σ H D I w => h.run pins s σ H D I (q D σ H w)⟩
theorem _root_.L2.PSs.imp {X : Cx} {e : List Stmt} {t t' : TS} (h : PSs X e t) (q : ∀ D σ H, t' D σ H → t D σ H) : PSs X e t' := ⟨fun pins s σ H D I w => h.run pins s σ H D I (q D σ H w)⟩
end
end G

set_option Elab.async false
set_option linter.all false
set_option maxRecDepth 100000
set_option autoImplicit false
/-! G3: operators, by values. -/
namespace G
open PySem PySem.Spec PyProof.Rows L2

def sx (X : Cx) : Sx := ⟨X.prog, X.w, X.K⟩
abbrev NTr (N : NG) (H : Hp) : Prop := ∀ a, N a → ∃ o, H a = some o
theorem NTr.new {N : NG} {H : Hp} (t : NTr N H) {p : Addr} (h : H p = none) : ¬ N p := fun q => by
  obtain ⟨o, e⟩ := t p q
  rw [h] at e; cases e
section
variable {c : Sx} {N : NG} {H : Hp}
theorem Rep.newT {p : Addr} {vs : List V} {ds : List D} (t : NTr N H) (h : H p = none) (r : RepAll c N H vs ds) : Rep c N (upd H p (.tup vs)) (.ref p) (.tuple ds) :=
  .tup (.inl upd_same) (t.new h) (r.grow (.upd h))
theorem Rep.newL {p : Addr} {vs : List V} {ds : List D} (t : NTr N H) (h : H p = none) (r : RepAll c N H vs ds) : Rep c N (upd H p (.lst vs)) (.ref p) (.list ds) :=
  .lst upd_same (t.new h) (r.grow (.upd h))
end
/-- two operands' reading -/
def rB (c : Sx) (f : D → D → Option D) : R2 := fun x y H Q => ∃ N dx dy dz, NTr N H ∧ RepB c N H x dx ∧ RepB c N H y dy ∧ f dx dy = some dz ∧ ∀ z H', Grow H H' → Rep c N H' z dz → Q z H'
def bl2 (f : D → D → Option Bool) : D → D → Option D := fun a b => (f a b).map .bool
theorem bl2_some {f : D → D → Option Bool} {a b z : D} (h : bl2 f a b = some z) : ∃ k, f a b = some k ∧ z = .bool k := by
  unfold bl2 at h
  cases e : f a b with
  | none => rw [e] at h; cases h
  | some k => rw [e] at h; cases h; exact ⟨k, rfl, rfl⟩
theorem LIM_line : LIM ≤ sizeLine := by decide
theorem okLen_line {n : Nat} (h : okLen n = true) : n ≤ sizeLine := Nat.le_trans (of_decide_eq_true h) LIM_line
theorem okLen_lt {n : Nat} (h : okLen n = true) : n < sizeLine := Nat.lt_of_le_of_lt (of_decide_eq_true h) (by decide)

section
variable {X : Cx}
theorem op_addB : OpR X (binaryOp .Add) (rB (sx X) addD) := by
  intro pins s σ H x y v u Q I rx ry h
  obtain ⟨N, dx, dy, dz, nt, hx, hy, e, q⟩ := h
  unfold addD at e
  split at e
  · cases e
    exact op_add pins s σ H x y v u Q I rx ry ⟨_, _, hx.int, hy.int, q _ _ .refl (.int _)⟩
  · split at e
    · rename_i a b hl
      cases e
      exact op_add_str pins s σ H x y v u Q I rx ry ⟨_, _, hx.str, hy.str, okLen_line hl, q _ _ .refl (.str _)⟩
    · cases e
  · split at e
    · rename_i a b hl
      cases e
      obtain ⟨p1, vs, rfl, h1, r1⟩ := hx.tuple
      obtain ⟨p2, us, rfl, h2, r2⟩ := hy.tuple
      have n1 := r1.length
      have n2 := r2.length
      refine op_catA pins s σ H _ _ v u Q I rx ry ⟨p1, p2, vs, us, rfl, rfl, h1, h2, by rw [n1, n2]; exact okLen_line hl, fun e => ?_, fun _ e => ?_, fun _ _ p hp => ?_⟩
      · subst e
        cases r1
        rw [List.nil_append] at q
        cases hy with | of hy => exact q _ _ .refl hy
      · subst e
        cases r2
        rw [List.append_nil] at q
        cases hx with | of hx => exact q _ _ .refl hx
      · exact q _ _ (.upd hp) (.newT nt hp (r1.append r2))
    · cases e
  · split at e
    · rename_i a b hl
      cases e
      obtain ⟨p1, vs, rfl, h1, r1⟩ := hx.list
      obtain ⟨p2, us, rfl, h2, r2⟩ := hy.list
      have n1 := r1.length
      have n2 := r2.length
      exact op_cat pins s σ H _ _ v u Q I rx ry ⟨p1, p2, vs, us, rfl, rfl, h1, h2, by rw [n1, n2]; exact okLen_line hl, fun p hp => q _ _ (.upd hp) (.newL nt hp (r1.append r2))⟩
    · cases e
  · cases e
theorem op_subB : OpR X (binaryOp .Sub) (rB (sx X) subD) := by
  intro pins s σ H x y v u Q I rx ry h
  obtain ⟨N, dx, dy, dz, nt, hx, hy, e, q⟩ := h
  unfold subD at e
  split at e
  · cases e
    exact op_sub pins s σ H x y v u Q I rx ry ⟨_, _, hx.int, hy.int, q _ _ .refl (.int _)⟩
  · cases e
theorem tuple_mul1 (l : Addr) (items : Array Value) (n : Nat) (dd : Option Addr) (sl : Array (Option Value)) (u : Tok) :
    Meets (Builtin.«tuple.__mul__» ⟨[.ref l, .int 1 u], []⟩) (fun _ R s => s.heap.get? l = some { cls := .type "tuple", dict := dd, data := .seq items n, slots := sl } ∧ R (.ok (.ret (Value.ref l))) s) :=
  .of_wp fun prog w A R s h => by
    obtain ⟨hp, g, d, tk, os⟩ := s
    obtain ⟨hl, h⟩ := h
    have f1 := AutoSeq1.idx_int
    have f2 : s!"{(0 : Nat)}" = "0" := rfl
    wp_walk using PySem.AutoSeq1.wpAny_loadPart' hl
    repeat (first
      | (refine wpAny_ite_true (by simp) ?_; wp_walk using PySem.AutoSeq1.wpAny_loadPart' hl)
      | (refine wpAny_ite_false (by simp) ?_; wp_walk using PySem.AutoSeq1.wpAny_loadPart' hl))
    exact ⟨_, rfl, h⟩

theorem op_mulB : OpR X (binaryOp .Mult) (rB (sx X) mulD) := by
  intro pins s σ H x y v u Q I rx ry h
  obtain ⟨N, dx, dy, dz, nt, hx, hy, e, q⟩ := h
  unfold mulD at e
  split at e
  · split at e
    · rename_i a b hl
      cases e
      refine op_mul pins s σ H x y v u Q I rx ry ⟨_, _, hx.int, hy.int, ?_, q _ _ .refl (.int _)⟩
      unfold mulOk at hl
      rw [Bool.or_eq_true, Bool.and_eq_true, Bool.and_eq_true] at hl
      exact hl.imp (fun z => ⟨of_decide_eq_true z.1, of_decide_eq_true z.2⟩) fun z => ⟨of_decide_eq_true z.1, of_decide_eq_true z.2⟩
    · cases e
  · split at e
    · rename_i d k hl
      cases e
      rw [Bool.and_eq_true] at hl
      have h1 : 1 ≤ k := of_decide_eq_true hl.1
      have h2 : k ≤ 1000 := of_decide_eq_true hl.2
      obtain ⟨p1, vs, rfl, hp, r1⟩ := hx.tuple
      obtain rfl := hy.int
      cases r1 with
      | cons r1 r2 =>
        cases r2
        rename_i v1
        by_cases hk : k = 1
        · subst hk
          cases rx
          obtain ⟨t, rfl⟩ := ry
          obtain ⟨its, r, ⟨⟨cls, dd, data, sl⟩, ho, hc, n, hd⟩, hs⟩ := I.tuple hp
          simp only at hc hd
          subst hc hd
          refine wpAny_binaryOp_repeat_ref (T := "tuple") (U := "int") (by decide) ⟨_, ho, rfl⟩ (fun s' => typeIs_int s' 1 t) noFill_tuple_mul F.fills_int_mul F.slot_int_rmul repeat_tuple F.slot_int_index.lookup
            (call_meets F.slot_int_rmul (typeIs_int s 1 t) F.entry_int_rmul (F.args_int_rmul_2 _ _) (int_rmul_tuple 1 t p1 its.toArray n dd sl)
              ⟨ho, rfl, ⟨_, ho, rfl⟩, call_meets F.slot_tuple_mul ⟨_, ho, rfl⟩ F.entry_tuple_mul (F.args_tuple_mul_2 _ _) (tuple_mul1 p1 its.toArray n dd sl t) ⟨ho, ?_⟩⟩)
          have e1 : List.replicate (1 : Int).toNat d = [d] := rfl
          rw [e1] at q
          cases hx with | of hx => exact ⟨.ref p1, H, I, rfl, q _ _ .refl hx⟩
        · refine op_repT pins s σ H _ _ v u Q I rx ry ⟨p1, k, [v1], rfl, rfl, hp, by simp, by omega, h2, by simp, fun p hn => ?_⟩
          have e1 : (List.replicate k.toNat [v1]).flatten = List.replicate k.toNat v1 := by
            induction k.toNat with
            | zero => rfl
            | succ n ih => rw [List.replicate_succ, List.flatten_cons, ih]; rfl
          rw [e1]
          exact q _ _ (.upd hn) (.newT nt hn (RepAll.rep r1 k.toNat))
    · cases e
  · cases e
theorem op_fdivB : OpR X (binaryOp .FloorDiv) (rB (sx X) fdivD) := by
  intro pins s σ H x y v u Q I rx ry h
  obtain ⟨N, dx, dy, dz, nt, hx, hy, e, q⟩ := h
  unfold fdivD at e
  split at e
  · split at e
    · rename_i a b hl
      cases e
      rw [Bool.and_eq_true] at hl
      exact op_fdivN pins s σ H x y v u Q I rx ry ⟨_, _, hx.int, hy.int, ⟨of_decide_eq_true hl.1, of_decide_eq_true hl.2⟩, q _ _ .refl (.int _)⟩
    · cases e
  · cases e
theorem op_modB : OpR X (binaryOp .Mod) (rB (sx X) modD) := by
  intro pins s σ H x y v u Q I rx ry h
  obtain ⟨N, dx, dy, dz, nt, hx, hy, e, q⟩ := h
  unfold modD at e
  split at e
  · split at e
    · rename_i a b hl
      cases e
      exact op_modN pins s σ H x y v u Q I rx ry ⟨_, _, hx.int, hy.int, of_decide_eq_true hl, q _ _ .refl (.int _)⟩
    · cases e
  · cases e
theorem op_powB : OpR X (binaryOp .Pow) (rB (sx X) powD) := by
  intro pins s σ H x y v u Q I rx ry h
  obtain ⟨N, dx, dy, dz, nt, hx, hy, e, q⟩ := h
  unfold powD at e
  split at e
  · split at e
    · rename_i a b hl
      cases e
      rw [Bool.and_eq_true, Bool.and_eq_true] at hl
      exact op_pow pins s σ H x y v u Q I rx ry ⟨_, _, hx.int, hy.int, ⟨of_decide_eq_true hl.1.1, of_decide_eq_true hl.1.2, of_decide_eq_true hl.2⟩, q _ _ .refl (.int _)⟩
    · cases e
  · cases e
def opOf : BOp → Operator
  | .add => .Add | .sub => .Sub | .mul => .Mult | .fdiv => .FloorDiv | .mod => .Mod | .pow => .Pow
theorem op_binB (op : BOp) : OpR X (binaryOp (opOf op)) (rB (sx X) (binD op)) := by
  cases op
  · exact op_addB
  · exact op_subB
  · exact op_mulB
  · exact op_fdivB
  · exact op_modB
  · exact op_powB

/-! ### comparisons -/
theorem op_eqB (hu : X.A.units + 64 < cLine) : OpR X (compareOp .Eq) (rB (sx X) (bl2 eqD)) := by
  intro pins s σ H x y v u Q I rx ry h
  obtain ⟨N, dx, dy, dz, nt, hx, hy, e, q⟩ := h
  obtain ⟨k, e2, rfl⟩ := bl2_some e
  clear e
  first | unfold eqD at e2 | unfold neD at e2
  split at e2
  · rename_i hs
    cases e2
    rw [Bool.and_eq_true] at hs
    exact op_eqD hu pins s σ H x y v u Q I rx ry ⟨dx, dy, hx.dp (SeqAt.canLay_of_shaped hs.1), hy.dp (SeqAt.canLay_of_shaped hs.2), hs.1, hs.2, q _ _ .refl (.bl _)⟩
  · cases e2
theorem op_neB (hu : X.A.units + 64 < cLine) : OpR X (compareOp .NotEq) (rB (sx X) (bl2 neD)) := by
  intro pins s σ H x y v u Q I rx ry h
  obtain ⟨N, dx, dy, dz, nt, hx, hy, e, q⟩ := h
  obtain ⟨k, e2, rfl⟩ := bl2_some e
  clear e
  first | unfold eqD at e2 | unfold neD at e2
  split at e2
  · rename_i hs
    cases e2
    rw [Bool.and_eq_true] at hs
    exact op_neD hu pins s σ H x y v u Q I rx ry ⟨dx, dy, hx.dp (SeqAt.canLay_of_shaped hs.1), hy.dp (SeqAt.canLay_of_shaped hs.2), hs.1, hs.2, q _ _ .refl (.bl _)⟩
  · cases e2
theorem op_leB : OpR X (compareOp .LtE) (rB (sx X) (bl2 leD)) := by
  intro pins s σ H x y v u Q I rx ry h
  obtain ⟨N, dx, dy, dz, nt, hx, hy, e, q⟩ := h
  obtain ⟨k, e2, rfl⟩ := bl2_some e
  clear e
  unfold leD at e2
  split at e2
  · cases e2
    exact op_le pins s σ H x y v u Q I rx ry ⟨_, _, hx.int, hy.int, q _ _ .refl (.bl _)⟩
  · cases e2
theorem op_gtB : OpR X (compareOp .Gt) (rB (sx X) (bl2 gtD)) := by
  intro pins s σ H x y v u Q I rx ry h
  obtain ⟨N, dx, dy, dz, nt, hx, hy, e, q⟩ := h
  obtain ⟨k, e2, rfl⟩ := bl2_some e
  clear e
  unfold gtD at e2
  split at e2
  · cases e2
    exact op_gt pins s σ H x y v u Q I rx ry ⟨_, _, hx.int, hy.int, q _ _ .refl (.bl _)⟩
  · cases e2
theorem op_geB : OpR X (compareOp .GtE) (rB (sx X) (bl2 geD)) := by
  intro pins s σ H x y v u Q I rx ry h
  obtain ⟨N, dx, dy, dz, nt, hx, hy, e, q⟩ := h
  obtain ⟨k, e2, rfl⟩ := bl2_some e
  clear e
  unfold geD at e2
  split at e2
  · cases e2
    exact op_ge pins s σ H x y v u Q I rx ry ⟨_, _, hx.int, hy.int, q _ _ .refl (.bl _)⟩
  · cases e2
end

/-! ### the order of tuples -/
section
open SeqAt Ob
theorem lexAt_ltDs : ∀ (xs ys : List D) (b : Bool), ltDs xs ys = some b → ∀ (e r : Nat → Bool) (i : Nat), (∀ j, j < min xs.length ys.length → e (i + j) = PyData.eqv (xs.getD j .none) (ys.getD j .none)) →
    (∀ j, j < min xs.length ys.length → r (i + j) = (ltD (xs.getD j .none) (ys.getD j .none)).getD false) → lexAt e r (decide (xs.length < ys.length)) i (min xs.length ys.length) = b
  | [], [], b, h, _, _, _, _, _ => by
    rw [ltDs] at h
    cases h
    rfl
  | [], _ :: _, b, h, _, _, _, _, _ => by
    rw [ltDs] at h
    cases h
    simp [lexAt]
  | _ :: _, [], b, h, _, _, _, _, _ => by
    rw [ltDs] at h
    cases h
    simp [lexAt]
  | x :: xs, y :: ys, b, h, e, r, i, he, hr => by
    rw [ltDs] at h
    obtain ⟨k, h1, h2⟩ := Option.bind_eq_some_iff.mp h
    have e1 : min (x :: xs).length (y :: ys).length = min xs.length ys.length + 1 := by simp only [List.length_cons]; omega
    have e2 : decide ((x :: xs).length < (y :: ys).length) = decide (xs.length < ys.length) := by simp
    have he0 := he 0 (by rw [e1]; omega)
    have hr0 := hr 0 (by rw [e1]; omega)
    rw [Nat.add_zero, List.getD_cons_zero, List.getD_cons_zero] at he0 hr0
    rw [e1, e2, lexAt]
    rw [he0]
    by_cases hq : PyData.eqv x y = true
    · rw [if_pos hq] at h2 ⊢
      cases h2
      refine lexAt_ltDs xs ys _ h1 e r (i + 1) (fun j hj => ?_) fun j hj => ?_
      · have := he (j + 1) (by rw [e1]; omega)
        rw [List.getD_cons_succ, List.getD_cons_succ] at this
        rw [← this]
        congr 1
        omega
      · have := hr (j + 1) (by rw [e1]; omega)
        rw [List.getD_cons_succ, List.getD_cons_succ] at this
        rw [← this]
        congr 1
        omega
    · rw [if_neg hq] at h2 ⊢
      rw [hr0, h2]
      rfl
mutual
theorem rc_lt : ∀ (d e : D) (b : Bool) (A : Around) (s : Shared) (u v : Value) (as bs : List Addr), ltD d e = some b → Reads s.heap u d as → Reads s.heap v e bs → d.canLay0 = true → e.canLay0 = true →
    A.units + min d.depth e.depth < cLine → Ob.RcOp .Lt A s u v b
  | .int i, .int j, b, A, s, u, v, _, _, h, r1, r2, _, _, _ => by
    rw [ltD] at h
    cases h
    cases r1
    cases r2
    exact .lt_int _ _ _ _
  | .tuple xs, .tuple ys, b, A, s, u, v, _, _, h, r1, r2, c1, c2, hu => by
    rw [ltD] at h
    cases r1 with
    | @tuple a o vs n _ as h1 h2 h3 h4 =>
      cases r2 with
      | @tuple a' o' vs' n' _ as' k1 k2 k3 k4 =>
        have hl : s.heap.IsTuple a vs := ⟨_, h1, h2, _, h3⟩
        have hl' : s.heap.IsTuple a' vs' := ⟨_, k1, k2, _, k3⟩
        have n1 : vs.size = xs.length := by simpa using ReadsAll.length _ _ _ h4
        have n2 : vs'.size = ys.length := by simpa using ReadsAll.length _ _ _ k4
        have c1' : PyData.canLayAll0 xs = true := by simpa [PyData.canLay0] using c1
        have c2' : PyData.canLayAll0 ys = true := by simpa [PyData.canLay0] using c2
        simp only [PyData.depth] at hu
        have hall := rc_lts xs ys b A.in1 s vs.toList vs'.toList _ _ h h4 k4 c1' c2' (by show A.units + 1 + _ < _; omega)
        have q := lexAt_ltDs xs ys b h (fun j => PyData.eqv (xs.getD j .none) (ys.getD j .none)) (fun j => (ltD (xs.getD j .none) (ys.getD j .none)).getD false) 0 (fun j _ => by simp) fun j _ => by simp
        rw [← n1, ← n2] at q
        rw [← q]
        exact .tuples_lt hl hl' (by omega) (fun j j1 j2 => by have z := (hall j (by simpa using j1) (by simpa using j2)).1; rw [Array.getElem_toList, Array.getElem_toList] at z; exact z) fun j j1 j2 hj => by have z := (hall j (by simpa using j1) (by simpa using j2)).2 hj; rw [Array.getElem_toList, Array.getElem_toList] at z; exact z
  | .none, _, _, _, _, _, _, _, _, h, _, _, _, _, _ => by rw [ltD] at h <;> first | cases h | (intros; contradiction)
  | .bool _, _, _, _, _, _, _, _, _, h, _, _, _, _, _ => by rw [ltD] at h <;> first | cases h | (intros; contradiction)
  | .str _, _, _, _, _, _, _, _, _, h, _, _, _, _, _ => by rw [ltD] at h <;> first | cases h | (intros; contradiction)
  | .list _, _, _, _, _, _, _, _, _, h, _, _, _, _, _ => by rw [ltD] at h <;> first | cases h | (intros; contradiction)
  | .dict _, _, _, _, _, _, _, _, _, h, _, _, _, _, _ => by rw [ltD] at h <;> first | cases h | (intros; contradiction)
  | .int _, .none, _, _, _, _, _, _, _, h, _, _, _, _, _ => by rw [ltD] at h <;> first | cases h | (intros; contradiction)
  | .int _, .bool _, _, _, _, _, _, _, _, h, _, _, _, _, _ => by rw [ltD] at h <;> first | cases h | (intros; contradiction)
  | .int _, .str _, _, _, _, _, _, _, _, h, _, _, _, _, _ => by rw [ltD] at h <;> first | cases h | (intros; contradiction)
  | .int _, .list _, _, _, _, _, _, _, _, h, _, _, _, _, _ => by rw [ltD] at h <;> first | cases h | (intros; contradiction)
  | .int _, .tuple _, _, _, _, _, _, _, _, h, _, _, _, _, _ => by rw [ltD] at h <;> first | cases h | (intros; contradiction)
  | .int _, .dict _, _, _, _, _, _, _, _, h, _, _, _, _, _ => by rw [ltD] at h <;> first | cases h | (intros; contradiction)
  | .tuple _, .none, _, _, _, _, _, _, _, h, _, _, _, _, _ => by rw [ltD] at h <;> first | cases h | (intros; contradiction)
  | .tuple _, .bool _, _, _, _, _, _, _, _, h, _, _, _, _, _ => by rw [ltD] at h <;> first | cases h | (intros; contradiction)
  | .tuple _, .int _, _, _, _, _, _, _, _, h, _, _, _, _, _ => by rw [ltD] at h <;> first | cases h | (intros; contradiction)
  | .tuple _, .str _, _, _, _, _, _, _, _, h, _, _, _, _, _ => by rw [ltD] at h <;> first | cases h | (intros; contradiction)
  | .tuple _, .list _, _, _, _, _, _, _, _, h, _, _, _, _, _ => by rw [ltD] at h <;> first | cases h | (intros; contradiction)
  | .tuple _, .dict _, _, _, _, _, _, _, _, h, _, _, _, _, _ => by rw [ltD] at h <;> first | cases h | (intros; contradiction)
theorem rc_lts : ∀ (xs ys : List D) (b : Bool) (A : Around) (s : Shared) (vs ws : List Value) (as bs : List Addr), ltDs xs ys = some b → ReadsAll s.heap vs xs as → ReadsAll s.heap ws ys bs → PyData.canLayAll0 xs = true → PyData.canLayAll0 ys = true →
    A.units + min (PyData.depthAll xs) (PyData.depthAll ys) < cLine → ∀ (j : Nat) (h1 : j < vs.length) (h2 : j < ws.length),
      EqAt A s vs[j] ws[j] (PyData.eqv (xs.getD j .none) (ys.getD j .none)) ∧ (PyData.eqv (xs.getD j .none) (ys.getD j .none) = false → Ob.RcOp .Lt A s vs[j] ws[j] ((ltD (xs.getD j .none) (ys.getD j .none)).getD false))
  | [], _, _, _, _, _, _, _, _, _, ra, _, _, _, _, j, h1, _ => by cases ra; exact absurd h1 (Nat.not_lt_zero _)
  | _ :: _, [], _, _, _, _, _, _, _, _, _, rb, _, _, _, j, _, h2 => by cases rb; exact absurd h2 (Nat.not_lt_zero _)
  | x :: xs, y :: ys, b, A, s, _, _, _, _, h, ra, rb, c1, c2, hu, j, h1, h2 => by
    rw [ltDs] at h
    obtain ⟨k, g1, g2⟩ := Option.bind_eq_some_iff.mp h
    rw [PyData.canLayAll0, Bool.and_eq_true] at c1 c2
    simp only [PyData.depthAll] at hu
    cases ra with
    | cons r rs =>
      cases rb with
      | cons r' rs' =>
        cases j with
        | zero =>
          simp only [List.getElem_cons_zero, List.getD_cons_zero]
          refine ⟨eqAt_reads x y A s _ _ _ _ r r' c1.1 c2.1 (by omega), fun hq => ?_⟩
          rw [hq] at g2
          rw [if_neg Bool.false_ne_true] at g2
          rw [g2]
          exact rc_lt x y b A s _ _ _ _ g2 r r' c1.1 c2.1 (by omega)
        | succ j =>
          simp only [List.getElem_cons_succ, List.getD_cons_succ]
          exact rc_lts xs ys k A s _ _ _ _ g1 rs rs' c1.2 c2.2 (by omega) j (by simpa using h1) (by simpa using h2)
end
end
section
variable {X : Cx}
theorem op_ltB (hu : X.A.units + 64 < cLine) : OpR X (compareOp .Lt) (rB (sx X) (bl2 ltT)) := by
  intro pins s σ H x y v u Q I rx ry h
  obtain ⟨N, dx, dy, dz, nt, hx, hy, e, q⟩ := h
  obtain ⟨k, e2, rfl⟩ := bl2_some e
  unfold ltT at e2
  split at e2
  · rename_i hs
    rw [Bool.and_eq_true] at hs
    obtain ⟨as, r1⟩ := Dp.reads I dx x v (hx.dp (SeqAt.canLay_of_shaped hs.1)) rx
    obtain ⟨bs, r2⟩ := Dp.reads I dy y u (hy.dp (SeqAt.canLay_of_shaped hs.2)) ry
    have hd : X.A.units + min dx.depth dy.depth < cLine := by
      have := SeqAt.depth_of_shaped hs.1
      have h2 : min dx.depth dy.depth ≤ dx.depth := Nat.min_le_left _ _
      omega
    exact rc_lt dx dy k X.A s v u as bs e2 r1 r2 (SeqAt.canLay_of_shaped hs.1) (SeqAt.canLay_of_shaped hs.2) hd X.prog X.w X.xe _ ⟨.bl k, H, I, rfl, q _ _ .refl (.bl _)⟩
  · cases e2
end
end G

set_option Elab.async false
set_option linter.all false
set_option maxRecDepth 100000
set_option autoImplicit false
/-! G4: dicts, membership, subscripts, slices, by values. -/
namespace G
open PySem PySem.Spec PyProof.Rows L2

/-! ### keys -/
mutual
def keyOf : D → NestedKey
  | .int i => .num i
  | .tuple xs => .tup (keysOf xs)
  | .str x => .text x
  | _ => .none
def keysOf : List D → List NestedKey
  | [] => []
  | x :: xs => keyOf x :: keysOf xs
end
mutual
theorem keyOf_data : ∀ d : D, keyD d = true → (keyOf d).data = d
  | .int i, _ => by rw [keyOf, NestedKey.data]
  | .tuple xs, h => by
    rw [keyD] at h
    rw [keyOf, NestedKey.data, keysOf_data xs h]
  | .none, h => by rw [keyD] at h <;> first | cases h | (intros; contradiction)
  | .bool _, h => by rw [keyD] at h <;> first | cases h | (intros; contradiction)
  | .str _, h => by rw [keyD] at h <;> first | cases h | (intros; contradiction)
  | .list _, h => by rw [keyD] at h <;> first | cases h | (intros; contradiction)
  | .dict _, h => by rw [keyD] at h <;> first | cases h | (intros; contradiction)
theorem keysOf_data : ∀ ds : List D, keyDs ds = true → NestedKey.datas (keysOf ds) = ds
  | [], _ => by rw [keysOf, NestedKey.datas]
  | d :: ds, h => by
    rw [keyDs, Bool.and_eq_true] at h
    rw [keysOf, NestedKey.datas, keyOf_data d h.1, keysOf_data ds h.2]
end
mutual
theorem depth_data : ∀ k : NestedKey, PyData.depth k.data = k.depth
  | .none => by rw [NestedKey.data, NestedKey.depth, PyData.depth]
  | .num _ => by rw [NestedKey.data, NestedKey.depth, PyData.depth]
  | .text _ => by rw [NestedKey.data, NestedKey.depth, PyData.depth]
  | .tup ks => by rw [NestedKey.data, NestedKey.depth, PyData.depth, depth_datas ks]
theorem depth_datas : ∀ k : List NestedKey, PyData.depthAll (NestedKey.datas k) = NestedKey.depthAll k
  | [] => by rw [NestedKey.datas, NestedKey.depthAll, PyData.depthAll]
  | k :: ks => by rw [NestedKey.datas, NestedKey.depthAll, PyData.depthAll, depth_data k, depth_datas ks]
end
mutual
theorem eqv_data : ∀ a b : NestedKey, PyData.eqv a.data b.data = NestedKey.beq a b
  | .none, .none => by simp [NestedKey.data, PyData.eqv, NestedKey.beq]
  | .none, .num _ => by simp [NestedKey.data, PyData.eqv, NestedKey.beq]
  | .none, .text _ => by simp [NestedKey.data, PyData.eqv, NestedKey.beq]
  | .none, .tup _ => by simp [NestedKey.data, PyData.eqv, NestedKey.beq]
  | .num _, .none => by simp [NestedKey.data, PyData.eqv, NestedKey.beq]
  | .num i, .num j => by simp only [NestedKey.data, PyData.eqv, NestedKey.beq]; rfl
  | .num _, .text _ => by simp [NestedKey.data, PyData.eqv, NestedKey.beq]
  | .num _, .tup _ => by simp [NestedKey.data, PyData.eqv, NestedKey.beq]
  | .text _, .none => by simp [NestedKey.data, PyData.eqv, NestedKey.beq]
  | .text _, .num _ => by simp [NestedKey.data, PyData.eqv, NestedKey.beq]
  | .text i, .text j => by simp only [NestedKey.data, PyData.eqv, NestedKey.beq]; rfl
  | .text _, .tup _ => by simp [NestedKey.data, PyData.eqv, NestedKey.beq]
  | .tup _, .none => by simp [NestedKey.data, PyData.eqv, NestedKey.beq]
  | .tup _, .num _ => by simp [NestedKey.data, PyData.eqv, NestedKey.beq]
  | .tup _, .text _ => by simp [NestedKey.data, PyData.eqv, NestedKey.beq]
  | .tup xs, .tup ys => by rw [NestedKey.data, NestedKey.data, PyData.eqv, NestedKey.beq, eqv_datas xs ys]
theorem eqv_datas : ∀ a b : List NestedKey, PyData.eqvAll (NestedKey.datas a) (NestedKey.datas b) = NestedKey.beqAll a b
  | [], [] => by simp [NestedKey.datas, PyData.eqvAll, NestedKey.beqAll]
  | [], _ :: _ => by simp [NestedKey.datas, PyData.eqvAll, NestedKey.beqAll]
  | _ :: _, [] => by simp [NestedKey.datas, PyData.eqvAll, NestedKey.beqAll]
  | a :: as, b :: bs => by rw [NestedKey.datas, NestedKey.datas, PyData.eqvAll, NestedKey.beqAll, eqv_data a b, eqv_datas as bs]
end
theorem eqv_key (a b : NestedKey) : PyData.eqv a.data b.data = decide (a = b) := by rw [eqv_data, NestedKey.decide_eq]
/-- a key, as the model has it -/
theorem isKey_of {d : D} (h : isKey d = true) : ∃ k : NestedKey, k.data = d ∧ k.depth ≤ 8 := by
  unfold isKey at h
  split at h
  · rename_i xs
    rw [Bool.and_eq_true] at h
    have e := keyOf_data (.tuple xs) (by rw [keyD]; exact h.1)
    refine ⟨_, e, ?_⟩
    rw [← depth_data, e]
    exact of_decide_eq_true h.2
  · cases h
theorem isKey_tup {d : D} (h : isKey d = true) : ∃ xs, d = .tuple xs := by
  unfold isKey at h
  split at h
  · exact ⟨_, rfl⟩
  · cases h

section
variable {X : Cx} {pins : List (Addr × Obj)} {σ : L2.St} {H H' : Hp} {s : Shared} {N : NG}
theorem rep_tup (I : Inv X pins σ H s) {v : V} {ds : List D} {u : Value} (h : RepB (sx X) N H v (.tuple ds)) (r : RelV v u) :
    ∃ a vs its, v = .ref a ∧ u = .ref a ∧ IsTup s.heap a its.toArray ∧ Vals vs its ∧ RepAll (sx X) N H vs ds := by
  obtain ⟨a, vs, rfl, h1, h2⟩ := h.tuple
  obtain ⟨its, r1, p, _⟩ := I.tuple h1
  exact ⟨a, vs, its, rfl, r, p, r1, h2⟩
mutual
theorem nested_of (I : Inv X pins σ H s) : ∀ (k : NestedKey) (v : V) (u : Value), Rep (sx X) N H v k.data → RelV v u → NestedIs s.heap k u
  | .none, _, _, h, r => by
    rw [NestedKey.data] at h
    cases h
    cases r
    exact .none
  | .num i, _, _, h, r => by
    rw [NestedKey.data] at h
    cases h
    obtain ⟨t, rfl⟩ := r
    exact .int _ _
  | .text i, _, _, h, r => by
    rw [NestedKey.data] at h
    cases h
    obtain ⟨t, rfl⟩ := r
    exact .text _ _
  | .tup ks, v, u, h, r => by
    rw [NestedKey.data] at h
    obtain ⟨a, vs, its, rfl, rfl, ⟨o, h1, h2, n, h3⟩, h4, h5⟩ := rep_tup I (.of h) r
    exact .tup h1 h2 h3 (nesteds_of I ks vs its h5 h4)
theorem nesteds_of (I : Inv X pins σ H s) : ∀ (k : List NestedKey) (v : List V) (u : List Value), RepAll (sx X) N H v (NestedKey.datas k) → Vals v u → NestedAll s.heap k u
  | [], _, _, h, r => by
    rw [NestedKey.datas] at h
    cases h
    cases r
    exact .nil
  | k :: ks, _, _, h, r => by
    rw [NestedKey.datas] at h
    cases h with
    | cons h1 h2 =>
      cases r with
      | cons r1 r2 => exact .cons (nested_of I k _ _ h1 r1) (nesteds_of I ks _ _ h2 r2)
end
/-- a key's value, ready for the dict's rules -/
theorem key_of (I : Inv X pins σ H s) {v : V} {d : D} {u : Value} (hk : isKey d = true) (h : Rep (sx X) N H v d) (r : RelV v u) :
    ∃ k a, k.data = d ∧ v = .ref a ∧ u = .ref a ∧ (nestedKind X.prog X.w).is s.heap k a := by
  obtain ⟨k, rfl, hd⟩ := isKey_of hk
  obtain ⟨xs, e⟩ := isKey_tup hk
  have h' := h
  rw [e] at h'
  obtain ⟨a, vs, its, rfl, rfl, _⟩ := rep_tup I (.of h') r
  exact ⟨k, a, rfl, rfl, rfl, nested_of I k _ _ h r, hd⟩
theorem repK_is (I : Inv X pins σ H s) : ∀ {xs : List (NestedKey × Addr × Value)} {kvs : List (D × D)}, RepK (sx X) N H xs kvs → ∀ x ∈ xs, (nestedKind X.prog X.w).is s.heap x.1 x.2.1
  | _, _, .nil, x, hx => absurd hx (by simp)
  | _, _, .cons h1 h2 _ _ h5, x, hx => by
    rcases List.mem_cons.mp hx with rfl | hx
    · obtain ⟨k, e, hd⟩ := isKey_of h1
      refine ⟨nested_of I _ _ _ h2 rfl, ?_⟩
      rw [← depth_data, ← e, depth_data]
      exact hd
    · exact repK_is I h5 x hx
/-- the model's dict -/
theorem dict_of (I : Inv X pins σ H s) {a : Addr} {es : Array DictEntry} {ep : Nat} {xs : List (NestedKey × Addr × Value)} {kvs : List (D × D)} (h : H a = some (.ext (dph a es ep))) (he : es.toList = xs.map (entryOfKey (nestedKind X.prog X.w)))
    (hn : (xs.map (·.1)).Nodup) (hk : RepK (sx X) N H xs kvs) : s.heap.DictOfH (nestedKind X.prog X.w) a xs ∧ (a == sysModules) = false := by
  obtain ⟨⟨⟨o, h1, h2, h3⟩, h4⟩, _⟩ := I.hok a _ h
  exact ⟨⟨o, es, ep, h1, h2, h3, he, repK_is I hk, hn⟩, h4⟩
theorem repK_length : ∀ {xs : List (NestedKey × Addr × Value)} {kvs : List (D × D)}, RepK (sx X) N H xs kvs → xs.length = kvs.length
  | _, _, .nil => rfl
  | _, _, .cons _ _ _ _ h => by rw [List.length_cons, List.length_cons, repK_length h]
/-- looking a key up -/
theorem repK_look {k : NestedKey} : ∀ {xs : List (NestedKey × Addr × Value)} {kvs : List (D × D)}, RepK (sx X) N H xs kvs →
    (atKey xs k = none ∧ lookD kvs k.data = none ∧ kvs.any (fun p => PyData.eqv p.1 k.data) = false) ∨ ∃ p v d, atKey xs k = some p ∧ lookD kvs k.data = some d ∧ kvs.any (fun p => PyData.eqv p.1 k.data) = true ∧ RelV v p.2 ∧ Rep (sx X) N H v d
  | _, _, .nil => .inl ⟨rfl, rfl, rfl⟩
  | _, _, .cons (x := x) (xs := xs) (d := d) (kvs := kvs) h1 h2 h3 h4 h5 => by
    have ih := repK_look (k := k) h5
    unfold atKey lookD at ih ⊢
    rw [List.find?_cons, List.find?_cons, List.any_cons]
    have e : PyData.eqv (NestedKey.data x.1) k.data = decide (x.1 = k) := eqv_key _ _
    dsimp only
    rw [e]
    by_cases hx : x.1 = k
    · rw [decide_eq_true hx]
      exact .inr ⟨_, _, _, rfl, rfl, rfl, h3, h4⟩
    · rw [decide_eq_false hx, Bool.false_or]
      exact ih
/-- storing -/
theorem repK_map {k : NestedKey} {v : V} {u : Value} {d : D} (rv : RelV v u) (r : Rep (sx X) N H v d) : ∀ {xs : List (NestedKey × Addr × Value)} {kvs : List (D × D)}, RepK (sx X) N H xs kvs →
    RepK (sx X) N H (xs.map (putAt k u)) (kvs.map fun p => if PyData.eqv p.1 k.data then (p.1, d) else p)
  | _, _, .nil => .nil
  | _, _, .cons (x := x) (xs := xs) (d := d') (kvs := kvs) h1 h2 h3 h4 h5 => by
    rw [List.map_cons, List.map_cons]
    have e : PyData.eqv (NestedKey.data x.1) k.data = decide (x.1 = k) := eqv_key _ _
    dsimp only
    rw [e]
    unfold putAt
    by_cases hx : x.1 = k
    · rw [if_pos hx, decide_eq_true hx, if_pos rfl]
      exact .cons (x := (x.1, x.2.1, u)) h1 h2 rv r (repK_map rv r h5)
    · rw [if_neg hx, decide_eq_false hx, if_neg Bool.false_ne_true]
      exact .cons h1 h2 h3 h4 (repK_map rv r h5)
theorem repK_app {x : NestedKey × Addr × Value} {v : V} {d : D} (h1 : isKey (NestedKey.data x.1) = true) (h2 : Rep (sx X) N H (.ref x.2.1) (NestedKey.data x.1)) (h3 : RelV v x.2.2) (h4 : Rep (sx X) N H v d) : ∀ {xs : List (NestedKey × Addr × Value)} {kvs : List (D × D)}, RepK (sx X) N H xs kvs →
    RepK (sx X) N H (xs ++ [x]) (kvs ++ [(NestedKey.data x.1, d)])
  | _, _, .nil => .cons h1 h2 h3 h4 .nil
  | _, _, .cons g1 g2 g3 g4 g5 => .cons g1 g2 g3 g4 (repK_app h1 h2 h3 h4 g5)
theorem repK_put {k : NestedKey} {a : Addr} {v : V} {u : Value} {d : D} {xs : List (NestedKey × Addr × Value)} {kvs : List (D × D)} (h1 : isKey k.data = true) (h2 : Rep (sx X) N H (.ref a) k.data) (rv : RelV v u) (r : Rep (sx X) N H v d) (h : RepK (sx X) N H xs kvs) :
    RepK (sx X) N H (storedH xs k a u) (putD kvs k.data d) := by
  unfold storedH putD
  rcases repK_look (k := k) h with ⟨e1, e2, e3⟩ | ⟨p, v', d', e1, e2, e3, _⟩
  · rw [e1, e3, if_neg (by simp), if_neg Bool.false_ne_true]
    exact repK_app (x := (k, a, u)) h1 h2 rv r h
  · rw [e1, e3, if_pos (by simp), if_pos rfl]
    exact repK_map rv r h
end

/-! ### in, not in -/
section
variable {X : Cx}
theorem op_inB (hu : X.A.units + 65 < cLine) : OpR X (compareOp .In) (rB (sx X) (bl2 inD)) := by
  intro pins s σ H x y v u Q I rx ry h
  obtain ⟨N, dx, dy, dz, nt, hx, hy, e, q⟩ := h
  obtain ⟨k, e2, rfl⟩ := bl2_some e
  unfold inD at e2
  split at e2
  · split at e2
    · rename_i xs hs
      cases e2
      rw [Bool.and_eq_true] at hs
      exact op_inD hu pins s σ H x y v u Q I rx ry ⟨dx, xs, hx.dp (SeqAt.canLay_of_shaped hs.1), hy.dp (SeqAt.canLay_of_shaped hs.2), hs.1, hs.2, q _ _ .refl (.bl _)⟩
    · cases e2
  · split at e2
    · rename_i xs hs
      cases e2
      rw [Bool.and_eq_true] at hs
      obtain ⟨as, r1⟩ := Dp.reads I dx x v (hx.dp (SeqAt.canLay_of_shaped hs.1)) rx
      obtain ⟨bs, r2⟩ := Dp.reads I (.tuple xs) y u (hy.dp (SeqAt.canLay_of_shaped hs.2)) ry
      have hd1 := SeqAt.depth_of_shaped hs.1
      exact SeqAt.in_tuple_reads r2 r1 (by have z := SeqAt.canLay_of_shaped hs.2; simpa [PyData.canLay0] using z) (SeqAt.canLay_of_shaped hs.1)
        (by have h2 : min (PyData.depthAll xs) dx.depth ≤ dx.depth := Nat.min_le_right _ _; omega) ⟨.bl _, H, I, rfl, q _ _ .refl (.bl _)⟩
    · cases e2
  · split at e2
    · rename_i kvs hs
      cases e2
      obtain ⟨a, es, ep, xs, rfl, h1, h2, h3, h4⟩ := hy.dict
      cases hx with
      | of hx =>
        obtain ⟨k, b, rfl, rfl, rfl, hk⟩ := key_of I hs hx rx
        obtain ⟨g1, g2⟩ := dict_of I h1 h2 h3 h4
        cases ry
        refine wpAny_in_heap (knd := nestedKind X.prog X.w) (by show X.A.units + 1 + 8 < cLine; omega) hk g2 g1 ⟨.bl _, H, I.tok _, ?_, q _ _ .refl (.bl _)⟩
        rcases repK_look (k := k) h4 with ⟨e1, e2, e3⟩ | ⟨p, v', d', e1, e2, e3, _⟩
        · rw [e1, e3]; rfl
        · rw [e1, e3]; rfl
      | lst _ _ => exact absurd (isKey_tup hs) (by rintro ⟨_, z⟩; cases z)
      | dic _ _ _ _ => exact absurd (isKey_tup hs) (by rintro ⟨_, z⟩; cases z)
    · cases e2
  · cases e2
theorem op_notinB (hu : X.A.units + 65 < cLine) : OpR X (compareOp .NotIn) (rB (sx X) (bl2 notinD)) := by
  intro pins s σ H x y v u Q I rx ry h
  obtain ⟨N, dx, dy, dz, nt, hx, hy, e, q⟩ := h
  obtain ⟨k0, e0, rfl⟩ := bl2_some e
  unfold notinD at e0
  obtain ⟨k, e2, rfl⟩ := Option.map_eq_some_iff.mp e0
  unfold inD at e2
  split at e2
  · split at e2
    · rename_i xs hs
      cases e2
      rw [Bool.and_eq_true] at hs
      exact op_notInD hu pins s σ H x y v u Q I rx ry ⟨dx, xs, hx.dp (SeqAt.canLay_of_shaped hs.1), hy.dp (SeqAt.canLay_of_shaped hs.2), hs.1, hs.2, q _ _ .refl (.bl _)⟩
    · cases e2
  · split at e2
    · rename_i xs hs
      cases e2
      rw [Bool.and_eq_true] at hs
      obtain ⟨as, r1⟩ := Dp.reads I dx x v (hx.dp (SeqAt.canLay_of_shaped hs.1)) rx
      obtain ⟨bs, r2⟩ := Dp.reads I (.tuple xs) y u (hy.dp (SeqAt.canLay_of_shaped hs.2)) ry
      have hd1 := SeqAt.depth_of_shaped hs.1
      exact SeqAt.notIn_tuple_reads r2 r1 (by have z := SeqAt.canLay_of_shaped hs.2; simpa [PyData.canLay0] using z) (SeqAt.canLay_of_shaped hs.1)
        (by have h2 : min (PyData.depthAll xs) dx.depth ≤ dx.depth := Nat.min_le_right _ _; omega) ⟨.bl _, H, I, rfl, q _ _ .refl (.bl _)⟩
    · cases e2
  · split at e2
    · rename_i kvs hs
      cases e2
      obtain ⟨a, es, ep, xs, rfl, h1, h2, h3, h4⟩ := hy.dict
      cases hx with
      | of hx =>
        obtain ⟨k, b, rfl, rfl, rfl, hk⟩ := key_of I hs hx rx
        obtain ⟨g1, g2⟩ := dict_of I h1 h2 h3 h4
        cases ry
        refine notIn_keyed (knd := nestedKind X.prog X.w) (kvs := pairsH xs) (by show X.A.units + 1 + 8 < cLine; omega) hk g2 ⟨xs, g1, rfl⟩ ?_
        rw [valueAt_pairsH, Option.isSome_map]
        refine ⟨.bl _, H, I.tok _, ?_, q _ _ .refl (.bl _)⟩
        rcases repK_look (k := k) h4 with ⟨e1, e2, e3⟩ | ⟨p, v', d', e1, e2, e3, _⟩
        · rw [e1, e3]; rfl
        · rw [e1, e3]; rfl
      | lst _ _ => exact absurd (isKey_tup hs) (by rintro ⟨_, z⟩; cases z)
      | dic _ _ _ _ => exact absurd (isKey_tup hs) (by rintro ⟨_, z⟩; cases z)
    · cases e2
  · cases e2
def copOf : COp → CmpOp
  | .eq => .Eq | .ne => .NotEq | .lt => .Lt | .gt => .Gt | .le => .LtE | .ge => .GtE | .isin => .In | .notin => .NotIn
theorem op_cmpB (hu : X.A.units + 65 < cLine) (op : COp) : OpR X (compareOp (copOf op)) (rB (sx X) (bl2 (cmpD op))) := by
  cases op
  · exact op_eqB (by omega)
  · exact op_neB (by omega)
  · exact op_ltB (by omega)
  · exact op_leB
  · exact op_gtB
  · exact op_geB
  · exact op_inB hu
  · exact op_notinB hu

/-! ### x[i] -/
theorem atI_rep {N : NG} {H : Hp} {vs : List V} {ds : List D} {i : Int} {d : D} (r : RepAll (sx X) N H vs ds) (h : atI ds i = some d) : ∃ v, atI vs i = some v ∧ Rep (sx X) N H v d := by
  unfold atI at h ⊢
  rw [r.length]
  obtain ⟨j, h1, h2⟩ := Option.bind_eq_some_iff.mp h
  rw [h1]
  obtain ⟨v, h3, h4⟩ := r.get h2
  exact ⟨v, h3, h4⟩
theorem ix_B (hu : X.A.units + 64 < cLine) : IxR X (rB (sx X) idxD) := by
  intro value slice pins s σ H x y v u Q I rx ry h hs
  obtain ⟨N, dx, dy, dz, nt, hx, hy, e, q⟩ := h
  unfold idxD at e
  split at e
  · obtain ⟨a, vs, rfl, h1, h2⟩ := hx.list
    obtain ⟨w, h3, h4⟩ := atI_rep h2 e
    exact ix_list value slice pins s σ H _ y v u Q I rx ry ⟨a, vs, _, w, rfl, hy.int, .inl (.inl h1), h3, q _ _ .refl h4⟩ hs
  · obtain ⟨a, vs, rfl, h1, h2⟩ := hx.tuple
    obtain ⟨w, h3, h4⟩ := atI_rep h2 e
    exact ix_tup value slice pins s σ H _ y v u Q I rx ry ⟨a, vs, _, w, rfl, hy.int, h1, h3, q _ _ .refl h4⟩ hs
  · split at e
    · rename_i kvs k0 hk0
      obtain ⟨a, es, ep, xs, rfl, h1, h2, h3, h4⟩ := hx.dict
      cases hy with
      | of hy =>
        obtain ⟨k, b, rfl, rfl, rfl, hk⟩ := key_of I hk0 hy ry
        obtain ⟨g1, g2⟩ := dict_of I h1 h2 h3 h4
        cases rx
        rcases repK_look (k := k) h4 with ⟨e1, e2, e3⟩ | ⟨p, v', d', e1, e2, e3, e4, e5⟩
        · rw [e2] at e; cases e
        · rw [e2] at e
          cases e
          exact tail_any (ops := [.ref a, .ref b]) g1.typeIs slot_dict_getitem.lookup (wpAny_getItem_heap (knd := nestedKind X.prog X.w) (by show X.A.units + 1 + 8 < cLine; omega) hk g1 e1 ⟨v', H, I.tok _, e4, q _ _ .refl e5⟩) hs
      | lst _ _ => exact absurd (isKey_tup hk0) (by rintro ⟨_, z⟩; cases z)
      | dic _ _ _ _ => exact absurd (isKey_tup hk0) (by rintro ⟨_, z⟩; cases z)
    · cases e
  · cases e

/-! ### x[i:j], x[::-1] -/
def rSB (c : Sx) : V → Option Int → Option Int → Hp → VK → Prop := fun x lo hi H Q => ∃ N dx dz, NTr N H ∧ RepB c N H x dx ∧ slcD dx lo hi = some dz ∧ ∀ z H', Grow H H' → Rep c N H' z dz → Q z H'
theorem cutV_rep {N : NG} {H : Hp} {vs : List V} {ds : List D} {lo hi : Option Int} (r : RepAll (sx X) N H vs ds) : RepAll (sx X) N H (cutV vs lo hi) (cutL ds lo hi) := by
  unfold cutV cutL
  rw [r.length]
  exact (r.drop _).take _
theorem sl_B : SlR X (rSB (sx X)) := by
  intro pins s σ H x v vl vu lo hi sl Q I rx hs pl pu h
  obtain ⟨N, dx, dz, nt, hx, e, q⟩ := h
  unfold slcD at e
  split at e
  · cases e
    obtain ⟨a, vs, rfl, h1, h2⟩ := hx.list
    exact sl_list pins s σ H _ v vl vu lo hi sl Q I rx hs pl pu ⟨a, vs, rfl, .inl (.inl h1), fun p hp => q _ _ (.upd hp) (.newL nt hp (cutV_rep h2))⟩
  · cases e
    obtain ⟨a, vs, rfl, h1, h2⟩ := hx.tuple
    refine sl_tupA pins s σ H _ v vl vu lo hi sl Q I rx hs pl pu ⟨a, vs, rfl, h1, fun ⟨w1, w2⟩ => ?_, fun _ p hp => q _ _ (.upd hp) (.newT nt hp (cutV_rep h2))⟩
    cases hx with
    | of hx =>
      refine q _ _ .refl ?_
      unfold cutL
      rw [← h2.length, w1, w2, List.drop_zero, Nat.sub_zero, h2.length, List.take_length]
      exact hx
  · split at e
    · rename_i z hz
      cases e
      exact sl_str pins s σ H x v vl vu lo hi sl Q I rx hs pl pu ⟨z, hx.str, okLen_line hz, q _ _ .refl (.str _)⟩
    · cases e
  · cases e
end
end G

set_option Elab.async false
set_option linter.all false
set_option maxRecDepth 100000
set_option autoImplicit false
/-! G5: x[::-1]; built-in functions, by values. -/
namespace G
open PySem PySem.Spec PyProof.Rows L2

section
variable {prog : Program} {w : World} {A : Around} {E : Value → Shared → Prop} {s : Shared}
theorem rev_pick (xs : Array Value) : ((List.range xs.size).filterMap fun (k : Nat) => xs[(((xs.size : Int) - 1) + (k : Int) * -1).toNat]?).toArray = xs.toList.reverse.toArray := by
  have e1 : ((List.range xs.size).filterMap fun (k : Nat) => xs[(((xs.size : Int) - 1) + (k : Int) * -1).toNat]?) = ((List.range xs.size).map fun k => xs.size - 1 - k).filterMap (xs[·]?) := by
    rw [List.filterMap_map]
    refine congrArg (fun f => List.filterMap f (List.range xs.size)) (funext fun k => ?_)
    have e : (((xs.size : Int) - 1) + (k : Int) * -1).toNat = xs.size - 1 - k := by omega
    rw [e]
    rfl
  rw [e1, PySem.W.krv_range, List.filterMap_reverse, PySem.W.krv_all]
theorem tuple_rev {t sl : Addr} {items : Array Value} {tk : Tok} {Q : Value → Shared → Prop} (ht : IsTup s.heap t items) (hs : s.heap.IsSliceOf sl .none .none (.int (-1) tk))
    (h : Q (.ref s.heap.objs.size) { s with heap := s.heap.push { cls := .type "tuple", data := .seq items.toList.reverse.toArray } }) (hsz : items.size ≤ sizeLine) : wpAny (model prog w) A (getItem (.ref t) (.ref sl)) Q E s := by
  obtain ⟨os, hos, hcs, hds⟩ := id hs
  have hTs : s.TypeIs (.ref sl) "slice" := ⟨os, hos, hcs⟩
  have hok : sizeOk (.seq items.toList.reverse.toArray) := by
    show items.toList.reverse.toArray.size ≤ sizeLine
    rw [List.size_toArray, List.length_reverse, Array.length_toList]
    exact hsz
  unfold getItem
  try with_reducible refine wpAny_holding ?_
  first | refine wpAny_bind (wpAny_pure ?_) | skip
  refine wpAny_bind (wpAny_sequenceKey ht.typeIs (by decide) ?_)
  refine wpAny_bind (wpAny_callSpecial?_slot (name := Str.ofString "__getitem__") ht.typeIs PyProof.Rows.slot_tuple_getitem
    (wpAny_call_entry PyProof.Rows.slot_tuple_getitem ht.typeIs entry_tuple_getitem ?_ (args_tuple_getitem _ _)))
  show wpAny _ _ (Builtin.Tuple.tupleItemsOf (.ref t) >>= _) _ _ s
  refine wpAny_bind (tupleItemsOf_ ht ?_)
  refine wpAny_bind (wpAny_typeOf hTs ?_)
  rw [if_pos (by decide)]
  have key : ∀ Q' : Int × Int × Nat → Shared → Prop, Q' ((items.size : Int) - 1, -1, items.size) s → wpAny (model prog w) A.in1 (Builtin.Slice.sliceApplied (.ref sl) (pure (items.size : Int))) Q' E s := fun Q' hq => by
    unfold Builtin.Slice.sliceApplied Builtin.Slice.sliceFields
    refine wpAny_bind (wpAny_bind (wpAny_field hos hds (x := .none) rfl (wpAny_bind (wpAny_field hos hds (x := .none) rfl (wpAny_bind (wpAny_field hos hds (x := .int (-1) tk) rfl (wpAny_pure ?_)))))))
    refine wpAny_bind (HT.slicePart_ (.int (-1) tk) ?_)
    show wpAny _ _ (if ((-1 : Int) == 0) = true then _ else _) _ _ s
    rw [if_neg (by decide)]
    refine wpAny_bind (HT.slicePart_ .none (wpAny_bind (HT.slicePart_ .none (wpAny_bind (wpAny_pure ?_)))))
    show wpAny _ _ (pure ((items.size : Int) - 1, (-1 : Int), Builtin.Slice.slicePlaces ((items.size : Int) - 1) (-1) (-1))) _ _ s
    have e : Builtin.Slice.slicePlaces ((items.size : Int) - 1) (-1) (-1) = items.size := by
      unfold Builtin.Slice.slicePlaces
      have h1 : ¬ (-1 : Int) > 0 := by decide
      rw [if_neg h1]
      have h2 : (- -1 : Int) = 1 := by decide
      rw [h2, Int.ediv_one]
      split <;> omega
    rw [e]
    exact wpAny_pure hq
  refine wpAny_bind (key _ ?_)
  show wpAny _ _ (if (((items.size : Int) - 1 == 0) && ((-1 : Int) == 1) && (items.size == items.size)) = true then _ else _) _ _ s
  rw [if_neg (by simp), rev_pick]
  first
    | exact wpAny_bind (m := Builtin.Tuple.tupleExact _) (wpAny_newObj_type (wpAny_pure ⟨_, rfl, wpAny_pure h⟩) hok)
    | exact wpAny_bind (m := Builtin.Tuple.tupleExact _) (wpAny_newObj_type (wpAny_bind (wpAny_pure (wpAny_pure ⟨_, rfl, wpAny_pure h⟩))) hok)
    | exact wpAny_bind (wpAny_bind (m := Builtin.Tuple.tupleExact _) (wpAny_newObj_type (wpAny_pure (wpAny_pure ⟨_, rfl, wpAny_pure h⟩)) hok))
    | exact wpAny_bind (wpAny_bind (m := Builtin.Tuple.tupleExact _) (wpAny_newObj_type (wpAny_pure ⟨_, rfl, wpAny_pure h⟩) hok))
end

section
variable {X : Cx}
def rRV (c : Sx) : V → Hp → VK → Prop := fun x H Q => ∃ N dx dz, NTr N H ∧ RepB c N H x dx ∧ revD dx = some dz ∧ ∀ z H', Grow H H' → Rep c N H' z dz → Q z H'
theorem pe_revB {e : Expr} {te : TE} {k : Nat} {p1 p2 p3 pos : Pos} (he : PE X e te) : PE X (.Subscript e (.Slice none none (some (.UnaryOp .USub (.Constant (.int 1) k p1) p2)) p3) pos) (tUn (rRV (sx X)) te) := by
  refine ⟨fun pins s σ H Q I h => ?_⟩
  refine Subscript_ (thn (he.run pins s σ H _ I h) fun v s1 ⟨x, H1, I1, r1, q1⟩ => ?_)
  have hst : PO X (some (.UnaryOp .USub (.Constant (.int 1) k p1) p2)) (tPart (tUn (rU fun i => .int (-i)) (tC (.int 1)))) := po_some (pe_un un_neg pe_int)
  refine wpAny_Slice (thn (po_none.run pins s1 σ H1 (fun o H2 => o = none ∧ H2 = H1) I1 ⟨rfl, rfl⟩) fun vl s2 ⟨l, H2, I2, pl, el, e2⟩ => ?_)
  subst el e2
  refine thn (po_none.run pins s2 σ H2 (fun o H3 => o = none ∧ H3 = H2) I2 ⟨rfl, rfl⟩) fun vu s3 ⟨u, H3, I3, pu, eu, e3⟩ => ?_
  subst eu e3
  refine thn (hst.run pins s3 σ H3 (fun o H4 => o = some (-1) ∧ H4 = H3) I3 ⟨1, rfl, -1, rfl, rfl, rfl⟩) fun vs s4 ⟨o, H4, I4, ps, eo, e4⟩ => ?_
  subst eo e4
  have I5 : Inv X pins σ H4 { s4 with heap := s4.heap.push { cls := .type "slice", data := .fields #[vl, vu, vs] } } := I4.kept (t' := s4.toks) fun b ob q => Heap.get?_push_of_some _ q
  show wpAny (model X.prog X.w) X.A (subscriptTail e (.Slice none none (some (.UnaryOp .USub (.Constant (.int 1) k p1) p2)) p3) v (.ref s4.heap.objs.size)) (EP X pins σ Q) X.xe { s4 with heap := s4.heap.push { cls := .type "slice", data := .fields #[vl, vu, vs] } }
  obtain ⟨N, dx, dz, nt, hx, er, q⟩ := q1
  unfold revD at er
  split at er
  · cases er
    obtain ⟨a, xs, rfl, h1, h2⟩ := hx.list
    cases r1
    obtain ⟨its, r, ht, hz⟩ := I5.list (.inl (.inl h1))
    have hlen := r.length
    refine tail_any (ops := [.ref a, .ref s4.heap.objs.size]) ht.isList.typeIs (PySem.slot_list_getitem.lookup) ?_ (by with_unfolding_all rfl)
    refine wpAny_getItem_list_slice ht.isList (Heap.IsSliceOf.new _ vl vu vs) pl pu ps (by decide) ?_ (by rw [List.size_toArray]; omega)
    rw [PySem.W.krv_pick]
    refine ⟨.ref _, _, I5.laid (t' := s4.toks) (o := .lst xs.reverse) (fun b ob q => Heap.get?_push_of_some _ q) (Nat.le_refl _) ?_, rfl, q _ _ (.upd (I5.hok.fresh (Nat.le_refl _))) (.newL nt (I5.hok.fresh (Nat.le_refl _)) h2.reverse)⟩
    exact ⟨by rw [List.length_reverse]; exact hz, _, 0, r.reverse, Heap.get?_push_size _ rfl⟩
  · cases er
    obtain ⟨a, xs, rfl, h1, h2⟩ := hx.tuple
    cases r1
    obtain ⟨its, r, ht, hz⟩ := I5.tuple h1
    have hlen := r.length
    cases pl
    cases pu
    cases ps with
    | int _ tk =>
      refine tail_any (ops := [.ref a, .ref s4.heap.objs.size]) ht.typeIs (PyProof.Rows.slot_tuple_getitem.lookup) ?_ (by with_unfolding_all rfl)
      refine tuple_rev ht (Heap.IsSliceOf.new _ _ _ _) ?_ (by rw [List.size_toArray]; omega)
      refine ⟨.ref _, _, I5.laid (t' := s4.toks) (o := .tup xs.reverse) (fun b ob q => Heap.get?_push_of_some _ q) (Nat.le_refl _) ?_, rfl, q _ _ (.upd (I5.hok.fresh (Nat.le_refl _))) (.newT nt (I5.hok.fresh (Nat.le_refl _)) h2.reverse)⟩
      exact ⟨by rw [List.length_reverse]; exact hz, _, r.reverse, IsTup.new _ _⟩
  · split at er
    · rename_i z hz
      cases er
      obtain rfl := hx.str
      obtain ⟨t, rfl⟩ := r1
      cases pl
      cases pu
      cases ps with
      | int _ tk =>
        refine tail_any (ops := [.str z t, .ref s4.heap.objs.size]) (typeIs_str _ _ _) F.slot_str_getitem.lookup ?_ (by with_unfolding_all rfl)
        refine wpAny_getItem_str_slice (l := none) (u := none) (st := some (-1, tk)) (Heap.IsSliceOf.new _ _ _ _) rfl ?_
        have e : ((Builtin.Str.strSliceIndices none none (-1) z.length).filterMap (z.cps[·]?)) = z.cps.toList.reverse := by
          have e1 : Builtin.Str.strSliceIndices none none (-1) z.length = sliceRange ((z.length : Int) - 1) (-1) (-1) := rfl
          rw [e1, PySem.W.krv_sliceRange, PySem.W.krv_range, List.filterMap_reverse]
          exact congrArg _ (PySem.W.krv_all z.cps)
        show Made.post (Made.str ⟨((Builtin.Str.strSliceIndices none none (-1) z.length).filterMap (z.cps[·]?)).toArray⟩) (EP X pins σ Q) _
        rw [e]
        have e2 : (⟨z.cps.toList.reverse.toArray⟩ : Str) = ⟨z.cps.reverse⟩ := by
          congr 1
          rw [← Array.toList_reverse]
        rw [e2]
        refine ⟨?_, .str _, H4, I5.tok _, ⟨_, rfl⟩, q _ _ .refl (.str _)⟩
        show z.cps.reverse.size ≤ sizeLine
        rw [Array.size_reverse]
        exact okLen_line hz
    · cases er
  · cases er
end
end G

set_option Elab.async false
set_option linter.all false
set_option maxRecDepth 100000
set_option autoImplicit false
/-! G6: built-in functions, by values. -/
namespace G
open PySem PySem.Spec PyProof.Rows L2

inductive RepsB (c : Sx) (N : NG) (H : Hp) : List V → List D → Prop
  | nil : RepsB c N H [] []
  | cons {v : V} {vs : List V} {d : D} {ds : List D} : RepB c N H v d → RepsB c N H vs ds → RepsB c N H (v :: vs) (d :: ds)
def rC (c : Sx) (f : List D → Option D) : List V → Hp → VK → Prop := fun vs H Q => ∃ N ds dz, NTr N H ∧ RepsB c N H vs ds ∧ f ds = some dz ∧ ∀ z H', Grow H H' → Rep c N H' z dz → Q z H'
section
variable {c : Sx} {N : NG} {H : Hp}
theorem RepsB.one {vs : List V} {d : D} (h : RepsB c N H vs [d]) : ∃ v, vs = [v] ∧ RepB c N H v d := by
  cases h with
  | cons h t => cases t; exact ⟨_, rfl, h⟩
theorem RepsB.two {vs : List V} {d e : D} (h : RepsB c N H vs [d, e]) : ∃ v u, vs = [v, u] ∧ RepB c N H v d ∧ RepB c N H u e := by
  cases h with
  | cons h t =>
    cases t with
    | cons h' t => cases t; exact ⟨_, _, rfl, h, h'⟩
end
section
variable {X : Cx}
theorem line_2_63 {n : Nat} (h : n ≤ sizeLine) : ¬ ((n : Int) ≥ 2 ^ 63) := by
  have := line63
  omega
theorem cr_len : CallR X (.builtin "len") (rC (sx X) (biD .len)) := by
  intro pins s σ H vs us Q I r h
  obtain ⟨N, ds, dz, nt, hd, e, q⟩ := h
  unfold biD at e
  split at e <;> first | contradiction | (rename_i hb; cases hb) | skip
  · cases e
    obtain ⟨v, rfl, hv⟩ := hd.one
    obtain ⟨a, ws, rfl, h1, h2⟩ := hv.list
    exact call_len_seq pins s σ H _ us Q I r ⟨a, ws, rfl, .inl (.inl (.inl h1)), by rw [h2.length]; exact q _ _ .refl (.int _)⟩
  · cases e
    obtain ⟨v, rfl, hv⟩ := hd.one
    obtain ⟨a, ws, rfl, h1, h2⟩ := hv.tuple
    exact call_len_seq pins s σ H _ us Q I r ⟨a, ws, rfl, .inr h1, by rw [h2.length]; exact q _ _ .refl (.int _)⟩
  · split at e
    · rename_i kvs hz0
      cases e
      obtain ⟨v, rfl, hv⟩ := hd.one
      obtain ⟨a, es, ep, xs, rfl, h1, h2, h3, h4⟩ := hv.dict
      obtain ⟨g1, g2⟩ := dict_of I h1 h2 h3 h4
      obtain ⟨u, rfl, ru⟩ := r.one
      cases ru
      have hl := repK_length h4
      have hz : (pairsH xs).length = kvs.length := by rw [pairsH_length xs, hl]
      have hz1 := okLen_line hz0
      refine PyProof.Rows.call_len_slot (n := (pairsH xs).length) g1.typeIs F.slot_dict_len (fun Q' hq => len_keyed g2 ⟨xs, g1, rfl⟩ hq) (by omega) (line_2_63 (by omega)) ⟨.int _, H, I.tok _, ⟨_, rfl⟩, ?_⟩
      rw [hz]
      exact q _ _ .refl (.int _)
    · cases e
  · split at e
    · rename_i z hz
      cases e
      obtain ⟨v, rfl, hv⟩ := hd.one
      exact call_len_str pins s σ H _ us Q I r ⟨z, by rw [hv.str], okLen_line hz, q _ _ .refl (.int _)⟩
    · cases e
theorem signs_vals {x : Str} : ∀ {n : Nat} {l : List Value}, l.length + n = x.cps.size → (∀ j v, l[j]? = some v → SignAt x (n + j) v) → Vals ((x.cps.toList.drop n).map fun c => V.str ⟨#[c]⟩) l
  | n, [], h, _ => by
    rw [List.drop_of_length_le (by rw [Array.length_toList]; simp at h; omega)]
    exact .nil
  | n, v :: l, h, hl => by
    obtain ⟨c, u, e1, e2⟩ := hl 0 v rfl
    rw [Nat.add_zero] at e1
    have hn : n < x.cps.toList.length := by rw [Array.length_toList]; simp only [List.length_cons] at h; omega
    have e3 : x.cps.toList[n] = c := by
      have := Array.getElem?_eq_some_iff.mp e1
      obtain ⟨_, e⟩ := this
      rw [Array.getElem_toList]
      exact e
    rw [List.drop_eq_getElem_cons hn, e3, List.map_cons]
    refine .cons ⟨u, e2⟩ (signs_vals (by simp only [List.length_cons] at h; omega) fun j w hj => ?_)
    have := hl (j + 1) w (by simpa using hj)
    rw [show n + 1 + j = n + (j + 1) by omega]
    exact this
theorem chars_rep {N : NG} {H : Hp} (z : Str) : RepAll (sx X) N H (z.cps.toList.map fun c => V.str ⟨#[c]⟩) (charsD z) := by
  unfold charsD
  induction z.cps.toList with
  | nil => exact .nil
  | cons c l ih => exact .cons (.str _) ih
theorem cr_tuple (hc : X.A.handled = none) : CallR X (.type "tuple") (rC (sx X) (biD .tuple)) := by
  intro pins s σ H vs us Q I r h
  obtain ⟨N, ds, dz, nt, hd, e, q⟩ := h
  unfold biD at e
  split at e <;> first | contradiction | (rename_i hb; cases hb) | skip
  · cases e
    obtain ⟨v, rfl, hv⟩ := hd.one
    obtain ⟨a, ws, rfl, h1, h2⟩ := hv.list
    exact call_tuple_of pins s σ H _ us Q I r ⟨a, ws, rfl, .inl ⟨.inl (.inl h1), fun p hp => q _ _ (.upd hp) (.newT nt hp h2)⟩⟩
  · cases e
    obtain ⟨v, rfl, hv⟩ := hd.one
    obtain ⟨a, ws, rfl, h1, h2⟩ := hv.tuple
    refine call_tuple_of pins s σ H _ us Q I r ⟨a, ws, rfl, .inr ⟨h1, ?_⟩⟩
    cases hv with | of hv => exact q _ _ .refl hv
  · split at e
    · rename_i z hz
      cases e
      obtain ⟨v, rfl, hv⟩ := hd.one
      obtain rfl := hv.str
      obtain ⟨u, rfl, ru⟩ := r.one
      obtain ⟨t, rfl⟩ := ru
      have hz1 : z.cps.size ≤ sizeLine := okLen_line hz
      refine call_tuple_str hc z t (fun h' tk acc hk hacc => ?_) hz1
      have I1 : Inv X pins σ H { s with heap := h', toks := tk } := I.kept hk
      have hv : Vals (z.cps.toList.map fun c => V.str ⟨#[c]⟩) acc.toList := by
        have := signs_vals (x := z) (n := 0) (l := acc.toList) (by rw [Array.length_toList, hacc.1]; rfl) fun j w hj => by
          rw [Nat.zero_add]
          exact hacc.2 j w (by rw [← Array.getElem?_toList]; exact hj)
        rwa [List.drop_zero] at this
      have hp : H h'.objs.size = none := I1.hok.fresh (Nat.le_refl _)
      refine ⟨.ref h'.objs.size, _, I1.laid (t' := tk) (o := .tup (z.cps.toList.map fun c => V.str ⟨#[c]⟩)) (fun b ob q => Heap.get?_push_of_some _ q) (Nat.le_refl _) ?_, rfl, q _ _ (.upd hp) (.newT nt hp (chars_rep z))⟩
      refine ⟨by rw [List.length_map, Array.length_toList]; exact hz1, _, hv, ?_⟩
      have e : acc = acc.toList.toArray := by simp
      rw [e]
      exact IsTup.new _ _
    · cases e
theorem repk_keys {c : Sx} {N : NG} {H : Hp} : ∀ {xs : List (NestedKey × Addr × Value)} {kvs : List (D × D)}, RepK c N H xs kvs → RepAll c N H (xs.map fun x => V.ref x.2.1) (kvs.map (·.1))
  | _, _, .nil => .nil
  | _, _, .cons _ h2 _ _ h5 => .cons h2 (repk_keys h5)
theorem cr_list (hc : X.A.handled = none) : CallR X (.type "list") (rC (sx X) (biD .list)) := by
  intro pins s σ H vs us Q I r h
  obtain ⟨N, ds, dz, nt, hd, e, q⟩ := h
  unfold biD at e
  split at e <;> first | contradiction | (rename_i hb; cases hb) | skip
  · cases e
    obtain ⟨v, rfl, hv⟩ := hd.one
    obtain ⟨a, ws, rfl, h1, h2⟩ := hv.list
    exact call_list_of pins s σ H _ us Q I r ⟨a, ws, rfl, .inl (.inl (.inl h1)), fun p hp => q _ _ (.upd hp) (.newL nt hp h2)⟩
  · cases e
    obtain ⟨v, rfl, hv⟩ := hd.one
    obtain ⟨a, ws, rfl, h1, h2⟩ := hv.tuple
    exact call_list_of pins s σ H _ us Q I r ⟨a, ws, rfl, .inr h1, fun p hp => q _ _ (.upd hp) (.newL nt hp h2)⟩
  · split at e
    · rename_i kvs hz
      cases e
      obtain ⟨v, rfl, hv⟩ := hd.one
      obtain ⟨a, es, ep, xs, rfl, h1, h2, h3, h4⟩ := hv.dict
      obtain ⟨u, rfl, ru⟩ := r.one
      cases ru
      obtain ⟨⟨raw, hs⟩, _⟩ := I.hok a _ h1
      have hl := repK_length h4
      have hes : es.size = xs.length := size_of_entries h2
      refine PySem.W.kdl_call (PySem.KdlSrc.rawDict (ep := ep) (es := es) hs) hc raw (by rw [hes, hl]; exact okLen_line hz) fun h' tk acc' c' hk hS hacc => ?_
      have I1 : Inv X pins σ H { s with heap := h', toks := tk } := I.kept hk
      have hv : Vals (xs.map fun x => V.ref x.2.1) acc'.toList := by
        obtain ⟨g1, g2⟩ := hacc
        have key : ∀ (ys : List (NestedKey × Addr × Value)) (l : List Value) (n : Nat), l.length = ys.length → (∀ j, (h : j < ys.length) → xs[n + j]? = some ys[j]) → (∀ j v, l[j]? = some v → ∃ hi : n + j < es.size, v = es[n + j].key) → Vals (ys.map fun x => V.ref x.2.1) l := by
          intro ys
          induction ys with
          | nil =>
            intro l n hl _ _
            rw [List.eq_nil_of_length_eq_zero hl]
            exact .nil
          | cons y ys ih =>
            intro l n hl hy hv
            cases l with
            | nil => simp at hl
            | cons v l =>
              obtain ⟨hi, e⟩ := hv 0 v rfl
              have hx := hy 0 (by simp)
              have he := entry_at h2 (n + 0)
              rw [hx, Array.getElem?_eq_getElem hi] at he
              have he' : es[n + 0] = entryOfKey (nestedKind X.prog X.w) y := Option.some.inj he
              refine .cons ?_ (ih l (n + 1) (by simpa using hl) (fun j hj => ?_) fun j v hj => ?_)
              · rw [e, he']
                exact rfl
              · have := hy (j + 1) (by simpa using hj)
                rw [show n + 1 + j = n + (j + 1) by omega]
                simpa using this
              · have := hv (j + 1) v (by simpa using hj)
                simp only [show n + (j + 1) = n + 1 + j by omega] at this
                exact this
        refine key xs acc'.toList 0 (by rw [Array.length_toList, g1, hes]) (fun j h => by rw [Nat.zero_add]; exact List.getElem?_eq_getElem h) fun j v hj => ?_
        have := g2 j v (by rw [← Array.getElem?_toList]; exact hj)
        simpa using this
      have hp : H s.heap.objs.size = none := I.hok.fresh (Nat.le_refl _)
      have hrep : RepAll (sx X) N H (xs.map fun x => V.ref x.2.1) (kvs.map (·.1)) := repk_keys h4
      refine ⟨.ref s.heap.objs.size, upd H s.heap.objs.size (.lst (xs.map fun x => V.ref x.2.1)), ?_, rfl, q _ _ (.upd hp) (.newL nt hp hrep)⟩
      refine I.laid (t' := tk) hk (Nat.le_refl _) ⟨by rw [List.length_map, hl]; exact okLen_line hz, acc'.toList, c', hv, ?_⟩
      rw [hS]
    · cases e
theorem cr_int : CallR X (.type "int") (rC (sx X) (biD .int)) := by
  intro pins s σ H vs us Q I r h
  obtain ⟨N, ds, dz, nt, hd, e, q⟩ := h
  unfold biD at e
  split at e <;> first | contradiction | (rename_i hb; cases hb) | skip
  · cases e
    obtain ⟨v, rfl, hv⟩ := hd.one
    exact call_int1 pins s σ H _ us Q I r (.inl ⟨_, by rw [hv.int], q _ _ .refl (.int _)⟩)
  · cases e
    obtain ⟨v, rfl, hv⟩ := hd.one
    exact call_int1 pins s σ H _ us Q I r (.inr ⟨_, by rw [hv.bool], q _ _ .refl (.int _)⟩)
theorem cr_str : CallR X (.type "str") (rC (sx X) (biD .str)) := by
  intro pins s σ H vs us Q I r h
  obtain ⟨N, ds, dz, nt, hd, e, q⟩ := h
  unfold biD at e
  split at e <;> first | contradiction | (rename_i hb; cases hb) | skip
  split at e
  · rename_i i hi
    cases e
    obtain ⟨v, rfl, hv⟩ := hd.one
    exact call_str_int pins s σ H _ us Q I r ⟨i, by rw [hv.int], of_decide_eq_true hi, q _ _ .refl (.str _)⟩
  · cases e
theorem cr_abs : CallR X (.builtin "abs") (rC (sx X) (biD .abs)) := by
  intro pins s σ H vs us Q I r h
  obtain ⟨N, ds, dz, nt, hd, e, q⟩ := h
  unfold biD at e
  split at e <;> first | contradiction | (rename_i hb; cases hb) | skip
  cases e
  obtain ⟨v, rfl, hv⟩ := hd.one
  exact call_abs pins s σ H _ us Q I r ⟨_, by rw [hv.int], q _ _ .refl (.int _)⟩
theorem cr_repr (hg : X.A.guards = some []) (hu : X.A.units + 65 < cLine) : CallR X (.builtin "repr") (rC (sx X) (biD .repr)) := by
  intro pins s σ H vs us Q I r h
  obtain ⟨N, ds, dz, nt, hd, e, q⟩ := h
  unfold biD at e
  split at e <;> first | contradiction | (rename_i hb; cases hb) | skip
  split at e
  · rename_i xs hb
    cases e
    rw [Bool.and_eq_true, Bool.and_eq_true, Bool.and_eq_true] at hb
    obtain ⟨⟨⟨h1, h2⟩, h3⟩, h4⟩ := hb
    have h2' : (PyData.tuple xs).hasDict = false := by simpa using h2
    have h3' := of_decide_eq_true h3
    obtain ⟨v, rfl, hv⟩ := hd.one
    obtain ⟨a, ws, rfl, _⟩ := hv.tuple
    obtain ⟨u, rfl, ru⟩ := r.one
    cases ru
    obtain ⟨as, rd⟩ := Dp.reads I (.tuple xs) _ _ (hv.dpN h2') (show RelV (V.ref a) (Value.ref a) from rfl)
    refine repr_of_reads' rd h1 (PyData.noDict_hsm h2') hg (by omega) (fun _ _ e => e) (fun h' u tk hk => ⟨.str _, H, I.kept hk, ⟨_, rfl⟩, q _ _ .refl (.str _)⟩) (okLen_line h4)
  · cases e

/-! ### isinstance -/
def tyN : D → String
  | .none => "NoneType" | .bool _ => "bool" | .int _ => "int" | .str _ => "str" | .tuple _ => "tuple" | .list _ => "list" | .dict _ => "dict"
theorem kit_B {pins : List (Addr × Obj)} {σ : L2.St} {H : Hp} {s : Shared} {N : NG} {x : V} {u : Value} {d : D} (I : Inv X pins σ H s) (rx : RelV x u) (h : RepB (sx X) N H x d) :
    ∃ P : Heap → Prop, PySem.W.KitX X.K u (.type (tyN d)) P ∧ P s.heap ∧ u ≠ .builtin "__main__.__loader__#opaque" := by
  cases d with
  | none => obtain rfl := h.none; exact kit_of I rx (.base .non)
  | bool b => obtain rfl := h.bool; exact kit_of I rx (.base (.bl b))
  | int b => obtain rfl := h.int; exact kit_of I rx (.base (.int b))
  | str b => obtain rfl := h.str; exact kit_of I rx (.base (.str b))
  | list ds => obtain ⟨a, vs, rfl, h1, _⟩ := h.list; exact kit_of I rx (.base (.lst h1))
  | tuple ds =>
    obtain ⟨a, vs, rfl, h1, _⟩ := h.tuple
    rcases h1 with (h1 | ⟨o, h1⟩) | ⟨o, its, n, h1, h2, _⟩
    · exact kit_of I rx (.base (.tup h1))
    · exact kit_of I rx (.fTuple h1)
    · exact kit_of I rx (.kTuple h1 h2)
  | dict kvs =>
    obtain ⟨a, es, ep, xs, rfl, h1, _⟩ := h.dict
    obtain ⟨⟨⟨o, g1, g2, _⟩, _⟩, _⟩ := I.hok a _ h1
    cases rx
    exact ⟨_, PySem.W.kitx_dict, ⟨o, g1, g2.1⟩, fun z => nomatch z⟩
def isB (C : String) (d : D) : Bool := match C with
  | "tuple" => (match d with | .tuple _ => true | _ => false)
  | "int" => (match d with | .int _ => true | .bool _ => true | _ => false)
  | "bool" => (match d with | .bool _ => true | _ => false)
  | "str" => (match d with | .str _ => true | _ => false)
  | "list" => (match d with | .list _ => true | _ => false)
  | _ => false
theorem kit_tuple {K : PySem.W.Frag} : ∀ d : D, PySem.W.kitOne K (.type (tyN d)) (.type "tuple") = some (isB "tuple" d)
  | .none => (kit_ty (by decide +kernel) : PySem.W.kitOne K (.type "NoneType") (.type "tuple") = some false)
  | .bool _ => (kit_ty (by decide +kernel) : PySem.W.kitOne K (.type "bool") (.type "tuple") = some false)
  | .int _ => (kit_ty (by decide +kernel) : PySem.W.kitOne K (.type "int") (.type "tuple") = some false)
  | .str _ => (kit_ty (by decide +kernel) : PySem.W.kitOne K (.type "str") (.type "tuple") = some false)
  | .list _ => (kit_ty (by decide +kernel) : PySem.W.kitOne K (.type "list") (.type "tuple") = some false)
  | .tuple _ => (kit_ty (by decide +kernel) : PySem.W.kitOne K (.type "tuple") (.type "tuple") = some true)
  | .dict _ => (kit_ty (by decide +kernel) : PySem.W.kitOne K (.type "dict") (.type "tuple") = some false)
theorem kit_int {K : PySem.W.Frag} : ∀ d : D, PySem.W.kitOne K (.type (tyN d)) (.type "int") = some (isB "int" d)
  | .none => (kit_ty (by decide +kernel) : PySem.W.kitOne K (.type "NoneType") (.type "int") = some false)
  | .bool _ => (kit_ty (by decide +kernel) : PySem.W.kitOne K (.type "bool") (.type "int") = some true)
  | .int _ => (kit_ty (by decide +kernel) : PySem.W.kitOne K (.type "int") (.type "int") = some true)
  | .str _ => (kit_ty (by decide +kernel) : PySem.W.kitOne K (.type "str") (.type "int") = some false)
  | .list _ => (kit_ty (by decide +kernel) : PySem.W.kitOne K (.type "list") (.type "int") = some false)
  | .tuple _ => (kit_ty (by decide +kernel) : PySem.W.kitOne K (.type "tuple") (.type "int") = some false)
  | .dict _ => (kit_ty (by decide +kernel) : PySem.W.kitOne K (.type "dict") (.type "int") = some false)
theorem kit_bool {K : PySem.W.Frag} : ∀ d : D, PySem.W.kitOne K (.type (tyN d)) (.type "bool") = some (isB "bool" d)
  | .none => (kit_ty (by decide +kernel) : PySem.W.kitOne K (.type "NoneType") (.type "bool") = some false)
  | .bool _ => (kit_ty (by decide +kernel) : PySem.W.kitOne K (.type "bool") (.type "bool") = some true)
  | .int _ => (kit_ty (by decide +kernel) : PySem.W.kitOne K (.type "int") (.type "bool") = some false)
  | .str _ => (kit_ty (by decide +kernel) : PySem.W.kitOne K (.type "str") (.type "bool") = some false)
  | .list _ => (kit_ty (by decide +kernel) : PySem.W.kitOne K (.type "list") (.type "bool") = some false)
  | .tuple _ => (kit_ty (by decide +kernel) : PySem.W.kitOne K (.type "tuple") (.type "bool") = some false)
  | .dict _ => (kit_ty (by decide +kernel) : PySem.W.kitOne K (.type "dict") (.type "bool") = some false)
theorem kit_str {K : PySem.W.Frag} : ∀ d : D, PySem.W.kitOne K (.type (tyN d)) (.type "str") = some (isB "str" d)
  | .none => (kit_ty (by decide +kernel) : PySem.W.kitOne K (.type "NoneType") (.type "str") = some false)
  | .bool _ => (kit_ty (by decide +kernel) : PySem.W.kitOne K (.type "bool") (.type "str") = some false)
  | .int _ => (kit_ty (by decide +kernel) : PySem.W.kitOne K (.type "int") (.type "str") = some false)
  | .str _ => (kit_ty (by decide +kernel) : PySem.W.kitOne K (.type "str") (.type "str") = some true)
  | .list _ => (kit_ty (by decide +kernel) : PySem.W.kitOne K (.type "list") (.type "str") = some false)
  | .tuple _ => (kit_ty (by decide +kernel) : PySem.W.kitOne K (.type "tuple") (.type "str") = some false)
  | .dict _ => (kit_ty (by decide +kernel) : PySem.W.kitOne K (.type "dict") (.type "str") = some false)
theorem kit_list {K : PySem.W.Frag} : ∀ d : D, PySem.W.kitOne K (.type (tyN d)) (.type "list") = some (isB "list" d)
  | .none => (kit_ty (by decide +kernel) : PySem.W.kitOne K (.type "NoneType") (.type "list") = some false)
  | .bool _ => (kit_ty (by decide +kernel) : PySem.W.kitOne K (.type "bool") (.type "list") = some false)
  | .int _ => (kit_ty (by decide +kernel) : PySem.W.kitOne K (.type "int") (.type "list") = some false)
  | .str _ => (kit_ty (by decide +kernel) : PySem.W.kitOne K (.type "str") (.type "list") = some false)
  | .list _ => (kit_ty (by decide +kernel) : PySem.W.kitOne K (.type "list") (.type "list") = some true)
  | .tuple _ => (kit_ty (by decide +kernel) : PySem.W.kitOne K (.type "tuple") (.type "list") = some false)
  | .dict _ => (kit_ty (by decide +kernel) : PySem.W.kitOne K (.type "dict") (.type "list") = some false)
def clsOf : Bi → Option String
  | .isTuple => some "tuple" | .isInt => some "int" | .isBool => some "bool" | .isStr => some "str" | .isList => some "list" | _ => none
theorem kit_cls {K : PySem.W.Frag} {b : Bi} {C : String} (h : clsOf b = some C) (d : D) : PySem.W.kitOne K (.type (tyN d)) (.type C) = some (isB C d) ∧ biD b [d] = some (.bool (isB C d)) := by
  cases b <;> first | (cases h; done) | skip
  all_goals cases h
  · exact ⟨kit_tuple d, by cases d <;> rfl⟩
  · exact ⟨kit_int d, by cases d <;> rfl⟩
  · exact ⟨kit_bool d, by cases d <;> rfl⟩
  · exact ⟨kit_str d, by cases d <;> rfl⟩
  · exact ⟨kit_list d, by cases d <;> rfl⟩
/-- isinstance(x, C): the class is the second argument -/
def rIsB (c : Sx) (C : String) (b : Bi) : List V → Hp → VK → Prop := fun vs H Q => ∃ N x d, vs = [x, .ty C] ∧ RepB c N H x d ∧ ∀ z, biD b [d] = some (.bool z) → Q (.bl z) H
theorem cr_isB {b : Bi} {C : String} (hb : clsOf b = some C) : CallR X (.builtin "isinstance") (rIsB (sx X) C b) := by
  intro pins s σ H vs us Q I r h
  obtain ⟨N, x, d, rfl, hd, q⟩ := h
  obtain ⟨u1, u2, rfl, r1, r2⟩ := vals2 r
  obtain rfl : u2 = Value.type C := r2
  obtain ⟨P, Z, p, hx⟩ := kit_B I r1 hd
  obtain ⟨k1, k2⟩ := kit_cls (K := X.K) hb d
  exact PySem.W.kia_one Z I.kIn p k1 hx fun tk => ⟨.bl _, H, I.tok tk, rfl, q _ k2⟩
/-- isinstance(x, (int, tuple)) -/
def rIsIT (c : Sx) : List V → Hp → VK → Prop := fun vs H Q => ∃ N x d tp, vs = [x, .ref tp] ∧ H tp = some (.tup [.ty "int", .ty "tuple"]) ∧ RepB c N H x d ∧ ∀ z, biD .isIntTup [d] = some (.bool z) → Q (.bl z) H
theorem kit_it {K : PySem.W.Frag} (d : D) : PySem.W.kitAny K (.type (tyN d)) [.type "int", .type "tuple"] = some (isB "int" d || isB "tuple" d) ∧ biD .isIntTup [d] = some (.bool (isB "int" d || isB "tuple" d)) := by
  refine ⟨kitAny_cons (kit_int d) (fun e => kitAny_cons (kit_tuple d) (fun e2 => ?_) fun e2 => ?_) fun e => ?_, by cases d <;> rfl⟩
  · rw [e, e2]; rfl
  · rw [e2]; simp
  · rw [e]; rfl
theorem cr_isIT : CallR X (.builtin "isinstance") (rIsIT (sx X)) := by
  intro pins s σ H vs us Q I r h
  obtain ⟨N, x, d, tp, rfl, hT, hd, q⟩ := h
  obtain ⟨u1, u2, rfl, r1, r2⟩ := vals2 r
  obtain rfl : u2 = Value.ref tp := r2
  obtain ⟨P, Z, p, hx⟩ := kit_B I r1 hd
  obtain ⟨k1, k2⟩ := kit_it (K := X.K) d
  obtain ⟨_, its, rv, o, h1, h2, n, h3⟩ := (show ObjOk X.prog X.w H s.heap tp (.tup [.ty "int", .ty "tuple"]) from I.hok tp _ hT)
  have e3 := ClsV.all (.cons (.ty "int") (.cons (.ty "tuple") .nil)) rv
  subst e3
  obtain ⟨oc, od, dt, sl⟩ := o
  simp only at h2 h3
  subst h2 h3
  exact PySem.W.kia_tup Z I.kIn p h1 k1 hx fun tk => ⟨.bl _, H, I.tok tk, rfl, q _ k2⟩

/-! ### methods -/
def rM (c : Sx) (f : List D → Option D) : V → List V → Hp → VK → Prop := fun x vs H Q => rC c f (x :: vs) H Q
theorem strs_rep {N : NG} {H : Hp} : ∀ (xs : List D) (ss : List Str) (ws : List V), RepAll (sx X) N H ws xs → strsD xs = some ss → ws = ss.map V.str
  | [], _, _, h, e => by
    cases h
    rw [strsD] at e
    cases e
    rfl
  | .str z :: xs, _, _, h, e => by
    rw [strsD] at e
    obtain ⟨r, e3, rfl⟩ := Option.map_eq_some_iff.mp e
    cases h with
    | cons h1 h2 =>
      cases h1
      rw [strs_rep xs r _ h2 e3]
      rfl
  | .none :: _, _, _, _, e => by simp [strsD] at e
  | .bool _ :: _, _, _, _, e => by simp [strsD] at e
  | .int _ :: _, _, _, _, e => by simp [strsD] at e
  | .list _ :: _, _, _, _, e => by simp [strsD] at e
  | .tuple _ :: _, _, _, _, e => by simp [strsD] at e
  | .dict _ :: _, _, _, _, e => by simp [strsD] at e
theorem mt_joinB : MtR X "str.join" (rM (sx X) fun ds => match ds with | [.str z, d] => if z = Str.ofString "" then biD .join [d] else none | _ => none) := by
  intro pins s σ H x vs v us Q I rx rv h
  obtain ⟨N, ds, dz, nt, hd, e, q⟩ := h
  dsimp only at e
  split at e
  · rename_i z d
    split at e
    · rename_i ez
      subst ez
      obtain ⟨x', y', e1, hx, hy⟩ := hd.two
      cases e1
      unfold biD at e
      split at e <;> first | contradiction | (rename_i hb; cases hb) | skip
      rename_i xs _
      obtain ⟨ss, e1, e2⟩ := Option.bind_eq_some_iff.mp e
      split at e2
      · rename_i hz
        cases e2
        obtain ⟨a, ws, rfl, h1, h2⟩ := hy.tuple
        have hw : ws = ss.map V.str := strs_rep _ _ _ h2 e1
        subst hw
        refine mt_join pins s σ H _ _ v us Q I rx rv ⟨Str.ofString "", a, ss, hx.str, rfl, .inr h1, ?_, q _ _ .refl (.str _)⟩
        have z0 : (Str.ofString "").length = 0 := by decide
        rw [z0, Nat.mul_zero, Nat.add_zero]
        have z1 : (ss.map Str.length).sum ≤ LIM := of_decide_eq_true hz
        exact Nat.le_trans z1 (by decide)
      · cases e2
    · cases e
  · cases e
end
end G

set_option Elab.async false
set_option linter.all false
set_option maxRecDepth 100000
set_option autoImplicit false
/-! G6b: built-in functions over data that can be put in order: min, max, sorted; sum. -/
namespace G
open PySem PySem.Spec PyProof.Rows L2
section
variable {X : Cx} {pins : List (Addr × Obj)} {σ : L2.St} {H : Hp} {s : Shared} {N : NG}
theorem alB_ok {xs : List D} (h : alB xs = true) : PySem.W.AlikeAll xs ∧ PyData.hasDictAll xs = false ∧ PyData.depthAll xs ≤ 60 := by
  unfold alB at h
  simp only [Bool.and_eq_true, Bool.not_eq_true', decide_eq_true_eq] at h
  obtain ⟨⟨⟨h1, h2⟩, h3⟩, h4⟩ := h
  refine ⟨⟨fun x hx y hy => List.all_eq_true.mp (List.all_eq_true.mp h1 x hx) y hy, fun x hx e => ?_⟩, h3, h4⟩
  have := List.all_eq_true.mp h2 x hx
  rw [e] at this
  cases this
/-- a list, read -/
theorem reads_lst {a : Addr} {ws : List V} {xs : List D} (I : Inv X pins σ H s) (hv : RepB (sx X) N H (.ref a) (.list xs)) (h1 : H a = some (.lst ws)) (hd : PyData.hasDictAll xs = false) :
    ∃ (its : List Value) (as : List Addr), Vals ws its ∧ s.heap.IsList a its.toArray ∧ ReadsAll s.heap its xs as := by
  obtain ⟨its, rv, hl, _⟩ := I.list (show SqL X.K H a ws from .inl (.inl h1))
  obtain ⟨as, rd⟩ := Dp.reads I (.list xs) _ _ (hv.dpN (by rw [PyData.hasDict]; exact hd)) (show RelV (V.ref a) (Value.ref a) from rfl)
  have hl' := hl.isList
  obtain ⟨o, ho, _, n, hn⟩ := id hl'
  cases rd with
  | list g1 g2 g3 g4 =>
    rw [ho] at g1
    cases g1
    rw [hn] at g3
    cases g3
    exact ⟨its, _, rv, hl', by simpa using g4⟩
theorem reads_tup {a : Addr} {ws : List V} {xs : List D} (I : Inv X pins σ H s) (hv : RepB (sx X) N H (.ref a) (.tuple xs)) (h1 : SqT X.K H a ws) (hd : PyData.hasDictAll xs = false) :
    ∃ (its : List Value) (as : List Addr), Vals ws its ∧ s.heap.IsTuple a its.toArray ∧ ReadsAll s.heap its xs as := by
  obtain ⟨its, rv, hl, _⟩ := I.tuple h1
  obtain ⟨as, rd⟩ := Dp.reads I (.tuple xs) _ _ (hv.dpN (by rw [PyData.hasDict]; exact hd)) (show RelV (V.ref a) (Value.ref a) from rfl)
  have hl' : s.heap.IsTuple a its.toArray := hl
  obtain ⟨o, ho, _, n, hn⟩ := id hl'
  cases rd with
  | tuple g1 g2 g3 g4 =>
    rw [ho] at g1
    cases g1
    rw [hn] at g3
    cases g3
    exact ⟨its, _, rv, hl', by simpa using g4⟩
/-- which item it is -/
theorem item_of {its : List Value} {ws : List V} {xs : List D} {as bs : List Addr} {i : Nat} {v : Value} {dz : D} {h' : Heap} (rv : Vals ws its) (ra : RepAll (sx X) N H ws xs) (rd : ReadsAll s.heap its xs as) (hi : its[i]? = some v) (hk : ∀ b o, s.heap.get? b = some o → h'.get? b = some o) (r : Reads h' v dz bs) :
    ∃ x : V, RelV x v ∧ Rep (sx X) N H x dz := by
  obtain ⟨cs, r1, hlt, _, _⟩ := PySem.W.readsAll_at rd i v hi
  have r1' := PySem.W.reads_keeps hk r1
  obtain ⟨e, _⟩ := PyProof.Rows.reads_det (fun _ _ e _ => e) r1' r
  obtain ⟨x, hx, rx⟩ := ra.get (show xs[i]? = some (xs.getD i .none) by rw [List.getD_eq_getElem?_getD, List.getElem?_eq_getElem hlt]; rfl)
  obtain ⟨u, hu, ru⟩ := rv.get hx
  rw [hi] at hu
  cases hu
  exact ⟨x, ru, by rw [e]; exact rx⟩
theorem depAll_of {xs : List D} (h : PyData.depthAll xs ≤ 60) (hu : X.A.units + 65 < cLine) : X.A.units + 1 + PyData.depthAll xs < cLine := by omega
theorem seqD_some {d : D} {xs : List D} (h : seqD d = some xs) : d = .list xs ∨ d = .tuple xs := by
  cases d <;> first | (cases h; done) | skip
  · cases h; exact .inl rfl
  · cases h; exact .inr rfl
theorem cr_min1 (hc : X.A.handled = none) (hu : X.A.units + 65 < cLine) : CallR X (.builtin "min") (rC (sx X) (biD .min1)) := by
  intro pins s σ H vs us Q I r h
  obtain ⟨N, ds, dz, nt, hd, e, q⟩ := h
  unfold biD at e
  split at e <;> first | contradiction | (rename_i hb; cases hb) | skip
  rename_i d _
  obtain ⟨xs, e1, e2⟩ := Option.bind_eq_some_iff.mp e
  cases xs with
  | nil => cases e2
  | cons x xs =>
    unfold minD at e2
    dsimp only at e2
    split at e2
    · rename_i hal
      cases e2
      obtain ⟨al, nd, dp⟩ := alB_ok hal
      obtain ⟨v, rfl, hv⟩ := hd.one
      rcases seqD_some e1 with rfl | rfl
      · obtain ⟨a, ws, rfl, h1, h2⟩ := hv.list
        obtain ⟨u, rfl, ru⟩ := r.one
        obtain rfl : u = Value.ref a := ru
        obtain ⟨its, as, rv, hl, rd⟩ := reads_lst I hv h1 nd
        refine PySem.W.min_list_data hc hl (by simpa using rd) al (depAll_of dp hu) fun i v h' tk bs hi hr hk => ?_
        obtain ⟨z, rz, rep⟩ := item_of rv h2 rd (by simpa using hi) hk hr
        exact ⟨z, H, I.kept hk, rz, q _ _ .refl rep⟩
      · obtain ⟨a, ws, rfl, h1, h2⟩ := hv.tuple
        obtain ⟨u, rfl, ru⟩ := r.one
        obtain rfl : u = Value.ref a := ru
        obtain ⟨its, as, rv, hl, rd⟩ := reads_tup I hv h1 nd
        refine PySem.W.min_tuple_data hc hl (by simpa using rd) al (depAll_of dp hu) fun i v h' tk bs hi hr hk => ?_
        obtain ⟨z, rz, rep⟩ := item_of rv h2 rd (by simpa using hi) hk hr
        exact ⟨z, H, I.kept hk, rz, q _ _ .refl rep⟩
    · cases e2
theorem cr_max1 (hc : X.A.handled = none) (hu : X.A.units + 65 < cLine) : CallR X (.builtin "max") (rC (sx X) (biD .max1)) := by
  intro pins s σ H vs us Q I r h
  obtain ⟨N, ds, dz, nt, hd, e, q⟩ := h
  unfold biD at e
  split at e <;> first | contradiction | (rename_i hb; cases hb) | skip
  rename_i d _
  obtain ⟨xs, e1, e2⟩ := Option.bind_eq_some_iff.mp e
  cases xs with
  | nil => cases e2
  | cons x xs =>
    unfold maxD at e2
    dsimp only at e2
    split at e2
    · rename_i hal
      cases e2
      obtain ⟨al, nd, dp⟩ := alB_ok hal
      obtain ⟨v, rfl, hv⟩ := hd.one
      rcases seqD_some e1 with rfl | rfl
      · obtain ⟨a, ws, rfl, h1, h2⟩ := hv.list
        obtain ⟨u, rfl, ru⟩ := r.one
        obtain rfl : u = Value.ref a := ru
        obtain ⟨its, as, rv, hl, rd⟩ := reads_lst I hv h1 nd
        refine PySem.W.max_list_data hc hl (by simpa using rd) al (depAll_of dp hu) fun i v h' tk bs hi hr hk => ?_
        obtain ⟨z, rz, rep⟩ := item_of rv h2 rd (by simpa using hi) hk hr
        exact ⟨z, H, I.kept hk, rz, q _ _ .refl rep⟩
      · obtain ⟨a, ws, rfl, h1, h2⟩ := hv.tuple
        obtain ⟨u, rfl, ru⟩ := r.one
        obtain rfl : u = Value.ref a := ru
        obtain ⟨its, as, rv, hl, rd⟩ := reads_tup I hv h1 nd
        refine PySem.W.max_tuple_data hc hl (by simpa using rd) al (depAll_of dp hu) fun i v h' tk bs hi hr hk => ?_
        obtain ⟨z, rz, rep⟩ := item_of rv h2 rd (by simpa using hi) hk hr
        exact ⟨z, H, I.kept hk, rz, q _ _ .refl rep⟩
    · cases e2
theorem cr_min2 (hc : X.calm = true) : CallR X (.builtin "min") (rC (sx X) (biD .min2)) := by
  intro pins s σ H vs us Q I r h
  obtain ⟨N, ds, dz, nt, hd, e, q⟩ := h
  unfold biD at e
  split at e <;> first | contradiction | (rename_i hb; cases hb) | skip
  cases e
  obtain ⟨v, u, rfl, hv, hw⟩ := hd.two
  exact call_min2 hc pins s σ H _ us Q I r ⟨_, _, by rw [hv.int, hw.int], q _ _ .refl (.int _)⟩
end
section
variable {prog : Program} {w : World} {A : Around} {E : Value → Shared → Prop} {s : Shared}
theorem args_max4 (a b c d : Value) : argsOk "max" ⟨[a, b, c, d], []⟩ := by unfold argsOk; kernel_rfl
/-- max of several: of a new tuple of these -/
theorem call_max_newH {args : List Value} (h2 : 2 ≤ args.length) (hargs : argsOk "max" ⟨args, []⟩) (hz : sizeOk (Data.seq args.toArray)) {Q : Value → Shared → Prop}
    (hb : ∀ (Q : _ → Shared → Prop) s, Q [none, none] s → wpAny (model prog w) A.in1 (Builtin.Builtins.bindParams "max" ["key", "default"] 0 ⟨[], []⟩) Q E s)
    (h : wpAny (model prog w) A.in1 (pyIter (.ref s.heap.objs.size)) (fun it s₂ => ∃ I fp wr G n P St H bt, it = .ref I ∧ PySem.WalksS prog w A.in1 I fp wr G n P St ∧ St 0 s₂ ∧ (∀ b ∈ fp, b < s₂.heap.objs.size) ∧ 0 < n ∧
      (∀ b o, H.get? b = some o → b ∉ wr) ∧ (∀ b o, H.get? b = some o → s₂.heap.get? b = some o) ∧ PySem.CmpIn prog w A.in1 .Gt H P bt ∧ ∀ v s', P (argBest bt (n - 1)) v → PySem.Moved wr G s₂ s' → Q v s') E
      { s with heap := s.heap.push { cls := .type "tuple", data := .seq args.toArray } }) :
    wpAny (model prog w) A (call (.builtin "max") args) Q E s := by
  have hname : (toString "max" ++ toString ".loop" : String) = "max.loop" := by decide
  refine PySem.call_function_tree F.kind_max F.plain_max F.entry_max hargs ?_
  match args, h2, hz, h with
  | a :: b :: rest, _, hz, h =>
    show wpAny _ A.in1 (Builtin.Builtins.bindParams "max" ["key", "default"] 0 ⟨[], []⟩ >>= _) _ _ s
    refine wpAny_bind (hb _ _ ?_)
    show wpAny _ A.in1 (newTuple (a :: b :: rest) >>= _) _ _ s
    refine wpAny_bind (wpAny_newObj_type (hd := hz) ?_)
    refine wpAny_bind (wpAny_mono h (fun it s₂ h₂ => ?_) fun _ _ e => e)
    obtain ⟨I, fp, wr, G, n, P, St, H, bt, rfl, W, hst, hfp, hn, hw, hkeep, hcmp, hQ⟩ := h₂
    refine wpAny_bind (wpAny_newObj_type ?_)
    have hSf : s₂.heap.objs.size ∉ fp := fun hm => Nat.lt_irrefl _ (hfp _ hm)
    rw [hname]
    refine wpAny_pure ⟨plainId_quiet F.plain_max_loop _, PySem.codeAny_max_loop_firstH W H hw bt hcmp s₂.heap.objs.size hSf (PySem.fresh_in hkeep) _ hn (fun b o e => Heap.get?_push_of_some _ (hkeep b o e)) (W.frame 0 s₂ _ s₂.toks hst (Nat.le_refl _) fun b _ o e => Heap.get?_push_of_some _ e) (Heap.get?_push_size _ rfl) fun v s' hP hm => ?_⟩
    exact hQ v s' hP (PySem.Moved.drop_new (tk := s₂.toks) hm (Nat.le_refl _))
theorem max_new_data {args : List Value} {x : D} {xs : List D} {as : List Addr} {Q : Value → Shared → Prop} (h2 : 2 ≤ args.length) (hargs : argsOk "max" ⟨args, []⟩) (hz : sizeOk (Data.seq args.toArray)) (hh : A.handled = none) (hr : ReadsAll s.heap args (x :: xs) as) (ha : PySem.W.AlikeAll (x :: xs)) (hu : A.units + 1 + PyData.depthAll (x :: xs) < cLine)
    (h : ∀ (i : Nat) v h' tk bs, args[i]? = some v → Reads h' v (PySem.W.maxD x xs) bs → (∀ b o, s.heap.get? b = some o → h'.get? b = some o) → Q v { s with heap := h', toks := tk }) :
    wpAny (model prog w) A (call (.builtin "max") args) Q E s := by
  have hT : (s.heap.push { cls := .type "tuple", data := .seq args.toArray }).IsTuple s.heap.objs.size args.toArray := ⟨_, Heap.get?_push_size _ rfl, rfl, 0, rfl⟩
  have k0 : ∀ b o, s.heap.get? b = some o → (s.heap.push { cls := .type "tuple", data := .seq args.toArray }).get? b = some o := fun b o e => Heap.get?_push_of_some _ e
  have hr' : ReadsAll (s.heap.push { cls := .type "tuple", data := .seq args.toArray }) args.toArray.toList (x :: xs) as := by
    have := PyProof.Rows.ReadsAll.keeps k0 hr
    simpa using this
  have hn : args.toArray.size = xs.length + 1 := PySem.W.readsAll_len hr'
  refine call_max_newH h2 hargs hz (fun Q s q => wpAny_of_eq (show Builtin.Builtins.bindParams "max" ["key", "default"] 0 ⟨[], []⟩ = pure [none, none] from rfl) q)
    (PySem.W.iter_tupleW (A := A.in1) (s := { s with heap := s.heap.push { cls := .type "tuple", data := .seq args.toArray } }) hh hT fun s₂ e W st hfp hw hk => ?_)
  refine ⟨_, _, _, _, _, _, _, (s.heap.push { cls := .type "tuple", data := .seq args.toArray }), _, rfl, W, st, hfp, by omega, hw, hk, PySem.W.cmpIn_gt (A := A.in1) (s := { s with heap := s.heap.push { cls := .type "tuple", data := .seq args.toArray } }) hr' ha (by show A.units + 1 + _ < _; exact hu), fun v s' hP m => ?_⟩
  obtain ⟨h', tk, rfl, hk'⟩ := PySem.W.moved_old e rfl m
  obtain ⟨bs, r, _, _, _⟩ := PySem.W.readsAll_atA hr' _ v hP
  have e1 : args.toArray.size - 1 = xs.length := by omega
  have e2 := (PySem.W.argBest_fold (fun a b => PySem.W.dataLt b a) PyData.none x xs xs.length (Nat.le_refl _)).2
  rw [List.take_length] at e2
  rw [e1] at r
  exact h _ v h' tk bs (by simpa using hP) (PySem.W.reads_keeps hk' (by unfold PySem.W.maxD; rw [← e2]; exact r)) fun b o eb => hk' b o (k0 b o eb)
end
section
variable {X : Cx} {pins : List (Addr × Obj)} {σ : L2.St} {H : Hp} {s : Shared} {N : NG}
theorem reads_args (I : Inv X pins σ H s) : ∀ {ws : List V} {us : List Value} {xs : List D}, RepsB (sx X) N H ws xs → Vals ws us → PyData.hasDictAll xs = false → ∃ as, ReadsAll s.heap us xs as
  | _, _, _, .nil, r, _ => by cases r; exact ⟨[], .nil⟩
  | _, _, _, .cons h hs, r, nd => by
    rw [PyData.hasDictAll, Bool.or_eq_false_iff] at nd
    cases r with
    | cons r1 r2 =>
      obtain ⟨as, rd⟩ := Dp.reads I _ _ _ (h.dpN nd.1) r1
      obtain ⟨bs, rds⟩ := reads_args I hs r2 nd.2
      exact ⟨_, .cons rd rds⟩
theorem RepsB.get : ∀ {ws : List V} {xs : List D} {i : Nat} {d : D}, RepsB (sx X) N H ws xs → xs[i]? = some d → ∃ v, ws[i]? = some v ∧ RepB (sx X) N H v d
  | _, _, _, _, .nil, e => by simp at e
  | _, _, 0, _, .cons h _, e => by simp at e; subst e; exact ⟨_, rfl, h⟩
  | _, _, i + 1, d, .cons _ h, e => by
    obtain ⟨v, h1, h2⟩ := RepsB.get (i := i) (d := d) h (by simpa using e)
    exact ⟨v, by simpa using h1, h2⟩
/-- the bigger of several: no list that is borrowed -/
theorem repB_tup {v : V} {d : D} (h : RepB (sx X) N H v d) (hl : ∀ xs, d ≠ .list xs) (hd : ∀ xs, d ≠ .dict xs) : Rep (sx X) N H v d := by
  cases h with
  | of h => exact h
  | lst _ _ => exact absurd rfl (hl _)
  | dic _ _ _ _ => exact absurd rfl (hd _)
theorem cr_maxN {f : List D → Option D} (hf : ∀ ds dz, f ds = some dz → 2 ≤ ds.length ∧ ds.length ≤ 4 ∧ maxN ds = some dz) (hargs : ∀ args : List Value, ∀ ds dz, f ds = some dz → args.length = ds.length → argsOk "max" ⟨args, []⟩ ∧ sizeOk (Data.seq args.toArray)) (hc : X.A.handled = none) (hu : X.A.units + 65 < cLine) : CallR X (.builtin "max") (rC (sx X) f) := by
  intro pins s σ H vs us Q I r h
  obtain ⟨N, ds, dz, nt, hd, e, q⟩ := h
  obtain ⟨h2, h4, em⟩ := hf ds dz e
  unfold maxN at em
  split at em
  · rename_i fl
    cases ds with
    | nil => cases em
    | cons x xs =>
      unfold maxD at em
      dsimp only at em
      split at em
      · rename_i hal
        cases em
        obtain ⟨al, nd, dp⟩ := alB_ok hal
        obtain ⟨as, rd⟩ := reads_args I hd r nd
        have hl : us.length = (x :: xs).length := PySem.W.readsAll_len (vs := us.toArray) (by simpa using rd) |> fun z => by simpa using z
        obtain ⟨a1, a2⟩ := hargs us _ _ e hl
        refine max_new_data (by rw [hl]; exact h2) a1 a2 hc rd al (depAll_of dp hu) fun i v h' tk bs hi hr hk => ?_
        obtain ⟨cs, r1, hlt, _, _⟩ := PySem.W.readsAll_at rd i v hi
        obtain ⟨ez, _⟩ := PyProof.Rows.reads_det (fun _ _ e _ => e) (PySem.W.reads_keeps hk r1) hr
        have hx : (x :: xs)[i]? = some ((x :: xs).getD i .none) := by rw [List.getD_eq_getElem?_getD, List.getElem?_eq_getElem hlt]; rfl
        obtain ⟨z, hz, rz⟩ := RepsB.get hd hx
        obtain ⟨u, hu', ru⟩ := r.get hz
        rw [hi] at hu'
        cases hu'
        have ft := List.all_eq_true.mp fl _ (List.mem_of_getElem? hx)
        have rep := repB_tup rz (fun ys e => by rw [e] at ft; cases ft) (fun ys e => by rw [e] at ft; cases ft)
        exact ⟨z, H, I.kept hk, ru, q _ _ .refl (by rw [ez]; exact rep)⟩
      · cases em
  · cases em
theorem cr_max2 (hc : X.A.handled = none) (hu : X.A.units + 65 < cLine) : CallR X (.builtin "max") (rC (sx X) (biD .max2)) :=
  cr_maxN (fun ds dz e => by
    unfold biD at e
    split at e <;> first | contradiction | (rename_i hb; cases hb) | skip
    exact ⟨Nat.le_refl _, by simp, e⟩) (fun args ds dz e hl => by
    unfold biD at e
    split at e <;> first | contradiction | (rename_i hb; cases hb) | skip
    match args, hl with
    | [a, b], _ => exact ⟨F.args_max2 a b, by show 2 ≤ _; decide⟩) hc hu
theorem cr_max4 (hc : X.A.handled = none) (hu : X.A.units + 65 < cLine) : CallR X (.builtin "max") (rC (sx X) (biD .max4)) :=
  cr_maxN (fun ds dz e => by
    unfold biD at e
    split at e <;> first | contradiction | (rename_i hb; cases hb) | skip
    exact ⟨by simp, Nat.le_refl _, e⟩) (fun args ds dz e hl => by
    unfold biD at e
    split at e <;> first | contradiction | (rename_i hb; cases hb) | skip
    match args, hl with
    | [a, b, c, d], _ => exact ⟨args_max4 a b c d, by show 4 ≤ _; decide⟩) hc hu
/-! sums -/
theorem ints_repD : ∀ {ws : List V} {xs : List D} {ns : List Int}, RepAll (sx X) N H ws xs → intsD xs = some ns → ws = ns.map V.int
  | _, _, _, .nil, e => by rw [intsD] at e; cases e; rfl
  | _, .int i :: xs, ns, .cons h hs, e => by
    rw [intsD] at e
    obtain ⟨r, e1, rfl⟩ := Option.map_eq_some_iff.mp e
    cases h
    rw [ints_repD hs e1]; rfl
  | _, .none :: _, _, .cons _ _, e => by simp [intsD] at e
  | _, .bool _ :: _, _, .cons _ _, e => by simp [intsD] at e
  | _, .str _ :: _, _, .cons _ _, e => by simp [intsD] at e
  | _, .list _ :: _, _, .cons _ _, e => by simp [intsD] at e
  | _, .tuple _ :: _, _, .cons _ _, e => by simp [intsD] at e
  | _, .dict _ :: _, _, .cons _ _, e => by simp [intsD] at e
theorem sum_tup {prog : Program} {w : World} {A : Around} {E : Value → Shared → Prop} {l : Addr} {its : List Value} {ns : List Int} {Q : Value → Shared → Prop} (hh : A.handled = none) (hl : s.heap.IsTuple l its.toArray) (hi : IntsAre its ns)
    (h : ∀ h' tk t', (∀ b o, s.heap.get? b = some o → h'.get? b = some o) → Q (.int ns.sum t') { s with heap := h', toks := tk }) : wpAny (model prog w) A (call (.builtin "sum") [.ref l]) Q E s := by
  obtain ⟨xs, e⟩ := hi.allInts.items
  have hn : numsOf (intItems xs).toList = ns := by rw [← e]; exact hi.numsOf
  rw [nums_intItems] at hn
  rw [e] at hl
  have hlt : l < s.heap.objs.size := by obtain ⟨_, e, _⟩ := hl; exact Heap.lt_size e
  refine PySem.call_sum_walkG (wpAny_pyIter_tuple hl ?_)
  refine ⟨_, [_, l], [_], _, _, _, numAt xs, rfl, Walks.tuple (A := A.in1) hh _ l (Nat.ne_of_lt hlt) (intItems xs), ⟨⟨_, Heap.get?_push_size _ rfl, rfl, rfl⟩, hl.push _⟩, fun b hb => ?_, (fun _ _ => intItems_at), fun h' tk t' hk => ?_⟩
  · show b < (s.heap.push _).objs.size
    rw [Heap.size_push]
    rcases List.mem_cons.mp hb with rfl | hb
    · exact Nat.lt_succ_self _
    · rw [List.mem_singleton.mp hb]; exact Nat.lt_succ_of_lt hlt
  · have := h h' tk t' fun b o q => hk b o (fun z => absurd (Heap.lt_size q) ((List.mem_singleton.mp z) ▸ Nat.lt_irrefl _)) (Heap.get?_push_of_some _ q)
    rw [preSum_eq, List.take_of_length_le (by simp [intItems]), hn]
    exact this
theorem cr_sumD (hc : X.A.handled = none) : CallR X (.builtin "sum") (rC (sx X) (biD .sum)) := by
  intro pins s σ H vs us Q I r h
  obtain ⟨N, ds, dz, nt, hd, e, q⟩ := h
  unfold biD at e
  split at e <;> first | contradiction | (rename_i hb; cases hb) | skip
  rename_i d _
  obtain ⟨xs, e1, e2⟩ := Option.bind_eq_some_iff.mp e
  obtain ⟨ns, e3, rfl⟩ := Option.map_eq_some_iff.mp e2
  obtain ⟨v, rfl, hv⟩ := hd.one
  rcases seqD_some e1 with rfl | rfl
  · obtain ⟨a, ws, rfl, h1, h2⟩ := hv.list
    obtain ⟨its, rv, hl, _⟩ := I.list (show SqL X.K H a ws from .inl (.inl h1))
    obtain rfl := ints_repD h2 e3
    rw [Vals.ref1 r]
    exact sum_raw hc hl.isList rv.ints fun h' tk t' hk => ⟨.int _, H, I.kept hk, ⟨_, rfl⟩, q _ _ .refl (.int _)⟩
  · obtain ⟨a, ws, rfl, h1, h2⟩ := hv.tuple
    obtain ⟨its, rv, hl, _⟩ := I.tuple h1
    obtain rfl := ints_repD h2 e3
    rw [Vals.ref1 r]
    exact sum_tup hc hl rv.ints fun h' tk t' hk => ⟨.int _, H, I.kept hk, ⟨_, rfl⟩, q _ _ .refl (.int _)⟩
end
end G

set_option Elab.async false
set_option linter.all false
set_option maxRecDepth 100000
set_option autoImplicit false
/-! G6c: sorted. -/
namespace G
open PySem PySem.Spec PyProof.Rows L2 PySem.W
section
variable {prog : Program} {w : World} {A : Around} {E : Value → Shared → Prop} {s : Shared}
/-- the items of a tuple, gathered -/
theorem gather_tup {l : Addr} {vs : List Value} {Q : List Value → Shared → Prop} (hl : s.heap.IsTuple l vs.toArray) (hsz : vs.length ≤ sizeLine)
    (h : Q vs { s with heap := (s.heap.push (seqObj "list" #[] 0)).update s.heap.objs.size (Obj.mapSeq (· ++ vs.toArray)) }) :
    wpAny (model prog w) A (collect (.ref l)) Q E s := by
  obtain ⟨ob, hob, hcl, k, hda⟩ := id hl
  unfold collect
  refine wpAny_bind (wpAny_runValue (codeAny_builtin entry_proto_collect' ?_))
  show wpAny _ _ (do again (.builtin "list.__iadd__" ⟨[← newList [], .ref l], []⟩)) _ _ _
  refine wpAny_bind (wpAny_newList (wpAny_pure ⟨Code.quiet_builtin _ (by decide +kernel), codeAny_builtin entry_list_iadd' ?_⟩))
  show wpAny _ _ (Builtin.List.listExtendWith _ _ _) _ _ { s with heap := s.heap.push (seqObj "list" #[] 0) }
  unfold Builtin.List.listExtendWith
  have hob' : (s.heap.push (seqObj "list" #[] 0)).get? l = some ob := Heap.get?_push_of_some _ hob
  refine wpAny_bind (wpAny_typeOf (T := "tuple") ⟨ob, hob', hcl⟩ ?_)
  rw [if_pos (by rw [show (Value.type "tuple" == Value.type "tuple") = true by rfl]; simp)]
  refine wpAny_bind (listItems_at hob' hda ?_)
  refine wpAny_bind (listItems_at (xs := #[]) (n := 0) (Heap.get?_push_size _ rfl) rfl ?_)
  rw [if_neg (by simp)]
  refine wpAny_bind (listUpdate_at (xs := #[]) (n := 0) (Heap.get?_push_size _ rfl) rfl ?_ (Nat.zero_le _) (by show (#[] ++ vs.toArray).size ≤ sizeLine + 1; simp only [Array.size_append, List.size_toArray, List.length_nil]; omega))
  refine wpAny_pure ?_
  show wpAny (model prog w) A (load s.heap.objs.size >>= fun o => match o.data with | .seq xs _ => pure xs.toList | _ => unsupported "internal:collect") Q E _
  refine wpAny_bind (wpAny_load (get?_update_seq (Heap.get?_push_size _ rfl) _) ?_)
  show wpAny _ _ (pure ((#[] : Array Value) ++ vs.toArray).toList) Q E _
  have ev : ((#[] : Array Value) ++ vs.toArray).toList = vs := by simp
  rw [ev]
  exact wpAny_pure h
theorem sorted_of_tup {l : Addr} {vs : List Value} {Q : Value → Shared → Prop} (hl : s.heap.IsTuple l vs.toArray) (hL : vs.length ≤ sizeLine)
    (body : ∀ E' : Value → Shared → Prop, wpAny (model prog w) A.in1.in1 (Builtin.«list.sort» ⟨[.ref (s.heap.objs.size + 1)], []⟩) (fun f s' => f = .done (.ret .none) ∧ Q (.ref (s.heap.objs.size + 1)) s') E' { s with heap := PySem.W.copyHeap s.heap vs }) :
    wpAny (model prog w) A (call (.builtin "sorted") [.ref l]) Q E s := by
  refine call_function_entry_kw kind_sorted plain_sorted entry_sorted (args_sorted1 _) ?_
  unfold Builtin.«sorted»
  refine wpAny_bind (m := checkCount "sorted" 1 1 _) (wpAny_pure ?_)
  refine wpAny_bind (gather_tup hl hL ?_)
  refine wpAny_bind (wpAny_newList ?_ hL)
  have e1 : ((s.heap.push (seqObj "list" #[] 0)).update s.heap.objs.size (Obj.mapSeq (· ++ vs.toArray))).objs.size = s.heap.objs.size + 1 := by
    rw [Heap.size_update, size_push']
  show wpAny _ _ _ _ _ { s with heap := PySem.W.copyHeap s.heap vs }
  rw [e1]
  refine wpAny_bind (wpAny_holding (wpAny_call_entry_kw slot_list_sort ⟨_, PySem.W.copyHeap_at s.heap vs, rfl⟩ entry_list_sort ?body (args_list_sort _)))
  case body =>
    refine wpAny_mono (body _) (fun f s' hf => ?_) fun _ _ e => e
    obtain ⟨rfl, hq⟩ := hf
    exact ⟨_, rfl, wpAny_pure ⟨_, rfl, hq⟩⟩
variable {β : Type} {vs : List Value} {bs : List β} {enc : β → PyData} {R : Value → β → Prop}
theorem sorted_tup_data {l : Addr} {Q : Value → Shared → Prop} (hl : s.heap.IsTuple l vs.toArray) (e : EachIs R vs bs) (er : EachIs (fun v b => ∃ as, Reads s.heap v (enc b) as) vs bs) (hal : PySem.W.AllAlike (bs.map enc)) (hk : PySem.W.Sortable (bs.map enc)) (hL : bs.length ≤ sizeLine)
    (hu : ∀ b, b ∈ bs → A.units + 2 + (enc b).depth < cLine) (h : ∀ out, out.length = bs.length → EachIs R out (bs.mergeSort (PySem.W.dataLe false enc)) → Q (.ref (s.heap.objs.size + 1)) { s with heap := sortedAll s.heap vs (List.toArray out) }) :
    wpAny (model prog w) A (call (.builtin "sorted") [.ref l]) Q E s := by
  have er' : EachIs (fun v b => ∃ as, Reads (sortingHeap (PySem.W.copyHeap s.heap vs) (s.heap.objs.size + 1) vs) v (enc b) as) vs bs := er.mono fun _ _ ⟨as, r⟩ => ⟨as, PyProof.Rows.Reads.keeps (fun _ _ => PySem.W.sorting_copy_old) r⟩
  have hL' : vs.length ≤ sizeLine := by rw [e.length]; exact hL
  refine sorted_of_tup hl hL' fun _ => PySem.W.list_sort_vals (s := { s with heap := PySem.W.copyHeap s.heap vs }) (PySem.W.copyHeap_at s.heap vs) (PySem.W.SortsAt.data (s := { s with heap := sortingHeap (PySem.W.copyHeap s.heap vs) (s.heap.objs.size + 1) vs }) (PySem.W.each_map (R := fun v d => ∃ as, Reads (sortingHeap (PySem.W.copyHeap s.heap vs) (s.heap.objs.size + 1) vs) v d as) enc er') hal hk (PySem.W.bound_map hu)) hL' ⟨rfl, ?_⟩
  exact h _ (by rw [PySem.W.sortVals_length false rfl]; exact e.length) (PySem.W.sortVals_data false e er' hal)
end
section
variable {X : Cx} {pins : List (Addr × Obj)} {σ : L2.St} {H : Hp} {s : Shared} {N : NG}
theorem each_reads {h : Heap} : ∀ {vs : List Value} {ds : List D} {as : List Addr}, ReadsAll h vs ds as → EachIs (fun v b => ∃ as, Reads h v (id b) as) vs ds
  | _, _, _, .nil => .nil
  | _, _, _, .cons r rs => .cons ⟨_, r⟩ (each_reads rs)
theorem each_rep : ∀ {ws : List V} {its : List Value} {xs : List D}, Vals ws its → RepAll (sx X) N H ws xs → EachIs (fun v b => ∃ x : V, RelV x v ∧ Rep (sx X) N H x b) its xs
  | _, _, _, .nil, .nil => .nil
  | _, _, _, .cons r rs, .cons h hs => .cons ⟨_, r, h⟩ (each_rep rs hs)
theorem rep_each : ∀ {its : List Value} {xs : List D}, EachIs (fun v b => ∃ x : V, RelV x v ∧ Rep (sx X) N H x b) its xs → ∃ ws, Vals ws its ∧ RepAll (sx X) N H ws xs
  | _, _, .nil => ⟨[], .nil, .nil⟩
  | _, _, .cons ⟨x, r, h⟩ hs => by
    obtain ⟨ws, r2, h2⟩ := rep_each hs
    exact ⟨x :: ws, .cons r r2, .cons h h2⟩
theorem depth_le_all : ∀ (xs : List D) (b : D), b ∈ xs → b.depth ≤ PyData.depthAll xs
  | [], _, h => by cases h
  | x :: xs, b, h => by
    rw [PyData.depthAll]
    rcases List.mem_cons.mp h with rfl | h
    · exact Nat.le_max_left _ _
    · exact Nat.le_trans (depth_le_all xs b h) (Nat.le_max_right _ _)
theorem soB_ok {xs : List D} (h : soB xs = true) : PySem.W.Sortable (xs.map id) := by
  rw [List.map_id]
  unfold soB at h
  rcases Bool.or_eq_true _ _ |>.mp h with h | h
  · refine .inl fun d hd => ?_
    have := List.all_eq_true.mp h d hd
    unfold isT1 at this
    split at this
    · exact ⟨_, _, rfl⟩
    · cases this
  · refine .inr fun d hd => ?_
    have := List.all_eq_true.mp h d hd
    unfold noT at this
    cases d <;> first | (cases this; done) | exact ⟨fun e => (by cases e), fun xs e => (by cases e)⟩
theorem cr_sortedD (hu : X.A.units + 65 < cLine) : CallR X (.builtin "sorted") (rC (sx X) (biD .sorted)) := by
  intro pins s σ H vs us Q I r h
  obtain ⟨N, ds, dz, nt, hd, e, q⟩ := h
  unfold biD at e
  split at e <;> first | contradiction | (rename_i hb; cases hb) | skip
  rename_i d _
  obtain ⟨xs, e1, e2⟩ := Option.bind_eq_some_iff.mp e
  obtain ⟨ys, e3, rfl⟩ := Option.map_eq_some_iff.mp e2
  unfold sortD at e3
  split at e3
  · rename_i hc
    cases e3
    simp only [Bool.and_eq_true] at hc
    obtain ⟨⟨hal, hso⟩, hol⟩ := hc
    obtain ⟨al, nd, dp⟩ := alB_ok hal
    have al' : PySem.W.AllAlike (xs.map id) := by rw [List.map_id]; exact fun d hd d' hd' => al.1 d hd d' hd'
    have hL : xs.length ≤ sizeLine := okLen_line hol
    have hdp : ∀ b, b ∈ xs → X.A.units + 2 + (id b : D).depth < cLine := fun b hb => by
      have := depth_le_all xs b hb
      show _ + 2 + b.depth < _
      omega
    have fin : ∀ (its : List Value) (ws : List V), Vals ws its → RepAll (sx X) N H ws xs → ∀ out : List Value, out.length = xs.length → EachIs (fun v b => ∃ x : V, RelV x v ∧ Rep (sx X) N H x b) out (xs.mergeSort (PySem.W.dataLe false id)) →
        ∃ z H', Inv X pins σ H' { s with heap := sortedAll s.heap its out.toArray } ∧ RelV z (Value.ref (s.heap.objs.size + 1)) ∧ Q z H' := by
      intro its ws rv ra out hlen hout
      obtain ⟨zs, rz, repz⟩ := rep_each hout
      obtain ⟨ep, he'⟩ := PyProof.Rows.sortedAll_at s.heap its out.toArray
      have hp : H (s.heap.objs.size + 1) = none := I.hok.fresh (Nat.le_succ _)
      refine ⟨.ref _, upd H (s.heap.objs.size + 1) (.lst zs), I.laid (t' := s.toks) (fun _ _ => PyProof.Rows.sortedAll_old) (Nat.le_succ _) ⟨by rw [rz.length, hlen]; exact hL, out, ep, rz, he'⟩, rfl, q _ _ (.upd hp) (.newL nt hp repz)⟩
    obtain ⟨v, rfl, hv⟩ := hd.one
    rcases seqD_some e1 with rfl | rfl
    · obtain ⟨a, ws, rfl, h1, h2⟩ := hv.list
      obtain ⟨its, as, rv, hl, rd⟩ := reads_lst I hv h1 nd
      rw [Vals.ref1 r]
      exact PySem.W.sorted_data (enc := id) hl (each_rep rv h2) (each_reads rd) al' (soB_ok hso) hL hdp fun out hlen hout => fin its ws rv h2 out hlen hout
    · obtain ⟨a, ws, rfl, h1, h2⟩ := hv.tuple
      obtain ⟨its, as, rv, hl, rd⟩ := reads_tup I hv h1 nd
      rw [Vals.ref1 r]
      exact sorted_tup_data (enc := id) hl (each_rep rv h2) (each_reads rd) al' (soB_ok hso) hL hdp fun out hlen hout => fin its ws rv h2 out hlen hout
  · cases e3
end
end G

set_option Elab.async false
set_option linter.all false
set_option maxRecDepth 100000
set_option autoImplicit false
/-! G7: expressions, form by form: the model's expression does what the small language's says. -/
namespace G
open PySem PySem.Spec PyProof.Rows L2

abbrev Fv := NG → L2.St → Env → Hp → V → D → Prop
def tG (c : Sx) (ks : Ks) (wx : WXs) (F : Fv) (ev : Env → R D) : TE := fun σ H Q => ∃ io B ρ, Rel c ks io B ρ σ H ∧ PostG c ks wx io B σ ρ H (F B σ) (ev ρ) Q
/-- a value read before eb is still one behind it -/
def Over (c : Sx) (F : Fv) {β : Type} (eb : Env → R β) : Prop := ∀ (B : NG) (σ : L2.St) (ρ1 : Env) (H1 : Hp) (v : V) (d : D) (ρ2 : Env) (H2 : Hp), F B σ ρ1 H1 v d → Stp ρ1 σ H1 ρ2 H2 → (∃ dd, eb ρ1 = .ok dd ρ2) → RepO c B σ ρ2 H2 v d
/-- eb leaves the slots as they are -/
def Pur {β : Type} (eb : Env → R β) : Prop := ∀ ρ d ρ', eb ρ = .ok d ρ' → ρ' = ρ
section
variable {c : Sx} {ks : Ks} {wx : WXs}
theorem over_E {β : Type} {eb : Env → R β} : Over c (FE c) eb := fun B σ ρ1 H1 v d ρ2 H2 f s _ => .inl (s.rep f)
theorem over_O {β : Type} {eb : Env → R β} (p : Pur eb) : Over c (FO c) eb := fun B σ ρ1 H1 v d ρ2 H2 f s ⟨dd, e⟩ => RepO.step s f fun _ => p _ _ _ e
theorem Rel.ntr {io : Io} {B : NG} {ρ : Env} {σ : L2.St} {H : Hp} (r : Rel c ks io B ρ σ H) : NTr (No B ρ σ) H := fun a h => r.noTr h
/-- FO from F -/
def Sub (c : Sx) (F : Fv) : Prop := ∀ B σ ρ H v d, F B σ ρ H v d → RepO c B σ ρ H v d
theorem sub_E : Sub c (FE c) := fun _ _ _ _ _ _ h => .inl h
theorem sub_O : Sub c (FO c) := fun _ _ _ _ _ _ h => h

/-- a one-operand rule -/
def r1 (c : Sx) (f : D → Option D) : V → Hp → VK → Prop := fun x H Q => ∃ N d dz, NTr N H ∧ RepB c N H x d ∧ f d = some dz ∧ ∀ z H', Grow H H' → Rep c N H' z dz → Q z H'
theorem t_un {F : Fv} (hF : Sub c F) {ev : Env → R D} {f : D → Option D} {σ : L2.St} {H : Hp} {Q : VK} (h : tE c ks wx (fun ρ => (ev ρ).bind fun x ρ => R.opt (f x) ρ) σ H Q) : tUn (r1 c f) (tG c ks wx F ev) σ H Q := by
  obtain ⟨io, B, ρ, r, p⟩ := h
  refine ⟨io, B, ρ, r, (PostG.bind (F := F B σ) p).imp fun v H1 ⟨d, ρ1, e, q1, s1, f1, p1⟩ => ?_⟩
  cases ef : f d with
  | none => rw [ef] at p1; exact p1.elim
  | some dz =>
    rw [ef] at p1
    exact ⟨_, d, dz, q1.ntr, (hF _ _ _ _ _ _ f1).b q1, ef, fun z H' g rz => p1 z H' (q1.grow g) (.grow g) rz⟩
theorem t_op {F G : Fv} (hG : Sub c G) {ea eb : Env → R D} (ho : Over c F eb) {f : D → D → Option D} {σ : L2.St} {H : Hp} {Q : VK} (h : tE c ks wx (fun ρ => (ea ρ).bind fun x ρ => (eb ρ).bind fun y ρ => R.opt (f x y) ρ) σ H Q) :
    tOp (rB c f) (tG c ks wx F ea) (tG c ks wx G eb) σ H Q := by
  obtain ⟨io, B, ρ, r, p⟩ := h
  refine ⟨io, B, ρ, r, (PostG.bind (F := F B σ) p).imp fun v H1 ⟨d, ρ1, e, q1, s1, f1, p1⟩ => ?_⟩
  refine ⟨io, B, ρ1, q1, (PostG.bind (F := G B σ) p1).imp fun u H2 ⟨d2, ρ2, e2, q2, s2, f2, p2⟩ => ?_⟩
  cases ef : f d d2 with
  | none => rw [ef] at p2; exact p2.elim
  | some dz =>
    rw [ef] at p2
    exact ⟨_, d, d2, dz, q2.ntr, (ho _ _ _ _ _ _ _ _ f1 s2 ⟨_, e2⟩).b q2, (hG _ _ _ _ _ _ f2).b q2, ef, fun z H' g rz => p2 z H' (q2.grow g) (.grow g) rz⟩
end

section
variable {X : Cx} {ks : Ks} {wx : WXs} {cs : CS}
theorem _root_.L2.PE.ofE {e : Expr} {ev : Env → R D} (h : PE X e (tE (sx X) ks wx ev)) : PE X e (tG (sx X) ks wx (FE (sx X)) ev) := h
theorem _root_.L2.PE.ofO {e : Expr} {ev : Env → R D} (h : PE X e (tO (sx X) ks wx ev)) : PE X e (tG (sx X) ks wx (FO (sx X)) ev) := h
theorem _root_.L2.PE.toO {e : Expr} {ev : Env → R D} (h : PE X e (tE (sx X) ks wx ev)) : PE X e (tO (sx X) ks wx ev) := h.imp fun _ _ _ q => tO_tE q

/-! ### names, constants -/
theorem rd_some_iff {ρ : Env} {i : Nat} {d : D} (h : rd ρ i = some d) : ρ[i]? = some (some (.d d)) := by
  unfold rd at h
  split at h
  · cases h; assumption
  · cases h
theorem ad_var {i : Nat} {x : Str} {pos : Pos} (hN : X.N[i]? = some x) (hv : Vis X.env.scope x) (hd : (x == ("__debug__" : Str)) = false) (hcd : (x == ("__classdict__" : Str)) = false) : PE X (.Name x pos) (tE (sx X) ks wx (evE cs (.var i))) := by
  refine (pe_var hN hv hd hcd).imp fun σ H Q h => ?_
  obtain ⟨io, B, ρ, r, p⟩ := h
  rw [evE] at p
  cases e : rd ρ i with
  | none => rw [e] at p; exact p.elim
  | some d =>
    rw [e] at p
    obtain ⟨v, e1, rv⟩ := r.slot i _ (rd_some_iff e)
    exact ⟨v, e1, p.done r rv⟩
theorem ad_bor {i : Nat} {x : Str} {pos : Pos} (hN : X.N[i]? = some x) (hv : Vis X.env.scope x) (hd : (x == ("__debug__" : Str)) = false) (hcd : (x == ("__classdict__" : Str)) = false) : PE X (.Name x pos) (tO (sx X) ks wx (evE cs (.bor i))) := by
  refine (pe_var hN hv hd hcd).imp fun σ H Q h => ?_
  obtain ⟨io, B, ρ, r, p⟩ := h
  rw [evE] at p
  cases e : rdB ρ i with
  | none => rw [e] at p; exact p.elim
  | some d =>
    rw [e] at p
    have e' := e
    unfold rdB at e'
    split at e'
    · rename_i z hz
      cases e'
      obtain ⟨v, e1, rv⟩ := r.slot i _ hz
      exact ⟨v, e1, p.done r (.inl rv)⟩
    · rename_i z hz
      obtain ⟨a, e1, rv⟩ := r.slot i _ hz
      exact ⟨.ref a, e1, p.done r (.inr ⟨i, a, ⟨by rw [hz]; trivial, e1⟩, rfl, e⟩)⟩
    · rename_i z hz
      obtain ⟨a, e1, rv⟩ := r.slot i _ hz
      exact ⟨.ref a, e1, p.done r (.inr ⟨i, a, ⟨by rw [hz]; trivial, e1⟩, rfl, e⟩)⟩
    · cases e'
theorem t_const {v : V} {d : D} (hr : ∀ N H, Rep (sx X) N H v d) {ev : Env → R D} (he : ∀ ρ, ev ρ = .ok d ρ) {σ : L2.St} {H : Hp} {Q : VK} (h : tE (sx X) ks wx ev σ H Q) : tC v σ H Q := by
  obtain ⟨io, B, ρ, r, p⟩ := h
  rw [he] at p
  exact p.done r (hr _ _)
theorem ad_non {j pos} : PE X (.Constant .none j pos) (tE (sx X) ks wx (evE cs .non)) := pe_non.imp fun _ _ _ h => t_const (fun _ _ => .non) (fun _ => rfl) h
theorem ad_bl {b : Bool} {j pos} : PE X (.Constant (.bool b) j pos) (tE (sx X) ks wx (evE cs (.bl b))) := pe_bl.imp fun _ _ _ h => t_const (fun _ _ => .bl b) (fun _ => rfl) h
theorem ad_int {i : Int} {j pos} : PE X (.Constant (.int i) j pos) (tE (sx X) ks wx (evE cs (.int i))) := pe_int.imp fun _ _ _ h => t_const (fun _ _ => .int i) (fun _ => rfl) h
theorem ad_str {x : Str} {j pos} : PE X (.Constant (.str x) j pos) (tE (sx X) ks wx (evE cs (.str x))) := pe_str.imp fun _ _ _ h => t_const (fun _ _ => .str x) (fun _ => rfl) h
/-- a constant of the module -/
def GlobOk (X : Cx) (x : Str) (d : D) : Prop := ∃ v u, X.mg x = some u ∧ RelV v u ∧ ∀ N H, Rep (sx X) N H v d
theorem ad_glob {x : Str} {d : D} {pos : Pos} (hg : Gl X x) (h : GlobOk X x d) (hd : (x == ("__debug__" : Str)) = false) : PE X (.Name x pos) (tE (sx X) ks wx (evE cs (.glob x d))) := by
  obtain ⟨v, u, h1, h2, h3⟩ := h
  exact (pe_glob hg h1 h2 hd).imp fun _ _ _ h => t_const h3 (fun _ => rfl) h

/-! ### operators -/
variable {a b e : Expr} {ma mb : E} {pos : Pos} {F G : Fv}
theorem ad_bin (op : BOp) (hG : Sub (sx X) G) (ho : Over (sx X) F (evE cs mb)) (ha : PE X a (tG (sx X) ks wx F (evE cs ma))) (hb : PE X b (tG (sx X) ks wx G (evE cs mb))) : PE X (.BinOp a (opOf op) b pos) (tE (sx X) ks wx (evE cs (.bin op ma mb))) :=
  (pe_op (op_binB op) ha hb).imp fun _ _ _ h => t_op hG ho (by simpa only [evE] using h)
theorem opt_bl2 {f : D → D → Option Bool} {x y : D} {ρ : Env} : ((R.opt (f x y) ρ).bind fun b ρ => R.ok (.bool b) ρ) = R.opt (bl2 f x y) ρ := by
  unfold bl2
  cases f x y <;> rfl
theorem ad_cmp (op : COp) (hu : X.A.units + 65 < cLine) (hG : Sub (sx X) G) (ho : Over (sx X) F (evE cs mb)) (ha : PE X a (tG (sx X) ks wx F (evE cs ma))) (hb : PE X b (tG (sx X) ks wx G (evE cs mb))) (hm : behindInMarks (copOf op) b = false) :
    PE X (.Compare a [copOf op] [b] pos) (tE (sx X) ks wx (evE cs (.cmp op ma mb))) :=
  (pe_cmpR (op_cmpB hu op) ha hb hm).imp fun _ _ _ h => t_op hG ho (by simpa only [evE, opt_bl2] using h)
/-- a test's reading from a value's: the value is a bool -/
theorem tT_tE {ev : Env → R D} {ev' : Env → R Bool} (hev : ∀ ρ, ev ρ = (ev' ρ).bind fun b ρ => .ok (.bool b) ρ) {σ : L2.St} {H : Hp} {Q : Bool → Hp → Prop} (h : tT (sx X) ks wx ev' σ H Q) : tE (sx X) ks wx ev σ H fun x H' => ∃ k, x = .bl k ∧ Q k H' := by
  obtain ⟨io, B, ρ, r, p⟩ := h
  refine ⟨io, B, ρ, r, ?_⟩
  rw [hev]
  cases e : ev' ρ with
  | err => rw [e] at p; exact p
  | exc c ρ' => rw [e] at p; exact p
  | ok b ρ' =>
    rw [e] at p
    intro v H' r1 s1 f1
    cases f1
    exact ⟨b, rfl, p b H' r1 s1 rfl⟩
theorem tru_bool (x : R Bool) : truR (x.bind fun b ρ => .ok (.bool b) ρ) = x := by
  cases x <;> rfl
/-- a value's reading, as a test: where the evaluation gives a bool -/
theorem tT_val {ev : Env → R D} {ev' : Env → R Bool} (hev : ∀ ρ, ev ρ = (ev' ρ).bind fun b ρ => .ok (.bool b) ρ) {σ : L2.St} {H : Hp} {Q : Bool → Hp → Prop} (h : tT (sx X) ks wx (fun ρ => truR (ev ρ)) σ H Q) : tT (sx X) ks wx ev' σ H Q := by
  obtain ⟨io, B, ρ, r, p⟩ := h
  have e : truR (ev ρ) = ev' ρ := by rw [hev, tru_bool]
  exact ⟨io, B, ρ, r, e ▸ p⟩
def evCmp (cs : CS) (op : COp) (ma mb : E) : Env → R Bool := fun ρ => (evE cs ma ρ).bind fun x ρ => (evE cs mb ρ).bind fun y ρ => R.opt (cmpD op x y) ρ
theorem bind_assoc {α β γ : Type} (x : R α) (f : α → Env → R β) (g : β → Env → R γ) : (x.bind f).bind g = x.bind fun a ρ => (f a ρ).bind g := by cases x <;> rfl
theorem evCmp_eq (op : COp) (ma mb : E) (ρ : Env) : evE cs (.cmp op ma mb) ρ = (evCmp cs op ma mb ρ).bind fun b ρ => .ok (.bool b) ρ := by
  rw [evE, evCmp, bind_assoc]
  congr; funext x ρ
  rw [bind_assoc]
theorem tp_cmp (op : COp) (hu : X.A.units + 65 < cLine) (hG : Sub (sx X) G) (ho : Over (sx X) F (evE cs mb)) (ha : PE X a (tG (sx X) ks wx F (evE cs ma))) (hb : PE X b (tG (sx X) ks wx G (evE cs mb))) (hm : behindInMarks (copOf op) b = false) :
    PT X (.Compare a [copOf op] [b] pos) (tT (sx X) ks wx fun ρ => truR (evE cs (.cmp op ma mb) ρ)) :=
  (pt_cmpR (op_cmpB hu op) ha hb hm).imp fun _ _ _ h => by
    refine t_op hG ho ?_
    have := tT_tE (evCmp_eq op ma mb) (tT_val (evCmp_eq op ma mb) h)
    simpa only [evE, opt_bl2] using this

/-! ### shapes of the text -/
def noStar : Expr → Bool
  | .Starred .. => false
  | _ => true
theorem star_cons {e : Expr} {es : List Expr} {env : PySem.Env} (h : noStar e = true) : starEach (e :: es) env = (false, eval e env) :: starEach es env := by
  cases e <;> first | rfl | cases h
def noSlice : Expr → Bool
  | .Slice .. => false
  | _ => true
theorem plain_ix {e : Expr} (h : noSlice e = true) : PlainIx e := by
  intro o i
  cases e <;> first | rfl | cases h
def plainT : Expr → Bool
  | .UnaryOp .Not _ _ => false
  | .BoolOp .. => false
  | .IfExp .. => false
  | .Compare .. => false
  | _ => true
theorem plain_t {e : Expr} {env : PySem.Env} (h : plainT e = true) : ∀ whole, isTrue e env whole = (do let v ← whole; standAt e.pos; holding [v] (truthy v)) := by
  intro whole
  cases e with
  | UnaryOp op _ _ => cases op <;> first | rfl | cases h
  | _ => first | rfl | cases h

/-! ### one operand -/
theorem un_negB : UnR X (unaryOp .USub) (r1 (sx X) fun d => match d with | .int i => some (.int (-i)) | _ => none) := by
  intro pins s σ H x v Q I rx h
  obtain ⟨N, d, dz, nt, hd, e, q⟩ := h
  dsimp only at e
  split at e
  · cases e
    obtain rfl := hd.int
    exact un_neg pins s σ H _ v Q I rx ⟨_, rfl, q _ _ .refl (.int _)⟩
  · cases e
theorem ad_neg (hF : Sub (sx X) F) (ha : PE X a (tG (sx X) ks wx F (evE cs ma))) : PE X (.UnaryOp .USub a pos) (tE (sx X) ks wx (evE cs (.neg ma))) :=
  (pe_un un_negB ha).imp fun _ _ _ h => t_un hF (by
    rw [show (fun ρ => (evE cs ma ρ).bind fun x ρ => R.opt (match x with | .int i => some (.int (-i)) | _ => none) ρ) = evE cs (.neg ma) from ?_]
    · exact h
    · funext ρ
      rw [evE]
      congr; funext x ρ
      cases x <;> rfl)
/-- a value's truth -/
theorem tru_B {N : NG} {H : Hp} {x : V} {d : D} {k : Bool} (h : RepB (sx X) N H x d) (e : truD d = some k) : TruV X.K x H k := by
  cases d with
  | none => obtain rfl := h.none; cases e; rfl
  | bool b => obtain rfl := h.bool; cases e; rfl
  | int b => obtain rfl := h.int; cases e; rfl
  | str b =>
    obtain rfl := h.str
    have e : (if okLen b.length = true then some (b.length != 0) else none) = some k := e
    split at e
    · rename_i hz
      cases e
      exact ⟨okLen_line hz, by rw [Bool.eq_iff_iff, bne_iff_ne, bne_iff_ne]; omega⟩
    · cases e
  | list ds =>
    obtain ⟨p, vs, rfl, h1, h2⟩ := h.list
    cases e
    refine .inl ⟨vs, .of h1, ?_⟩
    cases h2 <;> rfl
  | tuple ds =>
    obtain ⟨p, vs, rfl, h1, h2⟩ := h.tuple
    cases e
    refine .inr (.inl ⟨vs, h1, ?_⟩)
    cases h2 <;> rfl
  | dict kvs => cases e
theorem t_tru (hF : Sub (sx X) F) {ev : Env → R D} {σ : L2.St} {H : Hp} {Q : Bool → Hp → Prop} (h : tT (sx X) ks wx (fun ρ => truR (ev ρ)) σ H Q) : tG (sx X) ks wx F ev σ H fun x H' => ∃ k, TruV X.K x H' k ∧ Q k H' := by
  obtain ⟨io, B, ρ, r, p⟩ := h
  refine ⟨io, B, ρ, r, (PostG.bind (F := F B σ) p).imp fun v H1 ⟨d, ρ1, e, q1, s1, f1, p1⟩ => ?_⟩
  cases et : truD d with
  | none => rw [et] at p1; exact p1.elim
  | some k =>
    rw [et] at p1
    exact ⟨k, tru_B ((hF _ _ _ _ _ _ f1).b q1) et, p1.done q1 rfl⟩
theorem tp_truth (hF : Sub (sx X) F) (ha : PE X a (tG (sx X) ks wx F (evE cs ma))) (h : plainT a = true) : PT X a (tT (sx X) ks wx fun ρ => truR (evE cs ma ρ)) :=
  (pt_truth ha (plain_t h)).imp fun _ _ _ q => t_tru hF q
theorem bool_rep {N : NG} {H : Hp} {b : Bool} : Rep (sx X) N H (.bl b) (.bool b) := .bl b
theorem ad_nt (hF : Sub (sx X) F) (ha : PE X a (tG (sx X) ks wx F (evE cs ma))) : PE X (.UnaryOp .Not a pos) (tE (sx X) ks wx (evE cs (.nt ma))) :=
  (pe_notT ha).imp fun σ H Q h => by
    obtain ⟨io, B, ρ, r, p⟩ := h
    rw [evE] at p
    refine t_tru hF ⟨io, B, ρ, r, (PostG.bind (F := FB) p).imp fun v H1 ⟨d, ρ1, e, q1, s1, f1, p1⟩ => ?_⟩
    cases f1
    exact p1.done q1 (.bl _)
theorem tru_bool' (x : R Bool) (f : Bool → Bool) : truR (x.bind fun b ρ => .ok (.bool (f b)) ρ) = x.bind fun b ρ => .ok (f b) ρ := by
  cases x <;> rfl
theorem tp_nt (ha : PT X a (tT (sx X) ks wx fun ρ => truR (evE cs ma ρ))) : PT X (.UnaryOp .Not a pos) (tT (sx X) ks wx fun ρ => truR (evE cs (.nt ma) ρ)) :=
  (pt_not ha).imp fun σ H Q h => by
    obtain ⟨io, B, ρ, r, p⟩ := h
    refine ⟨io, B, ρ, r, ?_⟩
    dsimp only at p
    rw [evE, tru_bool'] at p
    exact (PostG.bind (F := FB) p).imp fun v H1 ⟨d, ρ1, e, q1, s1, f1, p1⟩ => by
      cases f1
      exact p1.done q1 rfl

/-! ### and, or -/
theorem tp_and1 (ha : PT X a (tT (sx X) ks wx fun ρ => truR (evE cs ma ρ))) : PW X (.BoolOp .And [a] pos) (tT (sx X) ks wx fun ρ => truR (evE cs ma ρ)) := pw_and1 ha
theorem tp_or1 (ha : PT X a (tT (sx X) ks wx fun ρ => truR (evE cs ma ρ))) : PW X (.BoolOp .Or [a] pos) (tT (sx X) ks wx fun ρ => truR (evE cs ma ρ)) := pw_or1 ha
theorem tru_and (ρ : Env) : truR (evE cs (.and ma mb) ρ) = (truR (evE cs ma ρ)).bind fun t ρ => if t then truR (evE cs mb ρ) else .ok false ρ := by
  rw [evE]
  cases evE cs ma ρ with
  | err => rfl
  | exc c ρ' => rfl
  | ok x ρ' =>
    show truR (match truD x with | some true => evE cs mb ρ' | some false => .ok x ρ' | none => .err) = (R.opt (truD x) ρ').bind _
    cases e : truD x with
    | none => rfl
    | some t =>
      cases t with
      | true => rfl
      | false =>
        show R.opt (truD x) ρ' = _
        rw [e]
        rfl
theorem tru_or (ρ : Env) : truR (evE cs (.or ma mb) ρ) = (truR (evE cs ma ρ)).bind fun t ρ => if t then .ok true ρ else truR (evE cs mb ρ) := by
  rw [evE]
  cases evE cs ma ρ with
  | err => rfl
  | exc c ρ' => rfl
  | ok x ρ' =>
    show truR (match truD x with | some true => .ok x ρ' | some false => evE cs mb ρ' | none => .err) = (R.opt (truD x) ρ').bind _
    cases e : truD x with
    | none => rfl
    | some t =>
      cases t with
      | false => rfl
      | true =>
        show R.opt (truD x) ρ' = _
        rw [e]
        rfl
variable {rest : List Expr}
theorem tp_and (ha : PT X a (tT (sx X) ks wx fun ρ => truR (evE cs ma ρ))) (hb : PW X (.BoolOp .And (b :: rest) pos) (tT (sx X) ks wx fun ρ => truR (evE cs mb ρ))) :
    PW X (.BoolOp .And (a :: b :: rest) pos) (tT (sx X) ks wx fun ρ => truR (evE cs (.and ma mb) ρ)) := by
  refine ⟨fun wh pins s σ H Q I h => (pw_and ha hb).run wh pins s σ H Q I ?_⟩
  obtain ⟨io, B, ρ, r, p⟩ := h
  dsimp only at p
  rw [tru_and] at p
  refine ⟨io, B, ρ, r, (PostG.bind (F := FB) p).imp fun t H1 ⟨d, ρ1, e, q1, s1, f1, p1⟩ => ?_⟩
  cases f1
  cases t with
  | true => exact ⟨io, B, ρ1, q1, p1⟩
  | false => exact p1.done q1 rfl
theorem tp_or (ha : PT X a (tT (sx X) ks wx fun ρ => truR (evE cs ma ρ))) (hb : PW X (.BoolOp .Or (b :: rest) pos) (tT (sx X) ks wx fun ρ => truR (evE cs mb ρ))) :
    PW X (.BoolOp .Or (a :: b :: rest) pos) (tT (sx X) ks wx fun ρ => truR (evE cs (.or ma mb) ρ)) := by
  refine ⟨fun wh pins s σ H Q I h => (pw_or ha hb).run wh pins s σ H Q I ?_⟩
  obtain ⟨io, B, ρ, r, p⟩ := h
  dsimp only at p
  rw [tru_or] at p
  refine ⟨io, B, ρ, r, (PostG.bind (F := FB) p).imp fun t H1 ⟨d, ρ1, e, q1, s1, f1, p1⟩ => ?_⟩
  cases f1
  cases t with
  | true => exact p1.done q1 rfl
  | false => exact ⟨io, B, ρ1, q1, p1⟩
theorem ad_and (ha : PE X a (tE (sx X) ks wx (evE cs ma))) (hb : PE X (.BoolOp .And (b :: rest) pos) (tE (sx X) ks wx (evE cs mb))) : PE X (.BoolOp .And (a :: b :: rest) pos) (tE (sx X) ks wx (evE cs (.and ma mb))) :=
  (pe_andT ha hb).imp fun σ H Q h => by
    obtain ⟨io, B, ρ, r, p⟩ := h
    rw [evE] at p
    refine ⟨io, B, ρ, r, (PostG.bind (F := FE (sx X) B σ) p).imp fun v H1 ⟨d, ρ1, e, q1, s1, f1, p1⟩ => ?_⟩
    cases et : truD d with
    | none => rw [et] at p1; exact p1.elim
    | some k =>
      rw [et] at p1
      refine ⟨k, tru_B (.of f1) et, ?_⟩
      cases k with
      | true => exact ⟨io, B, ρ1, q1, p1⟩
      | false => exact p1.done q1 f1
theorem ad_or (ha : PE X a (tE (sx X) ks wx (evE cs ma))) (hb : PE X (.BoolOp .Or (b :: rest) pos) (tE (sx X) ks wx (evE cs mb))) : PE X (.BoolOp .Or (a :: b :: rest) pos) (tE (sx X) ks wx (evE cs (.or ma mb))) :=
  (pe_orT ha hb).imp fun σ H Q h => by
    obtain ⟨io, B, ρ, r, p⟩ := h
    rw [evE] at p
    refine ⟨io, B, ρ, r, (PostG.bind (F := FE (sx X) B σ) p).imp fun v H1 ⟨d, ρ1, e, q1, s1, f1, p1⟩ => ?_⟩
    cases et : truD d with
    | none => rw [et] at p1; exact p1.elim
    | some k =>
      rw [et] at p1
      refine ⟨k, tru_B (.of f1) et, ?_⟩
      cases k with
      | true => exact p1.done q1 f1
      | false => exact ⟨io, B, ρ1, q1, p1⟩

/-! ### is None, is True, if else -/
theorem non_iff {N : NG} {H : Hp} {x : V} {d : D} (h : RepB (sx X) N H x d) : decide (x = .non) = nonD d := by
  cases d with
  | none => obtain rfl := h.none; rfl
  | bool b => obtain rfl := h.bool; rfl
  | int b => obtain rfl := h.int; rfl
  | str b => obtain rfl := h.str; rfl
  | list ds => obtain ⟨p, vs, rfl, _⟩ := h.list; rfl
  | tuple ds => obtain ⟨p, vs, rfl, _⟩ := h.tuple; rfl
  | dict kvs => obtain ⟨p, _, _, _, rfl, _⟩ := h.dict; rfl
def evNon (cs : CS) (ng : Bool) (ma : E) : Env → R Bool := fun ρ => (evE cs ma ρ).bind fun x ρ => .ok (xor ng (nonD x)) ρ
theorem evNon_eq (ng : Bool) (ρ : Env) : evE cs (.isNon ng ma) ρ = (evNon cs ng ma ρ).bind fun b ρ => .ok (.bool b) ρ := by
  rw [evE, evNon, bind_assoc]
  rfl
theorem t_non (hF : Sub (sx X) F) (ng : Bool) (g : Bool → Bool) (hg : ∀ b, xor ng b = g b) {σ : L2.St} {H : Hp} {Q : VK} (h : tE (sx X) ks wx (evE cs (.isNon ng ma)) σ H Q) : (tG (sx X) ks wx F (evE cs ma)) σ H fun x H1 => Q (.bl (g (decide (x = .non)))) H1 := by
  obtain ⟨io, B, ρ, r, p⟩ := h
  rw [evE] at p
  refine ⟨io, B, ρ, r, (PostG.bind (F := F B σ) p).imp fun v H1 ⟨d, ρ1, e, q1, s1, f1, p1⟩ => ?_⟩
  rw [non_iff ((hF _ _ _ _ _ _ f1).b q1), ← hg]
  exact p1.done q1 (.bl _)
theorem ad_isN (hF : Sub (sx X) F) {j : Nat} {pos' : Pos} (ha : PE X a (tG (sx X) ks wx F (evE cs ma))) : PE X (.Compare a [.Is] [.Constant .none j pos'] pos) (tE (sx X) ks wx (evE cs (.isNon false ma))) :=
  (pe_cmp (pc_isN ha)).imp fun _ _ _ h => t_non hF false (fun b => b) (by decide) h
theorem ad_notN (hF : Sub (sx X) F) {j : Nat} {pos' : Pos} (ha : PE X a (tG (sx X) ks wx F (evE cs ma))) : PE X (.Compare a [.IsNot] [.Constant .none j pos'] pos) (tE (sx X) ks wx (evE cs (.isNon true ma))) :=
  (pe_cmp (pc_notN ha)).imp fun _ _ _ h => t_non hF true (fun b => !b) (by decide) h
theorem tp_isN (hF : Sub (sx X) F) {j : Nat} {pos' : Pos} (ha : PE X a (tG (sx X) ks wx F (evE cs ma))) : PT X (.Compare a [.Is] [.Constant .none j pos'] pos) (tT (sx X) ks wx fun ρ => truR (evE cs (.isNon false ma) ρ)) :=
  (pt_cmp (pc_isN ha)).imp fun _ _ _ h => t_non hF false (fun b => b) (by decide) (tT_tE (evNon_eq false) (tT_val (evNon_eq false) h))
theorem tp_notN (hF : Sub (sx X) F) {j : Nat} {pos' : Pos} (ha : PE X a (tG (sx X) ks wx F (evE cs ma))) : PT X (.Compare a [.IsNot] [.Constant .none j pos'] pos) (tT (sx X) ks wx fun ρ => truR (evE cs (.isNon true ma) ρ)) :=
  (pt_cmp (pc_notN ha)).imp fun _ _ _ h => t_non hF true (fun b => !b) (by decide) (tT_tE (evNon_eq true) (tT_val (evNon_eq true) h))
def evTru (cs : CS) (ng : Bool) (ma : E) : Env → R Bool := fun ρ => (evE cs ma ρ).bind fun x ρ => match x with | .bool b => .ok (xor ng b) ρ | _ => .err
theorem evTru_eq (ng : Bool) (ρ : Env) : evE cs (.isTru ng ma) ρ = (evTru cs ng ma ρ).bind fun b ρ => .ok (.bool b) ρ := by
  rw [evE, evTru, bind_assoc]
  congr; funext x ρ
  cases x <;> rfl
theorem t_isTru {σ : L2.St} {H : Hp} {Q : VK} (h : tE (sx X) ks wx (evE cs (.isTru false ma)) σ H Q) : tOp L2.rIsB (tE (sx X) ks wx (evE cs ma)) (tC (.bl true)) σ H Q := by
  obtain ⟨io, B, ρ, r, p⟩ := h
  rw [evE] at p
  refine ⟨io, B, ρ, r, (PostG.bind (F := FE (sx X) B σ) p).imp fun v H1 ⟨d, ρ1, e, q1, s1, f1, p1⟩ => ?_⟩
  cases d <;> first | exact p1.elim | skip
  rename_i k
  cases f1
  refine ⟨k, true, rfl, rfl, ?_⟩
  have := p1.done q1 (.bl _)
  cases k <;> exact this
theorem t_notTru {σ : L2.St} {H : Hp} {Q : VK} (h : tE (sx X) ks wx (evE cs (.isTru true ma)) σ H Q) : tOp L2.rNotB (tE (sx X) ks wx (evE cs ma)) (tC (.bl true)) σ H Q := by
  obtain ⟨io, B, ρ, r, p⟩ := h
  rw [evE] at p
  refine ⟨io, B, ρ, r, (PostG.bind (F := FE (sx X) B σ) p).imp fun v H1 ⟨d, ρ1, e, q1, s1, f1, p1⟩ => ?_⟩
  cases d <;> first | exact p1.elim | skip
  rename_i k
  cases f1
  refine ⟨k, true, rfl, rfl, ?_⟩
  have := p1.done q1 (.bl _)
  cases k <;> exact this
theorem ad_isTru {j : Nat} {pos' : Pos} (ha : PE X a (tE (sx X) ks wx (evE cs ma))) : PE X (.Compare a [.Is] [.Constant (.bool true) j pos'] pos) (tE (sx X) ks wx (evE cs (.isTru false ma))) :=
  (pe_cmpR op_isBl ha pe_bl rfl).imp fun _ _ _ h => t_isTru h
theorem ad_notTru {j : Nat} {pos' : Pos} (ha : PE X a (tE (sx X) ks wx (evE cs ma))) : PE X (.Compare a [.IsNot] [.Constant (.bool true) j pos'] pos) (tE (sx X) ks wx (evE cs (.isTru true ma))) :=
  (pe_cmpR op_notBl ha pe_bl rfl).imp fun _ _ _ h => t_notTru h
theorem tp_isTru {j : Nat} {pos' : Pos} (ha : PE X a (tE (sx X) ks wx (evE cs ma))) : PT X (.Compare a [.Is] [.Constant (.bool true) j pos'] pos) (tT (sx X) ks wx fun ρ => truR (evE cs (.isTru false ma) ρ)) :=
  (pt_cmpR op_isBl ha pe_bl rfl).imp fun _ _ _ h => t_isTru (tT_tE (evTru_eq false) (tT_val (evTru_eq false) h))
theorem tp_notTru {j : Nat} {pos' : Pos} (ha : PE X a (tE (sx X) ks wx (evE cs ma))) : PT X (.Compare a [.IsNot] [.Constant (.bool true) j pos'] pos) (tT (sx X) ks wx fun ρ => truR (evE cs (.isTru true ma) ρ)) :=
  (pt_cmpR op_notBl ha pe_bl rfl).imp fun _ _ _ h => t_notTru (tT_tE (evTru_eq true) (tT_val (evTru_eq true) h))
variable {t : Expr} {mt : E}
theorem ad_ife (ht : PT X t (tT (sx X) ks wx fun ρ => truR (evE cs mt ρ))) (ha : PE X a (tE (sx X) ks wx (evE cs ma))) (hb : PE X b (tE (sx X) ks wx (evE cs mb))) : PE X (.IfExp t a b pos) (tE (sx X) ks wx (evE cs (.ife mt ma mb))) :=
  (pe_ifExp ht ha hb).imp fun σ H Q h => by
    obtain ⟨io, B, ρ, r, p⟩ := h
    rw [evE] at p
    refine ⟨io, B, ρ, r, (PostG.bind (F := FB) p).imp fun k H1 ⟨d, ρ1, e, q1, s1, f1, p1⟩ => ?_⟩
    cases f1
    cases k with
    | true => exact ⟨io, B, ρ1, q1, p1⟩
    | false => exact ⟨io, B, ρ1, q1, p1⟩

/-! ### chains -/
variable {d : Expr} {md : E} {K : Fv}
def evChain (cs : CS) (op op' : COp) (ma mb md : E) : Env → R Bool := fun ρ => (evE cs ma ρ).bind fun x ρ => (evE cs mb ρ).bind fun y ρ => (R.opt (cmpD op x y) ρ).bind fun t ρ =>
  if t then (evE cs md ρ).bind fun z ρ => R.opt (cmpD op' y z) ρ else .ok false ρ
theorem evChain_eq (op op' : COp) (ρ : Env) : evE cs (.chain op op' ma mb md) ρ = (evChain cs op op' ma mb md ρ).bind fun b ρ => .ok (.bool b) ρ := by
  rw [evE, evChain, bind_assoc]
  congr; funext x ρ
  rw [bind_assoc]
  congr; funext y ρ
  rw [bind_assoc]
  congr; funext t ρ
  cases t with
  | false => rfl
  | true =>
    show _ = ((evE cs md ρ).bind _).bind _
    rw [bind_assoc]
    rfl
theorem t_chain (op op' : COp) (hG : Sub (sx X) G) (hK : Sub (sx X) K) (ho : Over (sx X) F (evE cs mb)) (hp : Pur (evE cs md)) {σ : L2.St} {H : Hp} {Q : VK} (h : tE (sx X) ks wx (evE cs (.chain op op' ma mb md)) σ H Q) :
    tChain (rB (sx X) (bl2 (cmpD op))) (rB (sx X) (bl2 (cmpD op'))) (tG (sx X) ks wx F (evE cs ma)) (tG (sx X) ks wx G (evE cs mb)) (tG (sx X) ks wx K (evE cs md)) σ H Q := by
  obtain ⟨io, B, ρ, r, p⟩ := h
  rw [evE] at p
  refine ⟨io, B, ρ, r, (PostG.bind (F := F B σ) p).imp fun v H1 ⟨d, ρ1, e, q1, s1, f1, p1⟩ => ?_⟩
  refine ⟨io, B, ρ1, q1, (PostG.bind (F := G B σ) p1).imp fun u H2 ⟨d2, ρ2, e2, q2, s2, f2, p2⟩ => ?_⟩
  cases ec : cmpD op d d2 with
  | none => rw [ec] at p2; exact p2.elim
  | some k =>
    rw [ec] at p2
    refine ⟨_, d, d2, .bool k, q2.ntr, (ho _ _ _ _ _ _ _ _ f1 s2 ⟨_, e2⟩).b q2, (hG _ _ _ _ _ _ f2).b q2, by rw [bl2, ec]; rfl, fun z H' g rz => ?_⟩
    cases rz
    refine ⟨k, rfl, ?_⟩
    have p3 := p2.step (.grow g)
    cases k with
    | false => exact p3.done (q2.grow g) (.bl _)
    | true =>
      refine ⟨io, B, ρ2, q2.grow g, (PostG.bind (F := K B σ) p3).imp fun w H3 ⟨d3, ρ3, e3, q3, s3, f3, p4⟩ => ?_⟩
      cases ec' : cmpD op' d2 d3 with
      | none => rw [ec'] at p4; exact p4.elim
      | some k' =>
        rw [ec'] at p4
        have o2 : RepO (sx X) B σ ρ3 H3 u d2 := RepO.step ((Stp.grow g).trans s3) (hG _ _ _ _ _ _ f2) fun _ => hp _ _ _ e3
        exact ⟨_, d2, d3, .bool k', q3.ntr, o2.b q3, (hK _ _ _ _ _ _ f3).b q3, by rw [bl2, ec']; rfl, fun z H' g rz => p4 z H' (q3.grow g) (.grow g) rz⟩
theorem ad_chain (op op' : COp) (hu : X.A.units + 65 < cLine) (hG : Sub (sx X) G) (hK : Sub (sx X) K) (ho : Over (sx X) F (evE cs mb)) (hp : Pur (evE cs md)) (ha : PE X a (tG (sx X) ks wx F (evE cs ma))) (hb : PE X b (tG (sx X) ks wx G (evE cs mb)))
    (hd : PE X d (tG (sx X) ks wx K (evE cs md))) (hm : lastMarks [copOf op, copOf op'] [b, d] = false) : PE X (.Compare a [copOf op, copOf op'] [b, d] pos) (tE (sx X) ks wx (evE cs (.chain op op' ma mb md))) :=
  (pe_chain (op_cmpB hu op) (op_cmpB hu op') ha hb hd hm).imp fun _ _ _ h => t_chain op op' hG hK ho hp h
theorem tp_chain (op op' : COp) (hu : X.A.units + 65 < cLine) (hG : Sub (sx X) G) (hK : Sub (sx X) K) (ho : Over (sx X) F (evE cs mb)) (hp : Pur (evE cs md)) (ha : PE X a (tG (sx X) ks wx F (evE cs ma))) (hb : PE X b (tG (sx X) ks wx G (evE cs mb)))
    (hd : PE X d (tG (sx X) ks wx K (evE cs md))) (hm : lastMarks [copOf op, copOf op'] [b, d] = false) : PT X (.Compare a [copOf op, copOf op'] [b, d] pos) (tT (sx X) ks wx fun ρ => truR (evE cs (.chain op op' ma mb md) ρ)) :=
  (pt_chain (op_cmpB hu op) (op_cmpB hu op') ha hb hd hm).imp fun _ _ _ h => t_chain op op' hG hK ho hp (tT_tE (evChain_eq op op') (tT_val (evChain_eq op op') h))

/-! ### subscripts -/
theorem ad_idx (hu : X.A.units + 65 < cLine) (hG : Sub (sx X) G) (ho : Over (sx X) F (evE cs mb)) (ha : PE X a (tG (sx X) ks wx F (evE cs ma))) (hb : PE X b (tG (sx X) ks wx G (evE cs mb))) (hm : noSlice b = true) :
    PE X (.Subscript a b pos) (tE (sx X) ks wx (evE cs (.idx ma mb))) :=
  (pe_ix (ix_B (by omega)) ha hb (plain_ix hm)).imp fun _ _ _ h => t_op hG ho (by simpa only [evE] using h)
theorem ad_rev (hF : Sub (sx X) F) {k : Nat} {p1 p2 p3 : Pos} (ha : PE X a (tG (sx X) ks wx F (evE cs ma))) : PE X (.Subscript a (.Slice none none (some (.UnaryOp .USub (.Constant (.int 1) k p1) p2)) p3) pos) (tE (sx X) ks wx (evE cs (.rev ma))) :=
  (pe_revB ha).imp fun _ _ _ h => t_un hF (by simpa only [evE] using h)
end
end G

set_option Elab.async false
set_option linter.all false
set_option maxRecDepth 100000
set_option autoImplicit false
/-! G8: argument lists, displays, slices, built-in calls, methods. -/
namespace G
open PySem PySem.Spec PyProof.Rows L2

section
variable {X : Cx} {ks : Ks} {wx : WXs} {cs : CS}
variable {a b e : Expr} {es : List Expr} {m ma mb : E} {ms : List E} {pos : Pos} {F G : Fv}
/-! ### argument lists -/
theorem av_nil : PA X [] (tL (sx X) ks wx (evEs cs [])) := pa_nil.imp fun σ H Q h => by
  obtain ⟨io, B, ρ, r, p⟩ := h
  exact p.done r .nil
theorem av_cons (ha : PE X e (tE (sx X) ks wx (evE cs m))) (hr : PA X es (tL (sx X) ks wx (evEs cs ms))) (hs : noStar e = true) : PA X (e :: es) (tL (sx X) ks wx (evEs cs (m :: ms))) :=
  (pa_cons ha hr (star_cons hs)).imp fun σ H Q h => by
    obtain ⟨io, B, ρ, r, p⟩ := h
    rw [evEs] at p
    refine ⟨io, B, ρ, r, (PostG.bind (F := FE (sx X) B σ) p).imp fun v H1 ⟨d, ρ1, e, q1, s1, f1, p1⟩ => ?_⟩
    refine ⟨io, B, ρ1, q1, (PostG.bind (F := FL (sx X) B σ) p1).imp fun vs H2 ⟨ds, ρ2, e2, q2, s2, f2, p2⟩ => ?_⟩
    exact p2.done q2 (.cons (s2.rep f1) f2)
theorem ao_nil : PA X [] (tLO (sx X) ks wx (evEs cs [])) := pa_nil.imp fun σ H Q h => by
  obtain ⟨io, B, ρ, r, p⟩ := h
  exact p.done r .nil
theorem ao_cons (ho : Over (sx X) F (evEs cs ms)) (ha : PE X e (tG (sx X) ks wx F (evE cs m))) (hr : PA X es (tLO (sx X) ks wx (evEs cs ms))) (hs : noStar e = true) : PA X (e :: es) (tLO (sx X) ks wx (evEs cs (m :: ms))) :=
  (pa_cons ha hr (star_cons hs)).imp fun σ H Q h => by
    obtain ⟨io, B, ρ, r, p⟩ := h
    rw [evEs] at p
    refine ⟨io, B, ρ, r, (PostG.bind (F := F B σ) p).imp fun v H1 ⟨d, ρ1, e, q1, s1, f1, p1⟩ => ?_⟩
    refine ⟨io, B, ρ1, q1, (PostG.bind (F := RepsO (sx X) B σ) p1).imp fun vs H2 ⟨ds, ρ2, e2, q2, s2, f2, p2⟩ => ?_⟩
    exact p2.done q2 (.cons (ho _ _ _ _ _ _ _ _ f1 s2 ⟨_, e2⟩) f2)
theorem RepsO.bb {io : Io} {B : NG} {σ : L2.St} {ρ : Env} {H : Hp} (r : Rel (sx X) ks io B ρ σ H) {vs : List V} {ds : List D} (h : RepsO (sx X) B σ ρ H vs ds) : RepsB (sx X) (No B ρ σ) H vs ds := by
  induction h with
  | nil => exact .nil
  | cons h _ ih => exact .cons (h.b r) ih
theorem evEs_len : ∀ (ms : List E) (ρ : Env) (ds : List D) (ρ' : Env), evEs cs ms ρ = .ok ds ρ' → ds.length = ms.length
  | [], ρ, ds, ρ', h => by rw [evEs] at h; cases h; rfl
  | m :: ms, ρ, ds, ρ', h => by
    rw [evEs] at h
    cases e1 : evE cs m ρ with
    | err => rw [e1] at h; cases h
    | exc c r => rw [e1] at h; cases h
    | ok d r =>
      rw [e1] at h
      cases e2 : evEs cs ms r with
      | err => rw [R.bind_ok, e2] at h; cases h
      | exc c r => rw [R.bind_ok, e2] at h; cases h
      | ok dd r2 =>
        rw [R.bind_ok, e2] at h
        cases h
        rw [List.length_cons, List.length_cons, evEs_len ms r dd _ e2]

/-! ### displays -/
theorem ad_tup {n : Nat} (h : PA X es (tL (sx X) ks wx (evEs cs ms))) (hl : ms.length ≤ 1000) : PE X (.Tuple es n pos) (tE (sx X) ks wx (evE cs (.tup ms))) :=
  (pe_tup h).imp fun σ H Q h => by
    obtain ⟨io, B, ρ, r, p⟩ := h
    rw [evE] at p
    refine ⟨io, B, ρ, r, (PostG.bind (F := FL (sx X) B σ) p).imp fun vs H1 ⟨ds, ρ1, e, q1, s1, f1, p1⟩ => ⟨?_, fun q hq => ?_⟩⟩
    · have := evEs_len ms ρ ds ρ1 e
      have hz := LIM_line
      rw [RepAll.length f1, this]
      exact Nat.le_trans hl (Nat.le_trans (by decide) hz)
    · exact p1 _ _ (q1.grow (.upd hq)) (.grow (.upd hq)) (.newT q1.ntr hq f1)
/-- a new list, by its parts -/
theorem fresh_l {io : Io} {B : NG} {ρ : Env} {σ : L2.St} {H : Hp} {Q : VK} {ds : List D} {vs : List V} {q : Addr} (p : PostF (sx X) ks wx io B σ ρ H (.ok (.list ds) ρ) Q) (r : Rel (sx X) ks io B ρ σ H) (hq : H q = none) (f : RepAll (sx X) (No B ρ σ) H vs ds) :
    Q (.ref q) (upd H q (.lst vs)) := by
  refine p q _ hq (r.more hq (.upd hq) ⟨_, upd_same⟩) (.grow (.upd hq)) ⟨vs, upd_same, f.mono (Grow.upd hq).keep fun b z => ?_⟩
  rcases z with (z | z) | z
  · exact .inl (.inl z)
  · subst z; exact .inr hq
  · exact .inl (.inr z)
theorem af_lst (h : PA X es (tL (sx X) ks wx (evEs cs ms))) (hl : ms.length ≤ 1000) : PE X (.List es pos) (tF (sx X) ks wx (evE cs (.lst ms))) :=
  (pe_lst h).imp fun σ H Q h => by
    obtain ⟨io, B, ρ, r, p⟩ := h
    rw [evE] at p
    refine ⟨io, B, ρ, r, (PostF.bind (F := FL (sx X) B σ) p).imp fun vs H1 ⟨ds, ρ1, e, q1, s1, f1, p1⟩ => ⟨?_, fun q hq => ?_⟩⟩
    · have := evEs_len ms ρ ds ρ1 e
      have hz := LIM_line
      rw [RepAll.length f1, this]
      exact Nat.le_trans hl (Nat.le_trans (by decide) hz)
    · exact fresh_l p1 q1 hq f1
/-- what is new, as a value -/
theorem fe {ev : Env → R D} (hl : ∀ ρ d ρ', ev ρ = .ok d ρ' → (∃ ds, d = .list ds) ∨ ∃ ds, d = .dict ds) (h : PE X e (tF (sx X) ks wx ev)) : PE X e (tE (sx X) ks wx ev) := h.imp fun _ _ _ q => tE_tF hl q
theorem ok_bind {α β : Type} {x : R α} {f : α → Env → R β} {d : β} {ρ' : Env} (h : x.bind f = .ok d ρ') : ∃ a ρ1, x = .ok a ρ1 ∧ f a ρ1 = .ok d ρ' := by
  cases x with
  | ok a ρ1 => exact ⟨a, ρ1, rfl, h⟩
  | exc c r => cases h
  | err => cases h
theorem ok_opt {α : Type} {o : Option α} {ρ ρ' : Env} {a : α} (h : R.opt o ρ = .ok a ρ') : o = some a ∧ ρ' = ρ := by
  cases o with
  | none => cases h
  | some b => cases h; exact ⟨rfl, rfl⟩
theorem lst_is (ρ : Env) (d : D) (ρ' : Env) (h : evE cs (.lst ms) ρ = .ok d ρ') : (∃ ds, d = .list ds) ∨ ∃ ds, d = .dict ds := by
  rw [evE] at h
  obtain ⟨_, _, _, h⟩ := ok_bind h
  cases h
  exact .inl ⟨_, rfl⟩
theorem ad_lst (h : PA X es (tL (sx X) ks wx (evEs cs ms))) (hl : ms.length ≤ 1000) : PE X (.List es pos) (tE (sx X) ks wx (evE cs (.lst ms))) := fe lst_is (af_lst h hl)

/-! ### slices -/
def Keeps (F : Fv) {β : Type} (eb : Env → R β) : Prop := ∀ (B : NG) (σ : L2.St) (ρ1 : Env) (H1 : Hp) (v : V) (d : D) (ρ2 : Env) (H2 : Hp), F B σ ρ1 H1 v d → Stp ρ1 σ H1 ρ2 H2 → (∃ dd, eb ρ1 = .ok dd ρ2) → F B σ ρ2 H2 v d
theorem keeps_E {c : Sx} {β : Type} {eb : Env → R β} : Keeps (FE c) eb := fun B σ ρ1 H1 v d ρ2 H2 f s _ => s.rep f
theorem keeps_O {c : Sx} {β : Type} {eb : Env → R β} (p : Pur eb) : Keeps (FO c) eb := fun B σ ρ1 H1 v d ρ2 H2 f s ⟨dd, e⟩ => RepO.step s f fun _ => p _ _ _ e
def FP : Env → Hp → Option Int → Option Int → Prop := fun _ _ x d => d = x
def tP (c : Sx) (ks : Ks) (wx : WXs) (ev : Env → R (Option Int)) : TO := fun σ H Q => ∃ io B ρ, Rel c ks io B ρ σ H ∧ PostG c ks wx io B σ ρ H FP (ev ρ) Q
theorem ap_none : PO X none (tP (sx X) ks wx (evO cs none)) := ⟨fun pins s σ H Q I h => po_none.run pins s σ H Q I (by
  obtain ⟨io, B, ρ, r, p⟩ := h
  exact p.done r rfl)⟩
theorem ap_some (ha : PE X a (tE (sx X) ks wx (evE cs m))) : PO X (some a) (tP (sx X) ks wx (evO cs (some m))) := ⟨fun pins s σ H Q I h => (po_some ha).run pins s σ H Q I (by
  obtain ⟨io, B, ρ, r, p⟩ := h
  rw [evO] at p
  refine ⟨io, B, ρ, r, (PostG.bind (F := FE (sx X) B σ) p).imp fun v H1 ⟨d, ρ1, e, q1, s1, f1, p1⟩ => ?_⟩
  cases d <;> first | exact p1.elim | skip
  rename_i i
  cases f1
  exact ⟨i, rfl, p1.done q1 rfl⟩)⟩
theorem t_slc {lo hi : Option E} (hF : Sub (sx X) F) (k1 : Keeps F (evO cs lo)) (k2 : Keeps F (evO cs hi)) {σ : L2.St} {H : Hp} {Q : VK} (h : tE (sx X) ks wx (evE cs (.slc m lo hi)) σ H Q) :
    tSl (rSB (sx X)) (tG (sx X) ks wx F (evE cs m)) (tP (sx X) ks wx (evO cs lo)) (tP (sx X) ks wx (evO cs hi)) σ H Q := by
  obtain ⟨io, B, ρ, r, p⟩ := h
  rw [evE] at p
  refine ⟨io, B, ρ, r, (PostG.bind (F := F B σ) p).imp fun v H1 ⟨d, ρ1, e, q1, s1, f1, p1⟩ => ?_⟩
  refine ⟨io, B, ρ1, q1, (PostG.bind (F := FP) p1).imp fun l H2 ⟨dl, ρ2, e2, q2, s2, f2, p2⟩ => ?_⟩
  refine ⟨io, B, ρ2, q2, (PostG.bind (F := FP) p2).imp fun u H3 ⟨du, ρ3, e3, q3, s3, f3, p3⟩ => ?_⟩
  cases f2
  cases f3
  cases ef : slcD d l u with
  | none => rw [ef] at p3; exact p3.elim
  | some dz =>
    rw [ef] at p3
    have g1 := k2 _ _ _ _ _ _ _ _ (k1 _ _ _ _ _ _ _ _ f1 s2 ⟨_, e2⟩) s3 ⟨_, e3⟩
    exact ⟨_, d, dz, q3.ntr, (hF _ _ _ _ _ _ g1).b q3, ef, fun z H' g rz => p3 z H' (q3.grow g) (.grow g) rz⟩
theorem ad_slc {lo hi : Option E} {el eh : Option Expr} {p2 : Pos} (hF : Sub (sx X) F) (k1 : Keeps F (evO cs lo)) (k2 : Keeps F (evO cs hi)) (ha : PE X a (tG (sx X) ks wx F (evE cs m))) (hl : PO X el (tP (sx X) ks wx (evO cs lo))) (hh : PO X eh (tP (sx X) ks wx (evO cs hi))) :
    PE X (.Subscript a (.Slice el eh none p2) pos) (tE (sx X) ks wx (evE cs (.slc m lo hi))) :=
  (pe_slice sl_B ha hl hh).imp fun _ _ _ h => t_slc hF k1 k2 h

/-! ### built-in functions and types -/
theorem t_bi {bi : Bi} {f : List D → Option D} {ev : Env → R D} (hev : ∀ ρ, ev ρ = (evEs cs ms ρ).bind fun ds ρ => R.opt (f ds) ρ) {σ : L2.St} {H : Hp} {Q : VK} (h : tE (sx X) ks wx ev σ H Q) :
    tCB (rC (sx X) f) (tLO (sx X) ks wx (evEs cs ms)) σ H Q := by
  obtain ⟨io, B, ρ, r, p⟩ := h
  rw [hev] at p
  refine ⟨io, B, ρ, r, (PostG.bind (F := RepsO (sx X) B σ) p).imp fun vs H1 ⟨ds, ρ1, e, q1, s1, f1, p1⟩ => ?_⟩
  cases ef : f ds with
  | none => rw [ef] at p1; exact p1.elim
  | some dz =>
    rw [ef] at p1
    exact ⟨_, ds, dz, q1.ntr, f1.bb q1, ef, fun z H' g rz => p1 z H' (q1.grow g) (.grow g) rz⟩
/-- a name of a built-in that the module leaves as it is -/
structure BltOk (X : Cx) (x : Str) (u : Value) : Prop where
  gl : Gl X x
  mg : X.mg x = none
  bt : bootBuiltins x = some u
  nn : x ≠ "__name__"
  db : (x == ("__debug__" : Str)) = false
theorem splice_no {es : List Expr} {env : PySem.Env} {pos : Pos} (h : es.all noStar = true) : (backTo pos (starEach es env)).any (·.1) = false := by
  have key : ∀ es : List Expr, es.all noStar = true → (starEach es env).any (·.1) = false := by
    intro es
    induction es with
    | nil => intro _; rfl
    | cons e es ih =>
      intro h
      rw [List.all_cons, Bool.and_eq_true] at h
      rw [star_cons h.1, List.any_cons, ih h.2]
      rfl
  have k2 : ∀ l : List (Bool × Sem Value), (backTo pos l).any (·.1) = l.any (·.1) := fun l => by
    unfold backTo
    rw [List.any_map]
    rfl
  rw [k2, key es h]
theorem ad_bi {x : Str} {p : Pos} {id : String} {bi : Bi} (hc : CallR X (.builtin id) (rC (sx X) (biD bi))) (hb : BltOk X x (.builtin id)) (h1 : noStar e = true) (h2 : es.all noStar = true) (ha : PA X (e :: es) (tLO (sx X) ks wx (evEs cs ms))) :
    PE X (.Call (.Name x p) (e :: es) [] pos) (tE (sx X) ks wx (evE cs (.bi bi ms))) :=
  (pe_callB hc hb.gl hb.mg hb.bt ha hb.nn hb.db (star_cons h1) (splice_no h2)).imp fun _ _ _ h => t_bi (bi := bi) (fun ρ => by rw [evE]) h
theorem ad_biT {x : Str} {p : Pos} {T : String} {bi : Bi} (hc : CallR X (.type T) (rC (sx X) (biD bi))) (hb : BltOk X x (.type T)) (h1 : noStar e = true) (h2 : es.all noStar = true) (ha : PA X (e :: es) (tLO (sx X) ks wx (evEs cs ms))) :
    PE X (.Call (.Name x p) (e :: es) [] pos) (tE (sx X) ks wx (evE cs (.bi bi ms))) :=
  (pe_callTy hc hb.gl hb.mg hb.bt ha hb.nn hb.db (star_cons h1) (splice_no h2)).imp fun _ _ _ h => t_bi (bi := bi) (fun ρ => by rw [evE]) h
/-- isinstance(x, C) -/
theorem pe_ty {x : Str} {p : Pos} {T : String} (hb : BltOk X x (.type T)) : PE X (.Name x p) (tC (.ty T)) := pe_bltn hb.gl hb.mg hb.bt rfl hb.nn hb.db
theorem evOne (ρ : Env) : evEs cs [m] ρ = (evE cs m ρ).bind fun d ρ => .ok [d] ρ := by
  rw [evEs]
  congr
theorem ad_is {x y : Str} {p p2 : Pos} {bi : Bi} {C : String} (hF : Sub (sx X) F) (hbi : clsOf bi = some C) (hb : BltOk X x (.builtin "isinstance")) (hy : BltOk X y (.type C)) (h1 : noStar e = true) (ha : PE X e (tG (sx X) ks wx F (evE cs m))) :
    PE X (.Call (.Name x p) [e, .Name y p2] [] pos) (tE (sx X) ks wx (evE cs (.bi bi [m]))) :=
  (pe_callB (cr_isB hbi) hb.gl hb.mg hb.bt (pa_cons ha (pa_cons (pe_ty hy) pa_nil) (star_cons h1)) hb.nn hb.db (star_cons h1) rfl).imp fun σ H Q h => by
    obtain ⟨io, B, ρ, r, q⟩ := h
    rw [evE, evOne, bind_assoc] at q
    refine ⟨io, B, ρ, r, (PostG.bind (F := F B σ) q).imp fun v H1 ⟨d, ρ1, e, q1, s1, f1, p1⟩ => ?_⟩
    refine ⟨_, v, d, rfl, (hF _ _ _ _ _ _ f1).b q1, fun z hz => ?_⟩
    rw [R.bind_ok, hz] at p1
    exact p1.done q1 (.bl _)
/-- isinstance(x, (int, tuple)) -/
theorem ad_isIT {x y z : Str} {p p2 p3 p4 : Pos} {n : Nat} (hb : BltOk X x (.builtin "isinstance")) (hy : BltOk X y (.type "int")) (hz : BltOk X z (.type "tuple")) (h1 : noStar e = true) (hF : Sub (sx X) F) (ha : PE X e (tG (sx X) ks wx F (evE cs m))) :
    PE X (.Call (.Name x p) [e, .Tuple [.Name y p2, .Name z p3] n p4] [] pos) (tE (sx X) ks wx (evE cs (.bi .isIntTup [m]))) :=
  (pe_callB cr_isIT hb.gl hb.mg hb.bt (pa_cons ha (pa_cons (pe_tup (pa_cons (pe_ty hy) (pa_cons (pe_ty hz) pa_nil))) pa_nil) (star_cons h1)) hb.nn hb.db (star_cons h1) rfl).imp fun σ H Q h => by
    obtain ⟨io, B, ρ, r, q⟩ := h
    rw [evE, evOne, bind_assoc] at q
    refine ⟨io, B, ρ, r, (PostG.bind (F := F B σ) q).imp fun v H1 ⟨d, ρ1, e, q1, s1, f1, p1⟩ => ?_⟩
    refine ⟨by show 2 ≤ sizeLine; decide, fun tp htp => ?_⟩
    refine ⟨_, v, d, tp, rfl, upd_same, ((hF _ _ _ _ _ _ f1).b q1).grow (.upd htp), fun z hz => ?_⟩
    rw [R.bind_ok, hz] at p1
    exact p1 _ _ (q1.grow (.upd htp)) (.grow (.upd htp)) (.bl _)

/-! ### methods -/
def attrOk : Expr → Bool
  | .Call .. => false
  | _ => true
theorem attr_ok {e : Expr} {name : Str} {env : PySem.Env} (h : attrOk e = true) : attributeBase e name env (eval e env) = eval e env := by
  cases e <;> first | rfl | cases h
def oneLine (a c : Pos) : Bool := a.endLine == c.line
theorem few_1 {e : Expr} {env : PySem.Env} {pos : Pos} (h : noStar e = true) : ((backTo pos (starEach [e] env)).all (fun x => !x.1) && (backToKw pos (keywordEach [] env)).all (fun x => x.1.isSome)
      && decide (([e] : List Expr).length + ([] : List Keyword).length + (if ([] : List Keyword).isEmpty then 0 else 1) < 30)) = true := by
  rw [star_cons h]
  rfl
theorem str_ty (z : Str) (H : Hp) : tyV X.K "str" (.str z) H := rfl
/-- "".join(x) -/
theorem ad_join {j : Nat} {p1 apos : Pos} (hF : Sub (sx X) F) (ha : PE X e (tG (sx X) ks wx F (evE cs m))) (h1 : noStar e = true) (hl : oneLine apos pos = true) :
    PE X (.Call (.Attribute (.Constant (.str (Str.ofString "")) j p1) (Str.ofString "join") apos) [e] [] pos) (tE (sx X) ks wx (evE cs (.bi .join [m]))) :=
  (pe_bm (T := "str") (id := "str.join") PySem.F.plainAttrs_str PySem.F.slot_str_join PySem.F.type_str_join mt_joinB pe_str (pa_cons ha pa_nil (star_cons h1)) rfl (few_1 h1) hl (star_cons h1) rfl).imp fun σ H Q h => by
    obtain ⟨io, B, ρ, r, q⟩ := h
    rw [evE, evOne, bind_assoc] at q
    refine ⟨str_ty _ _, io, B, ρ, r, (PostG.bind (F := F B σ) q).imp fun v H1 ⟨d, ρ1, e, q1, s1, f1, p1⟩ => ?_⟩
    rw [R.bind_ok] at p1
    cases ef : biD .join [d] with
    | none => rw [ef] at p1; exact p1.elim
    | some dz =>
      rw [ef] at p1
      exact ⟨_, [.str (Str.ofString ""), d], dz, q1.ntr, .cons (.of (.str _)) (.cons ((hF _ _ _ _ _ _ f1).b q1) .nil), by rw [← ef]; exact if_pos rfl, fun z H' g rz => p1 z H' (q1.grow g) (.grow g) rz⟩
end
end G

set_option Elab.async false
set_option linter.all false
set_option maxRecDepth 100000
set_option autoImplicit false
/-! G9: what defs promise; calls; an owned object written. -/
namespace G
open PySem PySem.Spec PyProof.Rows L2

/-! ### an owned object is written -/
section
variable {c : Sx} {ks : Ks} {io : Io} {B : NG} {ρ : Env} {σ : L2.St} {H H' : Hp} {i : Nat} {a : Addr} {x' : AV}
theorem own_lt {i : Nat} (h : isOwn ρ[i]?) : i < ρ.length := by
  cases e : ρ[i]? with
  | none => rw [e] at h; exact h.elim
  | some o => exact (List.getElem?_eq_some_iff.mp e).1
theorem own_set (h : isOwn ρ[i]?) (hx : isOwn (some (some x'))) (j : Nat) : isOwn (ρ.set i (some x'))[j]? ↔ isOwn ρ[j]? := by
  by_cases e : i = j
  · subst e
    rw [List.getElem?_set_self (own_lt h)]
    exact ⟨fun _ => h, fun _ => hx⟩
  · rw [List.getElem?_set_ne e]
theorem ownI_set (h : isOwn ρ[i]?) (hx : isOwn (some (some x'))) (j : Nat) (b : Addr) : OwnI (ρ.set i (some x')) σ j b ↔ OwnI ρ σ j b := by
  unfold OwnI
  rw [own_set h hx]
theorem no_set (h : isOwn ρ[i]?) (hx : isOwn (some (some x'))) (b : Addr) : No B (ρ.set i (some x')) σ b ↔ No B ρ σ b := by
  unfold No OwnA
  constructor
  · rintro (q | ⟨j, q⟩)
    · exact .inl q
    · exact .inr ⟨j, (ownI_set h hx j b).mp q⟩
  · rintro (q | ⟨j, q⟩)
    · exact .inl q
    · exact .inr ⟨j, (ownI_set h hx j b).mpr q⟩
theorem Rel.wrote (r : Rel c ks io B ρ σ H) (h : OwnI ρ σ i a) (hx : isOwn (some (some x'))) (k : Keep (fun b => b = a) H H') (t : ∀ b o, H b = some o → ∃ o', H' b = some o') (ok : OwnOk c (No B ρ σ) H' a x') :
    Rel c ks io B (ρ.set i (some x')) σ H' ∧ Stp ρ σ H (ρ.set i (some x')) H' := by
  have na : No B ρ σ a := .inr ⟨i, h⟩
  have kN : Keep (No B ρ σ) H H' := fun b o e n => k b o e fun z => n (z ▸ na)
  have sub : ∀ b, No B (ρ.set i (some x')) σ b → No B ρ σ b ∨ H' b = none := fun b q => .inl ((no_set h.1 hx b).mp q)
  have sub2 : ∀ b, No B (ρ.set i (some x')) σ b → No B ρ σ b ∨ H b = none := fun b q => .inl ((no_set h.1 hx b).mp q)
  refine ⟨⟨by rw [List.length_set]; exact r.len, fun j x e => ?_, fun j l b p q => r.dist j l b ((ownI_set h.1 hx _ _).mp p) ((ownI_set h.1 hx _ _).mp q), fun b ⟨j, q⟩ => r.apart b ⟨j, (ownI_set h.1 hx _ _).mp q⟩, fun b q => let ⟨o, e⟩ := r.btr b q; t b o e,
    fun p hp => ⟨(r.io p hp).1, (ownI_set h.1 hx _ _).mpr (r.io p hp).2⟩, fun j q => r.ow j ((own_set h.1 hx j).mp q)⟩, ⟨fun b o e n => k b o e fun z => n (z ▸ ⟨i, h⟩), fun j q => (own_set h.1 hx j).mp q, t⟩⟩
  by_cases ej : i = j
  · subst ej
    rw [List.getElem?_set_self (own_lt h.1)] at e
    cases e
    cases x' with
    | d _ => exact hx.elim
    | sc _ => exact hx.elim
    | ol xs => exact ⟨a, h.2, ok.mono (fun _ e => e) .refl sub⟩
    | od xs => exact ⟨a, h.2, ok.mono (fun _ e => e) .refl sub⟩
  · rw [List.getElem?_set_ne ej] at e
    refine (r.slot j x e).mono (fun b o sb ow q => k b o q fun z => ej (r.dist i j a h ⟨by rw [e]; exact ow, by rw [sb, z]⟩)) kN sub2
theorem rep_set (h : isOwn ρ[i]?) (hx : isOwn (some (some x'))) {v : V} {d : D} (f : Rep c (No B ρ σ) H v d) : Rep c (No B (ρ.set i (some x')) σ) H v d :=
  f.mono .refl fun b q => .inl ((no_set h hx b).mp q)
theorem own_some {xs : List D} (h : own ρ i = some xs) : ρ[i]? = some (some (.ol xs)) := by
  unfold own at h
  split at h
  · cases h; assumption
  · cases h
theorem Rel.own_at (r : Rel c ks io B ρ σ H) {xs : List D} (h : own ρ i = some xs) : ∃ a vs, OwnI ρ σ i a ∧ H a = some (.lst vs) ∧ RepAll c (No B ρ σ) H vs xs := by
  have e := own_some h
  obtain ⟨a, e1, vs, h1, h2⟩ := r.slot i _ e
  exact ⟨a, vs, ⟨by rw [e]; trivial, e1⟩, h1, h2⟩
end

/-! ### promises -/
structure Exs where
  u : Addr
  w : Addr
def exV (x : Exs) : Ex → Value
  | .unfit => .ref x.u
  | .wide => .ref x.w
def WW (x : Exs) (wx : WXs) : WX := fun cls d σ H => ∃ e, cls = exV x e ∧ d = none ∧ wx e σ H
def EndF (c : Sx) (x : Exs) (N : NG) (H : Hp) (Q : VK) (E : XK) : CR → Prop
  | .ok d _ => ∀ v H', Grow H H' → Rep c N H' v d → Q v H'
  | .exc e => ∀ H', Grow H H' → E (exV x e) none H'
  | .err => False
def EndS (c : Sx) (N : NG) (a : Addr) (H : Hp) (Q : VK) : CR → Prop
  | .ok d st => ∀ v ws H', Keep (fun b => b = a) H H' → (∀ b o, H b = some o → ∃ o', H' b = some o') → H' a = some (.lst ws) → RepAll c N H' ws st → Rep c N H' v d → Q v H'
  | _ => False
def spF (c : Sx) (x : Exs) (f : List D → List D → CR) : Sp := fun vs H Q E => ∃ N ds, NTr N H ∧ RepAll c N H vs ds ∧ EndF c x N H Q E (f [] ds)
def spS (c : Sx) (f : List D → List D → CR) : Sp := fun vs H Q E => ∃ N a ws st vs' ds, vs = .ref a :: vs' ∧ N a ∧ NTr N H ∧ H a = some (.lst ws) ∧ RepAll c N H ws st ∧ RepAll c N H vs' ds ∧ EndS c N a H Q (f st ds)

/-- a def's promise, where nothing is being shown by repr -/
structure FnG (P : Program) (w : World) (K : PySem.W.Frag) (mg : Str → Option Value) (base : Heap) (n : Nat) (f : Addr) (fd : FuncData) (ps : List Str) (sp : Sp) : Prop where
  run : ∀ (A : Around) (outer : List PySem.Env) (s : Shared) (H : Hp) (args : Args) (us : List Value) (vs : List V) (Q : VK) (E : XK), Room n A → A.guards = some [] → Env0 P w K mg base A outer s H → BindsTo s fd args (ps.zip us) → Vals vs us → vs.length = ps.length → sp vs H Q E →
    codeAny (model P w) A (.call (.ref f) args) (L2.CR (L2.CX P w) outer P w H s Q E) s

section
variable {X : Cx} {ks : Ks} {wx : WXs} {cs : CS} {n : Nat} {f : Addr} {fd : FuncData} {ps : List Str} {sp : Sp} {x : Str} {p pos : Pos} {e : Expr} {es : List Expr} {m : E} {ms : List E} {W : WX} {ex : Exs}
theorem run_g {pins : List (Addr × Obj)} {σ : L2.St} {H : Hp} {s : Shared} {Q : VK} {us : List Value} {vs : List V} (F : FnG X.prog X.w X.K X.mg X.base n f fd ps sp) (hr : Room n X.A) (hg : X.A.guards = some []) (hb : Binds X.K fd ps []) (tk : Takes X W)
    (I : Inv X pins σ H s) (r : Vals vs us) (hl : vs.length = ps.length) (h : sp vs H Q (WE W σ)) : wpAny (model X.prog X.w) X.A (call (.ref f) us) (EP X pins σ Q) X.xe s := by
  have b := hb s us I.kIn (by rw [List.append_nil, ← r.length]; exact hl)
  rw [List.append_nil] at b
  have go := F.run X.A X.stack s H ⟨us, []⟩ us vs Q (WE W σ) hr hg I.env0 b r hl h
  refine wpAny_call (codeAny_mono go fun rr s' hq => ?_)
  match rr, hq with
  | .error z, hq => exact passAt tk σ pins H s z s' I hq
  | .ok (.ret _), hq => exact I.after hq
  | .ok .next, hq => exact hq.elim
  | .ok .brk, hq => exact hq.elim
  | .ok .cont, hq => exact hq.elim
/-- the facts of a def that calls want -/
structure CallOk (X : Cx) (n : Nat) (x : Str) (np : Nat) (sp : Sp) : Prop where
  ex : ∃ (f : Addr) (fd : FuncData) (ps : List Str), ps.length = np ∧ X.mg x = some (.ref f) ∧ PySem.W.keepIn X.K (.ref f) = true ∧ Binds X.K fd ps [] ∧ FnG X.prog X.w X.K X.mg X.base n f fd ps sp
  db : (x == ("__debug__" : Str)) = false
def tCallG (sp : Sp) (E : L2.St → XK) (t : TA) (np : Nat) : TE := fun σ H Q => t σ H fun vs H1 => vs.length = np ∧ sp vs H1 Q (E σ)
theorem pe_callG {np : Nat} {t : TA} (C : CallOk X n x np sp) (hr : Room n X.A) (hg : X.A.guards = some []) (hx : Gl X x) (tk : Takes X W) (ha : PA X (e :: es) t) (h1 : noStar e = true) (h2 : es.all noStar = true) :
    PE X (.Call (.Name x p) (e :: es) [] pos) (tCallG sp (WE W) t np) := by
  obtain ⟨⟨f, fd, ps, hn, hm, hk, hb, F⟩, db⟩ := C
  refine ⟨fun pins s σ H Q I h => wpAny_Call_Name_kw (ld_glob I hx hm ?_ db)⟩
  have arg := ha.run pos pins s σ H _ I h
  refine PySem.W.callWith_K (h₀ := X.base) I.ok.mod.kin hk (thn arg fun us s1 ⟨vs, H1, I1, r, hl, q⟩ => ⟨I1.kIn, ?_⟩) (star_cons h1) (splice_no h2)
  exact run_g F hr hg hb tk I1 r (hl.trans hn.symm) q
/-- a call of a def -/
theorem ad_call {k np : Nat} (C : CallOk X n x np (spF (sx X) ex (cs k))) (hr : Room n X.A) (hg : X.A.guards = some []) (hx : Gl X x) (tk : Takes X (WW ex wx)) (ha : PA X (e :: es) (tL (sx X) ks wx (evEs cs ms))) (h1 : noStar e = true) (h2 : es.all noStar = true) (hn : ms.length = np) :
    PE X (.Call (.Name x p) (e :: es) [] pos) (tE (sx X) ks wx (evE cs (.call k ms))) :=
  (pe_callG C hr hg hx tk ha h1 h2).imp fun σ H Q h => by
    obtain ⟨io, B, ρ, r, q⟩ := h
    rw [evE] at q
    refine ⟨io, B, ρ, r, (PostG.bind (F := FL (sx X) B σ) q).imp fun vs H1 ⟨ds, ρ1, e, q1, s1, f1, p1⟩ => ⟨?_, No B ρ1 σ, ds, q1.ntr, f1, ?_⟩⟩
    · rw [RepAll.length f1, evEs_len ms ρ ds ρ1 e, hn]
    · cases er : cs k [] ds with
      | err => rw [er] at p1; exact p1.elim
      | ok d st =>
        rw [er] at p1
        exact fun v H' g rv => p1 v H' (q1.grow g) (.grow g) rv
      | exc c =>
        rw [er] at p1
        exact fun H' g => ⟨c, rfl, rfl, p1 H' (q1.grow g) (.grow g)⟩
/-- a call that hands on the state -/
theorem ad_callS {k np i : Nat} {y : Str} {p2 : Pos} (C : CallOk X n x np (spS (sx X) (cs k))) (hr : Room n X.A) (hg : X.A.guards = some []) (hx : Gl X x) (tk : Takes X (WW ex wx)) (hN : X.N[i]? = some y) (hv : Vis X.env.scope y) (hd : (y == ("__debug__" : Str)) = false) (hcd : (y == ("__classdict__" : Str)) = false)
    (ha : PA X es (tL (sx X) ks wx (evEs cs ms))) (h2 : es.all noStar = true) (hn : ms.length + 1 = np) :
    PE X (.Call (.Name x p) (.Name y p2 :: es) [] pos) (tE (sx X) ks wx (evE cs (.callS k i ms))) :=
  (pe_callG (W := WW ex wx) C hr hg hx tk (pa_cons (pe_var hN hv hd hcd) ha) rfl h2).imp fun σ H Q h => by
    obtain ⟨io, B, ρ, r, q⟩ := h
    rw [evE] at q
    cases eo : own ρ i with
    | none => rw [eo] at q; exact q.elim
    | some st0 =>
      rw [eo, R.opt_some, R.bind_ok] at q
      obtain ⟨a, vs0, o1, _, _⟩ := r.own_at eo
      refine ⟨.ref a, o1.2, io, B, ρ, r, (PostG.bind (F := FL (sx X) B σ) q).imp fun vs H1 ⟨ds, ρ1, e, q1, s1, f1, p1⟩ => ⟨?_, ?_⟩⟩
      · rw [List.length_cons, RepAll.length f1, evEs_len ms ρ ds ρ1 e, hn]
      · unfold callQ at p1
        cases eo1 : own ρ1 i with
        | none => rw [eo1] at p1; exact p1.elim
        | some st =>
          rw [eo1] at p1
          obtain ⟨a', ws, o2, h1, h2⟩ := q1.own_at eo1
          have ea : a' = a := by
            have := o2.2.symm.trans o1.2
            cases this
            rfl
          subst ea
          refine ⟨No B ρ1 σ, a', ws, st, vs, ds, rfl, .inr ⟨i, o2⟩, q1.ntr, h1, h2, f1, ?_⟩
          dsimp only at p1
          cases er : cs k st ds with
          | err => rw [er] at p1; exact p1.elim
          | exc c => rw [er] at p1; exact p1.elim
          | ok d st' =>
            rw [er] at p1
            intro v ws' H' kp t ha' rw' rv
            have o3 : OwnOk (sx X) (No B ρ1 σ) H' a' (.ol st') := ⟨ws', ha', rw'⟩
            obtain ⟨g1, g2⟩ := q1.wrote (x' := .ol st') o2 trivial kp t o3
            exact p1 v H' g1 g2 (rep_set (x' := .ol st') o2.1 trivial rv)

/-! ### pop -/
theorem ad_pop {i : Nat} {y : Str} {p2 apos : Pos} (hN : X.N[i]? = some y) (hv : Vis X.env.scope y) (hd : (y == ("__debug__" : Str)) = false) (hcd : (y == ("__classdict__" : Str)) = false) (ha : PE X e (tE (sx X) ks wx (evE cs m))) (h1 : noStar e = true) (hl : oneLine apos pos = true) :
    PE X (.Call (.Attribute (.Name y p2) (Str.ofString "pop") apos) [e] [] pos) (tE (sx X) ks wx (evE cs (.pop i m))) :=
  (pe_bm (T := "list") (id := "list.pop") PySem.F.plainAttrs_list PySem.F.slot_list_pop PySem.F.type_list_pop mt_popAt (pe_var hN hv hd hcd) (pa_cons ha pa_nil (star_cons h1)) rfl (few_1 h1) hl (star_cons h1) rfl).imp fun σ H Q h => by
    obtain ⟨io, B, ρ, r, q⟩ := h
    rw [evE] at q
    cases eo : own ρ i with
    | none => rw [eo] at q; exact q.elim
    | some st0 =>
      rw [eo, R.opt_some, R.bind_ok] at q
      obtain ⟨a, vs0, o1, h1, _⟩ := r.own_at eo
      refine ⟨.ref a, o1.2, .inl ⟨rfl, vs0, .of h1⟩, io, B, ρ, r, (PostG.bind (F := FE (sx X) B σ) q).imp fun v H1 ⟨d, ρ1, e, q1, s1, f1, p1⟩ => ?_⟩
      unfold popQ at p1
      split at p1
      · rename_i xs j eo1
        cases f1
        split at p1
        · rename_i hj
          rw [Bool.and_eq_true] at hj
          have j1 := of_decide_eq_true hj.1
          have j2 := of_decide_eq_true hj.2
          cases en : ixN xs.length j with
          | none => rw [en] at p1; exact p1.elim
          | some k =>
            rw [en] at p1
            dsimp only at p1
            cases ex : xs[k]? with
            | none => rw [ex] at p1; exact p1.elim
            | some z =>
              rw [ex] at p1
              obtain ⟨a', ws, o2, g1, g2⟩ := q1.own_at eo1
              have ea : a' = a := by
                have := o2.2.symm.trans o1.2
                cases this
                rfl
              subst ea
              obtain ⟨w, hw, rw'⟩ := g2.get ex
              have hlen : ws.length = xs.length := g2.length
              refine ⟨a', ws, j, k, w, rfl, rfl, g1, j1, j2, by rw [hlen]; exact (ixN_seq en).1, hw, ?_⟩
              have mu : ∀ b o, H1 b = some o → ∃ o', (upd H1 a' (.lst (ws.eraseIdx k))) b = some o' := fun b o e => by
                by_cases eb : b = a'
                · subst eb; exact ⟨_, upd_same⟩
                · exact ⟨o, by rw [upd_ne eb]; exact e⟩
              have kp : Keep (fun b => b = a') H1 (upd H1 a' (.lst (ws.eraseIdx k))) := fun b o e nb => by rw [upd_ne nb]; exact e
              have na : No B ρ1 σ a' := .inr ⟨i, o2⟩
              have kN : Keep (No B ρ1 σ) H1 (upd H1 a' (.lst (ws.eraseIdx k))) := fun b o e nb => kp b o e fun z => nb (z ▸ na)
              have o3 : OwnOk (sx X) (No B ρ1 σ) (upd H1 a' (.lst (ws.eraseIdx k))) a' (.ol (xs.eraseIdx k)) := ⟨_, upd_same, (g2.erase k).mono kN fun _ q => .inl q⟩
              obtain ⟨w1, w2⟩ := q1.wrote (x' := .ol (xs.eraseIdx k)) o2 trivial kp mu o3
              exact p1 w _ w1 w2 (rep_set (x' := .ol (xs.eraseIdx k)) o2.1 trivial (rw'.mono kN fun _ q => .inl q))
        · exact p1.elim
      · exact p1.elim
end
end G

set_option Elab.async false
set_option linter.all false
set_option maxRecDepth 100000
set_option autoImplicit false
/-! G10: targets, iterables, comprehensions. -/
namespace G
open PySem PySem.Spec PyProof.Rows L2

/-! ### from one time to a later one -/
def Later (N : NG) (H : Hp) (N' : NG) (H' : Hp) : Prop := ∀ a o, H a = some o → ¬ N a → H' a = some o ∧ ¬ N' a
section
variable {c : Sx} {ks : Ks} {io : Io} {B : NG} {N N' N'' : NG} {ρ : Env} {σ : L2.St} {H H' H'' : Hp}
theorem Later.refl : Later N H N H := fun a o e n => ⟨e, n⟩
theorem Later.trans (a : Later N H N' H') (b : Later N' H' N'' H'') : Later N H N'' H'' := fun p o e n => let ⟨e1, n1⟩ := a p o e n; b p o e1 n1
theorem Later.keep (l : Later N H N' H') : Keep N H H' := fun a o e n => (l a o e n).1
theorem Later.sub (l : Later N H N' H') : ∀ a, N' a → N a ∨ H a = none := fun a h => by
  cases e : H a with
  | none => exact .inr rfl
  | some o =>
    refine .inl (Classical.byContradiction fun n => (l a o e n).2 h)
theorem Later.rep (l : Later N H N' H') {v : V} {d : D} (r : Rep c N H v d) : Rep c N' H' v d := r.mono l.keep l.sub
theorem Later.reps (l : Later N H N' H') {v : List V} {d : List D} (r : RepAll c N H v d) : RepAll c N' H' v d := r.mono l.keep l.sub
theorem Stp.later {ρ' : Env} (s : Stp ρ σ H ρ' H') : Later (No B ρ σ) H (No B ρ' σ) H' := fun a o e n => ⟨s.keep a o e fun q => n (.inr q), fun q => n (q.elim .inl fun z => .inr (s.ownA z))⟩
theorem Later.less (l : Later N H N' H') (h : ∀ a, N'' a → N' a) : Later N H N'' H' := fun a o e n => let ⟨e1, n1⟩ := l a o e n; ⟨e1, fun q => n1 (h a q)⟩

/-! ### a slot is stored -/
theorem own_setD {i : Nat} {d : D} {j : Nat} (h : isOwn (ρ.set i (some (.d d)))[j]?) : isOwn ρ[j]? ∧ i ≠ j := by
  by_cases e : i = j
  · subst e
    by_cases hl : i < ρ.length
    · rw [List.getElem?_set_self hl] at h; exact h.elim
    · rw [List.getElem?_eq_none (by rw [List.length_set]; omega)] at h; exact h.elim
  · rw [List.getElem?_set_ne e] at h
    exact ⟨h, e⟩
theorem ownA_setD {i : Nat} {d : D} {v : V} {a : Addr} (h : OwnA (ρ.set i (some (.d d))) (σ.set i (some v)) a) : OwnA ρ σ a := by
  obtain ⟨j, h1, h2⟩ := h
  obtain ⟨g1, g2⟩ := own_setD h1
  rw [List.getElem?_set_ne g2] at h2
  exact ⟨j, g1, h2⟩
theorem no_setD {i : Nat} {d : D} {v : V} {a : Addr} (h : No B (ρ.set i (some (.d d))) (σ.set i (some v)) a) : No B ρ σ a := h.elim .inl fun q => .inr (ownA_setD q)
theorem Rel.setD (r : Rel c ks io B ρ σ H) {i : Nat} {v : V} {d : D} (f : Rep c (No B ρ σ) H v d) (hi : i ∉ ks.fx) : Rel c ks io B (ρ.set i (some (.d d))) (σ.set i (some v)) H := by
  have sub : ∀ a, No B (ρ.set i (some (.d d))) (σ.set i (some v)) a → No B ρ σ a ∨ H a = none := fun a q => .inl (no_setD q)
  refine ⟨by rw [List.length_set, List.length_set]; exact r.len, fun j x e => ?_, fun j l a p q => ?_, fun a q => r.apart a (ownA_setD q), r.btr, fun p hp => ?_, fun j q => r.ow j (own_setD q).1⟩
  · by_cases ej : i = j
    · subst ej
      have hl : i < ρ.length := by
        have := (List.getElem?_eq_some_iff.mp e).1
        rwa [List.length_set] at this
      rw [List.getElem?_set_self hl] at e
      cases e
      exact ⟨v, by rw [List.getElem?_set_self (by rw [← r.len]; exact hl)], f.mono .refl sub⟩
    · rw [List.getElem?_set_ne ej] at e
      rw [List.getElem?_set_ne ej]
      exact (r.slot j x e).mono (fun _ _ _ _ q => q) .refl sub
  · obtain ⟨p1, p2⟩ := own_setD p.1
    obtain ⟨q1, q2⟩ := own_setD q.1
    have p3 := p.2
    have q3 := q.2
    rw [List.getElem?_set_ne p2] at p3
    rw [List.getElem?_set_ne q2] at q3
    exact r.dist j l a ⟨p1, p3⟩ ⟨q1, q3⟩
  · obtain ⟨h1, h2⟩ := r.io p hp
    have ne : i ≠ p.1 := fun z => hi (z ▸ h1)
    exact ⟨h1, by rw [List.getElem?_set_ne ne]; exact h2.1, by rw [List.getElem?_set_ne ne]; exact h2.2⟩

/-! ### targets -/
mutual
def Tg.slots : Tg → List Nat
  | .n i => [i]
  | .t ts => Tg.slotss ts
def Tg.slotss : List Tg → List Nat
  | [] => []
  | g :: gs => Tg.slots g ++ Tg.slotss gs
end
/-- no new slot owns -/
structure Nar (ρ : Env) (σ : L2.St) (ρ' : Env) (σ' : L2.St) : Prop where
  own : ∀ j a, OwnI ρ' σ' j a → OwnI ρ σ j a
  ownj : ∀ j : Nat, isOwn ρ'[j]? → isOwn ρ[j]?
  len : σ'.length = σ.length
section
variable {B : NG} {ρ ρ' ρ'' : Env} {σ σ' σ'' : L2.St}
theorem Nar.refl : Nar ρ σ ρ σ := ⟨fun _ _ h => h, fun _ h => h, rfl⟩
theorem Nar.trans (a : Nar ρ σ ρ' σ') (b : Nar ρ' σ' ρ'' σ'') : Nar ρ σ ρ'' σ'' := ⟨fun j p h => a.own j p (b.own j p h), fun j h => a.ownj j (b.ownj j h), b.len.trans a.len⟩
theorem Nar.ownA (n : Nar ρ σ ρ' σ') {a : Addr} (h : OwnA ρ' σ' a) : OwnA ρ σ a := let ⟨j, h⟩ := h; ⟨j, n.own j a h⟩
theorem Nar.no (n : Nar ρ σ ρ' σ') {a : Addr} (h : No B ρ' σ' a) : No B ρ σ a := h.elim .inl fun q => .inr (n.ownA q)
theorem nar_setD {i : Nat} {d : D} {v : V} : Nar ρ σ (ρ.set i (some (.d d))) (σ.set i (some v)) := ⟨fun j a ⟨h1, h2⟩ => by
  obtain ⟨g1, g2⟩ := own_setD h1
  rw [List.getElem?_set_ne g2] at h2
  exact ⟨g1, h2⟩, fun j h => (own_setD h).1, List.length_set ..⟩
theorem Stp.nar {H H' : Hp} (s : Stp ρ σ H ρ' H') : Nar ρ σ ρ' σ := ⟨fun j a ⟨h1, h2⟩ => ⟨s.own j h1, h2⟩, s.own, rfl⟩
end
/-- σ' is σ but for the slots is -/
structure Asg (is : List Nat) (σ σ' : L2.St) : Prop where
  len : σ'.length = σ.length
  at_ : ∀ j, j ∉ is → σ'[j]? = σ[j]?
def tTg (c : Sx) (ks : Ks) (tg : Tg) : TG := fun v σ H Q => ∃ io B ρ d ρ', Rel c ks io B ρ σ H ∧ Rep c (No B ρ σ) H v d ∧ tg.bind d ρ = some ρ' ∧
  ∀ σ', Rel c ks io B ρ' σ' H → Asg tg.slots σ σ' → Nar ρ σ ρ' σ' → Q σ' H
def tTgs (c : Sx) (ks : Ks) (tg : List Tg) : TGs := fun v σ H Q => ∃ io B ρ d ρ', Rel c ks io B ρ σ H ∧ RepAll c (No B ρ σ) H v d ∧ Tg.binds tg d ρ = some ρ' ∧
  ∀ σ', Rel c ks io B ρ' σ' H → Asg (Tg.slotss tg) σ σ' → Nar ρ σ ρ' σ' → Q σ' H
end

section
variable {X : Cx} {ks : Ks} {pos : Pos}
theorem pg_imp {e : Expr} {t t' : TG} (h : PG X e t) (q : ∀ v σ H Q, t' v σ H Q → t v σ H Q) : PG X e t' := ⟨fun pins s σ H v u Q I r w => h.run pins s σ H v u Q I r (q v σ H Q w)⟩
theorem pgs_imp {e : List Expr} {t t' : TGs} (h : PGs X e t) (q : ∀ v σ H Q, t' v σ H Q → t v σ H Q) : PGs X e t' := ⟨fun pins s σ H v u Q I r w => h.run pins s σ H v u Q I r (q v σ H Q w)⟩
theorem tg_name {i : Nat} {x : Str} (hN : X.N.Nodup) (hi : X.N[i]? = some x) (hx : Loc X.env.scope x) (hf : X.fn x = true ∨ X.env.scope.names.lookup x = some .local) (hfx : i ∉ ks.fx) : PG X (.Name x pos) (tTg (sx X) ks (.n i)) :=
  pg_imp (pg_name hN hi hx hf) fun v σ H Q h => by
    obtain ⟨io, B, ρ, d, ρ', r, f, e, k⟩ := h
    have e : wr ρ i d = some ρ' := e
    unfold wr at e
    split at e
    · cases e
      exact k _ (r.setD f hfx) ⟨List.length_set .., fun j hj => List.getElem?_set_ne fun z => hj (by rw [← z]; exact List.mem_singleton.mpr rfl)⟩ nar_setD
    · cases e
theorem asg_cons {e : Expr} {es : List Expr} {env : PySem.Env} (h : noStar e = true) : assignEach (e :: es) env = (false, assign e env) :: assignEach es env := by
  cases e <;> first | rfl | cases h
theorem asg_facts {env : PySem.Env} : ∀ {es : List Expr}, es.all noStar = true → (assignEach es env).length = es.length ∧ (assignEach es env).findIdx? (·.1) = none
  | [], _ => ⟨rfl, rfl⟩
  | e :: es, h => by
    rw [List.all_cons, Bool.and_eq_true] at h
    obtain ⟨h1, h2⟩ := asg_facts (es := es) h.2
    rw [asg_cons h.1]
    refine ⟨by rw [List.length_cons, List.length_cons, h1], ?_⟩
    rw [List.findIdx?_cons, h2]
    rfl
theorem tgs_nil : PGs X [] (tTgs (sx X) ks []) := pgs_imp pgs_nil fun v σ H Q h => by
  obtain ⟨io, B, ρ, d, ρ', r, f, e, k⟩ := h
  cases f with
  | nil =>
    cases e
    exact ⟨rfl, k σ r ⟨rfl, fun _ _ => rfl⟩ .refl⟩
  | cons _ _ => cases e
theorem binds_len : ∀ {ts : List Tg} {ds : List D} {ρ ρ' : Env}, Tg.binds ts ds ρ = some ρ' → ds.length = ts.length
  | [], [], _, _, _ => rfl
  | [], _ :: _, _, _, h => by cases h
  | _ :: _, [], _, _, h => by cases h
  | g :: gs, x :: xs, ρ, ρ', h => by
    rw [Tg.binds] at h
    obtain ⟨ρ1, _, h⟩ := Option.bind_eq_some_iff.mp h
    rw [List.length_cons, List.length_cons, binds_len h]
theorem tgs_cons {e : Expr} {es : List Expr} {g : Tg} {gs : List Tg} (h1 : PG X e (tTg (sx X) ks g)) (h2 : PGs X es (tTgs (sx X) ks gs)) (hs : noStar e = true) : PGs X (e :: es) (tTgs (sx X) ks (g :: gs)) :=
  pgs_imp (pgs_cons h1 h2 (by rw [asg_cons hs]; rfl)) fun vs σ H Q h => by
    obtain ⟨io, B, ρ, ds, ρ', r, f, e, k⟩ := h
    cases f with
    | nil => cases e
    | @cons v vr d dr f1 f2 =>
      rw [Tg.binds] at e
      obtain ⟨ρ1, e1, e2⟩ := Option.bind_eq_some_iff.mp e
      refine ⟨v, vr, rfl, io, B, ρ, d, ρ1, r, f1, e1, fun σ1 r1 a1 n1 => ⟨io, B, ρ1, dr, ρ', r1, f2.mono .refl fun a q => .inl (n1.no q), e2, fun σ2 r2 a2 n2 => ?_⟩⟩
      refine k σ2 r2 ⟨a2.len.trans a1.len, fun j hj => ?_⟩ (n1.trans n2)
      rw [Tg.slotss, List.mem_append, not_or] at hj
      exact (a2.at_ j hj.2).trans (a1.at_ j hj.1)
theorem tg_tup {es : List Expr} {k : Nat} {ts : List Tg} (hc : X.calm = true) (h : PGs X es (tTgs (sx X) ks ts)) (hs : es.all noStar = true) (hl : ts.length = es.length) : PG X (.Tuple es k pos) (tTg (sx X) ks (.t ts)) := by
  obtain ⟨f1, f2⟩ := asg_facts (env := X.env) hs
  refine ⟨fun pins s σ H v u Q I rv hw => ?_⟩
  obtain ⟨io, B, ρ, d, ρ', r, f, e, kk⟩ := hw
  cases d with
  | tuple ds =>
    obtain ⟨a, vs, rfl, h1, h2⟩ := (RepB.of f).tuple
    have e : Tg.binds ts ds ρ = some ρ' := e
    exact (pg_tup hc h f1 f2).run pins s σ H _ u Q I rv ⟨a, vs, rfl, h1, by rw [h2.length, binds_len e, hl], io, B, ρ, ds, ρ', r, h2, e, kk⟩
  | list ds =>
    obtain ⟨a, vs, rfl, h1, h2⟩ := (RepB.of f).list
    have e : Tg.binds ts ds ρ = some ρ' := e
    exact (pg_lst hc h f1 f2).run pins s σ H _ u Q I rv ⟨a, vs, rfl, .of h1, by rw [h2.length, binds_len e, hl], io, B, ρ, ds, ρ', r, h2, e, kk⟩
  | _ => cases e
end

/-! ### what is walked -/
def Ylds (c : Sx) (N : NG) (H : Hp) (J : L2.It) (xs : List D) : Prop := ∀ N' H', NTr N' H' → Later N H N' H' → ∀ i : Nat,
  (∀ x, xs[i]? = some x → J.go i H' ∧ ∀ v H'', J.yld i H' v H'' → Grow H' H'' ∧ Rep c N' H'' v x) ∧ (xs.length ≤ i → J.stop i H')
def FI (c : Sx) (B : NG) (σ : L2.St) : Env → Hp → L2.It → List D → Prop := fun ρ H J xs => Ylds c (No B ρ σ) H J xs
def tI (c : Sx) (ks : Ks) (wx : WXs) (ev : Env → R (List D)) : TI := fun σ H R => ∃ io B ρ, Rel c ks io B ρ σ H ∧ PostG c ks wx io B σ ρ H (FI c B σ) (ev ρ) R
section
variable {X : Cx} {ks : Ks} {wx : WXs} {cs : CS} {tg e : Expr} {m : E} {F : Fv} {pos : Pos}
theorem pi_imp {e : Expr} {t t' : TI} (h : PI X tg e t) (q : ∀ σ H Q, t' σ H Q → t σ H Q) : PI X tg e t' := ⟨fun pins s σ H Q I w => h.run pins s σ H Q I (q σ H Q w)⟩
/-- a place that is kept -/
theorem ylds_list {N : NG} {H : Hp} {a : Addr} {vs : List V} {ds : List D} (h1 : H a = some (.lst vs)) (hn : ¬ N a) (h2 : RepAll (sx X) N H vs ds) : Ylds (sx X) N H (Itl X.K a) ds := fun N' H' nt l i => by
  obtain ⟨g1, g2⟩ := l a _ h1 hn
  have h3 := l.reps h2
  refine ⟨fun x hx => ?_, fun hi => ⟨vs, .of g1, by rw [h3.length]; exact hi⟩⟩
  obtain ⟨v, hv, rv⟩ := h3.get hx
  refine ⟨⟨vs, v, .of g1, hv⟩, fun v' H'' y => ?_⟩
  obtain ⟨rfl, y⟩ := y
  have := y vs (.of g1)
  rw [hv] at this
  cases this
  exact ⟨.refl, rv⟩
theorem sqT_of {N N' : NG} {H H' : Hp} {a : Addr} {ds : List D} (l : Later N H N' H') (h : Rep (sx X) N H (.ref a) (.tuple ds)) : ∃ vs, SqT X.K H' a vs ∧ RepAll (sx X) N' H' vs ds := by
  obtain ⟨b, vs, e, h1, h2⟩ := (RepB.of (l.rep h)).tuple
  cases e
  exact ⟨vs, h1, h2⟩
theorem ylds_tup {N : NG} {H : Hp} {a : Addr} {ds : List D} (h : Rep (sx X) N H (.ref a) (.tuple ds)) : Ylds (sx X) N H (Itt X.K a) ds := fun N' H' nt l i => by
  obtain ⟨vs, h1, h2⟩ := sqT_of l h
  refine ⟨fun x hx => ?_, fun hi => ⟨vs, h1, by rw [h2.length]; exact hi⟩⟩
  obtain ⟨v, hv, rv⟩ := h2.get hx
  refine ⟨⟨vs, v, h1, hv⟩, fun v' H'' y => ?_⟩
  obtain ⟨rfl, y⟩ := y
  have := y vs h1
  rw [hv] at this
  cases this
  exact ⟨.refl, rv⟩
/-! the keys of a dict -/
def Itn (a : Addr) (es : Array DictEntry) (ep : Nat) : L2.It :=
  ⟨fun i H => H a = some (.ext (dph a es ep)) ∧ i < es.size, fun i H v H' => H' = H ∧ ∃ en, es[i]? = some en ∧ RelV v en.key, fun i H => H a = some (.ext (dph a es ep)) ∧ es.size ≤ i⟩
theorem turn_keysN {P : Program} {w : World} {K : PySem.W.Frag} {tg : Expr} (a it : Addr) (es : Array DictEntry) (ep : Nat) (hk : ∀ (i : Nat) (en : DictEntry), es[i]? = some en → ∃ v, RelV v en.key) : Turn P w K tg (Itn a es ep) [it] it (fun i h => h.IsKeyIter it a i es.size ep) where
  mem := List.mem_singleton.mpr rfl
  obj := fun i h st b hb => by
    rw [List.mem_singleton] at hb
    subst hb
    obtain ⟨o, e, c, dd⟩ := st
    exact ⟨o, e, fun v z => by rw [dd] at z; cases z⟩
  keep := fun i h h' st k => st.at fun o e => k it (List.mem_singleton.mpr rfl) o e
  item := by
    rintro X rfl rfl rfl hc i pins s σ H E I hf st ⟨g1, g2⟩
    obtain ⟨f0, f1, f2, f3, f4, f5⟩ := hf it (List.mem_singleton.mpr rfl)
    obtain ⟨⟨⟨od, ho, _, hd⟩, hs⟩, _⟩ := I.hok a _ g1
    have he : es[i]? = some es[i] := Array.getElem?_eq_getElem g2
    obtain ⟨v, rv⟩ := hk i _ he
    refine next_key_item st ho hd rfl he fun h' st' sb => ?_
    have I1 : Inv X pins σ H { s with heap := h' } := I.turned (t' := s.toks) (fun b o hb e => (sb.2 b hb).trans e) f0 f1 f3 f4 f5
    obtain ⟨oi, e, c, dd⟩ := id st'
    exact ⟨_, rfl, go_of (s := { s with heap := h' }) e c dd (by decide) ⟨v, H, I1, rv, ⟨rfl, _, he, rv⟩, st', fun b hb => (hf b hb).1⟩⟩
  done := by
    rintro X rfl rfl rfl hc i pins s σ H E I hf st ⟨g1, g2⟩
    obtain ⟨f0, f1, f2, f3, f4, f5⟩ := hf it (List.mem_singleton.mpr rfl)
    obtain ⟨⟨⟨od, ho, _, hd⟩, hs⟩, _⟩ := I.hok a _ g1
    exact next_key_end (I.ok.hd hc) st ho hd rfl g2 fun h' eb => ⟨rfl, I.turned (t' := s.toks) (fun b o hb e => eb b o hb e) f0 f1 f3 f4 f5⟩
  self := fun A i s Q E st h => wpAny_pyIter_keyiter st h
theorem ylds_keys {N : NG} {H : Hp} {a : Addr} {es : Array DictEntry} {ep : Nat} {xs : List (NestedKey × Addr × Value)} {kvs : List (D × D)} (h1 : H a = some (.ext (dph a es ep))) (hn : ¬ N a) (h2 : es.toList = xs.map (entryOfKey (nestedKind (sx X).P (sx X).w))) (h4 : RepK (sx X) N H xs kvs) :
    Ylds (sx X) N H (Itn a es ep) (kvs.map (·.1)) := fun N' H' nt l i => by
  obtain ⟨g1, g2⟩ := l a _ h1 hn
  have h3 := repk_keys (h4.mono l.keep l.sub)
  have hsz : es.size = xs.length := size_of_entries h2
  have hlen : xs.length = kvs.length := repK_length h4
  refine ⟨fun x hx => ?_, fun hi => ⟨g1, by rw [hsz, hlen]; simpa using hi⟩⟩
  obtain ⟨v, hv, rv⟩ := h3.get hx
  obtain ⟨hlt, _⟩ := List.getElem?_eq_some_iff.mp hx
  rw [List.length_map] at hlt
  refine ⟨⟨g1, by rw [hsz, hlen]; exact hlt⟩, fun v' H'' y => ?_⟩
  obtain ⟨rfl, en, he, r⟩ := y
  refine ⟨.refl, ?_⟩
  have ee := entry_at h2 i
  rw [he] at ee
  cases exi : xs[i]? with
  | none => rw [exi] at ee; cases ee
  | some q =>
    rw [exi] at ee
    cases ee
    rw [List.getElem?_map, exi] at hv
    cases hv
    have r' : RelV v' (Value.ref q.2.1) := r
    have : v' = V.ref q.2.1 := r'.inj rfl
    rw [this]
    exact rv
theorem it_seq (ha : PE X e (tE (sx X) ks wx (evE cs m))) : PI X tg e (tI (sx X) ks wx (evI cs (.e m))) := by
  refine ⟨fun pins s σ H R I h => ?_⟩
  obtain ⟨io, B, ρ, r, p⟩ := h
  rw [evI] at p
  have step := PostG.bind (F := FE (sx X) B σ) p
  cases ev : evE cs m ρ with
  | err =>
    rw [ev] at step
    exact step.elim
  | exc c ρ1 => exact (pi_list (tg := tg) ha).run pins s σ H R I ⟨io, B, ρ, r, by rw [ev] at step ⊢; exact step⟩
  | ok d ρ1 =>
    rw [ev] at p
    cases d with
    | list ds =>
      refine (pi_list (tg := tg) ha).run pins s σ H R I ⟨io, B, ρ, r, ?_⟩
      rw [ev]
      intro v H1 q1 s1 f1
      obtain ⟨a, vs, rfl, h1, h2⟩ := (RepB.of f1).list
      cases f1 with
      | lst g1 g2 g3 =>
        refine ⟨a, rfl, ⟨vs, .of h1⟩, p _ _ q1 s1 (ylds_list g1 g2 g3)⟩
    | tuple ds =>
      refine (pi_tup (tg := tg) ha).run pins s σ H R I ⟨io, B, ρ, r, ?_⟩
      rw [ev]
      intro v H1 q1 s1 f1
      obtain ⟨a, vs, rfl, h1, h2⟩ := (RepB.of f1).tuple
      exact ⟨a, rfl, ⟨vs, h1⟩, p _ _ q1 s1 (ylds_tup f1)⟩
    | dict kvs =>
      refine thn (ha.run pins s σ H (fun v H1 => ∃ a, v = .ref a ∧ ∃ es ep, H1 a = some (.ext (dph a es ep)) ∧ (∀ (i : Nat) (en : DictEntry), es[i]? = some en → ∃ v, RelV v en.key) ∧ R (Itn a es ep) H1) I ⟨io, B, ρ, r, ?_⟩) fun u s1 ⟨x, H1, I1, rx, a, ex, es, ep, g1, hk, q⟩ => ?_
      · rw [ev]
        intro v H1 q1 s1 f1
        cases f1 with
        | @dic a es ep xs _ g1 g2 g3 g4 g5 =>
          refine ⟨a, rfl, es, ep, g1, fun i en hi => ?_, p _ _ q1 s1 (ylds_keys g1 g2 g3 g5)⟩
          have ee := entry_at g3 i
          rw [hi] at ee
          cases exi : xs[i]? with
          | none => rw [exi] at ee; cases ee
          | some q =>
            rw [exi] at ee
            cases ee
            exact ⟨.ref q.2.1, rfl⟩
      · subst ex
        obtain rfl : u = Value.ref a := rx
        obtain ⟨⟨⟨od, ho, hc, hd⟩, hs⟩, _⟩ := I1.hok a _ g1
        exact iter_keys hs ho hc hd (pi_one (tk := s1.toks) I1 _ (turn_keysN a _ es ep hk) ⟨_, Heap.get?_push_size _ rfl, rfl, rfl⟩ q)
    | none => exact p.elim
    | bool b => exact p.elim
    | int b => exact p.elim
    | str b => exact p.elim

/-! ### ranges -/
theorem ylds_rng {N : NG} {H : Hp} (lo hi : Int) : Ylds (sx X) N H (Itr lo (hi - lo).toNat) (rngL lo hi) := fun N' H' nt l i => by
  unfold rngL
  refine ⟨fun x hx => ?_, fun hi => by rw [List.length_map, List.length_range] at hi; exact hi⟩
  rw [List.getElem?_map] at hx
  obtain ⟨k, hk, rfl⟩ := Option.map_eq_some_iff.mp hx
  obtain ⟨h1, h2⟩ := List.getElem?_eq_some_iff.mp hk
  rw [List.getElem_range] at h2
  subst h2
  rw [List.length_range] at h1
  refine ⟨h1, fun v H'' y => ?_⟩
  obtain ⟨rfl, rfl⟩ := y
  exact ⟨.refl, .int _⟩
variable {a b d : Expr} {ma mb md : E}
theorem it_r1 {p : Pos} (hb : BltOk X (Str.ofString "range") (.type "range")) (h1 : noStar a = true) (ha : PE X a (tE (sx X) ks wx (evE cs ma))) :
    PI X tg (.Call (.Name (Str.ofString "range") p) [a] [] pos) (tI (sx X) ks wx (evI cs (.r1 ma))) :=
  pi_imp (pi_range1 hb.gl hb.mg (av_cons ha av_nil h1) (star_cons h1)) fun σ H R h => by
    obtain ⟨io, B, ρ, r, p⟩ := h
    rw [evI] at p
    refine ⟨io, B, ρ, r, ?_⟩
    rw [evOne]
    have step := PostG.bind (F := FE (sx X) B σ) p
    cases ev : evE cs ma ρ with
    | err => rw [ev] at step; exact step.elim
    | exc c ρ1 => rw [ev] at step; exact step
    | ok z ρ1 =>
      rw [ev] at p
      intro vs H1 q1 s1 f1
      rw [G.R.bind_ok] at p
      cases z <;> first | exact p.elim | skip
      rename_i j
      cases f1 with
      | cons g1 g2 =>
        cases g2
        cases g1
        dsimp only at p
        split at p
        · rename_i hj
          rw [Bool.and_eq_true] at hj
          refine ⟨j, rfl, of_decide_eq_true hj.1, of_decide_eq_true hj.2, p _ _ q1 s1 ?_⟩
          have := ylds_rng (X := X) (N := No B ρ1 σ) (H := H1) 0 j
          rwa [show j - 0 = j by omega] at this
        · exact p.elim
theorem evTwo (ρ : Env) : evEs cs [ma, mb] ρ = (evE cs ma ρ).bind fun x ρ => (evE cs mb ρ).bind fun y ρ => .ok [x, y] ρ := by
  rw [evEs]
  congr; funext x ρ
  rw [evOne, bind_assoc]
  rfl
theorem it_r2 {p : Pos} (hb : BltOk X (Str.ofString "range") (.type "range")) (h1 : noStar a = true) (h2 : noStar b = true) (ha : PE X a (tE (sx X) ks wx (evE cs ma))) (hb' : PE X b (tE (sx X) ks wx (evE cs mb))) :
    PI X tg (.Call (.Name (Str.ofString "range") p) [a, b] [] pos) (tI (sx X) ks wx (evI cs (.r2 ma mb))) :=
  pi_imp (pi_range2 hb.gl hb.mg (av_cons ha (av_cons hb' av_nil h2) h1) (by rw [star_cons h1, star_cons h2]; rfl) (by rw [star_cons h2]; rfl)) fun σ H R h => by
    obtain ⟨io, B, ρ, r, p⟩ := h
    rw [evI] at p
    refine ⟨io, B, ρ, r, ?_⟩
    rw [evTwo]
    cases ev : evE cs ma ρ with
    | err => rw [ev] at p; exact p
    | exc c ρ1 => rw [ev] at p; exact p
    | ok z ρ1 =>
      rw [ev, G.R.bind_ok] at p
      rw [G.R.bind_ok]
      cases ev2 : evE cs mb ρ1 with
      | err => rw [ev2] at p; exact p
      | exc c ρ2 => rw [ev2] at p; exact p
      | ok z2 ρ2 =>
        rw [ev2, G.R.bind_ok] at p
        intro vs H1 q1 s1 f1
        cases z <;> first | exact p.elim | skip
        cases z2 <;> first | exact p.elim | skip
        rename_i i j
        cases f1 with
        | cons g1 g2 =>
          cases g2 with
          | cons g2 g3 =>
            cases g3
            cases g1
            cases g2
            dsimp only at p
            split at p
            · rename_i hj
              simp only [Bool.and_eq_true, decide_eq_true_eq] at hj
              obtain ⟨⟨⟨j1, j2⟩, j3⟩, j4⟩ := hj
              exact ⟨i, j, rfl, ⟨j1, j2, j3, j4⟩, p _ _ q1 s1 (ylds_rng i j)⟩
            · exact p.elim
end
end G

set_option Elab.async false
set_option linter.all false
set_option maxRecDepth 100000
set_option autoImplicit false
/-! G10b: zip, range with a step of -1. -/
namespace G
open PySem PySem.Spec PyProof.Rows L2 RZ
theorem zipL_get : ∀ {xs ys : List D} {i : Nat}, (zipL xs ys)[i]? = match xs[i]?, ys[i]? with | some x, some y => some (.tuple [x, y]) | _, _ => none
  | [], ys, i => by simp [zipL]
  | x :: xs, [], i => by cases q : (x :: xs)[i]? <;> simp [zipL]
  | x :: xs, y :: ys, 0 => by rw [zipL]; rfl
  | x :: xs, y :: ys, i + 1 => by rw [zipL]; exact zipL_get
theorem zipL_len : ∀ {xs ys : List D}, (zipL xs ys).length = min xs.length ys.length
  | [], ys => by simp [zipL]
  | x :: xs, [] => by simp [zipL]
  | x :: xs, y :: ys => by rw [zipL, List.length_cons, List.length_cons, List.length_cons, zipL_len]; omega
section
variable {X : Cx} {ks : Ks} {wx : WXs} {cs : CS} {tg a b d : Expr} {ma mb md : E} {pos : Pos} {N : NG} {H : Hp}
theorem ylds_zip {p q : Addr} {vs us : List V} {xs ys : List D} (h1 : H p = some (.lst vs)) (n1 : ¬ N p) (r1 : RepAll (sx X) N H vs xs) (h2 : H q = some (.lst us)) (n2 : ¬ N q) (r2 : RepAll (sx X) N H us ys) : Ylds (sx X) N H (Itz X.K p q) (zipL xs ys) := fun N' H' nt l i => by
  obtain ⟨g1, _⟩ := l p _ h1 n1
  obtain ⟨g2, _⟩ := l q _ h2 n2
  have s1 := l.reps r1
  have s2 := l.reps r2
  have q1 : SqL X.K H' p vs := .inl (.inl g1)
  have q2 : SqL X.K H' q us := .inl (.inl g2)
  refine ⟨fun x hx => ?_, fun hi => ⟨vs, us, q1, q2, ?_⟩⟩
  · rw [zipL_get] at hx
    split at hx
    · rename_i x1 y1 e1 e2
      cases hx
      obtain ⟨v1, hv1, rv1⟩ := s1.get e1
      obtain ⟨v2, hv2, rv2⟩ := s2.get e2
      refine ⟨⟨vs, us, v1, v2, q1, q2, hv1, hv2⟩, fun v' H'' y => ?_⟩
      obtain ⟨T, x, y, rfl, hT, rfl, g3, g4⟩ := y
      have e3 := g3 vs q1
      have e4 := g4 us q2
      rw [hv1] at e3
      rw [hv2] at e4
      cases e3
      cases e4
      exact ⟨.upd hT, .newT nt hT (.cons rv1 (.cons rv2 .nil))⟩
    · cases hx
  · rw [zipL_len] at hi
    rw [s1.length, s2.length]
    omega
theorem ylds_zipT {p q : Addr} {xs ys : List D} (h1 : Rep (sx X) N H (.ref p) (.tuple xs)) (h2 : Rep (sx X) N H (.ref q) (.tuple ys)) : Ylds (sx X) N H (ItzT X.K p q) (zipL xs ys) := fun N' H' nt l i => by
  obtain ⟨vs, q1, s1⟩ := sqT_of l h1
  obtain ⟨us, q2, s2⟩ := sqT_of l h2
  refine ⟨fun x hx => ?_, fun hi => ⟨vs, us, q1, q2, ?_⟩⟩
  · rw [zipL_get] at hx
    split at hx
    · rename_i x1 y1 e1 e2
      cases hx
      obtain ⟨v1, hv1, rv1⟩ := s1.get e1
      obtain ⟨v2, hv2, rv2⟩ := s2.get e2
      refine ⟨⟨vs, us, v1, v2, q1, q2, hv1, hv2⟩, fun v' H'' y => ?_⟩
      obtain ⟨T, x, y, rfl, hT, rfl, g3, g4⟩ := y
      have e3 := g3 vs q1
      have e4 := g4 us q2
      rw [hv1] at e3
      rw [hv2] at e4
      cases e3
      cases e4
      exact ⟨.upd hT, .newT nt hT (.cons rv1 (.cons rv2 .nil))⟩
    · cases hx
  · rw [zipL_len] at hi
    rw [s1.length, s2.length]
    omega
/-- for x, y in zip(a, b): two lists or two tuples -/
theorem it_zip {p tpos : Pos} {elts : List Expr} {kk : Nat} (hb : BltOk X (Str.ofString "zip") (.type "zip")) (h1 : noStar a = true) (h2 : noStar b = true) (ha : PE X a (tE (sx X) ks wx (evE cs ma))) (hb' : PE X b (tE (sx X) ks wx (evE cs mb))) :
    PI X (.Tuple elts kk tpos) (.Call (.Name (Str.ofString "zip") p) [a, b] [] pos) (tI (sx X) ks wx (evI cs (.zip ma mb))) :=
  pi_imp (pi_zipA hb.gl hb.mg (av_cons ha (av_cons hb' av_nil h2) h1) (by rw [star_cons h1, star_cons h2]) (by rw [star_cons h2]; rfl)) fun σ H R h => by
    obtain ⟨io, B, ρ, r, p⟩ := h
    rw [evI] at p
    refine ⟨io, B, ρ, r, ?_⟩
    rw [evTwo]
    cases ev : evE cs ma ρ with
    | err => rw [ev] at p; exact p
    | exc c ρ1 => rw [ev] at p; exact p
    | ok z ρ1 =>
      rw [ev, G.R.bind_ok] at p
      rw [G.R.bind_ok]
      cases ev2 : evE cs mb ρ1 with
      | err => rw [ev2] at p; exact p
      | exc c ρ2 => rw [ev2] at p; exact p
      | ok z2 ρ2 =>
        rw [ev2, G.R.bind_ok] at p
        intro vs H1 q1 s1 f1
        cases f1 with
        | cons g1 g2 =>
          cases g2 with
          | cons g2 g3 =>
            cases g3
            cases z with
            | list xs =>
              cases z2 with
              | list ys =>
                cases g1 with
                | lst a1 a2 a3 =>
                  cases g2 with
                  | lst b1 b2 b3 => exact ⟨_, _, _, _, rfl, .inl ⟨.inl (.inl a1), .inl (.inl b1), p _ _ q1 s1 (ylds_zip a1 a2 a3 b1 b2 b3)⟩⟩
              | _ => exact p.elim
            | tuple xs =>
              cases z2 with
              | tuple ys =>
                obtain ⟨a1, ws, rfl, e1, _⟩ := (RepB.of g1).tuple
                obtain ⟨b1, us, rfl, e2, _⟩ := (RepB.of g2).tuple
                exact ⟨_, _, _, _, rfl, .inr ⟨e1, e2, p _ _ q1 s1 (ylds_zipT g1 g2)⟩⟩
              | _ => exact p.elim
            | _ => exact p.elim
theorem ylds_rng3 (i : Int) (n : Nat) : Ylds (sx X) N H (Itc i (-1) n) ((List.range n).map fun (k : Nat) => PyData.int (i + k * (-1))) := fun N' H' nt l k => by
  refine ⟨fun x hx => ?_, fun hi => by rw [List.length_map, List.length_range] at hi; exact hi⟩
  rw [List.getElem?_map] at hx
  obtain ⟨j, hj, rfl⟩ := Option.map_eq_some_iff.mp hx
  obtain ⟨h1, h2⟩ := List.getElem?_eq_some_iff.mp hj
  rw [List.getElem_range] at h2
  subst h2
  rw [List.length_range] at h1
  refine ⟨h1, fun v H'' y => ?_⟩
  obtain ⟨rfl, rfl⟩ := y
  exact ⟨.refl, .int _⟩
theorem rng3n_neg (i j : Int) : rng3n i j (-1) = (i - j).toNat := by
  unfold rng3n
  rw [if_neg (by decide)]
  simp only [Int.neg_neg, Int.add_sub_cancel, Int.ediv_one]
theorem evThree (ρ : Env) : evEs cs [ma, mb, md] ρ = (evE cs ma ρ).bind fun x ρ => (evE cs mb ρ).bind fun y ρ => (evE cs md ρ).bind fun z ρ => .ok [x, y, z] ρ := by
  rw [evEs]
  congr; funext x ρ
  rw [evTwo, bind_assoc]
  congr; funext y ρ
  rw [bind_assoc]
  rfl
theorem it_r3 {p : Pos} (hb : BltOk X (Str.ofString "range") (.type "range")) (h1 : noStar a = true) (h2 : noStar b = true) (h3 : noStar d = true) (ha : PE X a (tE (sx X) ks wx (evE cs ma))) (hb' : PE X b (tE (sx X) ks wx (evE cs mb))) (hd : PE X d (tE (sx X) ks wx (evE cs md))) :
    PI X tg (.Call (.Name (Str.ofString "range") p) [a, b, d] [] pos) (tI (sx X) ks wx (evI cs (.r3 ma mb md))) :=
  pi_imp (pi_range3 hb.gl hb.mg (av_cons ha (av_cons hb' (av_cons hd av_nil h3) h2) h1) (by rw [star_cons h1]) (by rw [star_cons h2, star_cons h3]; rfl)) fun σ H R h => by
    obtain ⟨io, B, ρ, r, p⟩ := h
    rw [evI] at p
    refine ⟨io, B, ρ, r, ?_⟩
    rw [evThree]
    cases ev : evE cs ma ρ with
    | err => rw [ev] at p; exact p
    | exc c ρ1 => rw [ev] at p; exact p
    | ok z ρ1 =>
      rw [ev, G.R.bind_ok] at p
      rw [G.R.bind_ok]
      cases ev2 : evE cs mb ρ1 with
      | err => rw [ev2] at p; exact p
      | exc c ρ2 => rw [ev2] at p; exact p
      | ok z2 ρ2 =>
        rw [ev2, G.R.bind_ok] at p
        rw [G.R.bind_ok]
        cases ev3 : evE cs md ρ2 with
        | err => rw [ev3] at p; exact p
        | exc c ρ3 => rw [ev3] at p; exact p
        | ok z3 ρ3 =>
          rw [ev3, G.R.bind_ok] at p
          intro vs H1 q1 s1 f1
          cases z <;> first | exact p.elim | skip
          cases z2 <;> first | exact p.elim | skip
          cases z3 <;> first | exact p.elim | skip
          rename_i i j k
          cases f1 with
          | cons g1 g2 =>
            cases g2 with
            | cons g2 g3 =>
              cases g3 with
              | cons g3 g4 =>
                cases g4
                cases g1
                cases g2
                cases g3
                dsimp only at p
                split at p
                · rename_i hj
                  simp only [Bool.and_eq_true, decide_eq_true_eq] at hj
                  obtain ⟨⟨⟨⟨j1, j2⟩, j3⟩, j4⟩, rfl⟩ := hj
                  refine ⟨i, j, -1, (i - j).toNat, rfl, RgC.neg j1 j2 j3 j4, p _ _ q1 s1 ?_⟩
                  unfold rngL3
                  rw [rng3n_neg]
                  exact ylds_rng3 i _
                · exact p.elim
end
end G

set_option Elab.async false
set_option linter.all false
set_option maxRecDepth 100000
set_option autoImplicit false
/-! G11: list comprehensions. -/
namespace G
open PySem PySem.Spec PyProof.Rows L2

section
variable {c : Sx} {ks : Ks} {io : Io} {B B' : NG} {ρ ρ' ρ1 ρ2 : Env} {σ σ' σ2 : L2.St} {H H' H1 H2 : Hp} {vs : List Nat} {Dl : Addr} {acc : List D}
/-! ### slots forgotten -/
theorem kill_len : ∀ (vs : List Nat) (ρ : Env), (kill ρ vs).length = ρ.length
  | [], _ => rfl
  | v :: vs, ρ => (kill_len vs (ρ.set v none)).trans (List.length_set ..)
theorem kill_out : ∀ {vs : List Nat} {ρ : Env} {j : Nat}, j ∉ vs → (kill ρ vs)[j]? = ρ[j]?
  | [], _, _, _ => rfl
  | v :: vs, ρ, j, h => by
    rw [List.mem_cons, not_or] at h
    show (kill (ρ.set v none) vs)[j]? = ρ[j]?
    rw [kill_out h.2, List.getElem?_set_ne (Ne.symm h.1)]
theorem kill_none {ρ : Env} {j : Nat} (v : Nat) (h : ∀ x, ρ[j]? ≠ some (some x)) : ∀ x, (ρ.set v none)[j]? ≠ some (some x) := fun x e => by
  by_cases ev : v = j
  · subst ev
    by_cases hl : v < ρ.length
    · rw [List.getElem?_set_self hl] at e; cases e
    · rw [List.getElem?_eq_none (by rw [List.length_set]; omega)] at e; cases e
  · rw [List.getElem?_set_ne ev] at e
    exact h x e
theorem kill_stay : ∀ {vs : List Nat} {ρ : Env} {j : Nat}, (∀ x, ρ[j]? ≠ some (some x)) → ∀ x, (kill ρ vs)[j]? ≠ some (some x)
  | [], _, _, h => h
  | v :: vs, ρ, j, h => kill_stay (vs := vs) (ρ := ρ.set v none) (kill_none v h)
theorem kill_in : ∀ {vs : List Nat} {ρ : Env} {j : Nat}, j ∈ vs → ∀ x, (kill ρ vs)[j]? ≠ some (some x)
  | v :: vs, ρ, j, h => by
    show ∀ x, (kill (ρ.set v none) vs)[j]? ≠ some (some x)
    rcases List.mem_cons.mp h with e | h
    · subst e
      refine kill_stay fun x e => ?_
      by_cases hl : j < ρ.length
      · rw [List.getElem?_set_self hl] at e; cases e
      · rw [List.getElem?_eq_none (by rw [List.length_set]; omega)] at e; cases e
    · exact kill_in h
theorem kill_some {j : Nat} {x : AV} (h : (kill ρ vs)[j]? = some (some x)) : ρ[j]? = some (some x) ∧ j ∉ vs := by
  by_cases hj : j ∈ vs
  · exact absurd h (kill_in hj x)
  · exact ⟨(kill_out hj).symm.trans h, hj⟩
theorem back_len : ∀ (vs : List Nat) (ρ ρ' : Env), (back vs ρ ρ').length = ρ'.length
  | [], _, _ => rfl
  | v :: vs, ρ, ρ' => (back_len vs ρ (ρ'.set v (ρ.getD v none))).trans (List.length_set ..)
theorem back_out : ∀ {vs : List Nat} {ρ ρ' : Env} {j : Nat}, j ∉ vs → (back vs ρ ρ')[j]? = ρ'[j]?
  | [], _, _, _, _ => rfl
  | v :: vs, ρ, ρ', j, h => by
    rw [List.mem_cons, not_or] at h
    show (back vs ρ (ρ'.set v (ρ.getD v none)))[j]? = ρ'[j]?
    rw [back_out h.2, List.getElem?_set_ne (Ne.symm h.1)]
theorem back_stay : ∀ {vs : List Nat} {ρ ρ' : Env} {j : Nat}, ρ'[j]? = some (ρ.getD j none) → (back vs ρ ρ')[j]? = some (ρ.getD j none)
  | [], _, _, _, h => h
  | v :: vs, ρ, ρ', j, h => by
    refine back_stay (vs := vs) (ρ' := ρ'.set v (ρ.getD v none)) ?_
    by_cases ev : v = j
    · subst ev
      exact List.getElem?_set_self (List.getElem?_eq_some_iff.mp h).1
    · rw [List.getElem?_set_ne ev]; exact h
theorem back_in : ∀ {vs : List Nat} {ρ ρ' : Env} {j : Nat}, j ∈ vs → j < ρ'.length → (back vs ρ ρ')[j]? = some (ρ.getD j none)
  | v :: vs, ρ, ρ', j, h, hl => by
    show (back vs ρ (ρ'.set v (ρ.getD v none)))[j]? = _
    rcases List.mem_cons.mp h with e | h
    · subst e
      exact back_stay (List.getElem?_set_self hl)
    · exact back_in h (by rw [List.length_set]; exact hl)
theorem isOwn_some {o : Option (Option AV)} (h : isOwn o) : ∃ x, o = some (some x) := by
  cases o with
  | none => exact h.elim
  | some o =>
    cases o with
    | none => exact h.elim
    | some x => exact ⟨x, rfl⟩
theorem nar_kill : Nar ρ σ (kill ρ vs) (wipe σ vs) := by
  have key : ∀ j : Nat, isOwn (kill ρ vs)[j]? → isOwn ρ[j]? ∧ j ∉ vs := fun j h => by
    obtain ⟨x, e⟩ := isOwn_some h
    obtain ⟨e1, e2⟩ := kill_some e
    rw [e] at h
    rw [e1]
    exact ⟨h, e2⟩
  refine ⟨fun j a ⟨h1, h2⟩ => ?_, fun j h => (key j h).1, wipe_length ..⟩
  obtain ⟨g1, g2⟩ := key j h1
  rw [wipe_out g2] at h2
  exact ⟨g1, h2⟩
/-- into a block -/
theorem Rel.blk (r : Rel c ks io B ρ σ H) (hv : ∀ i ∈ vs, i ∉ ks.ow) : Rel c ks io B (kill ρ vs) (wipe σ vs) H := by
  have nr : Nar ρ σ (kill ρ vs) (wipe σ vs) := nar_kill
  refine ⟨by rw [kill_len, wipe_length]; exact r.len, fun j x e => ?_, fun i j a p q => r.dist i j a (nr.own _ _ p) (nr.own _ _ q), fun a q => r.apart a (nr.ownA q), r.btr, fun p hp => ?_, fun j q => r.ow j (nr.ownj j q)⟩
  · obtain ⟨e1, e2⟩ := kill_some e
    rw [wipe_out e2]
    exact (r.slot j x e1).mono (fun _ _ _ _ q => q) .refl fun a q => .inl (nr.no q)
  · obtain ⟨h1, h2, h3⟩ := r.io p hp
    have hp' : p.1 ∉ vs := fun m => hv _ m (r.ow _ h2)
    exact ⟨h1, by rw [kill_out hp']; exact h2, by rw [wipe_out hp']; exact h3⟩
theorem Nar.unkill (hv : ∀ i ∈ vs, i ∉ ks.ow) (r : Rel c ks io B ρ σ H) : Nar (kill ρ vs) (wipe σ vs) ρ σ := by
  have key : ∀ j : Nat, isOwn ρ[j]? → j ∉ vs := fun j h m => hv _ m (r.ow _ h)
  refine ⟨fun j a ⟨h1, h2⟩ => ⟨?_, ?_⟩, fun j h => ?_, (wipe_length ..).symm⟩
  · rw [kill_out (key j h1)]; exact h1
  · rw [wipe_out (key j h1)]; exact h2
  · rw [kill_out (key j h)]; exact h

/-! ### how far one has come -/
structure Trk (ρ : Env) (σ : L2.St) (H : Hp) (ρ' : Env) (σ' : L2.St) (H' : Hp) : Prop where
  nar : Nar ρ σ ρ' σ'
  keep : Keep (OwnA ρ σ) H H'
  tr : ∀ a o, H a = some o → ∃ o', H' a = some o'
theorem Trk.refl : Trk ρ σ H ρ σ H := ⟨.refl, .refl, fun a o h => ⟨o, h⟩⟩
theorem Trk.nars {ρ'' : Env} {σ'' : L2.St} (t : Trk ρ σ H ρ' σ' H') (n : Nar ρ' σ' ρ'' σ'') : Trk ρ σ H ρ'' σ'' H' := ⟨t.nar.trans n, t.keep, t.tr⟩
theorem Trk.stp {ρ'' : Env} {H'' : Hp} (t : Trk ρ σ H ρ' σ' H') (s : Stp ρ' σ' H' ρ'' H'') : Trk ρ σ H ρ'' σ' H'' :=
  ⟨t.nar.trans s.nar, fun a o h n => s.keep a o (t.keep a o h n) fun q => n (t.nar.ownA q), fun a o h => let ⟨o1, e1⟩ := t.tr a o h; s.tr a o1 e1⟩
theorem Trk.grow {H'' : Hp} (t : Trk ρ σ H ρ' σ' H') (g : Grow H' H'') : Trk ρ σ H ρ' σ' H'' := ⟨t.nar, fun a o h n => g a o (t.keep a o h n), fun a o h => let ⟨o1, e1⟩ := t.tr a o h; ⟨o1, g a o1 e1⟩⟩
theorem Trk.put {u : HO} (t : Trk ρ σ H ρ' σ' H') (hD : H Dl = none) : Trk ρ σ H ρ' σ' (upd H' Dl u) := by
  have ne : ∀ a o, H a = some o → a ≠ Dl := fun a o e z => by rw [z, hD] at e; cases e
  exact ⟨t.nar, fun a o h n => by rw [upd_ne (ne a o h)]; exact t.keep a o h n, fun a o h => by rw [upd_ne (ne a o h)]; exact t.tr a o h⟩
/-- from the outer words to the inner ones, D new -/
theorem Trk.later (t : Trk ρ σ H ρ' σ' H') (hD : H Dl = none) : Later (No B ρ σ) H (No (fun a => B a ∨ a = Dl) ρ' σ') H' := fun a o e n =>
  ⟨t.keep a o e fun q => n (.inr q), fun q => by
    rcases q with (q | q) | q
    · exact n (.inl q)
    · rw [q, hD] at e; cases e
    · exact n (.inr (t.nar.ownA q))⟩
/-- out of a block -/
theorem Rel.unblk (r0 : Rel c ks io B ρ1 σ H1) (r : Rel c ks io (fun a => B a ∨ a = Dl) (kill ρ2 vs) (wipe σ vs) H') (t : Trk ρ1 σ H1 (kill ρ2 vs) (wipe σ vs) H') (hv : ∀ i ∈ vs, i ∉ ks.ow) (hD : H1 Dl = none) :
    Rel c ks io (fun a => B a ∨ a = Dl) (back vs ρ1 ρ2) σ H' ∧ Stp ρ1 σ H1 (back vs ρ1 ρ2) H' ∧ ∀ a, No (fun a => B a ∨ a = Dl) (back vs ρ1 ρ2) σ a → No (fun a => B a ∨ a = Dl) (kill ρ2 vs) (wipe σ vs) a := by
  have hl : ρ2.length = σ.length := by have := r.len; rwa [kill_len, wipe_length] at this
  have key : ∀ j : Nat, isOwn (back vs ρ1 ρ2)[j]? → j ∉ vs := fun j h m => by
    by_cases hj : j < ρ2.length
    · rw [back_in m hj] at h
      have : isOwn ρ1[j]? := by
        cases e : ρ1[j]? with
        | none => rw [List.getD_eq_getElem?_getD, e] at h; exact h.elim
        | some o => rw [List.getD_eq_getElem?_getD, e] at h; exact h
      exact hv _ m (r0.ow _ this)
    · rw [List.getElem?_eq_none (by rw [back_len]; omega)] at h; exact h.elim
  have nr : Nar (kill ρ2 vs) (wipe σ vs) (back vs ρ1 ρ2) σ := by
    refine ⟨fun j a ⟨h1, h2⟩ => ?_, fun j h => ?_, (wipe_length ..).symm⟩
    · have k := key j h1
      exact ⟨by rw [kill_out k, ← back_out k]; exact h1, by rw [wipe_out k]; exact h2⟩
    · have k := key j h
      rw [kill_out k, ← back_out k]; exact h
  have la := t.later (B := B) hD
  refine ⟨⟨by rw [back_len, hl], fun j x e => ?_, fun i j a p q => r.dist i j a (nr.own _ _ p) (nr.own _ _ q), fun a q => r.apart a (nr.ownA q), r.btr, fun p hp => ?_, fun j q => r.ow j (nr.ownj j q)⟩, ⟨t.keep, fun j q => t.nar.ownj j (nr.ownj j q), t.tr⟩, fun a q => nr.no q⟩
  · by_cases hj : j ∈ vs
    · have hjl : j < ρ2.length := by
        have := (List.getElem?_eq_some_iff.mp e).1
        rwa [back_len] at this
      rw [back_in hj hjl] at e
      have e1 : ρ1[j]? = some (some x) := by
        cases e2 : ρ1[j]? with
        | none => rw [List.getD_eq_getElem?_getD, e2] at e; cases e
        | some o => rw [List.getD_eq_getElem?_getD, e2] at e; exact congrArg some (Option.some.inj e)
      have hx : ¬ isOwn (some (some x)) := fun q => hv _ hj (r0.ow j (by rw [e1]; exact q))
      exact (r0.slot j x e1).mono (fun a o _ ow _ => absurd ow hx) la.keep fun a q => la.sub a (nr.no q)
    · rw [back_out hj] at e
      have := r.slot j x (by rw [kill_out hj]; exact e)
      rw [wipe_out hj] at this
      exact this.mono (fun _ _ _ _ q => q) .refl fun a q => .inl (nr.no q)
  · obtain ⟨h1, h2, h3⟩ := r.io p hp
    have hp' : p.1 ∉ vs := fun m => hv _ m (r.ow _ h2)
    rw [kill_out hp'] at h2
    rw [wipe_out hp'] at h3
    exact ⟨h1, by rw [back_out hp']; exact h2, h3⟩

/-! ### the list that grows -/
structure Coll (c : Sx) (ks : Ks) (io : Io) (B : NG) (Dl : Addr) (ρ : Env) (σ : L2.St) (H : Hp) (acc : List D) : Prop where
  rel : Rel c ks io B ρ σ H
  lst : ∃ vs, H Dl = some (.lst vs) ∧ RepAll c (No B ρ σ) H vs acc
theorem Coll.stp (k : Coll c ks io B Dl ρ σ H acc) (hD : B Dl) (r : Rel c ks io B ρ' σ H') (s : Stp ρ σ H ρ' H') : Coll c ks io B Dl ρ' σ H' acc := by
  obtain ⟨vs, h1, h2⟩ := k.lst
  exact ⟨r, vs, s.keep _ _ h1 fun q => k.rel.apart _ q hD, s.reps h2⟩
theorem Coll.nar (k : Coll c ks io B Dl ρ σ H acc) (r : Rel c ks io B ρ' σ' H) (n : Nar ρ σ ρ' σ') : Coll c ks io B Dl ρ' σ' H acc := by
  obtain ⟨vs, h1, h2⟩ := k.lst
  exact ⟨r, vs, h1, h2.mono .refl fun a q => .inl (n.no q)⟩
theorem Coll.grow (k : Coll c ks io B Dl ρ σ H acc) (g : Grow H H') : Coll c ks io B Dl ρ σ H' acc := by
  obtain ⟨vs, h1, h2⟩ := k.lst
  exact ⟨k.rel.grow g, vs, g _ _ h1, h2.grow g⟩
/-- the barrier's own object is written -/
theorem Rel.put {u : HO} (r : Rel c ks io B ρ σ H) (hD : B Dl) : Rel c ks io B ρ σ (upd H Dl u) := by
  have na : No B ρ σ Dl := .inl hD
  have kN : Keep (No B ρ σ) H (upd H Dl u) := fun a o e n => by
    have hne : a ≠ Dl := fun z => n (by rw [z]; exact na)
    rw [upd_ne hne]; exact e
  refine ⟨r.len, fun j x e => (r.slot j x e).mono (fun a o sb ow q => by
    have hne : a ≠ Dl := fun z => r.apart a ⟨j, by rw [e]; exact ow, sb⟩ (z ▸ hD)
    rw [upd_ne hne]; exact q) kN fun a q => .inl q, r.dist, r.apart, fun a q => ?_, r.io, r.ow⟩
  by_cases ea : a = Dl
  · subst ea; exact ⟨_, upd_same⟩
  · rw [upd_ne ea]; exact r.btr a q
theorem Coll.push {vs : List V} {v : V} {d : D} (r : Rel c ks io B ρ σ H) (hD : B Dl) (h1 : H Dl = some (.lst vs)) (h2 : RepAll c (No B ρ σ) H vs acc) (f : Rep c (No B ρ σ) H v d) : Coll c ks io B Dl ρ σ (upd H Dl (.lst (vs ++ [v]))) (acc ++ [d]) := by
  have na : No B ρ σ Dl := .inl hD
  have kN : Keep (No B ρ σ) H (upd H Dl (.lst (vs ++ [v]))) := fun a o e n => by
    have hne : a ≠ Dl := fun z => n (by rw [z]; exact na)
    rw [upd_ne hne]; exact e
  exact ⟨r.put hD, vs ++ [v], upd_same, (h2.append (.single f)).mono kN fun a q => .inl q⟩
end

/-! ### loops -/
/-- the turns of a comprehension's loop, by a word P for each -/
theorem turns {J : L2.It} {n : Nat} {Fin : Hp → Prop} {Body : (Hp → Prop) → V → Hp → Prop} {H0 : Hp} (P : Nat → Hp → Prop) (h0 : P 0 H0) (hgo : ∀ i H, P i H → i < n → J.go i H) (hstop : ∀ H, P n H → J.stop n H)
    (hs : ∀ i H, i < n → P i H → ∀ v H', J.yld i H v H' → Body (P (i + 1)) v H') (hd : ∀ H, P n H → Fin H) :
    ∃ W : Nat → Nat → Hp → Prop, (∃ m, W 0 m H0) ∧ ∀ i m H, W i m H → (J.stop i H ∧ Fin H) ∨ (J.go i H ∧ ∃ Nx : Hp → Prop, (∀ H', Nx H' → ∃ m', m' < m ∧ W (i + 1) m' H') ∧ ∀ v H', J.yld i H v H' → Body Nx v H') := by
  refine ⟨fun i m H => m = n - i ∧ i ≤ n ∧ P i H, ⟨n, by omega, Nat.zero_le _, h0⟩, ?_⟩
  rintro i m H ⟨rfl, hi, p⟩
  by_cases hlt : i < n
  · exact .inr ⟨hgo i H p hlt, P (i + 1), fun H' p' => ⟨n - (i + 1), by omega, rfl, hlt, p'⟩, hs i H hlt p⟩
  · obtain rfl : i = n := by omega
    exact .inl ⟨hstop H p, hd H p⟩
theorem joinR_cons {f : D → Env → R (List D)} {x : D} {xs : List D} {ρ ρ2 : Env} {ds : List D} (h : joinR f (x :: xs) ρ = .ok ds ρ2) : ∃ r ρ1 r', f x ρ = .ok r ρ1 ∧ joinR f xs ρ1 = .ok r' ρ2 ∧ ds = r ++ r' := by
  rw [joinR] at h
  obtain ⟨r, ρ1, e1, h⟩ := ok_bind h
  obtain ⟨r', ρ3, e2, h⟩ := ok_bind h
  cases h
  exact ⟨r, ρ1, r', e1, e2, rfl⟩
def NoExc {α : Type} (x : R α) : Prop := ∀ c ρ, x ≠ .exc c ρ
theorem noExc_nox {α : Type} (x : R α) : NoExc x.nox := fun c ρ h => by cases x <;> cases h
theorem noExc_bind {α β : Type} {x : R α} {f : α → Env → R β} (h : NoExc x) (g : ∀ a ρ, NoExc (f a ρ)) : NoExc (x.bind f) := fun c ρ e => by
  cases x with
  | ok a ρ1 => exact g a ρ1 c ρ e
  | exc c' ρ1 => exact h _ _ rfl
  | err => cases e
theorem noExc_ok {α : Type} {a : α} {ρ : Env} : NoExc (R.ok a ρ) := fun _ _ h => by cases h
theorem noExc_opt {α : Type} {o : Option α} {ρ : Env} : NoExc (R.opt o ρ) := fun _ _ h => by cases o <;> cases h
theorem noExc_ite {α : Type} {p : Prop} [Decidable p] {x y : R α} (h : NoExc x) (g : NoExc y) : NoExc (if p then x else y) := by split <;> assumption
theorem noExc_join {f : D → Env → R (List D)} (h : ∀ x ρ, NoExc (f x ρ)) : ∀ xs ρ, NoExc (joinR f xs ρ)
  | [], _ => noExc_ok
  | x :: xs, ρ => by
    rw [joinR]
    exact noExc_bind (h x ρ) fun a ρ1 => noExc_bind (noExc_join h xs ρ1) fun _ _ => noExc_ok
theorem nox_ok {α : Type} {x : R α} {a : α} {ρ : Env} (h : x.nox = .ok a ρ) : x = .ok a ρ := by
  cases x with
  | ok b ρ1 => exact h
  | exc c r => cases h
  | err => cases h

section
variable {X : Cx} {ks : Ks} {wx : WXs} {cs : CS} {elt tge iter tge2 iter2 : Expr} {ifs : List Expr} {scope : Scope} {own : List (Str × Nat)} {pos : Pos} {m : E} {tg tg2 : Tg} {it it2 : It} {cond : Option E} {vs vs2 : List Nat}
abbrev NoX : WXs := fun _ _ _ => False
/-- a condition, a tests' list -/
theorem tc_none : PTs X [] (tT (sx X) ks wx (evC cs none)) := ⟨fun pins s σ H Q I h => pts_nil.run pins s σ H Q I (by
  obtain ⟨io, B, ρ, r, p⟩ := h
  exact p.done r rfl)⟩
theorem tc_some {e : Expr} (h : PT X e (tT (sx X) ks wx fun ρ => truR (evE cs m ρ))) : PTs X [e] (tT (sx X) ks wx (evC cs (some m))) := pts_one h
/-- one turn's evaluation -/
def turnE (cs : CS) (m : E) (cond : Option E) : Env → R (List D) := fun ρa => (evC cs cond ρa).nox.bind fun t ρ => if t then (evE cs m ρ).nox.bind fun d ρ => .ok [d] ρ else .ok [] ρ
theorem turnE_cases {ρa : Env} {r : List D} {ρj : Env} (h : turnE cs m cond ρa = .ok r ρj) : (evC cs cond ρa = .ok false ρj ∧ r = []) ∨ ∃ ρb d, evC cs cond ρa = .ok true ρb ∧ evE cs m ρb = .ok d ρj ∧ r = [d] := by
  unfold turnE at h
  obtain ⟨t, ρb, e1, h⟩ := ok_bind h
  have e1' := nox_ok e1
  cases t with
  | false => cases h; exact .inl ⟨e1', rfl⟩
  | true =>
    obtain ⟨d, ρc, e2, h⟩ := ok_bind (show ((evE cs m ρb).nox.bind fun d ρ => .ok [d] ρ) = .ok r ρj from h)
    cases h
    exact .inr ⟨ρb, d, e1', nox_ok e2, rfl⟩
theorem later_put {N : NG} {H : Hp} {Dl : Addr} {u : HO} (h : N Dl) : Later N H N (upd H Dl u) := fun a o e n => by
  have hne : a ≠ Dl := fun z => n (by rw [z]; exact h)
  exact ⟨by rw [upd_ne hne]; exact e, n⟩
/-- behind the target's store: the test and the item -/
theorem turn_body {io : Io} {B1 : NG} {Dl : Addr} {ρa ρj : Env} {σ2 : L2.St} {H : Hp} {acc r : List D} {Nx : Hp → Prop} (hD : B1 Dl) (k : Coll (sx X) ks io B1 Dl ρa σ2 H acc) (e : turnE cs m cond ρa = .ok r ρj) (hz : acc.length < sizeLine)
    (nx : ∀ H', Coll (sx X) ks io B1 Dl ρj σ2 H' (acc ++ r) → (∀ ρ0 σ0 H0, H0 Dl = none → Trk ρ0 σ0 H0 ρa σ2 H → Trk ρ0 σ0 H0 ρj σ2 H') → Later (No B1 ρa σ2) H (No B1 ρj σ2) H' → Nx H') :
    tT (sx X) ks NoX (evC cs cond) σ2 H fun b H3 => if b = true then tE (sx X) ks NoX (evE cs m) σ2 H3 fun y H4 => ∃ acc', H4 Dl = some (.lst acc') ∧ acc'.length < sizeLine ∧ Nx (upd H4 Dl (.lst (acc' ++ [y]))) else Nx H3 := by
  refine ⟨io, B1, ρa, k.rel, ?_⟩
  rcases turnE_cases e with ⟨e1, rfl⟩ | ⟨ρb, d, e1, e2, rfl⟩
  · rw [e1]
    intro b H3 r3 s3 hb
    cases hb
    refine nx H3 ?_ (fun ρ0 σ0 H0 _ t => t.stp s3) s3.later
    rw [List.append_nil]
    exact k.stp hD r3 s3
  · rw [e1]
    intro b H3 r3 s3 hb
    cases hb
    show tE (sx X) ks NoX (evE cs m) σ2 H3 _
    refine ⟨io, B1, ρb, r3, ?_⟩
    rw [e2]
    intro y H4 r4 s4 f4
    have k4 := (k.stp hD r3 s3).stp hD r4 s4
    obtain ⟨vs, h1, h2⟩ := k4.lst
    exact ⟨vs, h1, by rw [h2.length]; exact hz, nx _ (Coll.push r4 hD h1 h2 f4) (fun ρ0 σ0 H0 h0 t => ((t.stp s3).stp s4).put h0) ((s3.later.trans s4.later).trans (later_put (.inl hD)))⟩
theorem wipe_in : ∀ {vs : List Nat} {τ : L2.St} {j : Nat}, j ∈ vs → j < τ.length → (wipe τ vs)[j]? = some none
  | v' :: vs, τ, j, hj, hl => by
    unfold wipe
    by_cases ev : v' = j
    · subst ev
      exact List.getElem?_set_self (by rw [wipe_length]; exact hl)
    · rw [List.getElem?_set_ne ev]
      exact wipe_in ((List.mem_cons.mp hj).resolve_left (Ne.symm ev)) hl
theorem wipe_asg {σ σ2 : L2.St} {is : List Nat} (a : Asg is (wipe σ vs) σ2) (h : ∀ i ∈ is, i ∈ vs) : wipe σ2 vs = wipe σ vs := by
  refine List.ext_getElem? fun j => ?_
  by_cases hj : j ∈ vs
  · have hl2 : σ2.length = σ.length := a.len.trans (wipe_length σ vs)
    by_cases hl : j < σ.length
    · rw [wipe_in hj (by rw [hl2]; exact hl), wipe_in hj hl]
    · rw [List.getElem?_eq_none (by rw [wipe_length, hl2]; omega), List.getElem?_eq_none (by rw [wipe_length]; omega)]
  · rw [wipe_out hj, a.at_ j fun m => hj (h j m)]
theorem t_lc (hv : ∀ i ∈ vs, i ∉ ks.ow) (ho : own.map (·.2) = vs) (hts : ∀ i ∈ tg.slots, i ∈ vs) {σ : L2.St} {H : Hp} {Q : VK} (h : tF (sx X) ks wx (evE cs (.lc m vs tg it cond)) σ H Q) :
    tLc (tI (sx X) ks wx (evI cs it)) (tTg (sx X) ks tg) (tT (sx X) ks NoX (evC cs cond)) (tE (sx X) ks NoX (evE cs m)) (own.map (·.2)) σ H Q := by
  obtain ⟨io, B, ρ, r, p⟩ := h
  rw [evE] at p
  refine ⟨io, B, ρ, r, (PostF.bind (F := FI (sx X) B σ) p).imp fun J H1 ⟨xs, ρ1, e, q1, s1, y, p1⟩ Dl hD => ?_⟩
  rw [ho]
  have hD' : (fun a => B a ∨ a = Dl) Dl := .inr rfl
  have nx : NoExc (joinR (fun x ρ => (R.opt (tg.bind x (kill ρ vs)) ρ).bind fun ρa _ => turnE cs m cond ρa) xs ρ1) := noExc_join (fun x ρ => noExc_bind noExc_opt fun ρa _ => noExc_bind (noExc_nox _) fun t ρ => by
    cases t
    · exact noExc_ok
    · exact noExc_bind (noExc_nox _) fun _ _ => noExc_ok) _ _
  have p1 : PostF (sx X) ks wx io B σ ρ1 H1 ((limR (joinR (fun x ρ => (R.opt (tg.bind x (kill ρ vs)) ρ).bind fun ρa _ => turnE cs m cond ρa) xs ρ1)).bind fun ds ρ2 => .ok (.list ds) (back vs ρ1 ρ2)) Q := p1
  cases ej : joinR (fun x ρ => (R.opt (tg.bind x (kill ρ vs)) ρ).bind fun ρa _ => turnE cs m cond ρa) xs ρ1 with
  | err => rw [ej] at p1; exact p1.elim
  | exc c ρ' => exact (nx c ρ' ej).elim
  | ok ds ρ2 =>
    rw [ej] at p1
    by_cases hz : okLen ds.length = true
    · have p2 : PostF (sx X) ks wx io B σ ρ1 H1 (.ok (.list ds) (back vs ρ1 ρ2)) Q := by
        have e2 : (limR (R.ok ds ρ2)).bind (fun ds ρ2 => R.ok (PyData.list ds) (back vs ρ1 ρ2)) = .ok (.list ds) (back vs ρ1 ρ2) := by
          unfold limR
          rw [R.bind_ok, if_pos hz]
          rfl
        rw [e2] at p1
        exact p1
      have q0 := (q1.more hD (Grow.upd (o := .lst []) hD) ⟨_, upd_same⟩).blk hv
      have t0 : Trk ρ1 σ H1 (kill ρ1 vs) (wipe σ vs) (upd H1 Dl (.lst [])) := (Trk.refl.nars nar_kill).grow (.upd hD)
      refine turns (n := xs.length) (fun i H' => ∃ ρi acc ds', joinR (fun x ρ => (R.opt (tg.bind x (kill ρ vs)) ρ).bind fun ρa _ => turnE cs m cond ρa) (xs.drop i) ρi = .ok ds' ρ2 ∧ acc ++ ds' = ds ∧
        Coll (sx X) ks io (fun a => B a ∨ a = Dl) Dl (kill ρi vs) (wipe σ vs) H' acc ∧ Trk ρ1 σ H1 (kill ρi vs) (wipe σ vs) H') ⟨ρ1, [], ds, by rw [List.drop_zero]; exact ej, rfl, ⟨q0, [], upd_same, .nil⟩, t0⟩ ?_ ?_ ?_ ?_
      · rintro i H' ⟨ρi, acc, ds', e1, e2, k, t⟩ hlt
        exact ((y _ _ k.rel.ntr (t.later hD) i).1 xs[i] (List.getElem?_eq_getElem hlt)).1
      · rintro H' ⟨ρi, acc, ds', e1, e2, k, t⟩
        exact (y _ _ k.rel.ntr (t.later hD) xs.length).2 (Nat.le_refl _)
      · rintro i H' hlt ⟨ρi, acc, ds', e1, e2, k, t⟩ v H'' yl
        obtain ⟨g, rv⟩ := ((y _ _ k.rel.ntr (t.later hD) i).1 xs[i] (List.getElem?_eq_getElem hlt)).2 v H'' yl
        rw [List.drop_eq_getElem_cons hlt] at e1
        obtain ⟨r1, ρj, r2, e3, e4, rfl⟩ := joinR_cons e1
        obtain ⟨ρa, _, e5, e6⟩ := ok_bind e3
        obtain ⟨e5, _⟩ := ok_opt e5
        have k1 := k.grow g
        refine ⟨io, _, kill ρi vs, _, ρa, k1.rel, rv, e5, fun σ2 r2' a2 n2 => ⟨?_, ?_⟩⟩
        · exact wipe_asg a2 hts
        · refine turn_body hD' (k1.nar r2' n2) e6 ?_ fun H' k3 t3 _ => ⟨ρj, acc ++ r1, r2, e4, by rw [List.append_assoc]; exact e2, ?_, ?_⟩
          · have : acc.length ≤ ds.length := by rw [← e2, List.length_append]; omega
            exact Nat.lt_of_le_of_lt this (okLen_lt hz)
          · rw [← wipe_asg a2 hts]
            exact k3.nar (k3.rel.blk hv) nar_kill
          · rw [← wipe_asg a2 hts]
            exact (t3 ρ1 σ H1 hD ((t.grow g).nars n2)).nars nar_kill
      · rintro H' ⟨ρi, acc, ds', e1, e2, k, t⟩
        rw [List.drop_length] at e1
        cases e1
        rw [List.append_nil] at e2
        subst e2
        obtain ⟨w1, w2, w3⟩ := q1.unblk k.rel t hv hD
        obtain ⟨ws, h1, h2⟩ := k.lst
        exact p2 Dl H' hD w1 w2 ⟨ws, h1, h2.mono .refl fun a q => .inl (w3 a q)⟩
    · exfalso
      have e2 : (limR (R.ok ds ρ2)).bind (fun ds ρ2 => R.ok (PyData.list ds) (back vs ρ1 ρ2)) = .err := by
        unfold limR
        rw [R.bind_ok, if_neg hz]
        rfl
      rw [e2] at p1
      exact p1
/-- [elt for tg in iter if ..], new -/
theorem af_lc (hc : X.calm = true) (hN : X.N.Nodup) (hv : ∀ i ∈ vs, i ∉ ks.ow) (ho : own.map (·.2) = vs) (hts : ∀ i ∈ tg.slots, i ∈ vs) (ok : BlkOk X.N X.env.scope scope own) (hi : PI X tge iter (tI (sx X) ks wx (evI cs it)))
    (hg : ∀ (s : Shared) (H : Hp) (C : Addr) (cl : List (Str × Addr)) (fp : List Addr), PG (X.blk s H scope (compEnvC scope cl C X.env) fp) tge (tTg (sx X) ks tg))
    (ht : ∀ (s : Shared) (H : Hp) (C : Addr) (cl : List (Str × Addr)) (fp : List Addr), PTs (X.blk s H scope (compEnvC scope cl C X.env) fp) ifs (tT (sx X) ks NoX (evC cs cond)))
    (he : ∀ (s : Shared) (H : Hp) (C : Addr) (cl : List (Str × Addr)) (fp : List Addr), PE (X.blk s H scope (compEnvC scope cl C X.env) fp) elt (tE (sx X) ks NoX (evE cs m)))
    (hs : ∀ x, foldedSetIterable iter X.env x = pure x) : PE X (.ListComp elt [⟨tge, iter, ifs, 0⟩] scope pos) (tF (sx X) ks wx (evE cs (.lc m vs tg it cond))) :=
  (pe_lc hc hN hi ok hg ht he hs).imp fun _ _ _ h => t_lc hv ho hts h
end
end G

set_option Elab.async false
set_option linter.all false
set_option maxRecDepth 100000
set_option autoImplicit false
/-! G12: list comprehensions of two clauses. -/
namespace G
open PySem PySem.Spec PyProof.Rows L2
section
variable {X : Cx} {ks : Ks} {wx : WXs} {cs : CS} {elt tge iter tge2 iter2 : Expr} {ifs : List Expr} {scope : Scope} {own : List (Str × Nat)} {pos : Pos} {m : E} {tg tg2 : Tg} {it it2 : It} {cond : Option E} {vs vs2 : List Nat}
/-! ### two clauses -/
theorem kill_at : ∀ {vs : List Nat} {ρ : Env} {j : Nat}, j ∈ vs → j < ρ.length → (kill ρ vs)[j]? = some none := fun {vs ρ j} h hl => by
  cases e : (kill ρ vs)[j]? with
  | none => rw [List.getElem?_eq_none_iff, kill_len] at e; omega
  | some o =>
    cases o with
    | none => rfl
    | some x => exact absurd e (kill_in h x)
theorem kill_kill {ρ : Env} (h : ∀ i ∈ vs2, i ∈ vs) : kill (kill ρ vs2) vs = kill ρ vs := by
  refine List.ext_getElem? fun j => ?_
  by_cases hj : j ∈ vs
  · by_cases hl : j < ρ.length
    · rw [kill_at hj (by rw [kill_len]; exact hl), kill_at hj hl]
    · rw [List.getElem?_eq_none (by rw [kill_len, kill_len]; omega), List.getElem?_eq_none (by rw [kill_len]; omega)]
  · rw [kill_out hj, kill_out hj, kill_out fun m => hj (h j m)]
theorem wipe_wipe {σ : L2.St} (h : ∀ i ∈ vs2, i ∈ vs) : wipe (wipe σ vs2) vs = wipe σ vs := by
  refine List.ext_getElem? fun j => ?_
  by_cases hj : j ∈ vs
  · by_cases hl : j < σ.length
    · rw [wipe_in hj (by rw [wipe_length]; exact hl), wipe_in hj hl]
    · rw [List.getElem?_eq_none (by rw [wipe_length, wipe_length]; omega), List.getElem?_eq_none (by rw [wipe_length]; omega)]
  · rw [wipe_out hj, wipe_out hj, wipe_out fun m => hj (h j m)]
theorem noExc_turn {ρa : Env} : NoExc (turnE cs m cond ρa) := noExc_bind (noExc_nox _) fun t ρ => by
  cases t
  · exact noExc_ok
  · exact noExc_bind (noExc_nox _) fun _ _ => noExc_ok
/-- the inner loop -/
def innerE (cs : CS) (m : E) (cond : Option E) (tg2 : Tg) (vs2 : List Nat) : List D → Env → R (List D) := joinR fun y ρ => (R.opt (tg2.bind y (kill ρ vs2)) ρ).bind fun ρb _ => turnE cs m cond ρb
theorem inner_loop {io : Io} {B1 : NG} {Dl : Addr} {ρ0 ρ2 ρo : Env} {σo σ2 : L2.St} {Ho H3 : Hp} {xs : List D} {acc ds' : List D} {J : L2.It} {Nx : Hp → Prop} (hD : B1 Dl) (h0 : Ho Dl = none) (hv : ∀ i ∈ vs2, i ∉ ks.ow) (hts : ∀ i ∈ tg2.slots, i ∈ vs2)
    (k : Coll (sx X) ks io B1 Dl ρ0 σ2 H3 acc) (t : Trk ρo σo Ho ρ0 σ2 H3) (e : innerE cs m cond tg2 vs2 xs ρ0 = .ok ds' ρ2) (hz : acc.length + ds'.length < sizeLine) (y : Ylds (sx X) (No B1 ρ0 σ2) H3 J xs)
    (nx : ∀ H', Coll (sx X) ks io B1 Dl (kill ρ2 vs2) (wipe σ2 vs2) H' (acc ++ ds') → Trk ρo σo Ho (kill ρ2 vs2) (wipe σ2 vs2) H' → Nx H') :
    ∃ W1 : Nat → Nat → Hp → Prop, (∃ m, W1 0 m H3) ∧ ∀ j k H, W1 j k H → (J.stop j H ∧ Nx H) ∨ (J.go j H ∧ ∃ Nx1 : Hp → Prop, (∀ H', Nx1 H' → ∃ k', k' < k ∧ W1 (j + 1) k' H') ∧ ∀ x H', J.yld j H x H' → tTg (sx X) ks tg2 x (wipe σ2 vs2) H' fun σ3 H5 => wipe σ3 vs2 = wipe σ2 vs2 ∧
      tT (sx X) ks NoX (evC cs cond) σ3 H5 fun b H6 => if b = true then tE (sx X) ks NoX (evE cs m) σ3 H6 fun y H7 => ∃ acc, H7 Dl = some (.lst acc) ∧ acc.length < sizeLine ∧ Nx1 (upd H7 Dl (.lst (acc ++ [y]))) else Nx1 H6) := by
  refine turns (n := xs.length) (fun i H' => ∃ ρi acc1 ds1, innerE cs m cond tg2 vs2 (xs.drop i) ρi = .ok ds1 ρ2 ∧ acc1 ++ ds1 = acc ++ ds' ∧ Coll (sx X) ks io B1 Dl (kill ρi vs2) (wipe σ2 vs2) H' acc1 ∧ Trk ρo σo Ho (kill ρi vs2) (wipe σ2 vs2) H' ∧
    Later (No B1 ρ0 σ2) H3 (No B1 (kill ρi vs2) (wipe σ2 vs2)) H') ⟨ρ0, acc, ds', by rw [List.drop_zero]; exact e, rfl, k.nar (k.rel.blk hv) nar_kill, t.nars nar_kill, Later.refl.less fun a q => nar_kill.no q⟩ ?_ ?_ ?_ ?_
  · rintro i H' ⟨ρi, acc1, ds1, e1, e2, k1, t1, l1⟩ hlt
    exact ((y _ _ k1.rel.ntr l1 i).1 xs[i] (List.getElem?_eq_getElem hlt)).1
  · rintro H' ⟨ρi, acc1, ds1, e1, e2, k1, t1, l1⟩
    exact (y _ _ k1.rel.ntr l1 xs.length).2 (Nat.le_refl _)
  · rintro i H' hlt ⟨ρi, acc1, ds1, e1, e2, k1, t1, l1⟩ v H'' yl
    obtain ⟨g, rv⟩ := ((y _ _ k1.rel.ntr l1 i).1 xs[i] (List.getElem?_eq_getElem hlt)).2 v H'' yl
    rw [List.drop_eq_getElem_cons hlt] at e1
    obtain ⟨r1, ρj, r2, e3, e4, rfl⟩ := joinR_cons e1
    obtain ⟨ρa, _, e5, e6⟩ := ok_bind e3
    obtain ⟨e5, _⟩ := ok_opt e5
    have k2 := k1.grow g
    refine ⟨io, _, kill ρi vs2, _, ρa, k2.rel, rv, e5, fun σ3 r3 a3 n3 => ⟨wipe_asg a3 hts, ?_⟩⟩
    refine turn_body hD (k2.nar r3 n3) e6 ?_ fun H5 k3 t3 l3 => ⟨ρj, acc1 ++ r1, r2, e4, by rw [List.append_assoc]; exact e2, ?_, ?_, ?_⟩
    · have : acc1.length ≤ acc.length + ds'.length := by rw [← List.length_append, ← e2, List.length_append]; omega
      exact Nat.lt_of_le_of_lt this hz
    · rw [← wipe_asg a3 hts]
      exact k3.nar (k3.rel.blk hv) nar_kill
    · rw [← wipe_asg a3 hts]
      exact (t3 ρo σo Ho h0 ((t1.grow g).nars n3)).nars nar_kill
    · rw [← wipe_asg a3 hts]
      have lg : Later (No B1 (kill ρi vs2) (wipe σ2 vs2)) H' (No B1 (kill ρi vs2) (wipe σ2 vs2)) H'' := fun a o e n => ⟨g a o e, n⟩
      exact (((l1.trans lg).less fun a q => n3.no q).trans l3).less fun a q => nar_kill.no q
  · rintro H' ⟨ρi, acc1, ds1, e1, e2, k1, t1, l1⟩
    rw [List.drop_length] at e1
    cases e1
    rw [List.append_nil] at e2
    subst e2
    exact nx H' k1 t1
theorem t_lc2 (hv : ∀ i ∈ vs, i ∉ ks.ow) (ho : own.map (·.2) = vs) (hts : ∀ i ∈ tg.slots, i ∈ vs) (hts2 : ∀ i ∈ tg2.slots, i ∈ vs2) (h2 : ∀ i ∈ vs2, i ∈ vs) {σ : L2.St} {H : Hp} {Q : VK} (h : tF (sx X) ks wx (evE cs (.lc2 m vs tg it vs2 tg2 it2 cond)) σ H Q) :
    tLc2 (tI (sx X) ks wx (evI cs it)) (tTg (sx X) ks tg) (tT (sx X) ks NoX (evC cs none)) (tI (sx X) ks NoX (evI cs it2)) (tTg (sx X) ks tg2) (tT (sx X) ks NoX (evC cs cond)) (tE (sx X) ks NoX (evE cs m)) (own.map (·.2)) vs2 σ H Q := by
  obtain ⟨io, B, ρ, r, p⟩ := h
  rw [evE] at p
  refine ⟨io, B, ρ, r, (PostF.bind (F := FI (sx X) B σ) p).imp fun J H1 ⟨xs, ρ1, e, q1, s1, y, p1⟩ Dl hD => ?_⟩
  rw [ho]
  have hv2 : ∀ i ∈ vs2, i ∉ ks.ow := fun i hi => hv i (h2 i hi)
  have hD' : (fun a => B a ∨ a = Dl) Dl := .inr rfl
  generalize hf : (fun x ρ => (R.opt (tg.bind x (kill ρ vs)) ρ).bind fun ρa _ => (evI cs it2 ρa).nox.bind fun ys ρ => innerE cs m cond tg2 vs2 ys ρ) = f
  have nx : NoExc (joinR f xs ρ1) := by
    rw [← hf]
    exact noExc_join (fun x ρ => noExc_bind noExc_opt fun ρa _ => noExc_bind (noExc_nox _) fun ys ρ => noExc_join (fun y ρ => noExc_bind noExc_opt fun _ _ => noExc_turn) _ _) _ _
  have p1 : PostF (sx X) ks wx io B σ ρ1 H1 ((limR (joinR f xs ρ1)).bind fun ds ρ2 => .ok (.list ds) (back vs ρ1 ρ2)) Q := by rw [← hf]; exact p1
  cases ej : joinR f xs ρ1 with
  | err => rw [ej] at p1; exact p1.elim
  | exc c ρ' => exact (nx c ρ' ej).elim
  | ok ds ρ2 =>
    rw [ej] at p1
    by_cases hz : okLen ds.length = true
    · have p2 : PostF (sx X) ks wx io B σ ρ1 H1 (.ok (.list ds) (back vs ρ1 ρ2)) Q := by
        have e2 : (limR (R.ok ds ρ2)).bind (fun ds ρ2 => R.ok (PyData.list ds) (back vs ρ1 ρ2)) = .ok (.list ds) (back vs ρ1 ρ2) := by
          unfold limR
          rw [R.bind_ok, if_pos hz]
          rfl
        rw [e2] at p1
        exact p1
      have q0 := (q1.more hD (Grow.upd (o := .lst []) hD) ⟨_, upd_same⟩).blk hv
      have t0 : Trk ρ1 σ H1 (kill ρ1 vs) (wipe σ vs) (upd H1 Dl (.lst [])) := (Trk.refl.nars nar_kill).grow (.upd hD)
      refine turns (n := xs.length) (fun i H' => ∃ ρi acc ds', joinR f (xs.drop i) ρi = .ok ds' ρ2 ∧ acc ++ ds' = ds ∧
        Coll (sx X) ks io (fun a => B a ∨ a = Dl) Dl (kill ρi vs) (wipe σ vs) H' acc ∧ Trk ρ1 σ H1 (kill ρi vs) (wipe σ vs) H') ⟨ρ1, [], ds, by rw [List.drop_zero]; exact ej, rfl, ⟨q0, [], upd_same, .nil⟩, t0⟩ ?_ ?_ ?_ ?_
      · rintro i H' ⟨ρi, acc, ds', e1, e2, k, t⟩ hlt
        exact ((y _ _ k.rel.ntr (t.later hD) i).1 xs[i] (List.getElem?_eq_getElem hlt)).1
      · rintro H' ⟨ρi, acc, ds', e1, e2, k, t⟩
        exact (y _ _ k.rel.ntr (t.later hD) xs.length).2 (Nat.le_refl _)
      · rintro i H' hlt ⟨ρi, acc, ds', e1, e2, k, t⟩ v H'' yl
        obtain ⟨g, rv⟩ := ((y _ _ k.rel.ntr (t.later hD) i).1 xs[i] (List.getElem?_eq_getElem hlt)).2 v H'' yl
        rw [List.drop_eq_getElem_cons hlt] at e1
        obtain ⟨r1, ρj, r2, e3, e4, rfl⟩ := joinR_cons e1
        rw [← hf] at e3
        obtain ⟨ρa, _, e5, e6⟩ := ok_bind e3
        obtain ⟨e5, _⟩ := ok_opt e5
        obtain ⟨ys, ρb, e7, e8⟩ := ok_bind e6
        have e7 := nox_ok e7
        have k1 := k.grow g
        have hzz : acc.length + (r1 ++ r2).length < sizeLine := by
          have h5 := congrArg List.length e2
          rw [List.length_append] at h5
          rw [h5]
          exact okLen_lt hz
        refine ⟨io, _, kill ρi vs, _, ρa, k1.rel, rv, e5, fun σ2 r2' a2 n2 => ⟨wipe_asg a2 hts, ?_⟩⟩
        refine ⟨io, _, ρa, r2', fun b H3 r3 s3 hb => ?_⟩
        cases hb
        show tI (sx X) ks NoX (evI cs it2) σ2 H3 _
        refine ⟨io, _, ρa, r3, ?_⟩
        rw [e7]
        intro J1 H4 r4 s4 y4
        have k4 := ((k1.nar r2' n2).stp hD' r3 s3).stp hD' r4 s4
        have t4 := (((t.grow g).nars n2).stp s3).stp s4
        refine inner_loop hD' hD hv2 hts2 k4 t4 e8 ?_ y4 fun H' k5 t5 => ⟨ρj, acc ++ r1, r2, e4, by rw [List.append_assoc]; exact e2, ?_, ?_⟩
        · rw [List.length_append] at hzz; omega
        · have k6 := k5.nar (k5.rel.blk hv) nar_kill
          rw [kill_kill h2, wipe_wipe h2, wipe_asg a2 hts] at k6
          exact k6
        · have t6 := t5.nars (nar_kill (vs := vs))
          rw [kill_kill h2, wipe_wipe h2, wipe_asg a2 hts] at t6
          exact t6
      · rintro H' ⟨ρi, acc, ds', e1, e2, k, t⟩
        rw [List.drop_length] at e1
        cases e1
        rw [List.append_nil] at e2
        subst e2
        obtain ⟨w1, w2, w3⟩ := q1.unblk k.rel t hv hD
        obtain ⟨ws, h1, h2⟩ := k.lst
        exact p2 Dl H' hD w1 w2 ⟨ws, h1, h2.mono .refl fun a q => .inl (w3 a q)⟩
    · exfalso
      have e2 : (limR (R.ok ds ρ2)).bind (fun ds ρ2 => R.ok (PyData.list ds) (back vs ρ1 ρ2)) = .err := by
        unfold limR
        rw [R.bind_ok, if_neg hz]
        rfl
      rw [e2] at p1
      exact p1
/-- [elt for tg in iter for tg2 in iter2 if ..], new -/
theorem af_lc2 (hc : X.calm = true) (hN : X.N.Nodup) (hv : ∀ i ∈ vs, i ∉ ks.ow) (ho : own.map (·.2) = vs) (hts : ∀ i ∈ tg.slots, i ∈ vs) (hts2 : ∀ i ∈ tg2.slots, i ∈ vs2) (h2 : ∀ i ∈ vs2, i ∈ vs) (ok : BlkOk X.N X.env.scope scope own) (hi : PI X tge iter (tI (sx X) ks wx (evI cs it)))
    (hg : ∀ (s : Shared) (H : Hp) (C : Addr) (cl : List (Str × Addr)) (fp : List Addr), PG (X.blk s H scope (compEnvC scope cl C X.env) fp) tge (tTg (sx X) ks tg))
    (hi2 : ∀ (s : Shared) (H : Hp) (C : Addr) (cl : List (Str × Addr)) (fp : List Addr), PI (X.blk s H scope (compEnvC scope cl C X.env) fp) tge2 iter2 (tI (sx X) ks NoX (evI cs it2)))
    (hg2 : ∀ (s : Shared) (H : Hp) (C : Addr) (cl : List (Str × Addr)) (fp : List Addr), PG (X.blk s H scope (compEnvC scope cl C X.env) fp) tge2 (tTg (sx X) ks tg2))
    (ht : ∀ (s : Shared) (H : Hp) (C : Addr) (cl : List (Str × Addr)) (fp : List Addr), PTs (X.blk s H scope (compEnvC scope cl C X.env) fp) ifs (tT (sx X) ks NoX (evC cs cond)))
    (he : ∀ (s : Shared) (H : Hp) (C : Addr) (cl : List (Str × Addr)) (fp : List Addr), PE (X.blk s H scope (compEnvC scope cl C X.env) fp) elt (tE (sx X) ks NoX (evE cs m)))
    (hs : ∀ x, foldedSetIterable iter X.env x = pure x) (hs2 : ∀ env x, foldedSetIterable iter2 env x = pure x) :
    PE X (.ListComp elt [⟨tge, iter, [], 0⟩, ⟨tge2, iter2, ifs, 0⟩] scope pos) (tF (sx X) ks wx (evE cs (.lc2 m vs tg it vs2 tg2 it2 cond))) :=
  (pe_lc2 hc hN hi ok (vs1 := vs2) (by rw [ho]; exact h2) (tt := tT (sx X) ks NoX (evC cs none)) hg (fun s H C cl fp => tc_none (X := X.blk s H scope (compEnvC scope cl C X.env) fp) (ks := ks) (wx := NoX) (cs := cs)) hi2 hg2 ht he hs hs2).imp fun _ _ _ h => t_lc2 hv ho hts hts2 h2 h
end
end G

set_option Elab.async false
set_option linter.all false
set_option maxRecDepth 100000
set_option autoImplicit false
/-! G13: statements: what is kept, blocks, simple statements. -/
namespace G
open PySem PySem.Spec PyProof.Rows L2

section
variable {c : Sx} {ks : Ks} {io : Io} {B B' : NG} {ρ ρ' ρ1 ρ2 : Env} {σ σ' σ1 σ2 : L2.St} {H H' H1 H2 : Hp} {i : Nat} {p : Addr}
/-- a statement's step -/
structure TrkS (ρ : Env) (σ : L2.St) (H : Hp) (ρ' : Env) (σ' : L2.St) (H' : Hp) : Prop where
  keep : Keep (OwnA ρ σ) H H'
  own : ∀ a, OwnA ρ' σ' a → OwnA ρ σ a ∨ H a = none
  len : σ'.length = σ.length
  tr : ∀ a o, H a = some o → ∃ o', H' a = some o'
theorem TrkS.refl : TrkS ρ σ H ρ σ H := ⟨.refl, fun _ h => .inl h, rfl, fun a o h => ⟨o, h⟩⟩
theorem TrkS.trans (a : TrkS ρ σ H ρ1 σ1 H1) (b : TrkS ρ1 σ1 H1 ρ2 σ2 H2) : TrkS ρ σ H ρ2 σ2 H2 := by
  refine ⟨fun x o h n => b.keep x o (a.keep x o h n) fun q => ?_, fun x h => ?_, b.len.trans a.len, fun x o h => let ⟨o1, h1⟩ := a.tr x o h; b.tr x o1 h1⟩
  · rcases a.own x q with z | z
    · exact n z
    · rw [z] at h; cases h
  · rcases b.own x h with z | z
    · exact a.own x z
    · cases e : H x with
      | none => exact .inr rfl
      | some o =>
        obtain ⟨o1, h1⟩ := a.tr x o e
        rw [z] at h1; cases h1
theorem Stp.trk (s : Stp ρ σ H ρ' H') : TrkS ρ σ H ρ' σ H' := ⟨s.keep, fun a h => .inl (s.ownA h), rfl, s.tr⟩
theorem Nar.trk (n : Nar ρ σ ρ' σ') : TrkS ρ σ H ρ' σ' H := ⟨.refl, fun a h => .inl (n.ownA h), n.len, fun a o h => ⟨o, h⟩⟩
theorem TrkS.later (t : TrkS ρ σ H ρ' σ' H') : Later (No B ρ σ) H (No B ρ' σ') H' := fun a o e n => by
  refine ⟨t.keep a o e fun q => n (.inr q), fun q => ?_⟩
  rcases q with q | q
  · exact n (.inl q)
  · rcases t.own a q with z | z
    · exact n (.inr z)
    · rw [z] at e; cases e

/-! ### slots: a new object is stored, slots are forgotten, owned ones frozen -/
theorem Rel.setO {x : AV} (r : Rel c ks io (fun a => B a ∨ a = p) ρ σ H) (hB : ∀ a, B a → a ≠ p) (hi : i ∉ ks.fx) (hw : i ∈ ks.ow) (hl : i < ρ.length) (hx : isOwn (some (some x))) (ok : OwnOk c (No (fun a => B a ∨ a = p) ρ σ) H p x) :
    Rel c ks io B (ρ.set i (some x)) (σ.set i (some (.ref p))) H ∧ ∀ a, OwnA (ρ.set i (some x)) (σ.set i (some (.ref p))) a → OwnA ρ σ a ∨ a = p := by
  have hls : i < σ.length := by rw [← r.len]; exact hl
  have key : ∀ j a, OwnI (ρ.set i (some x)) (σ.set i (some (.ref p))) j a → (j = i ∧ a = p) ∨ (j ≠ i ∧ OwnI ρ σ j a) := fun j a ⟨h1, h2⟩ => by
    by_cases e : i = j
    · subst e
      rw [List.getElem?_set_self hls] at h2
      cases h2
      exact .inl ⟨rfl, rfl⟩
    · rw [List.getElem?_set_ne e] at h1 h2
      exact .inr ⟨Ne.symm e, h1, h2⟩
  have ownA : ∀ a, OwnA (ρ.set i (some x)) (σ.set i (some (.ref p))) a → OwnA ρ σ a ∨ a = p := fun a ⟨j, h⟩ => by
    rcases key j a h with ⟨_, e⟩ | ⟨_, q⟩
    · exact .inr e
    · exact .inl ⟨j, q⟩
  have sub : ∀ a, No B (ρ.set i (some x)) (σ.set i (some (.ref p))) a → No (fun a => B a ∨ a = p) ρ σ a ∨ H a = none := fun a q => by
    rcases q with q | q
    · exact .inl (.inl (.inl q))
    · rcases ownA a q with z | z
      · exact .inl (.inr z)
      · exact .inl (.inl (.inr z))
  have np : ¬ OwnA ρ σ p := fun q => r.apart p q (.inr rfl)
  refine ⟨⟨by rw [List.length_set, List.length_set]; exact r.len, fun j y e => ?_, fun j l a q1 q2 => ?_, fun a q hb => ?_, fun a q => r.btr a (.inl q), fun q hq => ?_, fun j q => ?_⟩, ownA⟩
  · by_cases ej : i = j
    · subst ej
      rw [List.getElem?_set_self hl] at e
      cases e
      rw [List.getElem?_set_self hls]
      cases x with
      | d _ => exact hx.elim
      | sc _ => exact hx.elim
      | ol xs => exact ⟨p, rfl, ok.mono (fun _ e => e) .refl sub⟩
      | od xs => exact ⟨p, rfl, ok.mono (fun _ e => e) .refl sub⟩
    · rw [List.getElem?_set_ne ej] at e
      rw [List.getElem?_set_ne ej]
      exact (r.slot j y e).mono (fun _ _ _ _ q => q) .refl sub
  · rcases key j a q1 with ⟨e1, e2⟩ | ⟨e1, q1⟩
    · rcases key l a q2 with ⟨e3, e4⟩ | ⟨e3, q2⟩
      · rw [e1, e3]
      · rw [e2] at q2; exact (np ⟨l, q2⟩).elim
    · rcases key l a q2 with ⟨e3, e4⟩ | ⟨e3, q2⟩
      · rw [e4] at q1; exact (np ⟨j, q1⟩).elim
      · exact r.dist j l a q1 q2
  · rcases ownA a q with z | z
    · exact r.apart a z (.inl hb)
    · exact hB a hb z
  · obtain ⟨h1, h2⟩ := r.io q hq
    have ne : i ≠ q.1 := fun z => hi (z ▸ h1)
    exact ⟨h1, by rw [List.getElem?_set_ne ne]; exact h2.1, by rw [List.getElem?_set_ne ne]; exact h2.2⟩
  · by_cases ej : i = j
    · subst ej; exact hw
    · rw [List.getElem?_set_ne ej] at q
      exact r.ow j q
theorem nar_kill1 : Nar ρ σ (ρ.set i none) σ := by
  have key : ∀ j : Nat, isOwn (ρ.set i none)[j]? → isOwn ρ[j]? := fun j h => by
    by_cases e : i = j
    · subst e
      by_cases hl : i < ρ.length
      · rw [List.getElem?_set_self hl] at h; exact h.elim
      · rw [List.getElem?_eq_none (by rw [List.length_set]; omega)] at h; exact h.elim
    · rwa [List.getElem?_set_ne e] at h
  exact ⟨fun j a ⟨h1, h2⟩ => ⟨key j h1, h2⟩, key, rfl⟩
theorem Rel.kill1 (r : Rel c ks io B ρ σ H) (hi : i ∉ ks.fx) : Rel c ks io B (ρ.set i none) σ H := by
  have nr : Nar ρ σ (ρ.set i none) σ := nar_kill1
  refine ⟨by rw [List.length_set]; exact r.len, fun j x e => ?_, fun j l a p q => r.dist j l a (nr.own _ _ p) (nr.own _ _ q), fun a q => r.apart a (nr.ownA q), r.btr, fun p hp => ?_, fun j q => r.ow j (nr.ownj j q)⟩
  · by_cases ej : i = j
    · subst ej
      by_cases hl : i < ρ.length
      · rw [List.getElem?_set_self hl] at e; cases e
      · rw [List.getElem?_eq_none (by rw [List.length_set]; omega)] at e; cases e
    · rw [List.getElem?_set_ne ej] at e
      exact (r.slot j x e).mono (fun _ _ _ _ q => q) .refl fun a q => .inl (nr.no q)
  · obtain ⟨h1, h2⟩ := r.io p hp
    have ne : i ≠ p.1 := fun z => hi (z ▸ h1)
    exact ⟨h1, by rw [List.getElem?_set_ne ne]; exact h2.1, h2.2⟩
theorem Rel.kills : ∀ (vs : List Nat) {ρ : Env}, Rel c ks io B ρ σ H → (∀ i ∈ vs, i ∉ ks.fx) → Rel c ks io B (kill ρ vs) σ H ∧ Nar ρ σ (kill ρ vs) σ
  | [], _, r, _ => ⟨r, .refl⟩
  | v :: vs, ρ, r, h => by
    obtain ⟨g1, g2⟩ := Rel.kills vs (r.kill1 (h v List.mem_cons_self)) fun i hi => h i (List.mem_cons_of_mem _ hi)
    exact ⟨g1, nar_kill1.trans g2⟩
theorem nar_frz {d : D} (h : rdB ρ i = some d) : Nar ρ σ (ρ.set i (some (.d d))) σ := by
  have key : ∀ j : Nat, isOwn (ρ.set i (some (.d d)))[j]? → isOwn ρ[j]? := fun j h => (own_setD h).1
  exact ⟨fun j a ⟨h1, h2⟩ => ⟨key j h1, h2⟩, key, rfl⟩
theorem Rel.frz1 (r : Rel c ks io B ρ σ H) (hi : i ∉ ks.fx) : Rel c ks io B (frz ρ i) σ H ∧ Nar ρ σ (frz ρ i) σ := by
  unfold frz
  cases e : rdB ρ i with
  | none => exact ⟨r, .refl⟩
  | some d =>
    have nr : Nar ρ σ (ρ.set i (some (.d d))) σ := nar_frz e
    refine ⟨⟨by rw [List.length_set]; exact r.len, fun j x ex => ?_, fun j l a p q => r.dist j l a (nr.own _ _ p) (nr.own _ _ q), fun a q => r.apart a (nr.ownA q), r.btr, fun p hp => ?_, fun j q => r.ow j (nr.ownj j q)⟩, nr⟩
    · by_cases ej : i = j
      · subst ej
        have hl : i < ρ.length := by
          have := (List.getElem?_eq_some_iff.mp ex).1
          rwa [List.length_set] at this
        rw [List.getElem?_set_self hl] at ex
        cases ex
        -- what the slot held
        have sub : ∀ a, No B (ρ.set i (some (.d d))) σ a → No B ρ σ a ∨ H a = none := fun a q => .inl (nr.no q)
        have gone : ∀ a, OwnI ρ σ i a → ¬ No B (ρ.set i (some (.d d))) σ a := fun a oa q => by
          rcases q with q | ⟨l, q⟩
          · exact r.apart a ⟨i, oa⟩ q
          · have : l = i := r.dist l i a (nr.own l a q) oa
            subst this
            have := q.1
            rw [List.getElem?_set_self hl] at this
            exact this
        have e' := e
        unfold rdB at e'
        split at e'
        · rename_i z hz
          cases e'
          obtain ⟨v, s1, s2⟩ := r.slot i _ hz
          exact ⟨v, s1, s2.mono .refl sub⟩
        · rename_i z hz
          cases e'
          obtain ⟨a, s1, vs, s2, s3⟩ := r.slot i _ hz
          exact ⟨.ref a, s1, .lst s2 (gone a ⟨by rw [hz]; trivial, s1⟩) (s3.mono .refl sub)⟩
        · rename_i z hz
          cases e'
          obtain ⟨a, s1, es, ep, xs, s2, s3, s4, s5⟩ := r.slot i _ hz
          exact ⟨.ref a, s1, .dic s2 (gone a ⟨by rw [hz]; trivial, s1⟩) s3 s4 (s5.mono .refl sub)⟩
        · cases e'
      · rw [List.getElem?_set_ne ej] at ex
        exact (r.slot j x ex).mono (fun _ _ _ _ q => q) .refl fun a q => .inl (nr.no q)
    · obtain ⟨h1, h2⟩ := r.io p hp
      have ne : i ≠ p.1 := fun z => hi (z ▸ h1)
      exact ⟨h1, by rw [List.getElem?_set_ne ne]; exact h2.1, h2.2⟩
theorem Rel.frzs : ∀ (vs : List Nat) {ρ : Env}, Rel c ks io B ρ σ H → (∀ i ∈ vs, i ∉ ks.fx) → Rel c ks io B (vs.foldl frz ρ) σ H ∧ Nar ρ σ (vs.foldl frz ρ) σ
  | [], _, r, _ => ⟨r, .refl⟩
  | v :: vs, ρ, r, h => by
    obtain ⟨f1, f2⟩ := r.frz1 (h v List.mem_cons_self)
    obtain ⟨g1, g2⟩ := Rel.frzs vs f1 fun i hi => h i (List.mem_cons_of_mem _ hi)
    exact ⟨g1, f2.trans g2⟩
end

/-! ### what a statement's end is worth -/
def PostS (c : Sx) (ks : Ks) (wx : WXs) (io : Io) (B : NG) (ρ : Env) (σ : L2.St) (H : Hp) (r : Fl) (D : Ends) : Prop :=
  match r with
  | .next ρ' => ∀ σ' H', Rel c ks io B ρ' σ' H' → TrkS ρ σ H ρ' σ' H' → D.nx σ' H'
  | .cont ρ' => ∀ σ' H', Rel c ks io B ρ' σ' H' → TrkS ρ σ H ρ' σ' H' → D.ct σ' H'
  | .brk ρ' => ∀ σ' H', Rel c ks io B ρ' σ' H' → TrkS ρ σ H ρ' σ' H' → D.bk σ' H'
  | .ret d ρ' => ∀ v σ' H', Rel c ks io B ρ' σ' H' → TrkS ρ σ H ρ' σ' H' → Rep c (No B ρ' σ') H' v d → D.rt v H'
  | .exc e ρ' => ∀ σ' H', Rel c ks io B ρ' σ' H' → TrkS ρ σ H ρ' σ' H' → wx e σ' H'
  | .err => False
def tS (c : Sx) (ks : Ks) (wx : WXs) (ev : Env → Fl) : TS := fun D σ H => ∃ io B ρ, Rel c ks io B ρ σ H ∧ PostS c ks wx io B ρ σ H (ev ρ) D
section
variable {c : Sx} {ks : Ks} {wx : WXs} {io : Io} {B : NG} {ρ ρ1 : Env} {σ σ1 : L2.St} {H H1 : Hp} {D : Ends}
theorem PostS.step {r : Fl} (h : PostS c ks wx io B ρ σ H r D) (t : TrkS ρ σ H ρ1 σ1 H1) : PostS c ks wx io B ρ1 σ1 H1 r D := by
  cases r with
  | next ρ' => exact fun σ' H' r1 t1 => h σ' H' r1 (t.trans t1)
  | cont ρ' => exact fun σ' H' r1 t1 => h σ' H' r1 (t.trans t1)
  | brk ρ' => exact fun σ' H' r1 t1 => h σ' H' r1 (t.trans t1)
  | ret d ρ' => exact fun v σ' H' r1 t1 f => h v σ' H' r1 (t.trans t1) f
  | exc e ρ' => exact fun σ' H' r1 t1 => h σ' H' r1 (t.trans t1)
  | err => exact h
/-- an expression, then a step -/
theorem PostS.fl {α β : Type} {F : Env → Hp → α → β → Prop} {x : R β} {k : β → Env → Fl} (h : PostS c ks wx io B ρ σ H (x.fl k) D) :
    PostG c ks wx io B σ ρ H F x fun v H1 => ∃ d ρ1, x = .ok d ρ1 ∧ Rel c ks io B ρ1 σ H1 ∧ Stp ρ σ H ρ1 H1 ∧ F ρ1 H1 v d ∧ PostS c ks wx io B ρ1 σ H1 (k d ρ1) D := by
  cases x with
  | ok d ρ' => exact fun v H' r1 s1 f => ⟨d, ρ', rfl, r1, s1, f, PostS.step h s1.trk⟩
  | exc e ρ' => exact fun H' r1 s1 => h σ H' r1 s1.trk
  | err => exact h
theorem PostS.done {ρ' : Env} (h : PostS c ks wx io B ρ σ H (.next ρ') D) {σ' : L2.St} {H' : Hp} (r : Rel c ks io B ρ' σ' H') (t : TrkS ρ σ H ρ' σ' H') : D.nx σ' H' := h σ' H' r t
end

section
variable {X : Cx} {ks : Ks} {wx : WXs} {cs : CS} {st : Stmt} {rest : List Stmt} {s : S} {ss : List S} {m : E} {e : Expr} {pos : Pos}
theorem sb_nil : PSs X [] (tS (sx X) ks wx (exB cs [])) := pss_nil.imp fun D σ H h => by
  obtain ⟨io, B, ρ, r, p⟩ := h
  rw [exB] at p
  exact p.done r .refl
theorem sb_cons (h1 : PS X st (tS (sx X) ks wx (exS cs s))) (h2 : PSs X rest (tS (sx X) ks wx (exB cs ss))) : PSs X (st :: rest) (tS (sx X) ks wx (exB cs (s :: ss))) :=
  (pss_cons h1 h2).imp fun D σ H h => by
    obtain ⟨io, B, ρ, r, p⟩ := h
    rw [exB] at p
    refine ⟨io, B, ρ, r, ?_⟩
    cases es : exS cs s ρ with
    | next ρ' =>
      rw [es] at p
      exact fun σ' H' r1 t1 => ⟨io, B, ρ', r1, PostS.step p t1⟩
    | ret d ρ' => rw [es] at p; exact p
    | brk ρ' => rw [es] at p; exact p
    | cont ρ' => rw [es] at p; exact p
    | exc x ρ' => rw [es] at p; exact p
    | err => rw [es] at p; exact p
/-- steps that the text doesn't show -/
theorem sb_kl {vs : List Nat} (hv : ∀ i ∈ vs, i ∉ ks.fx) (h2 : PSs X rest (tS (sx X) ks wx (exB cs ss))) : PSs X rest (tS (sx X) ks wx (exB cs (.kl vs :: ss))) :=
  h2.imp fun D σ H h => by
    obtain ⟨io, B, ρ, r, p⟩ := h
    rw [exB, exS] at p
    obtain ⟨g1, g2⟩ := r.kills vs hv
    exact ⟨io, B, _, g1, PostS.step p g2.trk⟩
theorem sb_fz {vs : List Nat} (hv : ∀ i ∈ vs, i ∉ ks.fx) (h2 : PSs X rest (tS (sx X) ks wx (exB cs ss))) : PSs X rest (tS (sx X) ks wx (exB cs (.fz vs :: ss))) :=
  h2.imp fun D σ H h => by
    obtain ⟨io, B, ρ, r, p⟩ := h
    rw [exB, exS] at p
    obtain ⟨g1, g2⟩ := r.frzs vs hv
    exact ⟨io, B, _, g1, PostS.step p g2.trk⟩
theorem as_brk : PS X (.Break pos) (tS (sx X) ks wx (exS cs .brk)) := ps_break.imp fun D σ H h => by
  obtain ⟨io, B, ρ, r, p⟩ := h
  rw [exS] at p
  exact p σ H r .refl
theorem as_cont : PS X (.Continue pos) (tS (sx X) ks wx (exS cs .cont)) := ps_continue.imp fun D σ H h => by
  obtain ⟨io, B, ρ, r, p⟩ := h
  rw [exS] at p
  exact p σ H r .refl
theorem as_ret (he : PE X e (tE (sx X) ks wx (evE cs m))) : PS X (.Return (some e) pos) (tS (sx X) ks wx (exS cs (.ret m))) := (ps_ret he).imp fun D σ H h => by
  obtain ⟨io, B, ρ, r, p⟩ := h
  rw [exS] at p
  refine ⟨io, B, ρ, r, (PostS.fl (F := FE (sx X) B σ) p).imp fun v H1 ⟨d, ρ1, e1, q1, s1, f1, p1⟩ => p1 v σ H1 q1 .refl f1⟩
theorem as_expr (he : PE X e (tE (sx X) ks wx (evE cs m))) (hs : swapsWith e none pos.line X.env = pure false) : PS X (.Expr e pos) (tS (sx X) ks wx (exS cs (.expr m))) := (ps_expr he hs).imp fun D σ H h => by
  obtain ⟨io, B, ρ, r, p⟩ := h
  rw [exS] at p
  refine ⟨io, B, ρ, r, (PostS.fl (F := FE (sx X) B σ) p).imp fun v H1 ⟨d, ρ1, e1, q1, s1, f1, p1⟩ => p1 σ H1 q1 .refl⟩
theorem as_if {a b : List Stmt} {ma mb : List S} (hc : PT X e (tT (sx X) ks wx fun ρ => truR (evE cs m ρ))) (ha : PSs X a (tS (sx X) ks wx (exB cs ma))) (hb : PSs X b (tS (sx X) ks wx (exB cs mb))) : PS X (.If e a b pos) (tS (sx X) ks wx (exS cs (.ift m ma mb))) :=
  (ps_if hc ha hb).imp fun D σ H h => by
    obtain ⟨io, B, ρ, r, p⟩ := h
    rw [exS] at p
    refine ⟨io, B, ρ, r, (PostS.fl (F := FB) p).imp fun t H1 ⟨d, ρ1, e1, q1, s1, f1, p1⟩ => ?_⟩
    cases f1
    cases t with
    | true => exact ⟨io, B, ρ1, q1, p1⟩
    | false => exact ⟨io, B, ρ1, q1, p1⟩
theorem as_whl {a : List Stmt} {ma : List S} (hp : PassesOwn (model X.prog X.w) X.A X.env X.xe) (hc : PT X e (tT (sx X) ks wx fun ρ => truR (evE cs m ρ))) (ha : PSs X a (tS (sx X) ks wx (exB cs ma))) : PS X (.While e a [] pos) (tS (sx X) ks wx (exS cs (.whl m ma))) :=
  (ps_while hp hc ha).imp fun D σ H h => by
    obtain ⟨io, B, ρ, r, p⟩ := h
    rw [exS] at p
    refine ⟨fun n σ H => ∃ ρ, Rel (sx X) ks io B ρ σ H ∧ PostS (sx X) ks wx io B ρ σ H (whlL (fun ρ => truR (evE cs m ρ)) (fun ρ => exB cs ma ρ) n ρ) D, ⟨WF, ρ, r, p⟩, ?_⟩
    rintro n σ H ⟨ρ, r, p⟩
    cases n with
    | zero => exact p.elim
    | succ n =>
      rw [whlL] at p
      refine ⟨io, B, ρ, r, (PostS.fl (F := FB) p).imp fun t H1 ⟨d, ρ1, e1, q1, s1, f1, p1⟩ => ?_⟩
      cases f1
      cases t with
      | false => exact p1 σ H1 q1 .refl
      | true =>
        refine ⟨fun σ' H' => ∃ ρ', Rel (sx X) ks io B ρ' σ' H' ∧ PostS (sx X) ks wx io B ρ' σ' H' (whlL (fun ρ => truR (evE cs m ρ)) (fun ρ => exB cs ma ρ) n ρ') D, fun σ' H' h => ⟨n, Nat.lt_succ_self n, h⟩, io, B, ρ1, q1, ?_⟩
        have p1 : PostS (sx X) ks wx io B ρ1 σ H1 ((exB cs ma ρ1).turn fun ρ => whlL (fun ρ => truR (evE cs m ρ)) (fun ρ => exB cs ma ρ) n ρ) D := p1
        cases eb : exB cs ma ρ1 with
        | next ρ' => rw [eb] at p1; exact fun σ' H' r1 t1 => ⟨ρ', r1, PostS.step p1 t1⟩
        | cont ρ' => rw [eb] at p1; exact fun σ' H' r1 t1 => ⟨ρ', r1, PostS.step p1 t1⟩
        | brk ρ' => rw [eb] at p1; exact fun σ' H' r1 t1 => p1 σ' H' r1 t1
        | ret d ρ' => rw [eb] at p1; exact p1
        | exc x ρ' => rw [eb] at p1; exact p1
        | err => rw [eb] at p1; exact p1
/-- for -/
theorem as_for {tge iter : Expr} {tg : Tg} {it : It} {a : List Stmt} {ma : List S} (hp : PassesOwn (model X.prog X.w) X.A X.env X.xe) (hc : X.calm = true) (hi : PI X tge iter (tI (sx X) ks wx (evI cs it))) (hg : PG X tge (tTg (sx X) ks tg)) (ha : PSs X a (tS (sx X) ks wx (exB cs ma)))
    (hs : ∀ x, foldedSetIterable iter X.env x = pure x) : PS X (.For tge iter a [] pos) (tS (sx X) ks wx (exS cs (.fr tg it ma))) :=
  (ps_for hp hc hi hg ha hs).imp fun D σ H h => by
    obtain ⟨io, B, ρ, r, p⟩ := h
    rw [exS] at p
    refine ⟨io, B, ρ, r, (PostS.fl (F := FI (sx X) B σ) p).imp fun J H1 ⟨xs, ρ1, e1, q1, s1, y, p1⟩ => ?_⟩
    refine ⟨fun i n σ' H' => n = xs.length - i ∧ i ≤ xs.length ∧ ∃ ρ', Rel (sx X) ks io B ρ' σ' H' ∧ TrkS ρ1 σ H1 ρ' σ' H' ∧ PostS (sx X) ks wx io B ρ' σ' H' (forL tg.bind (fun ρ => exB cs ma ρ) (xs.drop i) ρ') D, ⟨xs.length, by omega, Nat.zero_le _, ρ1, q1, .refl, by rw [List.drop_zero]; exact p1⟩, ?_⟩
    rintro i n σ' H' ⟨rfl, hi, ρ', r', t', p'⟩
    have yy := y _ _ r'.ntr t'.later i
    by_cases hlt : i < xs.length
    · obtain ⟨y1, y2⟩ := yy.1 xs[i] (List.getElem?_eq_getElem hlt)
      rw [List.drop_eq_getElem_cons hlt, forL] at p'
      refine .inr ⟨y1, fun σ2 H2 => ∃ ρ2, Rel (sx X) ks io B ρ2 σ2 H2 ∧ TrkS ρ1 σ H1 ρ2 σ2 H2 ∧ PostS (sx X) ks wx io B ρ2 σ2 H2 (forL tg.bind (fun ρ => exB cs ma ρ) (xs.drop (i + 1)) ρ2) D, fun σ2 H2 h => ⟨xs.length - (i + 1), by omega, rfl, hlt, h⟩, fun v H2 yl => ?_⟩
      obtain ⟨g, rv⟩ := y2 v H2 yl
      cases eb : tg.bind xs[i] ρ' with
      | none => rw [eb] at p'; exact p'.elim
      | some ρa =>
        rw [eb] at p'
        refine ⟨io, B, ρ', _, ρa, r'.grow g, rv, eb, fun σa ra aa na => ⟨io, B, ρa, ra, ?_⟩⟩
        have tg' : TrkS ρ' σ' H' ρa σa H2 := (Stp.grow g).trk.trans na.trk
        have pa : PostS (sx X) ks wx io B ρa σa H2 ((exB cs ma ρa).turn fun ρ => forL tg.bind (fun ρ => exB cs ma ρ) (xs.drop (i + 1)) ρ) D := PostS.step p' tg'
        cases ex : exB cs ma ρa with
        | next ρ2 => rw [ex] at pa; exact fun σ2 H3 r2 t2 => ⟨ρ2, r2, (t'.trans tg').trans t2, PostS.step pa t2⟩
        | cont ρ2 => rw [ex] at pa; exact fun σ2 H3 r2 t2 => ⟨ρ2, r2, (t'.trans tg').trans t2, PostS.step pa t2⟩
        | brk ρ2 => rw [ex] at pa; exact fun σ2 H3 r2 t2 => pa σ2 H3 r2 t2
        | ret d ρ2 => rw [ex] at pa; exact pa
        | exc x ρ2 => rw [ex] at pa; exact pa
        | err => rw [ex] at pa; exact pa
    · obtain rfl : i = xs.length := by omega
      rw [List.drop_length, forL] at p'
      exact .inl ⟨yy.2 (Nat.le_refl _), p' σ' H' r' .refl⟩
end
end G

set_option Elab.async false
set_option linter.all false
set_option maxRecDepth 100000
set_option autoImplicit false
/-! G14: assignments. -/
namespace G
open PySem PySem.Spec PyProof.Rows L2

/-! ### shapes of the text -/
def notComp : Expr → Bool
  | .ListComp .. => false
  | .SetComp .. => false
  | .DictComp .. => false
  | _ => true
def notTup : Expr → Bool
  | .Tuple .. => false
  | _ => true
theorem sw_no {e : Expr} {t : Option Expr} {l : Nat} {env : PySem.Env} (h : notComp e = true) : swapsWith e t l env = pure false := by
  cases e <;> first | rfl | cases h
theorem sw_tup {e : Expr} {es : List Expr} {k l : Nat} {p : Pos} {env : PySem.Env} : swapsWithSole [.Tuple es k p] e l env = pure false := by
  cases e <;> rfl
theorem sw_sub {e a b : Expr} {l : Nat} {p : Pos} {env : PySem.Env} : swapsWithSole [.Subscript a b p] e l env = pure false := by
  cases e <;> rfl
theorem st_no {e t : Expr} {env : PySem.Env} (h : notTup e = true) : swappedStores [t] e env = pure none := by
  cases e <;> first | (cases h; done) | (cases t <;> rfl)
theorem st_sub {e a b : Expr} {p : Pos} {env : PySem.Env} : swappedStores [.Subscript a b p] e env = pure none := by
  cases e <;> rfl
theorem asg_one {t : Expr} {env : PySem.Env} (h : noStar t = true) : (assignEach [t] env).map (·.2) = [assign t env] := by
  rw [asg_cons h]; rfl

section
variable {X : Cx} {ks : Ks} {wx : WXs} {cs : CS} {m mk : E} {e k : Expr} {pos tpos : Pos} {i : Nat} {x : Str}
/-- a name that is stored at slot i -/
structure NmOk (X : Cx) (ks : Ks) (i : Nat) (x : Str) : Prop where
  at_ : X.N[i]? = some x
  loc : X.env.scope.names.lookup x = some .local ∨ X.env.scope.names.lookup x = some .cell
  fn : X.fn x = true ∨ X.env.scope.names.lookup x = some .local
  fx : i ∉ ks.fx
theorem t_setv (hi : i ∉ ks.fx) {D : Ends} {σ : L2.St} {H : Hp} (h : tS (sx X) ks wx (exS cs (.setv (.n i) m)) D σ H) : tAsg (tE (sx X) ks wx (evE cs m)) (gName i) D σ H := by
  obtain ⟨io, B, ρ, r, p⟩ := h
  rw [exS] at p
  refine ⟨io, B, ρ, r, (PostS.fl (F := FE (sx X) B σ) p).imp fun v H1 ⟨d, ρ1, e1, q1, s1, f1, p1⟩ => ?_⟩
  have p1 : PostS (sx X) ks wx io B ρ1 σ H1 (Fl.opt (wr ρ1 i d)) D := p1
  unfold wr at p1
  split at p1
  · exact p1.done (q1.setD f1 hi) nar_setD.trk
  · exact p1.elim
/-- a new object is stored -/
theorem t_seto (hi : i ∉ ks.fx) (hw : i ∈ ks.ow) {D : Ends} {σ : L2.St} {H : Hp} (h : tS (sx X) ks wx (exS cs (.seto i m)) D σ H) : tAsg (tF (sx X) ks wx (evE cs m)) (gName i) D σ H := by
  obtain ⟨io, B, ρ, r, p⟩ := h
  rw [exS] at p
  refine ⟨io, B, ρ, r, ?_⟩
  have nb : ∀ {q : Addr}, H q = none → ∀ a, B a → a ≠ q := fun hq a ha z => by
    obtain ⟨o, e⟩ := r.btr a ha
    rw [z, hq] at e; cases e
  cases ev : evE cs m ρ with
  | err => rw [ev] at p; exact p
  | exc c ρ' => rw [ev] at p; exact fun H' r1 s1 => p σ H' r1 s1.trk
  | ok d ρ1 =>
    rw [ev, R.fl_ok] at p
    unfold wrO at p
    split at p
    · rename_i hl
      cases d with
      | list ds =>
        intro q H1 hq q1 s1 ok
        obtain ⟨g1, g2⟩ := q1.setO (x := .ol ds) (nb hq) hi hw hl trivial ok
        exact p _ _ g1 ⟨s1.keep, fun a oa => (g2 a oa).elim (fun z => .inl (s1.ownA z)) fun z => .inr (z ▸ hq), List.length_set .., s1.tr⟩
      | dict ds =>
        intro q H1 hq q1 s1 ok
        obtain ⟨g1, g2⟩ := q1.setO (x := .od ds) (nb hq) hi hw hl trivial ok
        exact p _ _ g1 ⟨s1.keep, fun a oa => (g2 a oa).elim (fun z => .inl (s1.ownA z)) fun z => .inr (z ▸ hq), List.length_set .., s1.tr⟩
      | _ => exact p.elim
    · exact p.elim
theorem as_setv (n : NmOk X ks i x) (hN : X.N.Nodup) (he : PE X e (tE (sx X) ks wx (evE cs m))) (hs : swapsWith e (some (.Name x tpos)) pos.line X.env = pure false) :
    PS X (.Assign [.Name x tpos] e pos) (tS (sx X) ks wx (exS cs (.setv (.n i) m))) := (ps_set hN n.at_ n.loc he hs n.fn).imp fun _ _ _ h => t_setv n.fx h
theorem as_seto (n : NmOk X ks i x) (hw : i ∈ ks.ow) (hN : X.N.Nodup) (he : PE X e (tF (sx X) ks wx (evE cs m))) (hs : swapsWith e (some (.Name x tpos)) pos.line X.env = pure false) :
    PS X (.Assign [.Name x tpos] e pos) (tS (sx X) ks wx (exS cs (.seto i m))) := (ps_set hN n.at_ n.loc he hs n.fn).imp fun _ _ _ h => t_seto n.fx hw h
/-- (a, b) = e, e no display -/
theorem as_setT {es : List Expr} {n : Nat} {tg : Tg} (he : PE X e (tE (sx X) ks wx (evE cs m))) (hg : PG X (.Tuple es n tpos) (tTg (sx X) ks tg)) (h1 : notTup e = true) : PS X (.Assign [.Tuple es n tpos] e pos) (tS (sx X) ks wx (exS cs (.setv tg m))) :=
  (ps_asg he hg sw_tup (st_no h1) (asg_one rfl)).imp fun D σ H h => by
    obtain ⟨io, B, ρ, r, p⟩ := h
    rw [exS] at p
    refine ⟨io, B, ρ, r, (PostS.fl (F := FE (sx X) B σ) p).imp fun v H1 ⟨d, ρ1, e1, q1, s1, f1, p1⟩ => ?_⟩
    have p1 : PostS (sx X) ks wx io B ρ1 σ H1 (Fl.opt (tg.bind d ρ1)) D := p1
    cases eb : tg.bind d ρ1 with
    | none => rw [eb] at p1; exact p1.elim
    | some ρ2 =>
      rw [eb] at p1
      exact ⟨io, B, ρ1, d, ρ2, q1, f1, eb, fun σ2 r2 a2 n2 => p1 σ2 H1 r2 n2.trk⟩

/-! ### name op= e -/
theorem ip_augB (op : BOp) : PIp X (opOf op) (rB (sx X) (augD op)) := by
  intro pins s σ H x y v u Q I r1 r2 h
  obtain ⟨N, dx, dy, dz, nt, h1, h2, e, q⟩ := h
  unfold augD at e
  split at e
  · cases e
    obtain rfl := h1.int
    obtain rfl := h2.int
    exact ip_add pins s σ H _ _ v u Q I r1 r2 ⟨_, _, rfl, rfl, q _ _ .refl (.int _)⟩
  · cases e
    obtain rfl := h1.int
    obtain rfl := h2.int
    exact ip_sub pins s σ H _ _ v u Q I r1 r2 ⟨_, _, rfl, rfl, q _ _ .refl (.int _)⟩
  · cases e
theorem as_aug (op : BOp) (n : NmOk X ks i x) (hN : X.N.Nodup) (he : PE X e (tE (sx X) ks wx (evE cs m))) : PS X (.AugAssign (.Name x tpos) (opOf op) e pos) (tS (sx X) ks wx (exS cs (.aug i op m))) :=
  (ps_aug hN n.at_ n.loc he (ip_augB op) n.fn).imp fun D σ H h => by
    obtain ⟨io, B, ρ, r, p⟩ := h
    rw [exS] at p
    cases eo : rd ρ i with
    | none => rw [eo] at p; exact p.elim
    | some old =>
      rw [eo, R.opt_some, R.fl_ok] at p
      obtain ⟨v0, e0, r0⟩ := r.slot i _ (rd_some_iff eo)
      refine ⟨v0, e0, io, B, ρ, r, (PostS.fl (F := FE (sx X) B σ) p).imp fun v H1 ⟨d, ρ1, e1, q1, s1, f1, p1⟩ => ?_⟩
      cases ez : augD op old d with
      | none => rw [ez] at p1; exact p1.elim
      | some z =>
        rw [ez, R.opt_some, R.fl_ok] at p1
        refine ⟨_, old, d, z, q1.ntr, .of (s1.rep r0), .of f1, ez, fun zv H2 g rz => ?_⟩
        unfold wr at p1
        split at p1
        · exact p1.done ((q1.grow g).setD rz n.fx) ((Stp.grow g).trk.trans nar_setD.trk)
        · exact p1.elim

/-! ### owned objects -/
theorem rdO_own {ρ : Env} {d : D} (h : rdO ρ i = some d) : isOwn ρ[i]? := by
  unfold rdO at h
  split at h
  · rename_i z hz; rw [hz]; trivial
  · rename_i z hz; rw [hz]; trivial
  · cases h
theorem rdO_own2 {io : Io} {B : NG} {ρ : Env} {σ : L2.St} {H : Hp} {d : D} (r : Rel (sx X) ks io B ρ σ H) (h : rdO ρ i = some d) : ∃ a, OwnI ρ σ i a := by
  have o := rdO_own h
  obtain ⟨x, e⟩ := isOwn_some o
  have s := r.slot i x e
  rw [e] at o
  cases x with
  | d _ => exact o.elim
  | sc _ => exact o.elim
  | ol xs => obtain ⟨a, e1, _⟩ := s; exact ⟨a, by rw [e]; trivial, e1⟩
  | od xs => obtain ⟨a, e1, _⟩ := s; exact ⟨a, by rw [e]; trivial, e1⟩
theorem rdO_B {ρ : Env} {d : D} (h : rdO ρ i = some d) : rdB ρ i = some d := by
  unfold rdO at h
  unfold rdB
  split at h
  · rename_i z hz; rw [hz]; exact h
  · rename_i z hz; rw [hz]; exact h
  · cases h
/-- d[k] = v -/
def rSetK (c : Sx) : TSet := fun o k v H Q => ∃ a es ep xs kvs N kd d, o = .ref a ∧ H a = some (.ext (dph a es ep)) ∧ es.toList = xs.map (entryOfKey (nestedKind c.P c.w)) ∧ (xs.map (·.1)).Nodup ∧ RepK c N H xs kvs ∧ isKey kd = true ∧ Rep c N H k kd ∧ Rep c N H v d ∧ okLen kvs.length = true ∧
  ∀ (es' : Array DictEntry) (ep' : Nat) xs', es'.toList = xs'.map (entryOfKey (nestedKind c.P c.w)) → (xs'.map (·.1)).Nodup → RepK c N H xs' (putD kvs kd d) → Q (upd H a (.ext (dph a es' ep')))
theorem dph_ok {P : Program} {w : World} {H : Hp} {h : Heap} {a : Addr} {es : Array DictEntry} {ep : Nat} (r : h.DictRaw a es ep) (hs : (a == sysModules) = false) : ObjOk P w H h a (.ext (dph a es ep)) :=
  ⟨⟨r, hs⟩, ⟨r.choose, r.choose_spec.1⟩, fun h1 h2 ⟨q1, q2⟩ k => ⟨let ⟨o, e, z⟩ := q1; ⟨o, k o e, z⟩, q2⟩⟩
theorem set_dict (hu : X.A.units + 65 < cLine) : PSet X (rSetK (sx X)) := by
  intro pins s σ H o k v ov kv u Q I ro rk rv h
  obtain ⟨a, es, ep, xs, kvs, N, kd, d, rfl, h1, h2, h3, h4, hk, rk', rd', hz, q⟩ := h
  cases ro
  obtain ⟨key, b, rfl, rfl, rfl, hk'⟩ := key_of I hk rk' rk
  obtain ⟨g1, g2⟩ := dict_of I h1 h2 h3 h4
  have hl := repK_length h4
  refine wpAny_setItem_heap (knd := nestedKind X.prog X.w) (hsz := by rw [hl]; exact okLen_line hz) (by show X.A.units + 1 + 8 < cLine; omega) hk' g1 fun h' hm hs => ?_
  obtain ⟨o', es', ep', e1, e2, e3, e4, e5, e6⟩ := id hm
  refine ⟨_, ?_, q es' ep' _ e4 e6 (repK_put (a := b) hk rk' rv rd' h4)⟩
  exact I.write (x := a) (e := a) (by rw [h1]; trivial) (.inl rfl) (fun c oc hc ec => (hs.2 c hc).trans ec) ⟨_, e1⟩ (dph_ok ⟨o', e1, e2, e3⟩ g2)
/-- x[k] = v, x an owned list or dict -/
def rSetX (c : Sx) : TSet := fun o k v H Q => rSetL o k v H Q ∨ rSetK c o k v H Q
theorem set_X (hu : X.A.units + 65 < cLine) : PSet X (rSetX (sx X)) := by
  intro pins s σ H o k v ov kv u Q I ro rk rv h
  rcases h with h | h
  · exact set_list pins s σ H o k v ov kv u Q I ro rk rv h
  · exact set_dict hu pins s σ H o k v ov kv u Q I ro rk rv h
theorem upd_keep {H : Hp} {a : Addr} {u : HO} : Keep (fun b => b = a) H (upd H a u) := fun b o e n => by rw [upd_ne n]; exact e
theorem upd_tr {H : Hp} {a : Addr} {u : HO} : ∀ b o, H b = some o → ∃ o', upd H a u b = some o' := fun b o e => by
  by_cases eb : b = a
  · subst eb; exact ⟨_, upd_same⟩
  · exact ⟨o, by rw [upd_ne eb]; exact e⟩
theorem t_setX {io : Io} {B : NG} {ρ : Env} {σ : L2.St} {H : Hp} {D : Ends} {a : Addr} {kv v : V} {kd d : PyData} (r : Rel (sx X) ks io B ρ σ H) (o : OwnI ρ σ i a) (rk : Rep (sx X) (No B ρ σ) H kv kd) (rv : Rep (sx X) (No B ρ σ) H v d)
    (p : PostS (sx X) ks wx io B ρ σ H (Fl.opt (setQ i kd d ρ)) D) : rSetX (sx X) (.ref a) kv v H fun H3 => D.nx σ H3 := by
  have na : No B ρ σ a := .inr ⟨i, o⟩
  have kN : ∀ {u : HO}, Keep (No B ρ σ) H (upd H a u) := fun {u} b ob e n => upd_keep b ob e fun z => n (z ▸ na)
  obtain ⟨y, e, ok⟩ := r.ownOk o
  unfold setQ at p
  rw [e] at p
  cases y with
  | d _ => exact ok.elim
  | sc _ => exact ok.elim
  | ol xs =>
    obtain ⟨vs, h1, h2⟩ := ok
    cases kd <;> first | exact p.elim | skip
    rename_i j
    cases rk
    dsimp only at p
    cases en : ixN xs.length j with
    | none => rw [en] at p; exact p.elim
    | some n =>
      rw [en] at p
      refine .inl ⟨a, vs, j, n, rfl, rfl, h1, by rw [h2.length]; exact en, ?_⟩
      obtain ⟨w1, w2⟩ := r.wrote (x' := .ol (xs.set n d)) o trivial upd_keep upd_tr ⟨_, upd_same, (h2.set rv n).mono kN fun _ q => .inl q⟩
      exact p σ _ w1 w2.trk
  | od kvs =>
    obtain ⟨es, ep, xs, h1, h2, h3, h4⟩ := ok
    dsimp only at p
    split at p
    · rename_i hk
      rw [Bool.and_eq_true] at hk
      refine .inr ⟨a, es, ep, xs, kvs, _, kd, d, rfl, h1, h2, h3, h4, hk.1, rk, rv, hk.2, fun es' ep' xs' g1 g2 g3 => ?_⟩
      obtain ⟨w1, w2⟩ := r.wrote (x' := .od (putD kvs kd d)) o trivial upd_keep upd_tr ⟨es', ep', xs', upd_same, g1, g2, g3.mono kN fun _ q => .inl q⟩
      exact p σ _ w1 w2.trk
    · exact p.elim
theorem as_setx (hN : X.N[i]? = some x) (hv : Vis X.env.scope x) (hd : (x == ("__debug__" : Str)) = false) (hcd : (x == ("__classdict__" : Str)) = false) (hu : X.A.units + 65 < cLine) {p1 : Pos}
    (he : PE X e (tE (sx X) ks wx (evE cs m))) (hk : PE X k (tE (sx X) ks wx (evE cs mk)))
    (ha : ∀ v, assign (.Subscript (.Name x p1) k tpos) X.env v = (do
      let ov ← holding [v] (eval (.Name x p1) X.env)
      let iv ← holding [v, ov] (eval k X.env)
      standAt tpos
      holding [v, ov, iv] (setItem ov iv v)
      release [v, ov, iv] [])) : PS X (.Assign [.Subscript (.Name x p1) k tpos] e pos) (tS (sx X) ks wx (exS cs (.setx i mk m))) :=
  (ps_asg he (pg_sub (pe_var hN hv hd hcd) hk (set_X hu) ha) sw_sub st_sub (asg_one rfl)).imp fun D σ H h => by
    obtain ⟨io, B, ρ, r, p⟩ := h
    rw [exS] at p
    refine ⟨io, B, ρ, r, (PostS.fl (F := FE (sx X) B σ) p).imp fun v H1 ⟨d, ρ1, e1, q1, s1, f1, p1⟩ => ?_⟩
    cases eo : rdO ρ1 i with
    | none => rw [eo] at p1; exact p1.elim
    | some z =>
      rw [eo, R.opt_some, R.fl_ok] at p1
      obtain ⟨a, o1⟩ := rdO_own2 q1 eo
      refine ⟨.ref a, o1.2, io, B, ρ1, q1, (PostS.fl (F := FE (sx X) B σ) p1).imp fun kv H2 ⟨kd, ρ2, e2, q2, s2, f2, p2⟩ => ?_⟩
      -- the slot is still its own
      have p2 : PostS (sx X) ks wx io B ρ2 σ H2 (Fl.opt (setQ i kd d ρ2)) D := p2
      have o2 : OwnI ρ2 σ i a := by
        refine ⟨?_, o1.2⟩
        unfold setQ at p2
        cases e3 : ρ2[i]? with
        | none => rw [e3] at p2; exact p2.elim
        | some o3 =>
          cases o3 with
          | none => rw [e3] at p2; exact p2.elim
          | some x3 =>
            rw [e3] at p2
            cases x3 with
            | d _ => exact p2.elim
            | sc _ => exact p2.elim
            | ol _ => trivial
            | od _ => trivial
      exact t_setX q2 o2 f2 (s2.rep f1) p2
end
end G

set_option Elab.async false
set_option linter.all false
set_option maxRecDepth 100000
set_option autoImplicit false
/-! G15: x[k] op= e, append, extend, several names at once. -/
namespace G
open PySem PySem.Spec PyProof.Rows L2

section
variable {X : Cx} {ks : Ks} {wx : WXs} {cs : CS} {m mk : E} {e k : Expr} {pos tpos : Pos} {i : Nat} {x : Str}
/-- x[k], x an owned list or dict -/
def rGetX (c : Sx) : V → V → Hp → VK → Prop := rB c idxDX
  where idxDX : PyData → PyData → Option PyData := fun a b => match a with | .list xs => idxD (.list xs) b | .dict kvs => idxD (.dict kvs) b | _ => none
theorem get_X (hu : X.A.units + 65 < cLine) : PGet X (rGetX (sx X)) := by
  intro pins s σ H o i ov iv Q I ro ri h
  obtain ⟨N, dx, dy, dz, nt, hx, hy, e, q⟩ := h
  unfold rGetX.idxDX at e
  cases dx with
  | list xs =>
    obtain ⟨a, vs, rfl, h1, h2⟩ := hx.list
    dsimp only at e
    unfold idxD at e
    cases dy <;> first | cases e; done | skip
    rename_i j
    obtain rfl := hy.int
    obtain ⟨w, h3, h4⟩ := atI_rep h2 e
    cases ro
    obtain ⟨t, rfl⟩ := ri
    obtain ⟨its, r, pl, hz⟩ := I.list (.of h1)
    obtain ⟨n, g1, g2, g3, g4, g5⟩ := atI_get h3
    obtain ⟨u, eu, ru⟩ := r.get g2
    have hl := r.length
    have hn := line63
    by_cases h0 : 0 ≤ j
    · have hj : j.toNat = n := by
        rw [seqIndex_of h0 g5] at g1
        exact Option.some.inj g1
      exact wpAny_getItem_list pl.isList h0 (by omega) (by rw [hj]; simpa using eu) ⟨w, H, I, ru, q _ _ .refl h4⟩
    · have hj : (j + (its.toArray.size : Int)).toNat = n := by
        rw [seqIndex_neg (by omega) g4] at g1
        rw [List.size_toArray, ← hl]
        exact Option.some.inj g1
      exact wpAny_getItem_list_neg pl.isList (by omega) (by rw [List.size_toArray, ← hl]; exact g4) (by omega) (by rw [hj]; simpa using eu) ⟨w, H, I, ru, q _ _ .refl h4⟩
  | dict kvs =>
    dsimp only at e
    have e : (if isKey dy then lookD kvs dy else none) = some dz := by
      unfold idxD at e
      exact e
    split at e
    · rename_i hk0
      obtain ⟨a, es, ep, xs, rfl, h1, h2, h3, h4⟩ := hx.dict
      cases hy with
      | of hy =>
        obtain ⟨key, b, rfl, rfl, rfl, hk⟩ := key_of I hk0 hy ri
        obtain ⟨g1, g2⟩ := dict_of I h1 h2 h3 h4
        cases ro
        rcases repK_look (k := key) h4 with ⟨e1, e2, e3⟩ | ⟨p, v', d', e1, e2, e3, e4, e5⟩
        · rw [e2] at e; cases e
        · rw [e2] at e
          cases e
          exact wpAny_getItem_heap (knd := nestedKind X.prog X.w) (by show X.A.units + 1 + 8 < cLine; omega) hk g1 e1 ⟨v', H, I.tok _, e4, q _ _ .refl e5⟩
      | lst _ _ => exact absurd (isKey_tup hk0) (by rintro ⟨_, z⟩; cases z)
      | dic _ _ _ _ => exact absurd (isKey_tup hk0) (by rintro ⟨_, z⟩; cases z)
    · cases e
  | _ => cases e
theorem idxX {ρ : Env} {old k z : PyData} (h : rdO ρ i = some old) (e : idxD old k = some z) : rGetX.idxDX old k = some z := by
  unfold rdO at h
  split at h
  · cases h; exact e
  · cases h; exact e
  · cases h
theorem rdO_set {io : Io} {B : NG} {ρ : Env} {σ : L2.St} {H : Hp} {old : PyData} (r : Rel (sx X) ks io B ρ σ H) (h : rdO ρ i = some old) {a : Addr} (o : OwnI ρ σ i a) : RepB (sx X) (No B ρ σ) H (.ref a) old :=
  RepO.b r (.inr ⟨i, a, o, rfl, rdO_B h⟩)
theorem own_of_set {ρ : Env} {σ : L2.St} {a : Addr} {kd d : PyData} {ρ' : Env} (h : setQ i kd d ρ = some ρ') (e : σ[i]? = some (some (.ref a))) : OwnI ρ σ i a := by
  refine ⟨?_, e⟩
  unfold setQ at h
  split at h
  · rename_i z hz; rw [hz]; trivial
  · rename_i z hz; rw [hz]; trivial
  · cases h
theorem as_augx (op : BOp) (hN : X.N[i]? = some x) (hv : Vis X.env.scope x) (hd : (x == ("__debug__" : Str)) = false) (hcd : (x == ("__classdict__" : Str)) = false) (hu : X.A.units + 65 < cLine) {p1 : Pos}
    (he : PE X e (tE (sx X) ks wx (evE cs m))) (hk : PE X k (tE (sx X) ks wx (evE cs mk)))
    (ha : ∀ ov iv new, augStore k ov iv new = (do holding [new, ov, iv] (setItem ov iv new); release [new, ov, iv] []; pure .next)) :
    PS X (.AugAssign (.Subscript (.Name x p1) k tpos) (opOf op) e pos) (tS (sx X) ks wx (exS cs (.augx i mk op m))) :=
  (ps_augS (pe_var hN hv hd hcd) hk (get_X hu) he (ip_augB op) (set_X hu) ha).imp fun D σ H h => by
    obtain ⟨io, B, ρ, r, p⟩ := h
    rw [exS] at p
    cases eo : rdO ρ i with
    | none => rw [eo] at p; exact p.elim
    | some z =>
      rw [eo, R.opt_some, R.fl_ok] at p
      obtain ⟨a, o1⟩ := rdO_own2 r eo
      refine ⟨.ref a, o1.2, io, B, ρ, r, (PostS.fl (F := FE (sx X) B σ) p).imp fun kv H1 ⟨kd, ρ1, e1, q1, s1, f1, p1⟩ => ?_⟩
      cases eo1 : rdO ρ1 i with
      | none => rw [eo1] at p1; exact p1.elim
      | some old =>
        rw [eo1, Option.bind_some] at p1
        cases ei : idxD old kd with
        | none => rw [ei] at p1; exact p1.elim
        | some od =>
          rw [ei, R.opt_some, R.fl_ok] at p1
          have o2 : OwnI ρ1 σ i a := ⟨rdO_own eo1, o1.2⟩
          refine ⟨_, old, kd, od, q1.ntr, rdO_set q1 eo1 o2, .of f1, idxX eo1 ei, fun ov H2 g rz => ?_⟩
          have q2 := q1.grow g
          have p2 := PostS.step p1 (Stp.grow g).trk
          refine ⟨io, B, ρ1, q2, (PostS.fl (F := FE (sx X) B σ) p2).imp fun v H3 ⟨d, ρ3, e3, q3, s3, f3, p3⟩ => ?_⟩
          cases ez : augD op od d with
          | none => rw [ez] at p3; exact p3.elim
          | some nd =>
            rw [ez, R.opt_some, R.fl_ok] at p3
            refine ⟨_, od, d, nd, q3.ntr, .of (s3.rep rz), .of f3, ez, fun nv H4 g4 r4 => ?_⟩
            have p4 : PostS (sx X) ks wx io B ρ3 σ H4 (Fl.opt (setQ i kd nd ρ3)) D := PostS.step p3 (Stp.grow g4).trk
            cases es : setQ i kd nd ρ3 with
            | none => rw [es] at p4; exact p4.elim
            | some ρ5 =>
              exact t_setX (q3.grow g4) (own_of_set es o1.2) ((s3.rep (f1.grow g)).grow g4) r4 p4

/-! ### append, extend -/
theorem as_app {p1 apos cpos : Pos} (hN : X.N[i]? = some x) (hv : Vis X.env.scope x) (hd : (x == ("__debug__" : Str)) = false) (hcd : (x == ("__classdict__" : Str)) = false) (he : PE X e (tE (sx X) ks wx (evE cs m))) (h1 : noStar e = true) (hl : oneLine apos cpos = true) :
    PS X (.Expr (.Call (.Attribute (.Name x p1) (Str.ofString "append") apos) [e] [] cpos) pos) (tS (sx X) ks wx (exS cs (.app i m))) :=
  (ps_expr (pe_bm (T := "list") (id := "list.append") PySem.F.plainAttrs_list PySem.F.slot_list_append PySem.F.type_list_append mt_append (pe_var hN hv hd hcd) (pa_cons he pa_nil (star_cons h1)) rfl (few_1 h1) hl (star_cons h1) rfl) rfl).imp fun D σ H h => by
    obtain ⟨io, B, ρ, r, p⟩ := h
    rw [exS] at p
    cases eo : own ρ i with
    | none => rw [eo] at p; exact p.elim
    | some st0 =>
      rw [eo, R.opt_some, R.fl_ok] at p
      obtain ⟨a, vs0, o1, g1, _⟩ := r.own_at eo
      refine ⟨.ref a, o1.2, .inl ⟨rfl, vs0, .of g1⟩, io, B, ρ, r, (PostS.fl (F := FE (sx X) B σ) p).imp fun v H1 ⟨d, ρ1, e1, q1, s1, f1, p1⟩ => ?_⟩
      unfold appQ at p1
      cases eo1 : own ρ1 i with
      | none => rw [eo1] at p1; exact p1.elim
      | some xs =>
        rw [eo1, Option.bind_some] at p1
        obtain ⟨a', vs, o2, g2, g3⟩ := q1.own_at eo1
        have ea : a' = a := by
          have := o2.2.symm.trans o1.2
          cases this
          rfl
        subst ea
        split at p1
        · rename_i hz
          refine ⟨a', vs, v, rfl, rfl, g2, by rw [g3.length]; exact okLen_lt hz, ?_⟩
          have na : No B ρ1 σ a' := .inr ⟨i, o2⟩
          obtain ⟨w1, w2⟩ := q1.wrote (x' := .ol (xs ++ [d])) o2 trivial upd_keep upd_tr ⟨_, upd_same, (g3.append (.single f1)).mono (fun b ob e n => upd_keep b ob e fun z => n (z ▸ na)) fun _ q => .inl q⟩
          exact p1.done w1 w2.trk
        · exact p1.elim
theorem as_ext {p1 apos cpos : Pos} (hN : X.N[i]? = some x) (hv : Vis X.env.scope x) (hd : (x == ("__debug__" : Str)) = false) (hcd : (x == ("__classdict__" : Str)) = false) (he : PE X e (tE (sx X) ks wx (evE cs m))) (h1 : noStar e = true) (hl : oneLine apos cpos = true) :
    PS X (.Expr (.Call (.Attribute (.Name x p1) (Str.ofString "extend") apos) [e] [] cpos) pos) (tS (sx X) ks wx (exS cs (.ext i m))) :=
  (ps_expr (pe_bm (T := "list") (id := "list.extend") PySem.F.plainAttrs_list PySem.F.slot_list_extend PySem.F.type_list_extend mt_extend (pe_var hN hv hd hcd) (pa_cons he pa_nil (star_cons h1)) rfl (few_1 h1) hl (star_cons h1) rfl) rfl).imp fun D σ H h => by
    obtain ⟨io, B, ρ, r, p⟩ := h
    rw [exS] at p
    cases eo : own ρ i with
    | none => rw [eo] at p; exact p.elim
    | some st0 =>
      rw [eo, R.opt_some, R.fl_ok] at p
      obtain ⟨a, vs0, o1, g1, _⟩ := r.own_at eo
      refine ⟨.ref a, o1.2, .inl ⟨rfl, vs0, .of g1⟩, io, B, ρ, r, (PostS.fl (F := FE (sx X) B σ) p).imp fun v H1 ⟨d, ρ1, e1, q1, s1, f1, p1⟩ => ?_⟩
      unfold extQ at p1
      cases eo1 : own ρ1 i with
      | none => rw [eo1] at p1; exact p1.elim
      | some xs =>
        rw [eo1, Option.bind_some] at p1
        obtain ⟨a', vs, o2, g2, g3⟩ := q1.own_at eo1
        have ea : a' = a := by
          have := o2.2.symm.trans o1.2
          cases this
          rfl
        subst ea
        cases d <;> first | exact p1.elim | skip
        rename_i ys
        dsimp only at p1
        split at p1
        · rename_i hz
          obtain ⟨b, ws, rfl, g4, g5⟩ := (RepB.of f1).list
          refine ⟨a', b, vs, ws, rfl, rfl, g2, g4, by rw [g3.length, g5.length]; exact okLen_line hz, ?_⟩
          have na : No B ρ1 σ a' := .inr ⟨i, o2⟩
          obtain ⟨w1, w2⟩ := q1.wrote (x' := .ol (xs ++ ys)) o2 trivial upd_keep upd_tr ⟨_, upd_same, (g3.append g5).mono (fun b ob e n => upd_keep b ob e fun z => n (z ▸ na)) fun _ q => .inl q⟩
          exact p1.done w1 w2.trk
        · exact p1.elim
end

/-! ### several names at once -/
def BP (B : NG) (ps : List Addr) : NG := fun a => B a ∨ a ∈ ps
inductive ParRep (c : Sx) (N : NG) (H : Hp) : List Bool → List V → List D → List Addr → Prop
  | nil : ParRep c N H [] [] [] []
  | val {os : List Bool} {v : V} {vs : List V} {d : D} {ds : List D} {ps : List Addr} : Rep c N H v d → ParRep c N H os vs ds ps → ParRep c N H (false :: os) (v :: vs) (d :: ds) ps
  | lst {os : List Bool} {p : Addr} {vs : List V} {xs ds : List D} {ps : List Addr} : OwnOk c N H p (.ol xs) → p ∉ ps → ParRep c N H os vs ds ps → ParRep c N H (true :: os) (.ref p :: vs) (.list xs :: ds) (p :: ps)
  | dic {os : List Bool} {p : Addr} {vs : List V} {xs : List (D × D)} {ds : List D} {ps : List Addr} : OwnOk c N H p (.od xs) → p ∉ ps → ParRep c N H os vs ds ps → ParRep c N H (true :: os) (.ref p :: vs) (.dict xs :: ds) (p :: ps)
theorem ParRep.mono {c : Sx} {N N' : NG} {H H' : Hp} (k : Keep N H H') (n : ∀ a, N' a → N a ∨ H a = none) {os : List Bool} {vs : List V} {ds : List D} {ps : List Addr} (h : ParRep c N H os vs ds ps) (hp : ∀ p ∈ ps, ∀ o, H p = some o → H' p = some o) : ParRep c N' H' os vs ds ps := by
  induction h with
  | nil => exact .nil
  | val h _ ih => exact .val (h.mono k n) (ih hp)
  | lst h hn _ ih => exact .lst (h.mono (hp _ List.mem_cons_self) k n) hn (ih fun p q => hp p (List.mem_cons_of_mem _ q))
  | dic h hn _ ih => exact .dic (h.mono (hp _ List.mem_cons_self) k n) hn (ih fun p q => hp p (List.mem_cons_of_mem _ q))
def PostPN (c : Sx) (ks : Ks) (wx : WXs) (io : Io) (B : NG) (σ : L2.St) (ρ : Env) (H : Hp) (os : List Bool) (r : R (List D)) (Q : List V → Hp → Prop) : Prop :=
  match r with
  | .ok ds ρ' => ∀ vs ps H', (∀ p ∈ ps, H p = none) → Rel c ks io (BP B ps) ρ' σ H' → Stp ρ σ H ρ' H' → ParRep c (No (BP B ps) ρ' σ) H' os vs ds ps → Q vs H'
  | .exc e ρ' => ∀ H', Rel c ks io B ρ' σ H' → Stp ρ σ H ρ' H' → wx e σ H'
  | .err => False
def tPN (c : Sx) (ks : Ks) (wx : WXs) (os : List Bool) (ev : Env → R (List D)) : TA := fun σ H Q => ∃ io B ρ, Rel c ks io B ρ σ H ∧ PostPN c ks wx io B σ ρ H os (ev ρ) Q
section
variable {X : Cx} {ks : Ks} {wx : WXs} {cs : CS} {m : E} {ms : List E} {e : Expr} {es : List Expr} {os : List Bool}
theorem bp_nil {B : NG} {a : Addr} : BP B [] a → B a := fun h => h.elim id fun z => absurd z (by simp)
theorem pn_nil : PA X [] (tPN (sx X) ks wx [] (evPs cs [] [])) := pa_nil.imp fun σ H Q h => by
  obtain ⟨io, B, ρ, r, p⟩ := h
  exact p [] [] H (fun _ z => absurd z (by simp)) (r.less fun a q => bp_nil q) .refl .nil
theorem pn_val (ha : PE X e (tE (sx X) ks wx (evE cs m))) (hr : PA X es (tPN (sx X) ks wx os (evPs cs os ms))) (hs : noStar e = true) : PA X (e :: es) (tPN (sx X) ks wx (false :: os) (evPs cs (false :: os) (m :: ms))) :=
  (pa_cons ha hr (star_cons hs)).imp fun σ H Q h => by
    obtain ⟨io, B, ρ, r, p⟩ := h
    rw [evPs] at p
    refine ⟨io, B, ρ, r, ?_⟩
    cases ev : evE cs m ρ with
    | err => rw [ev] at p; exact p
    | exc c ρ' => rw [ev] at p; exact p
    | ok d ρ1 =>
      rw [ev, R.bind_ok, if_neg (by simp)] at p
      intro v H1 q1 s1 f1
      refine ⟨io, B, ρ1, q1, ?_⟩
      cases er : evPs cs os ms ρ1 with
      | err => rw [er] at p; exact p
      | exc c ρ' => rw [er] at p; exact fun H' r1 s2 => p H' r1 (s1.trans s2)
      | ok ds ρ2 =>
        rw [er, R.bind_ok] at p
        intro vs ps H2 hp r2 s2 pr
        refine p (v :: vs) ps H2 (fun q hq => s1.new (hp q hq)) r2 (s1.trans s2) (.val (f1.mono (fun a o e n => s2.keep a o e fun q => n (.inr q)) fun a q => ?_) pr)
        rcases q with (q | q) | q
        · exact .inl (.inl q)
        · exact .inr (hp a q)
        · exact .inl (.inr (s2.ownA q))
theorem pn_own (ha : PE X e (tF (sx X) ks wx (evE cs m))) (hr : PA X es (tPN (sx X) ks wx os (evPs cs os ms))) (hs : noStar e = true) : PA X (e :: es) (tPN (sx X) ks wx (true :: os) (evPs cs (true :: os) (m :: ms))) :=
  (pa_cons ha hr (star_cons hs)).imp fun σ H Q h => by
    obtain ⟨io, B, ρ, r, p⟩ := h
    rw [evPs] at p
    refine ⟨io, B, ρ, r, ?_⟩
    cases ev : evE cs m ρ with
    | err => rw [ev] at p; exact p
    | exc c ρ' => rw [ev] at p; exact p
    | ok d ρ1 =>
      rw [ev, R.bind_ok] at p
      have go : ∀ (q : Addr) (H1 : Hp), isLD d = true → H q = none → Rel (sx X) ks io (fun a => B a ∨ a = q) ρ1 σ H1 → Stp ρ σ H ρ1 H1 → (∀ H2 ρ2 ps os vs ds, (∀ o, H1 q = some o → H2 q = some o) → Keep (No (fun a => B a ∨ a = q) ρ1 σ) H1 H2 → (∀ a, No (BP B (q :: ps)) ρ2 σ a → No (fun a => B a ∨ a = q) ρ1 σ a ∨ H1 a = none) → q ∉ ps →
          ParRep (sx X) (No (BP B (q :: ps)) ρ2 σ) H2 os vs ds ps → ParRep (sx X) (No (BP B (q :: ps)) ρ2 σ) H2 (true :: os) (.ref q :: vs) (d :: ds) (q :: ps)) → (tPN (sx X) ks wx os (evPs cs os ms)) σ H1 fun vs H2 => Q (.ref q :: vs) H2 := by
        intro q H1 hd hq q1 s1 mk
        rw [hd, if_neg (by simp)] at p
        refine ⟨io, _, ρ1, q1, ?_⟩
        obtain ⟨oq, eq⟩ := q1.btr q (.inr rfl)
        cases er : evPs cs os ms ρ1 with
        | err => rw [er] at p; exact p
        | exc c ρ' => rw [er] at p; exact fun H' r1 s2 => p H' (r1.less fun a z => .inl z) (s1.trans s2)
        | ok ds ρ2 =>
          rw [er, R.bind_ok] at p
          intro vs ps H2 hp r2 s2 pr
          have nq : q ∉ ps := fun m => by rw [hp q m] at eq; cases eq
          have sub : ∀ a, BP B (q :: ps) a → BP (fun a => B a ∨ a = q) ps a := fun a z => by
            rcases z with z | z
            · exact .inl (.inl z)
            · rcases List.mem_cons.mp z with z | z
              · exact .inl (.inr z)
              · exact .inr z
          have r3 : Rel (sx X) ks io (BP B (q :: ps)) ρ2 σ H2 := r2.less sub
          refine p (.ref q :: vs) (q :: ps) H2 (fun a ha => ?_) r3 (s1.trans s2) (mk H2 ρ2 ps os vs ds (fun o e => s2.keep q o e fun z => q1.apart q z (.inr rfl)) (fun a o e n => s2.keep a o e fun z => n (.inr z)) (fun a z => ?_) nq ?_)
          · rcases List.mem_cons.mp ha with z | z
            · rw [z]; exact hq
            · exact s1.new (hp a z)
          · rcases z with z | z
            · rcases sub a z with z | z
              · exact .inl (.inl z)
              · exact .inr (hp a z)
            · exact .inl (.inr (s2.ownA z))
          · exact pr.mono .refl (fun a z => .inl (z.elim (fun y => .inl (sub a y)) .inr)) fun _ _ _ e => e
      cases d with
      | list xs => exact fun q H1 hq q1 s1 ok => go q H1 rfl hq q1 s1 fun H2 ρ2 ps os vs ds k1 k2 k3 k4 k5 => .lst (ok.mono k1 k2 k3) k4 k5
      | dict xs => exact fun q H1 hq q1 s1 ok => go q H1 rfl hq q1 s1 fun H2 ρ2 ps os vs ds k1 k2 k3 k4 k5 => .dic (ok.mono k1 k2 k3) k4 k5
      | none => exact p.elim
      | bool _ => exact p.elim
      | int _ => exact p.elim
      | str _ => exact p.elim
      | tuple _ => exact p.elim
/-- the names' slots set from the left -/
def setAll : List (Nat × Bool) → List V → L2.St → L2.St
  | (i, _) :: is, v :: vs, σ => setAll is vs (σ.set i (some v))
  | _, _, σ => σ
theorem setAll_len : ∀ (is : List (Nat × Bool)) (vs : List V) (σ : L2.St), (setAll is vs σ).length = σ.length
  | (i, _) :: is, v :: vs, σ => (setAll_len is vs (σ.set i (some v))).trans (List.length_set ..)
  | [], _, _ => rfl
  | _ :: _, [], _ => rfl
theorem store_par {io : Io} {B : NG} : ∀ (is : List (Nat × Bool)) (vs : List V) (ds : List D) (ps : List Addr) {ρ ρ' : Env} {σ : L2.St} {H : Hp}, (∀ p ∈ is, p.1 ∉ ks.fx) → (∀ p ∈ is, p.2 = true → p.1 ∈ ks.ow) → (∀ p ∈ ps, ¬ B p) →
    Rel (sx X) ks io (BP B ps) ρ σ H → ParRep (sx X) (No (BP B ps) ρ σ) H (is.map (·.2)) vs ds ps → wrs is ds ρ = some ρ' →
    Rel (sx X) ks io B ρ' (setAll is vs σ) H ∧ ∀ a, OwnA ρ' (setAll is vs σ) a → OwnA ρ σ a ∨ a ∈ ps
  | [], _, _, _, ρ, ρ', σ, H, _, _, _, r, pr, e => by
    cases pr
    cases e
    exact ⟨r.less fun a q => .inl q, fun a q => .inl q⟩
  | (i, o) :: is, vs, ds, ps, ρ, ρ', σ, H, hf, hw, hb, r, pr, e => by
    have hf' : ∀ p ∈ is, p.1 ∉ ks.fx := fun p q => hf p (List.mem_cons_of_mem _ q)
    have hw' : ∀ p ∈ is, p.2 = true → p.1 ∈ ks.ow := fun p q => hw p (List.mem_cons_of_mem _ q)
    cases o with
    | false =>
      cases pr with
      | @val _ v vs d ds _ f pr =>
        rw [wrs, if_neg (by simp)] at e
        obtain ⟨ρ1, e1, e2⟩ := Option.bind_eq_some_iff.mp e
        unfold wr at e1
        split at e1
        · cases e1
          have r1 := r.setD f (hf _ List.mem_cons_self)
          obtain ⟨g1, g2⟩ := store_par is vs ds ps hf' hw' hb r1 (pr.mono .refl (fun a q => .inl (no_setD q)) fun _ _ _ e => e) e2
          exact ⟨g1, fun a q => (g2 a q).imp (fun z => ownA_setD z) id⟩
        · cases e1
    | true =>
      have own : ∀ {p : Addr} {vs : List V} {d : D} {ds : List D} {ps : List Addr} {x : AV}, (∀ q ∈ p :: ps, ¬ B q) → Rel (sx X) ks io (BP B (p :: ps)) ρ σ H → isOwn (some (some x)) → OwnOk (sx X) (No (BP B (p :: ps)) ρ σ) H p x → p ∉ ps → ParRep (sx X) (No (BP B (p :: ps)) ρ σ) H (is.map (·.2)) vs ds ps →
          i < ρ.length → wrs is ds (ρ.set i (some x)) = some ρ' → Rel (sx X) ks io B ρ' (setAll is vs (σ.set i (some (.ref p)))) H ∧ ∀ a, OwnA ρ' (setAll is vs (σ.set i (some (.ref p)))) a → OwnA ρ σ a ∨ a ∈ p :: ps := by
        intro p vs d ds ps x hb r hx ok np pr hl e2
        have sub : ∀ a, (BP B ps a ∨ a = p) → BP B (p :: ps) a := fun a z => by
          rcases z with (z | z) | z
          · exact .inl z
          · exact .inr (List.mem_cons_of_mem _ z)
          · exact .inr (by rw [z]; exact List.mem_cons_self)
        have r0 : Rel (sx X) ks io (fun a => BP B ps a ∨ a = p) ρ σ H := r.less sub
        have ok0 : OwnOk (sx X) (No (fun a => BP B ps a ∨ a = p) ρ σ) H p x := ok.mono (fun _ e => e) .refl fun a q => .inl (q.elim (fun z => .inl (sub a z)) .inr)
        obtain ⟨g1, g2⟩ := r0.setO (x := x) (i := i) (fun a ha z => by
          rcases ha with q | q
          · exact hb p List.mem_cons_self (z ▸ q)
          · exact np (z ▸ q)) (hf _ List.mem_cons_self) (hw _ List.mem_cons_self rfl) hl hx ok0
        have nsub : ∀ a, No (BP B ps) (ρ.set i (some x)) (σ.set i (some (.ref p))) a → No (BP B (p :: ps)) ρ σ a ∨ H a = none := fun a q => by
          rcases q with q | q
          · exact .inl (.inl (sub a (.inl q)))
          · rcases g2 a q with z | z
            · exact .inl (.inr z)
            · exact .inl (.inl (sub a (.inr z)))
        obtain ⟨g3, g4⟩ := store_par is vs ds ps hf' hw' (fun q hq => hb q (List.mem_cons_of_mem _ hq)) g1 (pr.mono .refl nsub fun _ _ _ e => e) e2
        refine ⟨g3, fun a q => ?_⟩
        rcases g4 a q with z | z
        · rcases g2 a z with y | y
          · exact .inl y
          · exact .inr (by rw [y]; exact List.mem_cons_self)
        · exact .inr (List.mem_cons_of_mem _ z)
      cases pr with
      | @lst _ p vs xs ds ps ok np pr =>
        rw [wrs, if_pos rfl] at e
        obtain ⟨ρ1, e1, e2⟩ := Option.bind_eq_some_iff.mp e
        unfold wrO at e1
        split at e1
        · rename_i hl
          cases e1
          exact own (d := .list xs) (x := .ol xs) hb r trivial ok np pr hl e2
        · cases e1
      | @dic _ p vs xs ds ps ok np pr =>
        rw [wrs, if_pos rfl] at e
        obtain ⟨ρ1, e1, e2⟩ := Option.bind_eq_some_iff.mp e
        unfold wrO at e1
        split at e1
        · rename_i hl
          cases e1
          exact own (d := .dict xs) (x := .od xs) hb r trivial ok np pr hl e2
        · cases e1
theorem t_par {is : List (Nat × Bool)} {D : Ends} {σ : L2.St} {H : Hp} (hf : ∀ p ∈ is, p.1 ∉ ks.fx) (hw : ∀ p ∈ is, p.2 = true → p.1 ∈ ks.ow) (h : tS (sx X) ks wx (exS cs (.par is ms)) D σ H) :
    tPN (sx X) ks wx (is.map (·.2)) (evPs cs (is.map (·.2)) ms) σ H fun vs H1 => vs.length = is.length ∧ D.nx (setAll is vs σ) H1 := by
  obtain ⟨io, B, ρ, r, p⟩ := h
  rw [exS] at p
  refine ⟨io, B, ρ, r, ?_⟩
  cases ev : evPs cs (is.map (·.2)) ms ρ with
  | err => rw [ev] at p; exact p
  | exc c ρ' => rw [ev] at p; exact fun H' r1 s1 => p σ H' r1 s1.trk
  | ok ds ρ1 =>
    rw [ev, R.fl_ok] at p
    intro vs ps H1 hp r1 s1 pr
    cases ew : wrs is ds ρ1 with
    | none => rw [ew] at p; exact p.elim
    | some ρ2 =>
      rw [ew] at p
      obtain ⟨g1, g2⟩ := store_par is vs ds ps hf hw (fun q hq hB => by
        obtain ⟨o, e⟩ := r.btr q hB
        rw [hp q hq] at e; cases e) r1 pr ew
      have len : ∀ {os : List Bool} {vs : List V} {ds : List PyData} {ps : List Addr}, ParRep (sx X) (No (BP B ps) ρ1 σ) H1 os vs ds ps → True := fun _ => trivial
      have hl : vs.length = is.length := by
        have : ∀ {N : NG} {os : List Bool} {vs : List V} {ds : List PyData} {ps : List Addr}, ParRep (sx X) N H1 os vs ds ps → vs.length = os.length := by
          intro N os vs ds ps h
          induction h with
          | nil => rfl
          | val _ _ ih => rw [List.length_cons, List.length_cons, ih]
          | lst _ _ _ ih => rw [List.length_cons, List.length_cons, ih]
          | dic _ _ _ ih => rw [List.length_cons, List.length_cons, ih]
        rw [this pr, List.length_map]
      refine ⟨hl, p _ _ g1 ⟨s1.keep, fun a oa => ?_, setAll_len is vs σ, s1.tr⟩⟩
      rcases g2 a oa with z | z
      · exact .inl (s1.ownA z)
      · exact .inr (hp a z)
variable {i j l : Nat} {oi oj ol : Bool} {x y z : Str} {a b d : Expr} {ma mb md : E} {px py pz pt pt2 pos : Pos} {kt k2 : Nat}
theorem as_par2 (hc : X.calm = true) (hN : X.N.Nodup) (n1 : NmOk X ks i x) (n2 : NmOk X ks j y) (w1 : oi = true → i ∈ ks.ow) (w2 : oj = true → j ∈ ks.ow) (hij : i ≠ j) (hx : X.env.scope.names.lookup x = some .local) (hy : X.env.scope.names.lookup y = some .local)
    (ha : PA X [a, b] (tPN (sx X) ks wx [oi, oj] (evPs cs [oi, oj] [ma, mb]))) (hw : swappedStores [.Tuple [.Name x px, .Name y py] kt pt] (.Tuple [a, b] k2 pt2) X.env = pure (some [x, y])) :
    PS X (.Assign [.Tuple [.Name x px, .Name y py] kt pt] (.Tuple [a, b] k2 pt2) pos) (tS (sx X) ks wx (exS cs (.par [(i, oi), (j, oj)] [ma, mb]))) :=
  (ps_par hc hN n1.at_ n2.at_ hij hx hy ha hw).imp fun D σ H h => by
    have t := t_par (is := [(i, oi), (j, oj)]) (by simpa using ⟨n1.fx, n2.fx⟩) (by simpa using ⟨w1, w2⟩) h
    obtain ⟨io, B, ρ, r, p⟩ := t
    refine ⟨io, B, ρ, r, ?_⟩
    cases ev : evPs cs [oi, oj] [ma, mb] ρ with
    | err => rw [show ([(i, oi), (j, oj)] : List (Nat × Bool)).map (·.2) = [oi, oj] from rfl, ev] at p; exact p
    | exc c ρ' => rw [show ([(i, oi), (j, oj)] : List (Nat × Bool)).map (·.2) = [oi, oj] from rfl, ev] at p; exact p
    | ok ds ρ1 =>
      rw [show ([(i, oi), (j, oj)] : List (Nat × Bool)).map (·.2) = [oi, oj] from rfl, ev] at p
      intro vs ps H1 hp r1 s1 pr
      obtain ⟨hl, q⟩ := p vs ps H1 hp r1 s1 pr
      match vs, hl with
      | [v, w], _ => exact ⟨v, w, rfl, q⟩
theorem as_par3 (hc : X.calm = true) (hN : X.N.Nodup) (n1 : NmOk X ks i x) (n2 : NmOk X ks j y) (n3 : NmOk X ks l z) (w1 : oi = true → i ∈ ks.ow) (w2 : oj = true → j ∈ ks.ow) (w3 : ol = true → l ∈ ks.ow) (hij : i ≠ j) (hil : i ≠ l) (hjl : j ≠ l)
    (hx : X.env.scope.names.lookup x = some .local) (hy : X.env.scope.names.lookup y = some .local) (hz : X.env.scope.names.lookup z = some .local)
    (ha : PA X [a, b, d] (tPN (sx X) ks wx [oi, oj, ol] (evPs cs [oi, oj, ol] [ma, mb, md]))) (hw : swappedStores [.Tuple [.Name x px, .Name y py, .Name z pz] kt pt] (.Tuple [a, b, d] k2 pt2) X.env = pure (some [x, y, z])) :
    PS X (.Assign [.Tuple [.Name x px, .Name y py, .Name z pz] kt pt] (.Tuple [a, b, d] k2 pt2) pos) (tS (sx X) ks wx (exS cs (.par [(i, oi), (j, oj), (l, ol)] [ma, mb, md]))) :=
  (ps_par3 hc hN n1.at_ n2.at_ n3.at_ hij hil hjl hx hy hz ha hw).imp fun D σ H h => by
    have t := t_par (is := [(i, oi), (j, oj), (l, ol)]) (by simpa using ⟨n1.fx, n2.fx, n3.fx⟩) (by simpa using ⟨w1, w2, w3⟩) h
    obtain ⟨io, B, ρ, r, p⟩ := t
    refine ⟨io, B, ρ, r, ?_⟩
    have em : ([(i, oi), (j, oj), (l, ol)] : List (Nat × Bool)).map (·.2) = [oi, oj, ol] := rfl
    rw [em] at p
    cases ev : evPs cs [oi, oj, ol] [ma, mb, md] ρ with
    | err => rw [ev] at p; exact p
    | exc c ρ' => rw [ev] at p; exact p
    | ok ds ρ1 =>
      rw [ev] at p
      intro vs ps H1 hp r1 s1 pr
      obtain ⟨hl, q⟩ := p vs ps H1 hp r1 s1 pr
      match vs, hl with
      | [v, w, u], _ => exact ⟨v, w, u, rfl, q⟩
end
end G

set_option Elab.async false
set_option linter.all false
set_option maxRecDepth 100000
set_option maxHeartbeats 1000000
set_option autoImplicit false
/-! G16: raise; try with named clauses. -/
namespace G
open PySem PySem.Spec PyProof.Rows L2

/-! ### try: clauses that name the exception -/
def endAs (D : Ends) (i : Nat) : Ends := ⟨fun τ G => D.nx (τ.set i none) G, D.rt, fun τ G => D.bk (τ.set i none) G, fun τ G => D.ct (τ.set i none) G⟩
def wAsN (K : PySem.W.Frag) (Wo : WX) (D : Ends) : List (Value × Nat × (Addr → Value → Option Addr → TS)) → WX
  | [] => Wo
  | (c, i, ts) :: l => fun cls d τ G => ∃ b, PySem.W.exmOne K cls c = some b ∧ (b = true → ∀ p, G p = none → ts p cls d (endAs D i) (τ.set i (some (.ref p))) G) ∧ (b = false → wAsN K Wo D l cls d τ G)
inductive AsOk (X : Cx) : List ExceptHandler → List (Value × Nat × (Addr → Value → Option Addr → TS)) → Prop
  | nil : AsOk X [] []
  | cons {x n : Str} {c : Value} {i : Nat} {ts : Addr → Value → Option Addr → TS} {s0 : Stmt} {ss : List Stmt} {p1 p2 : Pos} {hs : List ExceptHandler} {l : List (Value × Nat × (Addr → Value → Option Addr → TS))} (nm : Names X x c) (at_ : X.N[i]? = some n) (lo : X.env.kindOf n = some .local)
      (su : ∀ (p : Addr) (ob : Obj) (cls : Value) (d : Option Addr) (pn : List (Addr × Obj)), Zc cls d ob → (∃ fs, ob.data = .fields fs) → PSs (X.suite p ((p, ob) :: pn)) (s0 :: ss) (ts p cls d)) (r : AsOk X hs l) :
      AsOk X (.ExceptHandler (some (.Name x p1)) (some n) (s0 :: ss) p2 :: hs) ((c, i, ts) :: l)
section
variable {X : Cx} {pins : List (Addr × Obj)} {τ : L2.St} {G : Hp} {D : Ends} {Wo : WX}
/-- the clauses, from the top -/
theorem clauses {p : Addr} {s' sI : Shared} {B h3 : Heap} {cls : Value} {d : Option Addr} (nd : X.N.Nodup) (ok : X.Ok) (stk : X.stack = X.env :: X.outer) (fr : X.env.frame = some X.env.locals) (tk : Takes X Wo)
    (J : Inv X pins τ G sI) (nb : ∀ b o, sI.heap.get? b = some o → b ∉ frs X.stack → B.get? b = some o) (u3 : sI.heap.UpToSlots h3) (fly : HandSPX.FlyingZ B (X.env :: X.outer) p (Zc cls d) h3) (gp : G p = none) (os : s'.os = sI.os) (bare : AllBare s'.gens)
    (n1 : p ≠ X.env.locals) (n2 : p ∉ X.fs) : ∀ {hs : List ExceptHandler} {l : List (Value × Nat × (Addr → Value → Option Addr → TS))}, AsOk X hs l → wAsN X.K Wo D l cls d τ G →
    wpAny (model X.prog X.w) X.A (handleBy (.ref p) X.env hs) (SP X pins D) X.xe { s' with heap := h3 } := by
  intro hs l k
  have J3 : Inv X pins τ G { s' with heap := h3 } := J.landed nb fly.1 u3 os bare
  obtain ⟨ob, fs, gob, zob, dob⟩ := fly.there
  have su3 := J3.suite gob dob gp n1 n2
  induction k with
  | nil =>
    intro wo
    obtain ⟨_, _, _, ob', fs', T, _, _, gob', _, dob', at1, _⟩ := id fly
    refine wpAny_handleBy_nil (by
      unfold PySem.passOn
      refine wpAny_bind (wpAny_field gob' dob' at1 ?_)
      rw [if_neg (show ¬ ((Value.ref T == Value.none) = true) from fun z => by simp at z)]
      have last : wpAny (model X.prog X.w) X.A (setFlight (.ref p) X.env.frame) (fun _ s4 => wpAny (model X.prog X.w) X.A (throw (.ref p) : Sem Flow) (SP X pins D) X.xe s4) X.xe { s' with heap := h3 } := by
        rw [fr]
        exact HandSPX.setFlight_upZ fly fun h4 held u4 => wpAny_throw (tk _ _ ⟨p, B, sI, pins, τ, G, cls, d, rfl, J, nb, u3.trans u4, .inr (.inr (by rw [stk]; exact held)), gp, os, bare, wo⟩)
      first
        | exact wpAny_bind (wpAny_pure (wpAny_bind last))
        | exact wpAny_bind last)
  | @cons x n c i ts s0 ss p1 p2 hs l nm at_ lo su r ih =>
    rintro ⟨b, exm, yes, no⟩
    have look : PySem.W.Looks (model X.prog X.w) h3 (typeOf (.ref p)) cls := fun A Q E s keep q => wpAny_typeOf_ref (keep _ _ gob) (by rw [zob.1]; exact q)
    have name : ∀ {Q E : Value → Shared → Prop}, Q c { s' with heap := h3 } → wpAny (model X.prog X.w) (X.A.mark (some (.ref p))) (eval (.Name x p1) X.env) Q E { s' with heap := h3 } := fun {Q E} q => by
      obtain ⟨g1, g2, g3 | ⟨g3, g4, g5⟩⟩ := nm
      · exact ld_glob (X := X.suite p ((p, ob) :: (X.pn ++ pins))) su3 g1 g3 q g2
      · exact ld_blt (X := X.suite p ((p, ob) :: (X.pn ++ pins))) su3 g1 g3 g4 q g5 g2
    refine wpAny_handleBy_cons (codeAny_handlers_test (name ((PySem.W.exm_one (M := model X.prog X.w) J3.kIn look exm).here ?_))) (fun q => nomatch q)
    cases b with
    | false => exact ih (no rfl)
    | true =>
      refine codeAny_handlers_suite_as (HandSPX.lands_againZ fly fun h4 fly4 u4 => ?_)
      have J4 : Inv X pins τ G { s' with heap := h4 } := J.landed nb fly4.1 (u3.trans u4) os bare
      obtain ⟨ob4, fs4, gob4, zob4, dob4⟩ := fly4.there
      refine store_ok (X := X.suite p ((p, ob4) :: (X.pn ++ pins))) (v := .ref p) (J4.suite gob4 dob4 gp n1 n2) nd at_ (.inl lo) rfl (fun s5 su5 => ?_) (.inr lo)
      have body := (su p ob4 cls d (X.pn ++ pins) zob4 ⟨_, dob4⟩).run [] s5 _ G _ su5 (yes rfl p gp)
      refine wpAny_mono body (fun fl s6 out => ?_) fun _ _ z => z.elim
      have off : ∀ {τ6 : L2.St} {G6 : Hp} {Q : Shared → Prop}, Inv (X.suite p ((p, ob4) :: (X.pn ++ pins))) [] τ6 G6 s6 → (∀ s7, Inv X pins (τ6.set i none) G6 s7 → Q s7) →
          wpAny (model X.prog X.w) X.A (do bindName X.env n .none; unbindBehindTheSuite X.env n p2) (fun _ s7 => Q s7) X.xe s6 := fun {τ6 G6 Q} su6 q => gone_ok (su6.unsuite ok) nd at_ lo q
      match fl, out with
      | .next, ⟨τ6, G6, su6, q6⟩ => exact off su6 fun s7 J7 => ⟨_, _, J7, q6⟩
      | .brk, ⟨τ6, G6, su6, q6⟩ => exact off su6 fun s7 J7 => ⟨_, _, J7, q6⟩
      | .cont, ⟨τ6, G6, su6, q6⟩ => exact off su6 fun s7 J7 => ⟨_, _, J7, q6⟩
      | .ret _, ⟨v6, τ6, G6, su6, r6, q6⟩ => exact off su6 fun s7 J7 => ⟨_, _, _, J7, r6, q6⟩
variable {body : List Stmt} {h0 : ExceptHandler} {hs : List ExceptHandler} {l : List (Value × Nat × (Addr → Value → Option Addr → TS))} {pos : Pos} {tb : WX → TS}
theorem ps_try_asN (stk : X.stack = X.env :: X.outer) (fr : X.env.frame = some X.env.locals) (nd : X.N.Nodup) (tk : Takes X Wo)
    (hb : ∀ (W : WX) (pn : List (Addr × Obj)) (xe : Value → Shared → Prop), Takes (X.tr pn xe) W → PassesOwn (model X.prog X.w) X.A X.env xe → PSs (X.tr pn xe) body (tb W)) (hk : AsOk X (h0 :: hs) l) :
    PS X (.Try body (h0 :: hs) [] [] pos) (fun D σ H => tb (wAsN X.K Wo D l) D σ H) := by
  constructor
  intro pins s σ H D I h
  have ok := I.ok
  have afr : X.A.frames = some (X.env :: X.outer) := by rw [ok.frames, stk]
  have run := (hb (wAsN X.K Wo D l) (X.pn ++ pins) (fun e s₁ => wpAny (model X.prog X.w) X.A (noteFrame e X.env) (fun _ s₂ => wpAny (model X.prog X.w) X.A (setFlight e none) (fun _ s₃ =>
    wpAny (model X.prog X.w) X.A (handleBy e X.env (h0 :: hs)) (SP X pins D) X.xe s₃) X.xe s₂) X.xe s₁) (fun u s' air => ?_) PassesOwn.looking).run [] s σ H D (I.toTry _) h
  · refine wpAny_Try_except (wpAny_mono run (fun fl s1 out => ?_) fun e s1 z => z)
    match fl, out with
    | .next, ⟨τ, G, J, q⟩ => exact wpAny_execs_nil ⟨τ, G, J.ofTry ok, q⟩
    | .brk, ⟨τ, G, J, q⟩ => exact ⟨τ, G, J.ofTry ok, q⟩
    | .cont, ⟨τ, G, J, q⟩ => exact ⟨τ, G, J.ofTry ok, q⟩
    | .ret _, ⟨v, τ, G, J, r, q⟩ => exact ⟨v, τ, G, J.ofTry ok, r, q⟩
  · obtain ⟨p, B, sI, _, τ, G, cls, d, rfl, J', nb, up, sky, gp, os, bare, wish⟩ := air
    have sky2 : Sky B (X.env :: X.outer) p (Zc cls d) X.env.locals s'.heap := stk ▸ sky
    refine Sky.land Zc.steady afr fr sky2 fun h3 fly u3 => ?_
    obtain ⟨ob, fs, gob, zob, dob⟩ := fly.there
    have out : p ∉ frs (X.env :: X.outer) := fun m => by
      obtain ⟨_, ob', e', hnf⟩ := fly.2.2.1.mem m
      rw [gob] at e'
      cases e'
      exact hnf _ dob
    refine clauses nd ok stk fr tk (J'.ofTry ok) nb (up.trans u3) fly gp os bare (fun z => out (List.mem_filterMap.mpr ⟨X.env, List.mem_cons_self, by rw [fr, z]⟩)) (fun m => ?_) hk wish
    obtain ⟨e, he, q⟩ := List.mem_filterMap.mp m
    exact out (List.mem_filterMap.mpr ⟨e, List.mem_cons_of_mem _ he, q⟩)
end

/-! ### the two classes -/
def exN : Ex → Str
  | .unfit => Str.ofString "UnfitGrid"
  | .wide => Str.ofString "TooWide"
def exA (x : Exs) : Ex → Addr
  | .unfit => x.u
  | .wide => x.w
theorem exV_A (x : Exs) (c : Ex) : exV x c = .ref (exA x c) := by cases c <;> rfl
/-- what the written part says of them -/
structure ExF (K : PySem.W.Frag) (mg : Str → Option Value) (x : Exs) : Prop where
  mg : ∀ c, mg (exN c) = some (.ref (exA x c))
  inn : ∀ c, PySem.W.excIn K (exA x c) [.type "ValueError", .type "Exception", .type "BaseException", .type "object"] "ValueError.__new__" = true
  keep : ∀ c, PySem.W.keepIn K (.ref (exA x c)) = true
  sub : ∀ c, PySem.W.subIn K (.ref (exA x c)) (.type "BaseException") = some true
  typ : ∀ c, PySem.W.typeIn K (.ref (exA x c)) = some (.type "type")
  exm : ∀ c c', PySem.W.exmOne K (.ref (exA x c)) (.ref (exA x c')) = some (decide (c = c'))
  isc : ∀ c, ExcC K (exA x c)
  kit : ∀ c, PySem.W.kitOne K (.ref (exA x c)) (.type "ValueError") = some true
section
variable {X : Cx} {ks : Ks} {wx : WXs} {cs : CS} {ex : Exs} {p p2 pos pos2 : Pos} {j : Nat} {m : Str}
theorem as_raise (c : Ex) (E : ExF X.K X.mg ex) (hc : X.calm = true) (tk : Takes X (WW ex wx)) (hg : Gl X (exN c)) : PS X (.Raise (some (.Call (.Name (exN c) p) [.Constant (.str m) j p2] [] pos)) none pos2) (tS (sx X) ks wx (exS cs (.raise c))) :=
  (ps_raise hc tk (pmk_own PySem.F.excBase_ValueError (E.inn c) (E.mg c) (E.keep c) (raises_own (E.sub c) (E.typ c)) hg (by cases c <;> decide +kernel))).imp fun D σ H h => by
    obtain ⟨io, B, ρ, r, q⟩ := h
    rw [exS] at q
    exact ⟨c, (exV_A ex c).symm, rfl, q σ H r .refl⟩
end
end G

set_option Elab.async false
set_option linter.all false
set_option maxRecDepth 100000
set_option autoImplicit false
/-! G17: the clauses' two suites; try; defs. -/
namespace G
open PySem PySem.Spec PyProof.Rows L2

section
variable {c : Sx} {ks : Ks} {io : Io} {B : NG} {ρ : Env} {σ : L2.St} {H : Hp} {i : Nat}
theorem nar_clear : Nar ρ σ (ρ.set i none) (σ.set i none) := by
  have key : ∀ j : Nat, isOwn (ρ.set i none)[j]? → isOwn ρ[j]? ∧ i ≠ j := fun j h => by
    by_cases e : i = j
    · subst e
      by_cases hl : i < ρ.length
      · rw [List.getElem?_set_self hl] at h; exact h.elim
      · rw [List.getElem?_eq_none (by rw [List.length_set]; omega)] at h; exact h.elim
    · rw [List.getElem?_set_ne e] at h
      exact ⟨h, e⟩
  refine ⟨fun j a ⟨h1, h2⟩ => ?_, fun j h => (key j h).1, List.length_set ..⟩
  obtain ⟨g1, g2⟩ := key j h1
  rw [List.getElem?_set_ne g2] at h2
  exact ⟨g1, h2⟩
theorem Rel.clear (r : Rel c ks io B ρ σ H) (hi : i ∉ ks.fx) : Rel c ks io B (ρ.set i none) (σ.set i none) H := by
  have nr : Nar ρ σ (ρ.set i none) (σ.set i none) := nar_clear
  refine ⟨by rw [List.length_set, List.length_set]; exact r.len, fun j x e => ?_, fun j l a p q => r.dist j l a (nr.own _ _ p) (nr.own _ _ q), fun a q => r.apart a (nr.ownA q), r.btr, fun p hp => ?_, fun j q => r.ow j (nr.ownj j q)⟩
  · by_cases ej : i = j
    · subst ej
      by_cases hl : i < ρ.length
      · rw [List.getElem?_set_self hl] at e; cases e
      · rw [List.getElem?_eq_none (by rw [List.length_set]; omega)] at e; cases e
    · rw [List.getElem?_set_ne ej] at e
      rw [List.getElem?_set_ne ej]
      exact (r.slot j x e).mono (fun _ _ _ _ q => q) .refl fun a q => .inl (nr.no q)
  · obtain ⟨h1, h2⟩ := r.io p hp
    have ne : i ≠ p.1 := fun z => hi (z ▸ h1)
    exact ⟨h1, by rw [List.getElem?_set_ne ne]; exact h2.1, by rw [List.getElem?_set_ne ne]; exact h2.2⟩
end

section
variable {X : Cx} {ks : Ks} {wx : WXs} {cs : CS} {ex : Exs} {n : Str} {i : Nat} {q1 q2 q3 q4 q5 q6 q7 q8 : Pos} {k j : Nat}
/-- isinstance(error, ValueError), the exception held -/
theorem pt_isE {p : Addr} {ob : Obj} {pn : List (Addr × Obj)} (c : Ex) (E : ExF X.K X.mg ex) (bi : BltOk X (Str.ofString "isinstance") (.builtin "isinstance")) (bv : BltOk X (Str.ofString "ValueError") (.type "ValueError")) (hN : X.N[i]? = some n) (hv : Vis X.env.scope n)
    (hd : (n == ("__debug__" : Str)) = false) (hcd : (n == ("__classdict__" : Str)) = false) (z : Zc (.ref (exA ex c)) none ob) (hf : ∃ fs, ob.data = .fields fs) :
    PT (X.suite p ((p, ob) :: pn)) (.Call (.Name (Str.ofString "isinstance") q1) [.Name n q2, .Name (Str.ofString "ValueError") q3] [] q4) (fun σ H Q => σ[i]? = some (some (.ref p)) ∧ Q true H) := by
  have h1 : PE (X.suite p ((p, ob) :: pn)) (.Name n q2) (tVar i) := pe_var hN hv hd hcd
  have h2 : PE (X.suite p ((p, ob) :: pn)) (.Name (Str.ofString "ValueError") q3) (tC (.ty "ValueError")) := pe_bltn bv.gl bv.mg bv.bt rfl bv.nn bv.db
  have h3 := pe_callB (pos := q4) (p := q1) (call_isE (X := X) (pn := pn) (E.isc c) z hf) bi.gl bi.mg bi.bt (pa_cons h1 (pa_cons h2 pa_nil)) bi.nn bi.db
  refine (pt_val h3).imp fun σ H Q ⟨e, q⟩ => ?_
  refine ⟨.ref p, e, ?_⟩
  exact ⟨.ty "ValueError", .type "ValueError", true, rfl, fun u r => r, E.kit c, true, rfl, q⟩
/-- the suite that returns () -/
theorem suite_ret {p : Addr} {ob : Obj} {pn : List (Addr × Obj)} {cls : Value} {d : Option Addr} (E : ExF X.K X.mg ex) (bi : BltOk X (Str.ofString "isinstance") (.builtin "isinstance")) (bv : BltOk X (Str.ofString "ValueError") (.type "ValueError")) (hN : X.N[i]? = some n) (hv : Vis X.env.scope n)
    (hd : (n == ("__debug__" : Str)) = false) (hcd : (n == ("__classdict__" : Str)) = false) (z : Zc cls d ob) (hf : ∃ fs, ob.data = .fields fs) :
    PSs (X.suite p ((p, ob) :: pn)) [.Return (some (.IfExp (.Call (.Name (Str.ofString "isinstance") q1) [.Name n q2, .Name (Str.ofString "ValueError") q3] [] q4) (.Tuple [] k q5) (.Constant .none j q6) q7)) q8]
      (fun D σ H => ∃ c, cls = .ref (exA ex c) ∧ d = none ∧ σ[i]? = some (some (.ref p)) ∧ ∀ q, H q = none → D.rt (.ref q) (upd H q (.tup []))) := by
  refine ⟨fun pins s σ H D I h => ?_⟩
  obtain ⟨c, rfl, rfl, e, q⟩ := h
  have t := pt_isE (q1 := q1) (q2 := q2) (q3 := q3) (q4 := q4) (pn := pn) (p := p) c E bi bv hN hv hd hcd z hf
  exact (pss_one (ps_ret (pe_ifExp t (pe_tup pa_nil) pe_non))).run pins s σ H D I ⟨e, by show 0 ≤ sizeLine; decide, q⟩
/-- the suite that goes on -/
theorem suite_on {p : Addr} {ob : Obj} {pn : List (Addr × Obj)} {cls : Value} {d : Option Addr} (E : ExF X.K X.mg ex) (bi : BltOk X (Str.ofString "isinstance") (.builtin "isinstance")) (bv : BltOk X (Str.ofString "ValueError") (.type "ValueError")) (hN : X.N[i]? = some n) (hv : Vis X.env.scope n)
    (hd : (n == ("__debug__" : Str)) = false) (hcd : (n == ("__classdict__" : Str)) = false) (z : Zc cls d ob) (hf : ∃ fs, ob.data = .fields fs) :
    PSs (X.suite p ((p, ob) :: pn)) [.If (.UnaryOp .Not (.Call (.Name (Str.ofString "isinstance") q1) [.Name n q2, .Name (Str.ofString "ValueError") q3] [] q4) q5) [.Return (some (.Constant (.bool false) j q6)) q7] [] q8]
      (fun D σ H => ∃ c, cls = .ref (exA ex c) ∧ d = none ∧ σ[i]? = some (some (.ref p)) ∧ D.nx σ H) := by
  refine ⟨fun pins s σ H D I h => ?_⟩
  obtain ⟨c, rfl, rfl, e, q⟩ := h
  have t := pt_isE (q1 := q1) (q2 := q2) (q3 := q3) (q4 := q4) (pn := pn) (p := p) c E bi bv hN hv hd hcd z hf
  exact (pss_one (ps_if (pt_not t) (pss_one (ps_ret pe_bl)) pss_nil)).run pins s σ H D I ⟨e, q⟩
/-- the clauses' wishes, by kind -/
def tsH (ex : Exs) (i : Nat) (b : Bool) : Addr → Value → Option Addr → TS := fun p cls d D σ H => ∃ c, cls = .ref (exA ex c) ∧ d = none ∧ σ[i]? = some (some (.ref p)) ∧ (if b = true then ∀ q, H q = none → D.rt (.ref q) (upd H q (.tup [])) else D.nx σ H)
def hlOf (ex : Exs) (hs : List (Ex × Nat × Bool)) : List (Value × Nat × (Addr → Value → Option Addr → TS)) := hs.map fun h => (.ref (exA ex h.1), h.2.1, tsH ex h.2.1 h.2.2)
theorem wish_of {io : Io} {B : NG} {ρ : Env} {σ : L2.St} {H : Hp} {D : Ends} (E : ExF X.K X.mg ex) {c : Ex} {ρ' : Env} : ∀ (hs : List (Ex × Nat × Bool)), (∀ h ∈ hs, h.2.1 ∉ ks.fx) → (∀ h ∈ hs, h.2.1 < X.N.length) → PostS (sx X) ks wx io B ρ σ H (hdl c ρ' hs) D →
    ∀ σ' H', σ'.length = X.N.length → Rel (sx X) ks io B ρ' σ' H' → TrkS ρ σ H ρ' σ' H' → wAsN X.K (WW ex wx) D (hlOf ex hs) (.ref (exA ex c)) none σ' H'
  | [], _, _, p, σ', H', hl, r, t => ⟨c, (exV_A ex c).symm, rfl, p σ' H' r t⟩
  | (c', i, b) :: hs, hf, hn, p, σ', H', hl, r, t => by
    refine ⟨_, E.exm c c', fun hy a na => ?_, fun hno => ?_⟩
    · have e := of_decide_eq_true hy
      rw [hdl, if_pos e] at p
      have hi : i < σ'.length := by rw [hl]; exact hn _ List.mem_cons_self
      refine ⟨c, rfl, rfl, List.getElem?_set_self hi, ?_⟩
      cases b with
      | true =>
        rw [if_pos rfl] at p ⊢
        intro q hq
        have r1 := (r.kill1 (i := i) (hf _ List.mem_cons_self)).grow (Grow.upd (o := .tup []) hq)
        refine p (.ref q) σ' _ r1 (t.trans (nar_kill1.trk.trans (Stp.grow (.upd hq)).trk)) (.newT (fun a h => ?_) hq .nil)
        exact (r.kill1 (i := i) (hf _ List.mem_cons_self)).noTr h
      | false =>
        rw [if_neg (by simp)] at p ⊢
        show D.nx ((σ'.set i (some (.ref a))).set i none) H'
        rw [List.set_set]
        exact p (σ'.set i none) H' (r.clear (hf _ List.mem_cons_self)) (t.trans nar_clear.trk)
    · have e := of_decide_eq_false hno
      rw [hdl, if_neg e] at p
      exact wish_of E hs (fun h hh => hf h (List.mem_cons_of_mem _ hh)) (fun h hh => hn h (List.mem_cons_of_mem _ hh)) p σ' H' hl r t
theorem as_try {body : List Stmt} {mb : List S} {h0 : ExceptHandler} {hds : List ExceptHandler} {hs : List (Ex × Nat × Bool)} {pos : Pos} (E : ExF X.K X.mg ex) (stk : X.stack = X.env :: X.outer) (fr : X.env.frame = some X.env.locals) (nd : X.N.Nodup) (tk : Takes X (WW ex wx))
    (hf : ∀ h ∈ hs, h.2.1 ∉ ks.fx) (hn : ∀ h ∈ hs, h.2.1 < X.N.length)
    (hb : ∀ (wx' : WXs) (pn : List (Addr × Obj)) (xe : Value → Shared → Prop), Takes (X.tr pn xe) (WW ex wx') → PassesOwn (model X.prog X.w) X.A X.env xe → PSs (X.tr pn xe) body (tS (sx X) ks wx' (exB cs mb)))
    (hk : AsOk X (h0 :: hds) (hlOf ex hs)) : PS X (.Try body (h0 :: hds) [] [] pos) (tS (sx X) ks wx (exS cs (.tr mb hs))) := by
  have main := ps_try_asN (pos := pos) (tb := fun W => tS (sx X) ks (fun e σ H => W (.ref (exA ex e)) none σ H) (exB cs mb)) stk fr nd tk (fun W pn xe tkW pw => hb _ pn xe (tkW.imp fun cls d σ H ⟨e, h1, h2, h3⟩ => by rw [h1, h2, exV_A]; exact h3) pw) hk
  refine ⟨fun pins s σ H D I h => main.run pins s σ H D I ?_⟩
  obtain ⟨io, B, ρ, r, p⟩ := h
  refine ⟨io, B, ρ, r, ?_⟩
  rw [exS] at p
  have hl : σ.length = X.N.length := I.len
  cases eb : exB cs mb ρ with
  | exc c ρ' =>
    rw [eb] at p
    intro σ' H' r1 t1
    have hl' : σ'.length = X.N.length := t1.len.trans hl
    exact wish_of E hs hf hn p σ' H' hl' r1 t1
  | next ρ' => rw [eb] at p; exact p
  | ret d ρ' => rw [eb] at p; exact p
  | brk ρ' => rw [eb] at p; exact p
  | cont ρ' => rw [eb] at p; exact p
  | err => rw [eb] at p; exact p
end
end G

set_option Elab.async false
set_option linter.all false
set_option maxRecDepth 100000
set_option autoImplicit false
/-! G18: a def keeps its promise, by its body. -/
namespace G
open PySem PySem.Spec PyProof.Rows L2

section
variable {P : Program} {w : World} {K : PySem.W.Frag} {mg : Str → Option Value} {base : Heap} {n : Nat} {f : Addr} {name qual : Str} {params : Arguments} {body : List Stmt} {scope : Scope} {dV kV doc pm cdv ct oc : Value} {an od : Option Addr} {osl : Array (Option Value)} {N ps : List Str} {sp : Sp}
abbrev cxF (P : Program) (w : World) (K : PySem.W.Frag) (mg : Str → Option Value) (base : Heap) (N : List Str) (qual : Str) (scope : Scope) (f : Addr) (cdv : Value) (A : Around) (outer : List PySem.Env) (s : Shared) (H : Hp) (E : XK) : Cx := cxOf (L2.CX P w) P w K mg base N qual scope f cdv A outer s H E
theorem fn_g (lk : K.lookup f = some ⟨oc, od, .func (PySem.W.fnOf name qual params body scope dV kV doc pm an cdv ct), osl⟩) (hcd : PySem.W.codeIn K cdv qual = true) (S : FnScope N ps scope)
    (hbody : ∀ (A : Around) (outer : List PySem.Env) (s : Shared) (H : Hp) (vs : List V) (Q : VK) (E : XK), Room n (A.deeper (envOfC qual scope s.heap.objs.size f cdv)) → (A.deeper (envOfC qual scope s.heap.objs.size f cdv)).guards = some [] → vs.length = ps.length → sp vs H Q E →
      ∃ t, PSs (cxF P w K mg base N qual scope f cdv A outer s H E) body t ∧ t { nx := fun _ H' => Q .non H', rt := Q } (start N vs) H) :
    FnG P w K mg base (n + 1) f (PySem.W.fnOf name qual params body scope dV kV doc pm an cdv ct) ps sp := by
  constructor
  intro A outer s H args us vs Q E room gu e0 bt rv len want
  have inK : K.In s.heap := e0.mod.kin.keeps fun b o h => (e0.bs b o h).1
  have free : s.heap.NoLimit := e0.mod.nolimit.keeps fun b o h => (e0.bs b o h).1
  have kinds : ∀ y ∈ ps.zip us, scope.names.lookup y.1 = some .local ∨ (scope.names.lookup y.1 = some .cell ∧ ((cellsFrom (s.heap.objs.size + 1) scope.names []).lookup y.1).isSome = true) := by
    rintro ⟨y, u⟩ hy
    exact (S.par y (List.of_mem_zip hy).1).imp id fun q => ⟨q, PySem.W.cellsFrom_some _ _ _ (.inl q)⟩
  refine codeAny_call_function room.depth (inK _ _ lk) rfl S.co S.gen rfl (PySem.W.codeRec_of inK hcd) (bt _ _ _ _ (wpAny_newFunctionEnv_cells S.kind kinds fun env he s1 x => ?_))
  subst he
  refine ⟨free.keeps x.toInCall.keep, codeAny_func ?_⟩
  obtain ⟨t, pt, wt⟩ := hbody A outer s H vs Q E (room.deeper _) gu len want
  have st : Inv (cxF P w K mg base N qual scope f cdv A outer s H E) [] (start N vs) H s1 := inv_start S room.hd e0 len rv x
  have end_ : ∀ {τ : L2.St} {G : Hp} {s' : Shared} {v : V} {u : Value}, Inv (cxF P w K mg base N qual scope f cdv A outer s H E) [] τ G s' → RelV v u → Q v G → CE outer P w H s Q u s' := fun {τ G s' v u} J r q => ⟨v, G, J.os, J.bare, J.base, J.hok, r, q⟩
  refine wpAny_mono (pt.run [] s1 (start N vs) H _ st wt) (fun fl s' out => ?_) fun e s' z => z
  match fl, out with
  | .ret u, ⟨v, τ, G, J, r, q⟩ => exact end_ J r q
  | .next, ⟨τ, G, J, q⟩ => exact end_ (v := V.non) (u := Value.none) J rfl q
  | .brk, ⟨_, _, _, q⟩ => exact q.elim
  | .cont, ⟨_, _, _, q⟩ => exact q.elim
end

/-! ### the slots at the entry -/
section
variable {c : Sx} {ks : Ks} {N0 : NG} {H : Hp} {N : List Str} {vs : List V} {ds : List D}
def ent (ds : List D) (k : Nat) : Env := ds.map (fun d => some (.d d)) ++ List.replicate k none
theorem ent_get {k i : Nat} {x : AV} (h : (ent ds k)[i]? = some (some x)) : ∃ d, ds[i]? = some d ∧ x = .d d := by
  unfold ent at h
  by_cases hi : i < ds.length
  · rw [List.getElem?_append_left (by rw [List.length_map]; exact hi), List.getElem?_map] at h
    obtain ⟨d, e1, e2⟩ := Option.map_eq_some_iff.mp h
    cases e2
    exact ⟨d, e1, rfl⟩
  · rw [List.getElem?_append_right (by rw [List.length_map]; omega), List.getElem?_replicate] at h
    split at h <;> cases h
theorem start_get {i : Nat} {v : V} (h : vs[i]? = some v) : (start N vs)[i]? = some (some v) := by
  unfold L2.start
  have hi := (List.getElem?_eq_some_iff.mp h).1
  rw [List.getElem?_append_left (by rw [List.length_map]; exact hi), List.getElem?_map, h]
  rfl
theorem ent_rel (r : RepAll c N0 H vs ds) (nt : NTr N0 H) (hl : vs.length ≤ N.length) : Rel c ks [] N0 (ent ds (N.length - ds.length)) (start N vs) H := by
  have no : ∀ (i : Nat), ¬ isOwn (ent ds (N.length - ds.length))[i]? := fun i h => by
    obtain ⟨x, e⟩ := isOwn_some h
    obtain ⟨d, _, rfl⟩ := ent_get e
    rw [e] at h
    exact h
  refine ⟨?_, fun i x e => ?_, fun i j a p => (no i p.1).elim, fun a ⟨i, p⟩ => (no i p.1).elim, nt, fun p hp => absurd hp (by simp), fun i h => (no i h).elim⟩
  · unfold ent L2.start
    rw [List.length_append, List.length_append, List.length_map, List.length_map, List.length_replicate, List.length_replicate, r.length]
  · obtain ⟨d, e1, rfl⟩ := ent_get e
    obtain ⟨v, e2, f⟩ := r.get e1
    refine ⟨v, start_get e2, f.mono .refl fun a q => ?_⟩
    rcases q with q | ⟨i, q⟩
    · exact .inl q
    · exact (no i q.1).elim
/-- with a state -/
theorem ent_relS {a : Addr} {ws : List V} {st : List D} (na : N0 a) (nt : NTr N0 H) (hs : H a = some (.lst ws)) (rs : RepAll c N0 H ws st) (r : RepAll c N0 H vs ds) (hl : vs.length + 1 ≤ N.length) (h0 : 0 ∈ ks.fx) (h1 : 0 ∈ ks.ow) :
    Rel c ks [(0, a)] (fun b => N0 b ∧ b ≠ a) (some (.ol st) :: ent ds (N.length - (ds.length + 1))) (start N (.ref a :: vs)) H ∧ ∀ b, No (fun b => N0 b ∧ b ≠ a) (some (.ol st) :: ent ds (N.length - (ds.length + 1))) (start N (.ref a :: vs)) b ↔ N0 b := by
  have e0 : (start N (.ref a :: vs))[0]? = some (some (.ref a)) := start_get rfl
  have key : ∀ (i : Nat), isOwn (some (.ol st) :: ent ds (N.length - (ds.length + 1)))[i]? → i = 0 := fun i h => by
    cases i with
    | zero => rfl
    | succ i =>
      rw [List.getElem?_cons_succ] at h
      obtain ⟨x, e⟩ := isOwn_some h
      obtain ⟨d, _, rfl⟩ := ent_get e
      rw [e] at h
      exact h.elim
  have o0 : OwnI (some (.ol st) :: ent ds (N.length - (ds.length + 1))) (start N (.ref a :: vs)) 0 a := ⟨trivial, e0⟩
  have keyA : ∀ i b, OwnI (some (.ol st) :: ent ds (N.length - (ds.length + 1))) (start N (.ref a :: vs)) i b → i = 0 ∧ b = a := fun i b h => by
    have := key i h.1
    subst this
    have h2 := h.2
    rw [e0] at h2
    cases h2
    exact ⟨rfl, rfl⟩
  have noi : ∀ b, No (fun b => N0 b ∧ b ≠ a) (some (.ol st) :: ent ds (N.length - (ds.length + 1))) (start N (.ref a :: vs)) b ↔ N0 b := fun b => by
    constructor
    · rintro (q | ⟨i, q⟩)
      · exact q.1
      · rw [(keyA i b q).2]; exact na
    · intro q
      by_cases e : b = a
      · exact .inr ⟨0, by rw [e]; exact o0⟩
      · exact .inl ⟨q, e⟩
  have sub : ∀ b, No (fun b => N0 b ∧ b ≠ a) (some (.ol st) :: ent ds (N.length - (ds.length + 1))) (start N (.ref a :: vs)) b → N0 b ∨ H b = none := fun b q => .inl ((noi b).mp q)
  refine ⟨⟨?_, fun i x e => ?_, fun i j b p q => (keyA i b p).1.trans (keyA j b q).1.symm, fun b ⟨i, p⟩ q => q.2 (keyA i b p).2, fun b q => nt b q.1, fun p hp => ?_, fun i h => by rw [key i h]; exact h1⟩, noi⟩
  · unfold ent L2.start
    rw [List.length_cons, List.length_append, List.length_append, List.length_map, List.length_map, List.length_replicate, List.length_replicate, List.length_cons, r.length]
    have := r.length
    omega
  · cases i with
    | zero =>
      cases e
      exact ⟨a, e0, ws, hs, rs.mono .refl sub⟩
    | succ i =>
      rw [List.getElem?_cons_succ] at e
      obtain ⟨d, e1, rfl⟩ := ent_get e
      obtain ⟨v, e2, g⟩ := r.get e1
      exact ⟨v, start_get (by rw [List.getElem?_cons_succ]; exact e2), g.mono .refl sub⟩
  · rw [List.mem_singleton] at hp
    subst hp
    exact ⟨h0, o0⟩
end

/-! ### a def by its small body -/
section
variable {P : Program} {w : World} {K : PySem.W.Frag} {mg : Str → Option Value} {base : Heap} {n : Nat} {f : Addr} {name qual : Str} {params : Arguments} {body : List Stmt} {scope : Scope} {dV kV doc pm cdv ct oc : Value} {an od : Option Addr} {osl : Array (Option Value)} {N ps : List Str} {ks : Ks} {ex : Exs} {cs : CS} {fd : FD}
def spOf (c : Sx) (ex : Exs) (io : Bool) (r : List D → List D → CR) : Sp := if io then spS c r else spF c ex r
/-- the wish about exceptions, for a body -/
def wxF (ex : Exs) (E : XK) : WXs := fun e _ H => E (exV ex e) none H
theorem fn_small (lk : K.lookup f = some ⟨oc, od, .func (PySem.W.fnOf name qual params body scope dV kV doc pm an cdv ct), osl⟩) (hcd : PySem.W.codeIn K cdv qual = true) (S : FnScope N ps scope) (hnp : fd.np = ps.length) (hns : fd.ns = N.length) (hle : ps.length ≤ N.length)
    (hfx : fd.io = true → 0 ∈ ks.fx) (how : fd.io = true → 0 ∈ ks.ow)
    (hb : ∀ (A : Around) (outer : List PySem.Env) (s : Shared) (H : Hp) (E : XK), Room n (A.deeper (envOfC qual scope s.heap.objs.size f cdv)) → (A.deeper (envOfC qual scope s.heap.objs.size f cdv)).guards = some [] →
      PSs (cxF P w K mg base N qual scope f cdv A outer s H E) body (tS (sx (cxF P w K mg base N qual scope f cdv A outer s H E)) ks (wxF ex E) (exB cs fd.body))) :
    FnG P w K mg base (n + 1) f (PySem.W.fnOf name qual params body scope dV kV doc pm an cdv ct) ps (spOf ⟨P, w, K⟩ ex fd.io (runF cs fd)) := by
  refine fn_g lk hcd S fun A outer s H vs Q E room gu hl want => ⟨_, hb A outer s H E room gu, ?_⟩
  unfold spOf at want
  by_cases io : fd.io = true
  · rw [if_pos io] at want
    obtain ⟨N0, a, ws, st, vs', ds, rfl, na, nt, ha, rs, r, want⟩ := want
    have hds : ds.length + 1 = fd.np := by rw [hnp, ← hl, List.length_cons, r.length]
    have hle' : vs'.length + 1 ≤ N.length := by rw [← List.length_cons (a := V.ref a), hl]; exact hle
    obtain ⟨r0, noi⟩ := ent_relS (N := N) na nt ha rs r hle' (hfx io) (how io)
    refine ⟨_, _, _, r0, ?_⟩
    unfold runF at want
    rw [if_pos io, if_pos hds] at want
    have ee : (some (.ol st) :: ds.map (fun d => some (AV.d d)) ++ List.replicate (fd.ns - fd.np) none : Env) = some (.ol st) :: ent ds (N.length - (ds.length + 1)) := by
      rw [hns, ← hds]
      rfl
    rw [ee] at want
    have fin : ∀ {ρ' : Env} {σ' : L2.St} {H' : Hp} {d : PyData} {v : V}, Rel (⟨P, w, K⟩ : Sx) ks [(0, a)] (fun b => N0 b ∧ b ≠ a) ρ' σ' H' → TrkS (some (.ol st) :: ent ds (N.length - (ds.length + 1))) (start N (.ref a :: vs')) H ρ' σ' H' →
        EndS (⟨P, w, K⟩ : Sx) N0 a H Q (outS d ρ') → Rep (⟨P, w, K⟩ : Sx) (No (fun b => N0 b ∧ b ≠ a) ρ' σ') H' v d → Q v H' := by
      intro ρ' σ' H' d v r1 t1 w1 f1
      unfold outS at w1
      cases eo : own ρ' 0 with
      | none => rw [eo] at w1; exact w1.elim
      | some st' =>
        rw [eo] at w1
        obtain ⟨a', ws', o1, g1, g2⟩ := r1.own_at eo
        obtain ⟨_, o2⟩ := r1.io _ (List.mem_singleton.mpr rfl)
        have ea : a' = a := by
          have := o1.2.symm.trans o2.2
          cases this
          rfl
        subst ea
        have sub : ∀ b, N0 b → No (fun b => N0 b ∧ b ≠ a') ρ' σ' b ∨ H' b = none := fun b q => by
          by_cases e : b = a'
          · exact .inl (.inr ⟨0, by rw [e]; exact o2⟩)
          · exact .inl (.inl ⟨q, e⟩)
        refine w1 v ws' H' (fun b o e nb => t1.keep b o e fun q => ?_) t1.tr g1 (g2.mono .refl sub) (f1.mono .refl sub)
        obtain ⟨i, q⟩ := q
        have hi : i = 0 := by
          cases i with
          | zero => rfl
          | succ i =>
            have q1 := q.1
            rw [List.getElem?_cons_succ] at q1
            obtain ⟨x, e⟩ := isOwn_some q1
            obtain ⟨d, _, rfl⟩ := ent_get e
            rw [e] at q1
            exact q1.elim
        subst hi
        have q2 := q.2
        rw [show (start N (.ref a' :: vs'))[0]? = some (some (.ref a')) from start_get rfl] at q2
        cases q2
        exact nb rfl
    cases eb : exB cs fd.body (some (.ol st) :: ent ds (N.length - (ds.length + 1))) with
    | err => rw [eb] at want; exact want.elim
    | exc c ρ' => rw [eb] at want; exact want.elim
    | brk ρ' => rw [eb] at want; exact want.elim
    | cont ρ' => rw [eb] at want; exact want.elim
    | next ρ' =>
      rw [eb] at want
      exact fun σ' H' r1 t1 => fin (d := .none) r1 t1 want .non
    | ret d ρ' =>
      rw [eb] at want
      exact fun v σ' H' r1 t1 f1 => fin (d := d) r1 t1 want f1
  · rw [if_neg io] at want
    obtain ⟨N0, ds, nt, r, want⟩ := want
    have hds : ds.length = fd.np := by rw [hnp, ← hl, r.length]
    have r0 : Rel (⟨P, w, K⟩ : Sx) ks [] N0 (ent ds (N.length - ds.length)) (start N vs) H := ent_rel r nt (by rw [hl]; exact hle)
    refine ⟨[], N0, _, r0, ?_⟩
    unfold runF at want
    rw [if_neg io, if_pos hds] at want
    have ee : (ds.map (fun d => some (AV.d d)) ++ List.replicate (fd.ns - fd.np) none : Env) = ent ds (N.length - ds.length) := by
      rw [hns, ← hds]
      rfl
    rw [ee] at want
    have gr : ∀ {ρ' : Env} {σ' : L2.St} {H' : Hp}, TrkS (ent ds (N.length - ds.length)) (start N vs) H ρ' σ' H' → Grow H H' := fun {ρ' σ' H'} t b o e => t.keep b o e fun ⟨i, q⟩ => by
      obtain ⟨x, ex⟩ := isOwn_some q.1
      obtain ⟨d, _, rfl⟩ := ent_get ex
      have := q.1
      rw [ex] at this
      exact this
    cases eb : exB cs fd.body (ent ds (N.length - ds.length)) with
    | err => rw [eb] at want; exact want.elim
    | exc c ρ' => rw [eb] at want; exact fun σ' H' r1 t1 => want H' (gr t1)
    | brk ρ' => rw [eb] at want; exact want.elim
    | cont ρ' => rw [eb] at want; exact want.elim
    | next ρ' => rw [eb] at want; exact fun σ' H' r1 t1 => want _ H' (gr t1) .non
    | ret d ρ' => rw [eb] at want; exact fun v σ' H' r1 t1 f1 => want v H' (gr t1) (f1.mono .refl fun b q => .inl (.inl q))
end
end G

set_option Elab.async false
set_option linter.all false
set_option maxRecDepth 100000
set_option autoImplicit false
/-! G19: {}, list(script); what leaves the slots alone; facts of the built-in names. -/
namespace G
open PySem PySem.Spec PyProof.Rows L2

section
variable {X : Cx} {ks : Ks} {wx : WXs} {cs : CS} {pos : Pos} {i : Nat}
theorem af_dict0 : PE X (.Dict [] [] pos) (tF (sx X) ks wx (evE cs .dict0)) := by
  refine ⟨fun pins s σ H Q I h => ?_⟩
  obtain ⟨io, B, ρ, r, p⟩ := h
  rw [evE] at p
  have fr : H s.heap.objs.size = none := I.hok.fresh (Nat.le_refl _)
  have ok : ObjOk X.prog X.w (upd H s.heap.objs.size (.ext (dph s.heap.objs.size #[] 0))) (s.heap.push { cls := .type "dict", data := .dict #[] }) s.heap.objs.size (.ext (dph s.heap.objs.size #[] 0)) :=
    dph_ok ⟨_, Heap.get?_push_size _ rfl, ⟨rfl, rfl, rfl⟩, rfl⟩ (beq_eq_false_iff_ne.mpr (Ne.symm (Nat.ne_of_lt I.big)))
  refine wpAny_Dict_empty ⟨.ref s.heap.objs.size, _, I.laid (t' := s.toks) (fun _ _ q => Heap.get?_push_of_some _ q) (Nat.le_refl _) ok, rfl, ?_⟩
  exact p _ _ fr (r.more fr (.upd fr) ⟨_, upd_same⟩) (.grow (.upd fr)) ⟨#[], 0, [], upd_same, rfl, List.nodup_nil, .nil⟩
theorem dict0_is (ρ : Env) (d : D) (ρ' : Env) (h : evE cs .dict0 ρ = .ok d ρ') : (∃ ds, d = .list ds) ∨ ∃ ds, d = .dict ds := by
  rw [evE] at h
  cases h
  exact .inr ⟨_, rfl⟩
theorem ints_rep {N : NG} {H : Hp} : ∀ ns : List Int, RepAll (sx X) N H (ns.map V.int) (ns.map PyData.int)
  | [] => .nil
  | n :: ns => .cons (.int n) (ints_rep ns)
/-- list(script) -/
theorem af_scr {x : Str} {p1 p2 : Pos} (hb : BltOk X (Str.ofString "list") (.type "list")) (hN : X.N[i]? = some x) (hv : Vis X.env.scope x) (hd : (x == ("__debug__" : Str)) = false) (hcd : (x == ("__classdict__" : Str)) = false) :
    PE X (.Call (.Name (Str.ofString "list") p1) [.Name x p2] [] pos) (tF (sx X) ks wx (evE cs (.scr i))) :=
  (pe_callTy call_list_of hb.gl hb.mg hb.bt (pa_cons (pe_var hN hv hd hcd) pa_nil) hb.nn hb.db rfl rfl).imp fun σ H Q h => by
    obtain ⟨io, B, ρ, r, p⟩ := h
    rw [evE] at p
    split at p
    · rename_i ns hz
      obtain ⟨a, e1, s1⟩ := r.slot i _ hz
      have sq : SqL X.K H a (ns.map V.int) := by
        rcases s1 with ⟨⟨o, q⟩, _⟩ | q
        · exact .inl (.inr ⟨o, q⟩)
        · rcases q with q | q
          · rcases q with q | ⟨o, q⟩
            · cases q
            · cases q
          · exact .inr q
      refine ⟨.ref a, e1, a, _, rfl, .inl sq, fun l hl => ?_⟩
      exact fresh_l p r hl (ints_rep ns)
    · exact p.elim
theorem scr_is (ρ : Env) (d : D) (ρ' : Env) (h : evE cs (.scr i) ρ = .ok d ρ') : (∃ ds, d = .list ds) ∨ ∃ ds, d = .dict ds := by
  rw [evE] at h
  split at h
  · cases h; exact .inl ⟨_, rfl⟩
  · cases h
theorem lc_is {m : E} {vs : List Nat} {tg : Tg} {it : It} {cond : Option E} (ρ : Env) (d : D) (ρ' : Env) (h : evE cs (.lc m vs tg it cond) ρ = .ok d ρ') : (∃ ds, d = .list ds) ∨ ∃ ds, d = .dict ds := by
  rw [evE] at h
  obtain ⟨_, _, _, h⟩ := ok_bind h
  obtain ⟨_, _, _, h⟩ := ok_bind h
  cases h
  exact .inl ⟨_, rfl⟩
theorem lc2_is {m : E} {vs vs2 : List Nat} {tg tg2 : Tg} {it it2 : It} {cond : Option E} (ρ : Env) (d : D) (ρ' : Env) (h : evE cs (.lc2 m vs tg it vs2 tg2 it2 cond) ρ = .ok d ρ') : (∃ ds, d = .list ds) ∨ ∃ ds, d = .dict ds := by
  rw [evE] at h
  obtain ⟨_, _, _, h⟩ := ok_bind h
  obtain ⟨_, _, _, h⟩ := ok_bind h
  cases h
  exact .inl ⟨_, rfl⟩
end

/-! ### what leaves the slots alone -/
mutual
def pureE : E → Bool
  | .var _ => true
  | .bor _ => true
  | .scr _ => true
  | .non => true
  | .bl _ => true
  | .int _ => true
  | .str _ => true
  | .glob _ _ => true
  | .tup es => pureEs es
  | .lst es => pureEs es
  | .bin _ a b => pureE a && pureE b
  | .neg a => pureE a
  | .nt a => pureE a
  | .cmp _ a b => pureE a && pureE b
  | .isNon _ a => pureE a
  | .idx a b => pureE a && pureE b
  | .call _ es => pureEs es
  | .bi _ es => pureEs es
  | _ => false
def pureEs : List E → Bool
  | [] => true
  | e :: es => pureE e && pureEs es
end
section
variable {cs : CS}
theorem pur_bind {α β : Type} {x : Env → R α} {f : α → Env → R β} (h : Pur x) (g : ∀ a, Pur (f a)) : Pur fun ρ => (x ρ).bind f := fun ρ d ρ' e => by
  obtain ⟨a, ρ1, e1, e2⟩ := ok_bind e
  rw [g a _ _ _ e2, h _ _ _ e1]
theorem pur_ok {β : Type} {f : Env → β} : Pur fun ρ => R.ok (f ρ) ρ := fun ρ d ρ' e => by cases e; rfl
theorem pur_opt {β : Type} {f : Env → Option β} : Pur fun ρ => R.opt (f ρ) ρ := fun ρ d ρ' e => (ok_opt e).2
mutual
theorem pur_E : ∀ m : E, pureE m = true → Pur (evE cs m)
  | .var i, _ => fun ρ d ρ' e => (ok_opt (by simpa only [evE] using e)).2
  | .bor i, _ => fun ρ d ρ' e => (ok_opt (by simpa only [evE] using e)).2
  | .scr i, _ => fun ρ d ρ' e => by
    rw [evE] at e
    split at e
    · cases e; rfl
    · cases e
  | .non, _ => fun ρ d ρ' e => by rw [evE] at e; cases e; rfl
  | .bl _, _ => fun ρ d ρ' e => by rw [evE] at e; cases e; rfl
  | .int _, _ => fun ρ d ρ' e => by rw [evE] at e; cases e; rfl
  | .str _, _ => fun ρ d ρ' e => by rw [evE] at e; cases e; rfl
  | .glob _ _, _ => fun ρ d ρ' e => by rw [evE] at e; cases e; rfl
  | .tup es, h => fun ρ d ρ' e => by
    rw [evE] at e
    exact pur_bind (f := fun ds ρ => R.ok (PyData.tuple ds) ρ) (pur_Es es (by simpa [pureE] using h)) (fun _ => pur_ok) ρ d ρ' e
  | .lst es, h => fun ρ d ρ' e => by
    rw [evE] at e
    exact pur_bind (f := fun ds ρ => R.ok (PyData.list ds) ρ) (pur_Es es (by simpa [pureE] using h)) (fun _ => pur_ok) ρ d ρ' e
  | .bin op a b, h => fun ρ d ρ' e => by
    rw [evE] at e
    rw [pureE, Bool.and_eq_true] at h
    exact pur_bind (pur_E a h.1) (fun x => pur_bind (pur_E b h.2) fun y => pur_opt) ρ d ρ' e
  | .neg a, h => fun ρ d ρ' e => by
    rw [evE] at e
    rw [pureE] at h
    refine pur_bind (pur_E a h) (fun x => ?_) ρ d ρ' e
    intro ρ d ρ' e
    cases x <;> first | cases e; done | skip
    cases e
    rfl
  | .nt a, h => fun ρ d ρ' e => by
    rw [evE] at e
    rw [pureE] at h
    exact pur_bind (pur_bind (pur_E a h) fun x => pur_opt) (fun b => pur_ok) ρ d ρ' e
  | .cmp op a b, h => fun ρ d ρ' e => by
    rw [evE] at e
    rw [pureE, Bool.and_eq_true] at h
    exact pur_bind (pur_E a h.1) (fun x => pur_bind (pur_E b h.2) fun y => pur_bind pur_opt fun t => pur_ok) ρ d ρ' e
  | .isNon ng a, h => fun ρ d ρ' e => by
    rw [evE] at e
    rw [pureE] at h
    exact pur_bind (pur_E a h) (fun x => pur_ok) ρ d ρ' e
  | .idx a b, h => fun ρ d ρ' e => by
    rw [evE] at e
    rw [pureE, Bool.and_eq_true] at h
    exact pur_bind (pur_E a h.1) (fun x => pur_bind (pur_E b h.2) fun y => pur_opt) ρ d ρ' e
  | .call f es, h => fun ρ d ρ' e => by
    rw [evE] at e
    rw [pureE] at h
    refine pur_bind (pur_Es es h) (fun ds => ?_) ρ d ρ' e
    intro ρ d ρ' e
    cases er : cs f [] ds with
    | ok d st => rw [er] at e; cases e; rfl
    | exc c => rw [er] at e; cases e
    | err => rw [er] at e; cases e
  | .bi b es, h => fun ρ d ρ' e => by
    rw [evE] at e
    rw [pureE] at h
    exact pur_bind (pur_Es es h) (fun x => pur_opt) ρ d ρ' e
  | .and a b, h => by simp [pureE] at h
  | .or a b, h => by simp [pureE] at h
  | .chain _ _ _ _ _, h => by simp [pureE] at h
  | .isTru _ _, h => by simp [pureE] at h
  | .ife _ _ _, h => by simp [pureE] at h
  | .slc _ _ _, h => by simp [pureE] at h
  | .rev _, h => by simp [pureE] at h
  | .callS _ _ _, h => by simp [pureE] at h
  | .pop _ _, h => by simp [pureE] at h
  | .dict0, h => by simp [pureE] at h
  | .dict1 _ _, h => by simp [pureE] at h
  | .lit _, h => by simp [pureE] at h
  | .lc _ _ _ _ _, h => by simp [pureE] at h
  | .lc2 _ _ _ _ _ _ _ _, h => by simp [pureE] at h
  | .dc _ _ _ _ _, h => by simp [pureE] at h
theorem pur_Es : ∀ ms : List E, pureEs ms = true → Pur (evEs cs ms)
  | [], _ => fun ρ d ρ' e => by rw [evEs] at e; cases e; rfl
  | m :: ms, h => fun ρ d ρ' e => by
    rw [evEs] at e
    rw [pureEs, Bool.and_eq_true] at h
    exact pur_bind (pur_E m h.1) (fun x => pur_bind (pur_Es ms h.2) fun y => pur_ok) ρ d ρ' e
end
def pureO : Option E → Bool
  | none => true
  | some m => pureE m
theorem pur_O : ∀ m : Option E, pureO m = true → Pur (evO cs m)
  | none, _ => fun ρ d ρ' e => by rw [evO] at e; cases e; rfl
  | some m, h => fun ρ d ρ' e => by
    rw [evO] at e
    refine pur_bind (pur_E m h) (fun x => ?_) ρ d ρ' e
    intro ρ d ρ' e
    cases x <;> first | cases e; done | skip
    cases e
    rfl
end

/-! ### the built-in names that are called -/
def bName : Bi → String
  | .len => "len" | .tuple => "tuple" | .list => "list" | .int => "int" | .sorted => "sorted" | .repr => "repr" | .str => "str"
  | .min1 => "min" | .max1 => "max" | .min2 => "min" | .max2 => "max" | .max4 => "max" | .sum => "sum" | .dict => "dict" | .abs => "abs" | _ => ""
def bVal : Bi → Value
  | .len => .builtin "len" | .tuple => .type "tuple" | .list => .type "list" | .int => .type "int" | .sorted => .builtin "sorted" | .repr => .builtin "repr" | .str => .type "str"
  | .min1 => .builtin "min" | .max1 => .builtin "max" | .min2 => .builtin "min" | .max2 => .builtin "max" | .max4 => .builtin "max" | .sum => .builtin "sum" | .dict => .type "dict" | .abs => .builtin "abs" | _ => .none
/-- those whose rule stands -/
def bOk : Bi → Bool
  | .len => true | .tuple => true | .list => true | .int => true | .repr => true | .str => true | .abs => true
  | .sorted => true | .min1 => true | .max1 => true | .min2 => true | .max2 => true | .max4 => true | .sum => true
  | _ => false
theorem boot_ok : ∀ b : Bi, bOk b = true → bootBuiltins (Str.ofString (bName b)) = some (bVal b) ∧ Str.ofString (bName b) ≠ "__name__" ∧ ((Str.ofString (bName b)) == ("__debug__" : Str)) = false
  | .len, _ => ⟨by decide +kernel, by decide +kernel, by decide +kernel⟩
  | .tuple, _ => ⟨by decide +kernel, by decide +kernel, by decide +kernel⟩
  | .list, _ => ⟨by decide +kernel, by decide +kernel, by decide +kernel⟩
  | .int, _ => ⟨by decide +kernel, by decide +kernel, by decide +kernel⟩
  | .repr, _ => ⟨by decide +kernel, by decide +kernel, by decide +kernel⟩
  | .str, _ => ⟨by decide +kernel, by decide +kernel, by decide +kernel⟩
  | .abs, _ => ⟨by decide +kernel, by decide +kernel, by decide +kernel⟩
  | .sorted, _ => ⟨by decide +kernel, by decide +kernel, by decide +kernel⟩
  | .min1, _ => ⟨by decide +kernel, by decide +kernel, by decide +kernel⟩
  | .max1, _ => ⟨by decide +kernel, by decide +kernel, by decide +kernel⟩
  | .min2, _ => ⟨by decide +kernel, by decide +kernel, by decide +kernel⟩
  | .max2, _ => ⟨by decide +kernel, by decide +kernel, by decide +kernel⟩
  | .max4, _ => ⟨by decide +kernel, by decide +kernel, by decide +kernel⟩
  | .sum, _ => ⟨by decide +kernel, by decide +kernel, by decide +kernel⟩
theorem bv_cases : ∀ b : Bi, bOk b = true → (∃ id, bVal b = .builtin id) ∨ ∃ T, bVal b = .type T
  | .len, _ => .inl ⟨_, rfl⟩
  | .tuple, _ => .inr ⟨_, rfl⟩
  | .list, _ => .inr ⟨_, rfl⟩
  | .int, _ => .inr ⟨_, rfl⟩
  | .repr, _ => .inl ⟨_, rfl⟩
  | .str, _ => .inr ⟨_, rfl⟩
  | .abs, _ => .inl ⟨_, rfl⟩
  | .sorted, _ => .inl ⟨_, rfl⟩
  | .min1, _ => .inl ⟨_, rfl⟩
  | .max1, _ => .inl ⟨_, rfl⟩
  | .min2, _ => .inl ⟨_, rfl⟩
  | .max2, _ => .inl ⟨_, rfl⟩
  | .max4, _ => .inl ⟨_, rfl⟩
  | .sum, _ => .inl ⟨_, rfl⟩
theorem cr_ok {X : Cx} (hcalm : X.calm = true) (hh : X.A.handled = none) (hg : X.A.guards = some []) (hu : X.A.units + 65 < cLine) : ∀ b : Bi, bOk b = true → CallR X (bVal b) (rC (sx X) (biD b))
  | .len, _ => cr_len
  | .tuple, _ => cr_tuple hh
  | .list, _ => cr_list hh
  | .int, _ => cr_int
  | .repr, _ => cr_repr hg hu
  | .str, _ => cr_str
  | .abs, _ => cr_abs
  | .sorted, _ => cr_sortedD hu
  | .min1, _ => cr_min1 hh hu
  | .max1, _ => cr_max1 hh hu
  | .min2, _ => cr_min2 hcalm
  | .max2, _ => cr_max2 hh hu
  | .max4, _ => cr_max4 hh hu
  | .sum, _ => cr_sumD hh
theorem boot_isinst : bootBuiltins (Str.ofString "isinstance") = some (.builtin "isinstance") ∧ Str.ofString "isinstance" ≠ "__name__" ∧ ((Str.ofString "isinstance") == ("__debug__" : Str)) = false := ⟨by decide +kernel, by decide +kernel, by decide +kernel⟩
theorem boot_range' : bootBuiltins (Str.ofString "range") = some (.type "range") ∧ Str.ofString "range" ≠ "__name__" ∧ ((Str.ofString "range") == ("__debug__" : Str)) = false := ⟨by decide +kernel, by decide +kernel, by decide +kernel⟩
theorem boot_zip' : bootBuiltins (Str.ofString "zip") = some (.type "zip") ∧ Str.ofString "zip" ≠ "__name__" ∧ ((Str.ofString "zip") == ("__debug__" : Str)) = false := ⟨by decide +kernel, by decide +kernel, by decide +kernel⟩
theorem boot_ve : bootBuiltins (Str.ofString "ValueError") = some (.type "ValueError") ∧ Str.ofString "ValueError" ≠ "__name__" ∧ ((Str.ofString "ValueError") == ("__debug__" : Str)) = false := ⟨by decide +kernel, by decide +kernel, by decide +kernel⟩
theorem boot_bool' : bootBuiltins (Str.ofString "bool") = some (.type "bool") ∧ Str.ofString "bool" ≠ "__name__" ∧ ((Str.ofString "bool") == ("__debug__" : Str)) = false := ⟨by decide +kernel, by decide +kernel, by decide +kernel⟩
end G

set_option Elab.async false
set_option linter.all false
set_option maxRecDepth 100000
set_option autoImplicit false
/-! G20: the checker of expressions, and that it is right. -/
namespace G
open PySem PySem.Spec PyProof.Rows L2

inductive Md where
  | e | o | t | f
/-- the program's names -/
structure GI where
  fns : List (Str × Nat × Bool)
  cons : List (Str × D)
  bl : List Str
/-- where one stands -/
structure Ck where
  N : List Str
  sc : Scope
  ks : Ks
  fnc : Str → Bool
  g : GI
def Ck.blk (k : Ck) (scope : Scope) : Ck := { k with sc := relS scope k.sc, fnc := fun x => scope.names.lookup x == some .cell }
def visB (sc : Scope) (x : Str) : Bool := match sc.names.lookup x with
  | some .local => true
  | some .cell => true
  | some .free => true
  | _ => false
def nmV (k : Ck) (i : Nat) (x : Str) : Bool := decide (k.N[i]? = some x) && visB k.sc x && !(x == ("__debug__" : Str)) && !(x == ("__classdict__" : Str))
def nmS (k : Ck) (i : Nat) (x : Str) : Bool := decide (k.N[i]? = some x) && (match k.sc.names.lookup x with
  | some .local => true
  | some .cell => k.fnc x
  | _ => false) && decide (i ∉ k.ks.fx)
def glB (k : Ck) (x : Str) : Bool := match k.sc.names.lookup x with
  | some .globalImplicit => true
  | _ => false
def bltB (k : Ck) (x : Str) : Bool := glB k x && decide (x ∈ k.g.bl)
def isBor : E → Bool
  | .bor _ => true
  | _ => false
def ovr (a b : E) : Bool := !isBor a || pureE b
def ovrO (a : E) (b : Option E) : Bool := !isBor a || pureO b
def ovrs (a : E) (b : List E) : Bool := !isBor a || pureEs b
def modeV (md : Md) (e : Expr) : Bool := match md with | .e => true | .o => true | .t => plainT e | .f => false
def modeF (md : Md) (e : Expr) : Bool := match md with | .t => plainT e | _ => true
def modeB (md : Md) (e : Expr) : Bool := match md with | .o => true | .t => plainT e | _ => false
def modeT (md : Md) : Bool := match md with | .f => false | _ => true
def noSet : Expr → Bool
  | .Set .. => false
  | _ => true
def opB : BOp → Operator → Bool
  | .add, .Add => true | .sub, .Sub => true | .mul, .Mult => true | .fdiv, .FloorDiv => true | .mod, .Mod => true | .pow, .Pow => true | _, _ => false
def copB : COp → CmpOp → Bool
  | .eq, .Eq => true | .ne, .NotEq => true | .lt, .Lt => true | .le, .LtE => true | .gt, .Gt => true | .ge, .GtE => true | .isin, .In => true | .notin, .NotIn => true | _, _ => false
theorem opB_ok {o : BOp} {p : Operator} (h : opB o p = true) : p = opOf o := by cases o <;> cases p <;> first | rfl | cases h
theorem copB_ok {o : COp} {p : CmpOp} (h : copB o p = true) : p = copOf o := by cases o <;> cases p <;> first | rfl | cases h
mutual
def beqD : D → D → Bool
  | .none, .none => true
  | .bool a, .bool b => a == b
  | .int a, .int b => a == b
  | .str a, .str b => decide (a = b)
  | .tuple xs, .tuple ys => beqDs xs ys
  | _, _ => false
def beqDs : List D → List D → Bool
  | [], [] => true
  | x :: xs, y :: ys => beqD x y && beqDs xs ys
  | _, _ => false
end
mutual
theorem beqD_ok : ∀ a b : D, beqD a b = true → a = b
  | .none, b, h => by cases b <;> first | rfl | simp [beqD] at h
  | .bool a, b, h => by cases b <;> simp [beqD] at h; rw [h]
  | .int a, b, h => by cases b <;> simp [beqD] at h; rw [h]
  | .str a, b, h => by cases b <;> simp [beqD] at h; rw [h]
  | .tuple xs, b, h => by cases b <;> simp [beqD] at h; rw [beqDs_ok _ _ h]
  | .list _, b, h => by cases b <;> simp [beqD] at h
  | .dict _, b, h => by cases b <;> simp [beqD] at h
theorem beqDs_ok : ∀ a b : List D, beqDs a b = true → a = b
  | [], b, h => by cases b <;> first | rfl | simp [beqDs] at h
  | x :: xs, [], h => by simp [beqDs] at h
  | x :: xs, y :: ys, h => by
    rw [beqDs, Bool.and_eq_true] at h
    rw [beqD_ok _ _ h.1, beqDs_ok _ _ h.2]
end
mutual
def chkTg : Tg → Ck → Expr → Bool
  | .n i, k, e => (match e with | .Name x _ => nmS k i x | _ => false)
  | .t ts, k, e => (match e with | .Tuple es _ _ => chkTgs ts k es | _ => false)
def chkTgs : List Tg → Ck → List Expr → Bool
  | [], _, es => (match es with | [] => true | _ => false)
  | t :: ts, k, es => (match es with | e :: es => noStar e && chkTg t k e && chkTgs ts k es | [] => false)
end
def ownOf (k : Ck) (vs : List Nat) : List (Str × Nat) := vs.map fun i => ((k.N[i]?).getD (Str.ofString ""), i)
def sOfs (s : String) : Str := Str.ofString s

mutual
def chk : E → Ck → Md → Expr → Bool
  | .var i, k, md, e => modeV md e && (match e with | .Name x _ => nmV k i x | _ => false)
  | .bor i, k, md, e => modeB md e && (match e with | .Name x _ => nmV k i x | _ => false)
  | .scr i, k, md, e => modeF md e && (match e with | .Call (.Name f _) [.Name x _] [] _ => decide (f = Str.ofString "list") && bltB k (Str.ofString "list") && nmV k i x | _ => false)
  | .non, _, md, e => modeV md e && (match e with | .Constant .none _ _ => true | _ => false)
  | .bl b, _, md, e => modeV md e && (match e with | .Constant (.bool b') _ _ => b == b' | _ => false)
  | .int n, _, md, e => modeV md e && (match e with | .Constant (.int n') _ _ => n == n' | _ => false)
  | .str s, _, md, e => modeV md e && (match e with | .Constant (.str s') _ _ => decide (s = s') | _ => false)
  | .glob x v, k, md, e => modeV md e && (match e with | .Name x' _ => decide (x = x') && glB k x && !(x == ("__debug__" : Str)) && k.g.cons.any fun p => decide (p.1 = x) && beqD p.2 v | _ => false)
  | .tup ms, k, md, e => modeV md e && (match e with | .Tuple es _ _ => decide (ms.length ≤ 1000) && chkEs ms k es | _ => false)
  | .lst ms, k, md, e => modeF md e && (match e with | .List es _ => decide (ms.length ≤ 1000) && chkEs ms k es | _ => false)
  | .bin op a b, k, md, e => modeV md e && (match e with | .BinOp l o r _ => opB op o && ovr a b && chk a k .o l && chk b k .o r | _ => false)
  | .neg a, k, md, e => modeV md e && (match e with | .UnaryOp .USub x _ => chk a k .o x | _ => false)
  | .nt a, k, md, e => (match e with | .UnaryOp .Not x _ => (match md with | .t => chk a k .t x | .f => false | _ => chk a k .o x) | _ => false)
  | .and a b, k, md, e => (match e with
    | .BoolOp .And (x :: [y]) _ => (match md with | .t => chk a k .t x && chk b k .t y | .f => false | _ => chk a k .e x && chk b k .e y)
    | .BoolOp .And (x :: y :: z :: zs) p => (match md with | .t => chk a k .t x && chk b k .t (.BoolOp .And (y :: z :: zs) p) | .f => false | _ => chk a k .e x && chk b k .e (.BoolOp .And (y :: z :: zs) p))
    | _ => false)
  | .or a b, k, md, e => (match e with
    | .BoolOp .Or (x :: [y]) _ => (match md with | .t => chk a k .t x && chk b k .t y | .f => false | _ => chk a k .e x && chk b k .e y)
    | .BoolOp .Or (x :: y :: z :: zs) p => (match md with | .t => chk a k .t x && chk b k .t (.BoolOp .Or (y :: z :: zs) p) | .f => false | _ => chk a k .e x && chk b k .e (.BoolOp .Or (y :: z :: zs) p))
    | _ => false)
  | .cmp op a b, k, md, e => modeT md && (match e with | .Compare l [o] [r] _ => copB op o && ovr a b && !behindInMarks o r && chk a k .o l && chk b k .o r | _ => false)
  | .chain op op' a b c, k, md, e => modeT md && (match e with | .Compare l [o, o'] [r, q] _ => copB op o && copB op' o' && ovr a b && pureE c && !lastMarks [o, o'] [r, q] && chk a k .o l && chk b k .o r && chk c k .o q | _ => false)
  | .isNon ng a, k, md, e => modeT md && (match e with
    | .Compare l [.Is] [.Constant .none _ _] _ => !ng && chk a k .o l
    | .Compare l [.IsNot] [.Constant .none _ _] _ => ng && chk a k .o l
    | _ => false)
  | .isTru ng a, k, md, e => modeT md && (match e with
    | .Compare l [.Is] [.Constant (.bool true) _ _] _ => !ng && chk a k .e l
    | .Compare l [.IsNot] [.Constant (.bool true) _ _] _ => ng && chk a k .e l
    | _ => false)
  | .ife c a b, k, md, e => modeV md e && (match e with | .IfExp t x y _ => chk c k .t t && chk a k .e x && chk b k .e y | _ => false)
  | .idx a b, k, md, e => modeV md e && (match e with | .Subscript x y _ => ovr a b && noSlice y && chk a k .o x && chk b k .o y | _ => false)
  | .slc a lo hi, k, md, e => modeV md e && (match e with | .Subscript x (.Slice l h none _) _ => ovrO a lo && ovrO a hi && chk a k .o x && chkP lo k l && chkP hi k h | _ => false)
  | .rev a, k, md, e => modeV md e && (match e with | .Subscript x (.Slice none none (some (.UnaryOp .USub (.Constant (.int 1) _ _) _)) _) _ => chk a k .o x | _ => false)
  | .call f ms, k, md, e => modeV md e && (match e with | .Call (.Name x _) (a :: as) [] _ => glB k x && decide (k.g.fns[f]? = some (x, ms.length, false)) && chkEs ms k (a :: as) | _ => false)
  | .callS f i ms, k, md, e => modeV md e && (match e with | .Call (.Name x _) (.Name y _ :: as) [] _ => glB k x && decide (k.g.fns[f]? = some (x, ms.length + 1, true)) && nmV k i y && chkEs ms k as | _ => false)
  | .bi b ms, k, md, e => modeV md e && (match e with
    | .Call (.Name x _) (a :: as) [] _ =>
      if bOk b then decide (x = Str.ofString (bName b)) && bltB k x && chkOs ms k (a :: as)
      else (match ms with
        | [_] => (match as with
          | [.Name y _] => (match clsOf b with
            | some C => decide (x = Str.ofString "isinstance") && bltB k x && decide (y = Str.ofString C) && bltB k y && chkOs ms k [a]
            | none => false)
          | [.Tuple [.Name y _, .Name z _] _ _] => (match b with
            | .isIntTup => decide (x = Str.ofString "isinstance") && bltB k x && decide (y = Str.ofString "int") && bltB k y && decide (z = Str.ofString "tuple") && bltB k z && chkOs ms k [a]
            | _ => false)
          | _ => false)
        | _ => false)
    | .Call (.Attribute (.Constant (.str s) _ _) mth ap) [a] [] cp => (match ms with
        | [_] => (match b with
          | .join => decide (s = Str.ofString "") && decide (mth = Str.ofString "join") && oneLine ap cp && chkOs ms k [a]
          | _ => false)
        | _ => false)
    | _ => false)
  | .pop i m, k, md, e => modeV md e && (match e with | .Call (.Attribute (.Name y _) mth ap) [a] [] cp => decide (mth = Str.ofString "pop") && nmV k i y && noStar a && oneLine ap cp && chk m k .e a | _ => false)
  | .dict0, _, md, e => modeF md e && (match e with | .Dict [] [] _ => true | _ => false)
  | .lc m vs tg it cond, k, md, e => modeF md e && (match e with
    | .ListComp x [⟨tge, iter, ifs, 0⟩] scope _ => (vs.all fun i => decide (i ∉ k.ks.ow)) && (tg.slots.all fun i => decide (i ∈ vs)) && blkC k.N k.sc scope (ownOf k vs) && noSet iter && chkI it k tge iter && chkTg tg (k.blk scope) tge && chkC cond (k.blk scope) ifs && chk m (k.blk scope) .e x
    | _ => false)
  | .lc2 m vs tg it vs2 tg2 it2 cond, k, md, e => modeF md e && (match e with
    | .ListComp x [⟨tge, iter, [], 0⟩, ⟨tge2, iter2, ifs, 0⟩] scope _ => (vs.all fun i => decide (i ∉ k.ks.ow)) && (tg.slots.all fun i => decide (i ∈ vs)) && (tg2.slots.all fun i => decide (i ∈ vs2)) && (vs2.all fun i => decide (i ∈ vs)) && blkC k.N k.sc scope (ownOf k vs) &&
        noSet iter && noSet iter2 && chkI it k tge iter && chkTg tg (k.blk scope) tge && chkI it2 (k.blk scope) tge2 iter2 && chkTg tg2 (k.blk scope) tge2 && chkC cond (k.blk scope) ifs && chk m (k.blk scope) .e x
    | _ => false)
  | .dict1 _ _, _, _, _ => false
  | .lit _, _, _, _ => false
  | .dc _ _ _ _ _, _, _, _ => false
def chkEs : List E → Ck → List Expr → Bool
  | [], _, es => (match es with | [] => true | _ => false)
  | m :: ms, k, es => (match es with | e :: es => noStar e && chk m k .e e && chkEs ms k es | [] => false)
def chkOs : List E → Ck → List Expr → Bool
  | [], _, es => (match es with | [] => true | _ => false)
  | m :: ms, k, es => (match es with | e :: es => noStar e && ovrs m ms && chk m k .o e && chkOs ms k es | [] => false)
def chkP : Option E → Ck → Option Expr → Bool
  | none, _, e => (match e with | none => true | _ => false)
  | some m, k, e => (match e with | some e => chk m k .e e | none => false)
def chkC : Option E → Ck → List Expr → Bool
  | none, _, es => (match es with | [] => true | _ => false)
  | some m, k, es => (match es with | [e] => chk m k .t e | _ => false)
def chkI : It → Ck → Expr → Expr → Bool
  | .e m, k, _, e => chk m k .e e
  | .r1 a, k, _, e => (match e with | .Call (.Name x _) [y] [] _ => decide (x = Str.ofString "range") && bltB k x && noStar y && chk a k .e y | _ => false)
  | .r2 a b, k, _, e => (match e with | .Call (.Name x _) [y, z] [] _ => decide (x = Str.ofString "range") && bltB k x && noStar y && noStar z && chk a k .e y && chk b k .e z | _ => false)
  | .r3 a b c, k, _, e => (match e with | .Call (.Name x _) [y, z, u] [] _ => decide (x = Str.ofString "range") && bltB k x && noStar y && noStar z && noStar u && chk a k .e y && chk b k .e z && chk c k .e u | _ => false)
  | .enum _, _, _, _ => false
  | .zip a b, k, tg, e => (match tg with | .Tuple _ _ _ => (match e with | .Call (.Name x _) [y, z] [] _ => decide (x = Str.ofString "zip") && bltB k x && noStar y && noStar z && chk a k .e y && chk b k .e z | _ => false) | _ => false)
end
end G

set_option Elab.async false
set_option linter.all false
set_option maxRecDepth 100000
set_option maxHeartbeats 4000000
set_option autoImplicit false
/-! G21: the checker of expressions is right. -/
namespace G
open PySem PySem.Spec PyProof.Rows L2

structure CtxOk (X : Cx) (k : Ck) (n : Nat) (ex : Exs) (cs : CS) : Prop where
  N : X.N = k.N
  nd : X.N.Nodup
  sc : X.env.scope = k.sc
  fnc : ∀ x, k.fnc x = true → X.fn x = true
  calm : X.calm = true
  room : Room n X.A
  gu : X.A.guards = some []
  cons : ∀ p ∈ k.g.cons, GlobOk X p.1 p.2
  bl : ∀ x ∈ k.g.bl, X.mg x = none
  call : ∀ (f : Nat) (x : Str) (np : Nat) (io : Bool), k.g.fns[f]? = some (x, np, io) → CallOk X n x np (spOf (sx X) ex io (cs f))
def Fof (c : Sx) (m : E) : Fv := if isBor m then FO c else FE c
def Snd (X : Cx) (ks : Ks) (wx : WXs) (cs : CS) (md : Md) (m : E) (e : Expr) : Prop := match md with
  | .e => PE X e (tE (sx X) ks wx (evE cs m))
  | .o => PE X e (tG (sx X) ks wx (Fof (sx X) m) (evE cs m))
  | .t => PT X e (tT (sx X) ks wx fun ρ => truR (evE cs m ρ))
  | .f => PE X e (tF (sx X) ks wx (evE cs m))
section
variable {X : Cx} {k : Ck} {n : Nat} {ex : Exs} {cs : CS} {wx : WXs} {md : Md} {m a b : E} {e : Expr} {x : Str} {i : Nat} {pos : Pos}
theorem sub_Fof {c : Sx} : Sub c (Fof c m) := by
  unfold Fof
  split
  · exact sub_O
  · exact sub_E
theorem ovr_ok {c : Sx} {β : Type} {eb : Env → R β} (h : isBor a = true → Pur eb) : Over c (Fof c a) eb := by
  unfold Fof
  split
  · exact over_O (h (by assumption))
  · exact over_E
theorem keeps_ok {c : Sx} {β : Type} {eb : Env → R β} (h : isBor a = true → Pur eb) : Keeps (Fof c a) eb := by
  unfold Fof
  split
  · exact keeps_O (h (by assumption))
  · exact keeps_E
theorem or_imp {p q : Bool} (h : (!p || q) = true) : p = true → q = true := fun hp => by rw [hp] at h; simpa using h
theorem snd_v (hm : modeV md e = true) (hb : isBor m = false) (h : PE X e (tE (sx X) k.ks wx (evE cs m))) : Snd X k.ks wx cs md m e := by
  cases md with
  | e => exact h
  | o =>
    show PE X e (tG (sx X) k.ks wx (Fof (sx X) m) (evE cs m))
    unfold Fof
    rw [hb, if_neg Bool.false_ne_true]
    exact h
  | t => exact tp_truth sub_E h hm
  | f => cases hm
theorem snd_f (hm : modeF md e = true) (hb : isBor m = false) (hl : ∀ ρ d ρ', evE cs m ρ = .ok d ρ' → (∃ ds, d = .list ds) ∨ ∃ ds, d = .dict ds) (h : PE X e (tF (sx X) k.ks wx (evE cs m))) : Snd X k.ks wx cs md m e := by
  cases md with
  | f => exact h
  | e => exact snd_v (md := .e) rfl hb (fe hl h)
  | o => exact snd_v (md := .o) rfl hb (fe hl h)
  | t => exact snd_v (md := .t) hm hb (fe hl h)
theorem snd_t (hm : modeT md = true) (hb : isBor m = false) (h1 : PE X e (tE (sx X) k.ks wx (evE cs m))) (h2 : PT X e (tT (sx X) k.ks wx fun ρ => truR (evE cs m ρ))) : Snd X k.ks wx cs md m e := by
  cases md with
  | t => exact h2
  | e => exact snd_v (md := .e) rfl hb h1
  | o => exact snd_v (md := .o) rfl hb h1
  | f => cases hm
theorem nmV_ok (c : CtxOk X k n ex cs) (h : nmV k i x = true) : X.N[i]? = some x ∧ Vis X.env.scope x ∧ (x == ("__debug__" : Str)) = false ∧ (x == ("__classdict__" : Str)) = false := by
  unfold nmV at h
  simp only [Bool.and_eq_true, decide_eq_true_eq, Bool.not_eq_true'] at h
  obtain ⟨⟨⟨h1, h2⟩, h3⟩, h4⟩ := h
  refine ⟨by rw [c.N]; exact h1, ?_, h3, h4⟩
  rw [c.sc]
  unfold visB at h2
  split at h2
  · exact .inl (by assumption)
  · exact .inr (.inl (by assumption))
  · exact .inr (.inr (by assumption))
  · cases h2
theorem nmS_ok (c : CtxOk X k n ex cs) (h : nmS k i x = true) : NmOk X k.ks i x := by
  unfold nmS at h
  simp only [Bool.and_eq_true, decide_eq_true_eq] at h
  obtain ⟨⟨h1, h2⟩, h3⟩ := h
  have key : (k.sc.names.lookup x = some .local ∨ k.sc.names.lookup x = some .cell) ∧ (X.fn x = true ∨ k.sc.names.lookup x = some .local) := by
    split at h2
    · rename_i q; exact ⟨.inl q, .inr q⟩
    · rename_i q; exact ⟨.inr q, .inl (c.fnc x h2)⟩
    · cases h2
  exact ⟨by rw [c.N]; exact h1, by rw [c.sc]; exact key.1, by rw [c.sc]; exact key.2, h3⟩
theorem glB_ok (c : CtxOk X k n ex cs) (h : glB k x = true) : Gl X x := by
  unfold glB at h
  split at h
  · show X.env.scope.names.lookup x = some .globalImplicit
    rw [c.sc]; assumption
  · cases h
theorem bltB_ok (c : CtxOk X k n ex cs) {u : Value} (h : bltB k x = true) (hb : bootBuiltins x = some u ∧ x ≠ "__name__" ∧ (x == ("__debug__" : Str)) = false) : BltOk X x u := by
  unfold bltB at h
  rw [Bool.and_eq_true] at h
  exact ⟨glB_ok c h.1, c.bl x (of_decide_eq_true h.2), hb.1, hb.2.1, hb.2.2⟩
theorem CtxOk.un (c : CtxOk X k n ex cs) : X.A.units + 65 < cLine := by have := c.room.un; omega
theorem CtxOk.blk (c : CtxOk X k n ex cs) (s : Shared) (H : Hp) (scope : Scope) (C : Addr) (cl : List (Str × Addr)) (fp : List Addr) : CtxOk (X.blk s H scope (compEnvC scope cl C X.env) fp) (k.blk scope) n ex cs :=
  ⟨c.N, c.nd, by show relS scope X.env.scope = relS scope k.sc; rw [c.sc], fun x h => h, c.calm, c.room, c.gu, c.cons, c.bl, fun f x np io h => ⟨(c.call f x np io h).ex, (c.call f x np io h).db⟩⟩
theorem noX_takes {W : WX} (h : ∀ c d σ H, ¬ W c d σ H) : Takes X W := fun u s' ⟨_, _, _, _, _, _, _, _, _, _, _, _, _, _, _, _, w⟩ => (h _ _ _ _ w).elim
theorem blk_takes : Takes X (WW ex NoX) := noX_takes fun _ _ _ _ ⟨_, _, _, h⟩ => h
theorem pw_of {op : BoolOp} {vs : List Expr} {t : TT} (h : PT X (.BoolOp op vs pos) t) : PW X (.BoolOp op vs pos) t := ⟨fun _ pins s σ H Q I w => h.run pins s σ H Q I w⟩
theorem set_no {iter : Expr} {env : PySem.Env} (h : noSet iter = true) : ∀ x, foldedSetIterable iter env x = pure x := by
  intro x
  cases iter <;> first | rfl | cases h
theorem all_ok {l : List Nat} {p : Nat → Bool} (h : l.all p = true) : ∀ i ∈ l, p i = true := List.all_eq_true.mp h
theorem own_map (vs : List Nat) : (ownOf k vs).map (·.2) = vs := by
  unfold ownOf
  rw [List.map_map]
  induction vs with
  | nil => rfl
  | cons v vs ih => rw [List.map_cons, ih]; rfl
end
/-! ### targets -/
section
variable {X : Cx} {k : Ck} {n : Nat} {ex : Exs} {cs : CS}
theorem chkTgs_star {ts : List Tg} : ∀ {es : List Expr}, chkTgs ts k es = true → es.all noStar = true ∧ ts.length = es.length := by
  induction ts with
  | nil =>
    intro es h
    unfold chkTgs at h
    split at h
    · exact ⟨rfl, rfl⟩
    · cases h
  | cons t ts ih =>
    intro es h
    unfold chkTgs at h
    split at h
    · simp only [Bool.and_eq_true] at h
      obtain ⟨h1, h2⟩ := ih h.2
      exact ⟨by rw [List.all_cons, h.1.1, h1]; rfl, by rw [List.length_cons, List.length_cons, h2]⟩
    · cases h
mutual
theorem tg_ok (c : CtxOk X k n ex cs) : ∀ (t : Tg) (e : Expr), chkTg t k e = true → PG X e (tTg (sx X) k.ks t)
  | .n i, e, h => by
    unfold chkTg at h
    split at h
    · have q := nmS_ok c h
      exact tg_name c.nd q.at_ q.loc q.fn q.fx
    · cases h
  | .t ts, e, h => by
    unfold chkTg at h
    split at h
    · obtain ⟨h1, h2⟩ := chkTgs_star h
      exact tg_tup c.calm (tgs_ok c ts _ h) h1 h2
    · cases h
theorem tgs_ok (c : CtxOk X k n ex cs) : ∀ (ts : List Tg) (es : List Expr), chkTgs ts k es = true → PGs X es (tTgs (sx X) k.ks ts)
  | [], es, h => by
    unfold chkTgs at h
    split at h
    · exact tgs_nil
    · cases h
  | t :: ts, es, h => by
    unfold chkTgs at h
    split at h
    · simp only [Bool.and_eq_true] at h
      exact tgs_cons (tg_ok c t _ h.1.2) (tgs_ok c ts _ h.2) h.1.1
    · cases h
end
end
end G

set_option Elab.async false
set_option linter.all false
set_option maxRecDepth 100000
set_option maxHeartbeats 4000000
set_option autoImplicit false
/-! G22: the checker of expressions is right: all forms. -/
namespace G
open PySem PySem.Spec PyProof.Rows L2

section
variable {n : Nat} {ex : Exs} {cs : CS}
theorem ty_boot {b : Bi} {C : String} (h : clsOf b = some C) : bootBuiltins (Str.ofString C) = some (.type C) ∧ Str.ofString C ≠ "__name__" ∧ ((Str.ofString C) == ("__debug__" : Str)) = false := by
  cases b <;> first | (cases h; done) | (cases h; exact ⟨by decide +kernel, by decide +kernel, by decide +kernel⟩)
mutual
theorem chk_ok : ∀ (m : E) (k : Ck) (md : Md) (e : Expr) (X : Cx) (wx : WXs), CtxOk X k n ex cs → Takes X (WW ex wx) → chk m k md e = true → Snd X k.ks wx cs md m e
  | .var i, k, md, e, X, wx, c, tk, h => by
    unfold chk at h
    rw [Bool.and_eq_true] at h
    obtain ⟨hm, h⟩ := h
    split at h
    · obtain ⟨q1, q2, q3, q4⟩ := nmV_ok c h
      exact snd_v hm rfl (ad_var q1 q2 q3 q4)
    · cases h
  | .bor i, k, md, e, X, wx, c, tk, h => by
    unfold chk at h
    rw [Bool.and_eq_true] at h
    obtain ⟨hm, h⟩ := h
    split at h
    · obtain ⟨q1, q2, q3, q4⟩ := nmV_ok c h
      have b := ad_bor (X := X) (ks := k.ks) (wx := wx) (cs := cs) (pos := by assumption) q1 q2 q3 q4
      cases md with
      | e => cases hm
      | o => exact b
      | t => exact tp_truth sub_O b hm
      | f => cases hm
    · cases h
  | .scr i, k, md, e, X, wx, c, tk, h => by
    unfold chk at h
    rw [Bool.and_eq_true] at h
    obtain ⟨hm, h⟩ := h
    split at h
    · simp only [Bool.and_eq_true, decide_eq_true_eq] at h
      obtain ⟨⟨rfl, h1⟩, h2⟩ := h
      obtain ⟨q1, q2, q3, q4⟩ := nmV_ok c h2
      exact snd_f hm rfl scr_is (af_scr (bltB_ok c h1 (boot_ok .list rfl)) q1 q2 q3 q4)
    · cases h
  | .non, k, md, e, X, wx, c, tk, h => by
    unfold chk at h
    rw [Bool.and_eq_true] at h
    obtain ⟨hm, h⟩ := h
    split at h
    · exact snd_v hm rfl ad_non
    · cases h
  | .bl b, k, md, e, X, wx, c, tk, h => by
    unfold chk at h
    rw [Bool.and_eq_true] at h
    obtain ⟨hm, h⟩ := h
    split at h
    · obtain rfl := eq_of_beq h
      exact snd_v hm rfl ad_bl
    · cases h
  | .int i, k, md, e, X, wx, c, tk, h => by
    unfold chk at h
    rw [Bool.and_eq_true] at h
    obtain ⟨hm, h⟩ := h
    split at h
    · obtain rfl := eq_of_beq h
      exact snd_v hm rfl ad_int
    · cases h
  | .str z, k, md, e, X, wx, c, tk, h => by
    unfold chk at h
    rw [Bool.and_eq_true] at h
    obtain ⟨hm, h⟩ := h
    split at h
    · obtain rfl := of_decide_eq_true h
      exact snd_v hm rfl ad_str
    · cases h
  | .glob x v, k, md, e, X, wx, c, tk, h => by
    unfold chk at h
    rw [Bool.and_eq_true] at h
    obtain ⟨hm, h⟩ := h
    split at h
    · simp only [Bool.and_eq_true, decide_eq_true_eq, Bool.not_eq_true'] at h
      obtain ⟨⟨⟨rfl, h1⟩, h2⟩, h3⟩ := h
      obtain ⟨p, hp, hq⟩ := List.any_eq_true.mp h3
      simp only [Bool.and_eq_true, decide_eq_true_eq] at hq
      have g := c.cons p hp
      rw [hq.1, beqD_ok _ _ hq.2] at g
      exact snd_v hm rfl (ad_glob (glB_ok c h1) g h2)
    · cases h
  | .tup ms, k, md, e, X, wx, c, tk, h => by
    unfold chk at h
    rw [Bool.and_eq_true] at h
    obtain ⟨hm, h⟩ := h
    split at h
    · simp only [Bool.and_eq_true, decide_eq_true_eq] at h
      exact snd_v hm rfl (ad_tup (chkEs_ok ms k _ X wx c tk h.2).1 h.1)
    · cases h
  | .lst ms, k, md, e, X, wx, c, tk, h => by
    unfold chk at h
    rw [Bool.and_eq_true] at h
    obtain ⟨hm, h⟩ := h
    split at h
    · simp only [Bool.and_eq_true, decide_eq_true_eq] at h
      exact snd_f hm rfl lst_is (af_lst (chkEs_ok ms k _ X wx c tk h.2).1 h.1)
    · cases h
  | .bin op a b, k, md, e, X, wx, c, tk, h => by
    unfold chk at h
    rw [Bool.and_eq_true] at h
    obtain ⟨hm, h⟩ := h
    split at h
    · simp only [Bool.and_eq_true] at h
      obtain ⟨⟨⟨h1, h2⟩, h3⟩, h4⟩ := h
      obtain rfl := opB_ok h1
      exact snd_v hm rfl (ad_bin op sub_Fof (ovr_ok fun q => pur_E b (or_imp h2 q)) (chk_ok a k .o _ X wx c tk h3) (chk_ok b k .o _ X wx c tk h4))
    · cases h
  | .neg a, k, md, e, X, wx, c, tk, h => by
    unfold chk at h
    rw [Bool.and_eq_true] at h
    obtain ⟨hm, h⟩ := h
    split at h
    · exact snd_v hm rfl (ad_neg sub_Fof (chk_ok a k .o _ X wx c tk h))
    · cases h
  | .nt a, k, md, e, X, wx, c, tk, h => by
    unfold chk at h
    split at h
    · cases md with
      | t => exact tp_nt (chk_ok a k .t _ X wx c tk h)
      | f => cases h
      | e => exact snd_v (md := .e) rfl rfl (ad_nt sub_Fof (chk_ok a k .o _ X wx c tk h))
      | o => exact snd_v (md := .o) rfl rfl (ad_nt sub_Fof (chk_ok a k .o _ X wx c tk h))
    · cases h
  | .and a b, k, md, e, X, wx, c, tk, h => by
    unfold chk at h
    split at h
    · cases md with
      | t =>
        simp only [Bool.and_eq_true] at h
        exact (tp_and (chk_ok a k .t _ X wx c tk h.1) (tp_and1 (chk_ok b k .t _ X wx c tk h.2))).pt
      | f => cases h
      | e =>
        simp only [Bool.and_eq_true] at h
        exact snd_v (md := .e) rfl rfl (ad_and (chk_ok a k .e _ X wx c tk h.1) (pe_one (chk_ok b k .e _ X wx c tk h.2)))
      | o =>
        simp only [Bool.and_eq_true] at h
        exact snd_v (md := .o) rfl rfl (ad_and (chk_ok a k .e _ X wx c tk h.1) (pe_one (chk_ok b k .e _ X wx c tk h.2)))
    · cases md with
      | t =>
        simp only [Bool.and_eq_true] at h
        exact (tp_and (chk_ok a k .t _ X wx c tk h.1) (pw_of (chk_ok b k .t _ X wx c tk h.2))).pt
      | f => cases h
      | e =>
        simp only [Bool.and_eq_true] at h
        exact snd_v (md := .e) rfl rfl (ad_and (chk_ok a k .e _ X wx c tk h.1) (chk_ok b k .e _ X wx c tk h.2))
      | o =>
        simp only [Bool.and_eq_true] at h
        exact snd_v (md := .o) rfl rfl (ad_and (chk_ok a k .e _ X wx c tk h.1) (chk_ok b k .e _ X wx c tk h.2))
    · cases h
  | .or a b, k, md, e, X, wx, c, tk, h => by
    unfold chk at h
    split at h
    · cases md with
      | t =>
        simp only [Bool.and_eq_true] at h
        exact (tp_or (chk_ok a k .t _ X wx c tk h.1) (tp_or1 (chk_ok b k .t _ X wx c tk h.2))).pt
      | f => cases h
      | e =>
        simp only [Bool.and_eq_true] at h
        exact snd_v (md := .e) rfl rfl (ad_or (chk_ok a k .e _ X wx c tk h.1) (pe_one (chk_ok b k .e _ X wx c tk h.2)))
      | o =>
        simp only [Bool.and_eq_true] at h
        exact snd_v (md := .o) rfl rfl (ad_or (chk_ok a k .e _ X wx c tk h.1) (pe_one (chk_ok b k .e _ X wx c tk h.2)))
    · cases md with
      | t =>
        simp only [Bool.and_eq_true] at h
        exact (tp_or (chk_ok a k .t _ X wx c tk h.1) (pw_of (chk_ok b k .t _ X wx c tk h.2))).pt
      | f => cases h
      | e =>
        simp only [Bool.and_eq_true] at h
        exact snd_v (md := .e) rfl rfl (ad_or (chk_ok a k .e _ X wx c tk h.1) (chk_ok b k .e _ X wx c tk h.2))
      | o =>
        simp only [Bool.and_eq_true] at h
        exact snd_v (md := .o) rfl rfl (ad_or (chk_ok a k .e _ X wx c tk h.1) (chk_ok b k .e _ X wx c tk h.2))
    · cases h
  | .cmp op a b, k, md, e, X, wx, c, tk, h => by
    unfold chk at h
    rw [Bool.and_eq_true] at h
    obtain ⟨hm, h⟩ := h
    split at h
    · simp only [Bool.and_eq_true, Bool.not_eq_true'] at h
      obtain ⟨⟨⟨⟨h1, h2⟩, h5⟩, h3⟩, h4⟩ := h
      obtain rfl := copB_ok h1
      have ho : Over (sx X) (Fof (sx X) a) (evE cs b) := ovr_ok fun q => pur_E b (or_imp h2 q)
      exact snd_t hm rfl (ad_cmp op c.un sub_Fof ho (chk_ok a k .o _ X wx c tk h3) (chk_ok b k .o _ X wx c tk h4) h5) (tp_cmp op c.un sub_Fof ho (chk_ok a k .o _ X wx c tk h3) (chk_ok b k .o _ X wx c tk h4) h5)
    · cases h
  | .chain op op' a b d, k, md, e, X, wx, c, tk, h => by
    unfold chk at h
    rw [Bool.and_eq_true] at h
    obtain ⟨hm, h⟩ := h
    split at h
    · simp only [Bool.and_eq_true, Bool.not_eq_true'] at h
      obtain ⟨⟨⟨⟨⟨⟨⟨h1, h1'⟩, h2⟩, h6⟩, h5⟩, h3⟩, h4⟩, h7⟩ := h
      obtain rfl := copB_ok h1
      obtain rfl := copB_ok h1'
      have ho : Over (sx X) (Fof (sx X) a) (evE cs b) := ovr_ok fun q => pur_E b (or_imp h2 q)
      exact snd_t hm rfl (ad_chain op op' c.un sub_Fof sub_Fof ho (pur_E d h6) (chk_ok a k .o _ X wx c tk h3) (chk_ok b k .o _ X wx c tk h4) (chk_ok d k .o _ X wx c tk h7) h5)
        (tp_chain op op' c.un sub_Fof sub_Fof ho (pur_E d h6) (chk_ok a k .o _ X wx c tk h3) (chk_ok b k .o _ X wx c tk h4) (chk_ok d k .o _ X wx c tk h7) h5)
    · cases h
  | .isNon ng a, k, md, e, X, wx, c, tk, h => by
    unfold chk at h
    rw [Bool.and_eq_true] at h
    obtain ⟨hm, h⟩ := h
    split at h
    · simp only [Bool.and_eq_true, Bool.not_eq_true'] at h
      obtain ⟨rfl, h⟩ := h
      exact snd_t hm rfl (ad_isN sub_Fof (chk_ok a k .o _ X wx c tk h)) (tp_isN sub_Fof (chk_ok a k .o _ X wx c tk h))
    · simp only [Bool.and_eq_true] at h
      obtain ⟨rfl, h⟩ := h
      exact snd_t hm rfl (ad_notN sub_Fof (chk_ok a k .o _ X wx c tk h)) (tp_notN sub_Fof (chk_ok a k .o _ X wx c tk h))
    · cases h
  | .isTru ng a, k, md, e, X, wx, c, tk, h => by
    unfold chk at h
    rw [Bool.and_eq_true] at h
    obtain ⟨hm, h⟩ := h
    split at h
    · simp only [Bool.and_eq_true, Bool.not_eq_true'] at h
      obtain ⟨rfl, h⟩ := h
      exact snd_t hm rfl (ad_isTru (chk_ok a k .e _ X wx c tk h)) (tp_isTru (chk_ok a k .e _ X wx c tk h))
    · simp only [Bool.and_eq_true] at h
      obtain ⟨rfl, h⟩ := h
      exact snd_t hm rfl (ad_notTru (chk_ok a k .e _ X wx c tk h)) (tp_notTru (chk_ok a k .e _ X wx c tk h))
    · cases h
  | .ife t a b, k, md, e, X, wx, c, tk, h => by
    unfold chk at h
    rw [Bool.and_eq_true] at h
    obtain ⟨hm, h⟩ := h
    split at h
    · simp only [Bool.and_eq_true] at h
      exact snd_v hm rfl (ad_ife (chk_ok t k .t _ X wx c tk h.1.1) (chk_ok a k .e _ X wx c tk h.1.2) (chk_ok b k .e _ X wx c tk h.2))
    · cases h
  | .idx a b, k, md, e, X, wx, c, tk, h => by
    unfold chk at h
    rw [Bool.and_eq_true] at h
    obtain ⟨hm, h⟩ := h
    split at h
    · simp only [Bool.and_eq_true] at h
      obtain ⟨⟨⟨h1, h2⟩, h3⟩, h4⟩ := h
      exact snd_v hm rfl (ad_idx c.un sub_Fof (ovr_ok fun q => pur_E b (or_imp h1 q)) (chk_ok a k .o _ X wx c tk h3) (chk_ok b k .o _ X wx c tk h4) h2)
    · cases h
  | .slc a lo hi, k, md, e, X, wx, c, tk, h => by
    unfold chk at h
    rw [Bool.and_eq_true] at h
    obtain ⟨hm, h⟩ := h
    split at h
    · simp only [Bool.and_eq_true] at h
      obtain ⟨⟨⟨⟨h1, h2⟩, h3⟩, h4⟩, h5⟩ := h
      exact snd_v hm rfl (ad_slc sub_Fof (keeps_ok fun q => pur_O lo (or_imp h1 q)) (keeps_ok fun q => pur_O hi (or_imp h2 q)) (chk_ok a k .o _ X wx c tk h3) (chkP_ok lo k _ X wx c tk h4) (chkP_ok hi k _ X wx c tk h5))
    · cases h
  | .rev a, k, md, e, X, wx, c, tk, h => by
    unfold chk at h
    rw [Bool.and_eq_true] at h
    obtain ⟨hm, h⟩ := h
    split at h
    · exact snd_v hm rfl (ad_rev sub_Fof (chk_ok a k .o _ X wx c tk h))
    · cases h
  | .call f ms, k, md, e, X, wx, c, tk, h => by
    unfold chk at h
    rw [Bool.and_eq_true] at h
    obtain ⟨hm, h⟩ := h
    split at h
    · simp only [Bool.and_eq_true, decide_eq_true_eq] at h
      obtain ⟨⟨h1, h2⟩, h3⟩ := h
      obtain ⟨q, s⟩ := chkEs_ok ms k _ X wx c tk h3
      rw [List.all_cons, Bool.and_eq_true] at s
      exact snd_v hm rfl (ad_call (c.call _ _ _ _ h2) c.room c.gu (glB_ok c h1) tk q s.1 s.2 rfl)
    · cases h
  | .callS f i ms, k, md, e, X, wx, c, tk, h => by
    unfold chk at h
    rw [Bool.and_eq_true] at h
    obtain ⟨hm, h⟩ := h
    split at h
    · simp only [Bool.and_eq_true, decide_eq_true_eq] at h
      obtain ⟨⟨⟨h1, h2⟩, h3⟩, h4⟩ := h
      obtain ⟨q, s⟩ := chkEs_ok ms k _ X wx c tk h4
      obtain ⟨q1, q2, q3, q4⟩ := nmV_ok c h3
      exact snd_v hm rfl (ad_callS (c.call _ _ _ _ h2) c.room c.gu (glB_ok c h1) tk q1 q2 q3 q4 q s rfl)
    · cases h
  | .bi b ms, k, md, e, X, wx, c, tk, h => by
    have one := fun (e' : Expr) (h' : chkOs ms k [e'] = true) => (chkOs_ok ms k [e'] X wx c tk h').2.2
    unfold chk at h
    rw [Bool.and_eq_true] at h
    obtain ⟨hm, h⟩ := h
    split at h
    · by_cases hb : bOk b = true
      · rw [if_pos hb] at h
        simp only [Bool.and_eq_true, decide_eq_true_eq] at h
        obtain ⟨⟨rfl, h1⟩, h2⟩ := h
        obtain ⟨q, s, _⟩ := chkOs_ok ms k _ X wx c tk h2
        rw [List.all_cons, Bool.and_eq_true] at s
        have cr := cr_ok (X := X) c.calm c.room.hd c.gu c.un b hb
        have bo := bltB_ok c h1 (boot_ok b hb)
        rcases bv_cases b hb with ⟨id, e⟩ | ⟨T, e⟩
        · rw [e] at cr bo
          exact snd_v hm rfl (ad_bi cr bo s.1 s.2 q)
        · rw [e] at cr bo
          exact snd_v hm rfl (ad_biT cr bo s.1 s.2 q)
      · rw [if_neg hb] at h
        split at h
        · rename_i m0
          split at h
          · split at h
            · rename_i C hC
              simp only [Bool.and_eq_true, decide_eq_true_eq] at h
              obtain ⟨⟨⟨⟨rfl, h1⟩, rfl⟩, h2⟩, h3⟩ := h
              obtain ⟨q, s⟩ := one _ h3 m0 _ rfl rfl
              exact snd_v hm rfl (ad_is sub_Fof hC (bltB_ok c h1 boot_isinst) (bltB_ok c h2 (ty_boot hC)) s q)
            · cases h
          · split at h
            · simp only [Bool.and_eq_true, decide_eq_true_eq] at h
              obtain ⟨⟨⟨⟨⟨⟨rfl, h1⟩, rfl⟩, h2⟩, rfl⟩, h4⟩, h3⟩ := h
              obtain ⟨q, s⟩ := one _ h3 m0 _ rfl rfl
              exact snd_v hm rfl (ad_isIT (bltB_ok c h1 boot_isinst) (bltB_ok c h2 (boot_ok .int rfl)) (bltB_ok c h4 (boot_ok .tuple rfl)) s sub_Fof q)
            · cases h
          · cases h
        · cases h
    · split at h
      · rename_i m0
        split at h
        · simp only [Bool.and_eq_true, decide_eq_true_eq] at h
          obtain ⟨⟨⟨rfl, rfl⟩, h2⟩, h3⟩ := h
          obtain ⟨q, s⟩ := one _ h3 m0 _ rfl rfl
          exact snd_v hm rfl (ad_join sub_Fof q s h2)
        · cases h
      · cases h
    · cases h
  | .pop i m, k, md, e, X, wx, c, tk, h => by
    unfold chk at h
    rw [Bool.and_eq_true] at h
    obtain ⟨hm, h⟩ := h
    split at h
    · simp only [Bool.and_eq_true, decide_eq_true_eq] at h
      obtain ⟨⟨⟨⟨rfl, h1⟩, h2⟩, h3⟩, h4⟩ := h
      obtain ⟨q1, q2, q3, q4⟩ := nmV_ok c h1
      exact snd_v hm rfl (ad_pop q1 q2 q3 q4 (chk_ok m k .e _ X wx c tk h4) h2 h3)
    · cases h
  | .dict0, k, md, e, X, wx, c, tk, h => by
    unfold chk at h
    rw [Bool.and_eq_true] at h
    obtain ⟨hm, h⟩ := h
    split at h
    · exact snd_f hm rfl dict0_is af_dict0
    · cases h
  | .lc m vs tg it cond, k, md, e, X, wx, c, tk, h => by
    unfold chk at h
    rw [Bool.and_eq_true] at h
    obtain ⟨hm, h⟩ := h
    split at h
    · simp only [Bool.and_eq_true] at h
      obtain ⟨⟨⟨⟨⟨⟨⟨h1, h2⟩, h3⟩, h4⟩, h5⟩, h6⟩, h7⟩, h8⟩ := h
      refine snd_f hm rfl lc_is (af_lc c.calm c.nd (fun i hi => of_decide_eq_true (all_ok h1 i hi)) (own_map (k := k) vs) (fun i hi => of_decide_eq_true (all_ok h2 i hi)) (by rw [c.N, c.sc]; exact blkOk_by h3) (chkI_ok it k _ _ X wx c tk h5)
        (fun s H C cl fp => tg_ok (c.blk s H _ C cl fp) tg _ h6) (fun s H C cl fp => chkC_ok cond (k.blk _) _ _ NoX (c.blk s H _ C cl fp) blk_takes h7) (fun s H C cl fp => chk_ok m (k.blk _) .e _ _ NoX (c.blk s H _ C cl fp) blk_takes h8) (set_no h4))
    · cases h
  | .lc2 m vs tg it vs2 tg2 it2 cond, k, md, e, X, wx, c, tk, h => by
    unfold chk at h
    rw [Bool.and_eq_true] at h
    obtain ⟨hm, h⟩ := h
    split at h
    · simp only [Bool.and_eq_true] at h
      obtain ⟨⟨⟨⟨⟨⟨⟨⟨⟨⟨⟨⟨h1, h2⟩, h9⟩, h10⟩, h3⟩, h4⟩, h11⟩, h5⟩, h6⟩, h12⟩, h13⟩, h7⟩, h8⟩ := h
      refine snd_f hm rfl lc2_is (af_lc2 c.calm c.nd (fun i hi => of_decide_eq_true (all_ok h1 i hi)) (own_map (k := k) vs) (fun i hi => of_decide_eq_true (all_ok h2 i hi)) (fun i hi => of_decide_eq_true (all_ok h9 i hi)) (fun i hi => of_decide_eq_true (all_ok h10 i hi))
        (by rw [c.N, c.sc]; exact blkOk_by h3) (chkI_ok it k _ _ X wx c tk h5) (fun s H C cl fp => tg_ok (c.blk s H _ C cl fp) tg _ h6) (fun s H C cl fp => chkI_ok it2 (k.blk _) _ _ _ NoX (c.blk s H _ C cl fp) blk_takes h12) (fun s H C cl fp => tg_ok (c.blk s H _ C cl fp) tg2 _ h13)
        (fun s H C cl fp => chkC_ok cond (k.blk _) _ _ NoX (c.blk s H _ C cl fp) blk_takes h7) (fun s H C cl fp => chk_ok m (k.blk _) .e _ _ NoX (c.blk s H _ C cl fp) blk_takes h8) (set_no h4) (fun env => set_no h11))
    · cases h
  | .dict1 _ _, k, md, e, X, wx, c, tk, h => by unfold chk at h; cases h
  | .lit _, k, md, e, X, wx, c, tk, h => by unfold chk at h; cases h
  | .dc _ _ _ _ _, k, md, e, X, wx, c, tk, h => by unfold chk at h; cases h
theorem chkEs_ok : ∀ (ms : List E) (k : Ck) (es : List Expr) (X : Cx) (wx : WXs), CtxOk X k n ex cs → Takes X (WW ex wx) → chkEs ms k es = true → PA X es (tL (sx X) k.ks wx (evEs cs ms)) ∧ es.all noStar = true
  | [], k, es, X, wx, c, tk, h => by
    unfold chkEs at h
    split at h
    · exact ⟨av_nil, rfl⟩
    · cases h
  | m :: ms, k, es, X, wx, c, tk, h => by
    unfold chkEs at h
    split at h
    · simp only [Bool.and_eq_true] at h
      obtain ⟨q, s⟩ := chkEs_ok ms k _ X wx c tk h.2
      exact ⟨av_cons (chk_ok m k .e _ X wx c tk h.1.2) q h.1.1, by rw [List.all_cons, h.1.1, s]; rfl⟩
    · cases h
theorem chkOs_ok : ∀ (ms : List E) (k : Ck) (es : List Expr) (X : Cx) (wx : WXs), CtxOk X k n ex cs → Takes X (WW ex wx) → chkOs ms k es = true → PA X es (tLO (sx X) k.ks wx (evEs cs ms)) ∧ es.all noStar = true ∧ ∀ m e, ms = [m] → es = [e] → PE X e (tG (sx X) k.ks wx (Fof (sx X) m) (evE cs m)) ∧ noStar e = true
  | [], k, es, X, wx, c, tk, h => by
    unfold chkOs at h
    split at h
    · exact ⟨ao_nil, rfl, fun _ _ z => by cases z⟩
    · cases h
  | m :: ms, k, es, X, wx, c, tk, h => by
    unfold chkOs at h
    split at h
    · simp only [Bool.and_eq_true] at h
      obtain ⟨⟨⟨h1, h2⟩, h3⟩, h4⟩ := h
      obtain ⟨q, s, _⟩ := chkOs_ok ms k _ X wx c tk h4
      have o := chk_ok m k .o _ X wx c tk h3
      exact ⟨ao_cons (ovr_ok fun z => pur_Es ms (or_imp h2 z)) o q h1, by rw [List.all_cons, h1, s]; rfl, fun m' e' z1 z2 => by cases z1; cases z2; exact ⟨o, h1⟩⟩
    · cases h
theorem chkP_ok : ∀ (m : Option E) (k : Ck) (e : Option Expr) (X : Cx) (wx : WXs), CtxOk X k n ex cs → Takes X (WW ex wx) → chkP m k e = true → PO X e (tP (sx X) k.ks wx (evO cs m))
  | none, k, e, X, wx, c, tk, h => by
    unfold chkP at h
    split at h
    · exact ap_none
    · cases h
  | some m, k, e, X, wx, c, tk, h => by
    unfold chkP at h
    split at h
    · exact ap_some (chk_ok m k .e _ X wx c tk h)
    · cases h
theorem chkC_ok : ∀ (m : Option E) (k : Ck) (e : List Expr) (X : Cx) (wx : WXs), CtxOk X k n ex cs → Takes X (WW ex wx) → chkC m k e = true → PTs X e (tT (sx X) k.ks wx (evC cs m))
  | none, k, e, X, wx, c, tk, h => by
    unfold chkC at h
    split at h
    · exact tc_none
    · cases h
  | some m, k, e, X, wx, c, tk, h => by
    unfold chkC at h
    split at h
    · exact tc_some (chk_ok m k .t _ X wx c tk h)
    · cases h
theorem chkI_ok : ∀ (it : It) (k : Ck) (tg e : Expr) (X : Cx) (wx : WXs), CtxOk X k n ex cs → Takes X (WW ex wx) → chkI it k tg e = true → PI X tg e (tI (sx X) k.ks wx (evI cs it))
  | .e m, k, tg, e, X, wx, c, tk, h => by
    unfold chkI at h
    exact it_seq (chk_ok m k .e _ X wx c tk h)
  | .r1 a, k, tg, e, X, wx, c, tk, h => by
    unfold chkI at h
    split at h
    · simp only [Bool.and_eq_true, decide_eq_true_eq] at h
      obtain ⟨⟨⟨rfl, h1⟩, h2⟩, h3⟩ := h
      exact it_r1 (bltB_ok c h1 boot_range') h2 (chk_ok a k .e _ X wx c tk h3)
    · cases h
  | .r2 a b, k, tg, e, X, wx, c, tk, h => by
    unfold chkI at h
    split at h
    · simp only [Bool.and_eq_true, decide_eq_true_eq] at h
      obtain ⟨⟨⟨⟨⟨rfl, h1⟩, h2⟩, h3⟩, h4⟩, h5⟩ := h
      exact it_r2 (bltB_ok c h1 boot_range') h2 h3 (chk_ok a k .e _ X wx c tk h4) (chk_ok b k .e _ X wx c tk h5)
    · cases h
  | .r3 a b d, k, tg, e, X, wx, c, tk, h => by
    unfold chkI at h
    split at h
    · simp only [Bool.and_eq_true, decide_eq_true_eq] at h
      obtain ⟨⟨⟨⟨⟨⟨⟨rfl, h1⟩, h2⟩, h3⟩, h4⟩, h5⟩, h6⟩, h7⟩ := h
      exact it_r3 (bltB_ok c h1 boot_range') h2 h3 h4 (chk_ok a k .e _ X wx c tk h5) (chk_ok b k .e _ X wx c tk h6) (chk_ok d k .e _ X wx c tk h7)
    · cases h
  | .enum _, k, tg, e, X, wx, c, tk, h => by unfold chkI at h; cases h
  | .zip a b, k, tg, e, X, wx, c, tk, h => by
    unfold chkI at h
    split at h
    · split at h
      · simp only [Bool.and_eq_true, decide_eq_true_eq] at h
        obtain ⟨⟨⟨⟨⟨rfl, h1⟩, h2⟩, h3⟩, h4⟩, h5⟩ := h
        exact it_zip (bltB_ok c h1 boot_zip') h2 h3 (chk_ok a k .e _ X wx c tk h4) (chk_ok b k .e _ X wx c tk h5)
      · cases h
    · cases h
end
end
end G

set_option Elab.async false
set_option linter.all false
set_option maxRecDepth 100000
set_option maxHeartbeats 4000000
set_option autoImplicit false
/-! G23: the checker of statements, and that it is right. -/
namespace G
open PySem PySem.Spec PyProof.Rows L2

/-- a name that's not a local one: a cell -/
def notLoc (sc : Scope) (x : Str) : Bool := match sc.names.lookup x with | some .local => false | _ => true
theorem sw_cell {e : Expr} {x : Str} {p : Pos} {l : Nat} {env : PySem.Env} (h : notLoc env.scope x = true) : swapsWith e (some (.Name x p)) l env = pure false := by
  have kb : (env.kindOf x == some .local) = false := by
    unfold notLoc at h
    show (env.scope.names.lookup x == some .local) = false
    generalize env.scope.names.lookup x = o at *
    cases o with
    | none => rfl
    | some k => cases k <;> first | rfl | cases h
  unfold swapsWith
  cases e <;> first | rfl | (simp only [kb, Bool.and_false, Bool.false_and])
/-- name = [..] on one line -/
def swB (sc : Scope) (x : Str) (p : Pos) (e : Expr) : Bool := match e with
  | .ListComp _ _ s q => (match sc.names.lookup x with | some .local => true | _ => false) && (p.line == q.line) && !(s.names.any fun (n, k) => n == x && (k == .local || k == .cell))
  | _ => false
def isLC : E → Bool
  | .lc .. => true
  | .lc2 .. => true
  | _ => false
def fnB (sc : Scope) : Bool := match sc.kind with | .function => true | _ => false
def locB (sc : Scope) (x : Str) : Bool := match sc.names.lookup x with | some .local => true | _ => false
/-- a, b = x, y: the stores from the right -/
def par2B (sc : Scope) (x y : Str) (px py : Pos) (a b : Expr) : Bool := fnB sc && locB sc x && locB sc y && (py.line == px.line) && !(x == y) && noStar a && noStar b && !([a, b].all (foldedForSure 8)) && !([a, b].all (constantsAlone 8))
def par3B (sc : Scope) (x y z : Str) (px py pz : Pos) (a b d : Expr) : Bool := fnB sc && locB sc x && locB sc y && locB sc z && (py.line == px.line) && (pz.line == px.line) && !(x == y) && !(x == z) && !(y == z) && noStar a && noStar b && noStar d && !([a, b, d].all (foldedForSure 8)) && !([a, b, d].all (constantsAlone 8))
def exB? : Str → Option Ex := fun x => if x = exN .unfit then some .unfit else if x = exN .wide then some .wide else none
/-- the clauses -/
def hdB (k : Ck) : List (Ex × Nat × Bool) → List ExceptHandler → Bool
  | [], [] => true
  | (c, i, b) :: hs, .ExceptHandler (some (.Name x _)) (some nm) body _ :: hds => decide (x = exN c) && glB k x && decide (k.N[i]? = some nm) && locB k.sc nm && !(nm == ("__debug__" : Str)) && !(nm == ("__classdict__" : Str)) && decide (i ∉ k.ks.fx) && bltB k (Str.ofString "isinstance") && bltB k (Str.ofString "ValueError") &&
    (match b, body with
      | true, [.Return (some (.IfExp (.Call (.Name f _) [.Name n1 _, .Name v _] [] _) (.Tuple [] _ _) (.Constant .none _ _) _)) _] => decide (f = Str.ofString "isinstance") && decide (n1 = nm) && decide (v = Str.ofString "ValueError")
      | false, [.If (.UnaryOp .Not (.Call (.Name f _) [.Name n1 _, .Name v _] [] _) _) [.Return (some (.Constant (.bool false) _ _)) _] [] _] => decide (f = Str.ofString "isinstance") && decide (n1 = nm) && decide (v = Str.ofString "ValueError")
      | _, _ => false) && hdB k hs hds
  | _, _ => false
/-- a list of what is stored at once -/
def chkPN : List Bool → List E → Ck → List Expr → Bool
  | [], [], _, [] => true
  | o :: os, m :: ms, k, e :: es => noStar e && chk m k (if o then .f else .e) e && chkPN os ms k es
  | _, _, _, _ => false

mutual
def chkS : S → Ck → Stmt → Bool
  | .setv tg m, k, s => (match s with
    | .Assign [.Name x tp] e _ => (match tg with | .n i => nmS k i x && (((notComp e || notLoc k.sc x) && chk m k .e e) || (swB k.sc x tp e && isLC m && chk m k .f e)) | _ => false)
    | .Assign [.Tuple es q tp] e _ => notTup e && chk m k .e e && chkTg tg k (.Tuple es q tp)
    | _ => false)
  | .seto i m, k, s => (match s with
    | .Assign [.Name x tp] e _ => nmS k i x && decide (i ∈ k.ks.ow) && (((notComp e || notLoc k.sc x) && chk m k .f e) || (swB k.sc x tp e && isLC m && chk m k .f e))
    | _ => false)
  | .par is ms, k, s => (match s with
    | .Assign [.Tuple [.Name x px, .Name y py] _ _] (.Tuple [a, b] _ _) _ => (match is with
      | [(i, oi), (j, oj)] => par2B k.sc x y px py a b && nmS k i x && nmS k j y && (!oi || decide (i ∈ k.ks.ow)) && (!oj || decide (j ∈ k.ks.ow)) && !(i == j) && chkPN [oi, oj] ms k [a, b]
      | _ => false)
    | .Assign [.Tuple [.Name x px, .Name y py, .Name z pz] _ _] (.Tuple [a, b, d] _ _) _ => (match is with
      | [(i, oi), (j, oj), (l, ol)] => par3B k.sc x y z px py pz a b d && nmS k i x && nmS k j y && nmS k l z && (!oi || decide (i ∈ k.ks.ow)) && (!oj || decide (j ∈ k.ks.ow)) && (!ol || decide (l ∈ k.ks.ow)) && !(i == j) && !(i == l) && !(j == l) && chkPN [oi, oj, ol] ms k [a, b, d]
      | _ => false)
    | _ => false)
  | .setx i mk m, k, s => (match s with
    | .Assign [.Subscript (.Name x _) ik _] e _ => nmV k i x && noSlice ik && chk m k .e e && chk mk k .e ik
    | _ => false)
  | .augx i mk op m, k, s => (match s with
    | .AugAssign (.Subscript (.Name x _) ik _) o e _ => opB op o && nmV k i x && noSlice ik && chk m k .e e && chk mk k .e ik
    | _ => false)
  | .aug i op m, k, s => (match s with
    | .AugAssign (.Name x _) o e _ => opB op o && nmS k i x && chk m k .e e
    | _ => false)
  | .app i m, k, s => (match s with
    | .Expr (.Call (.Attribute (.Name x _) mth ap) [e] [] cp) _ => decide (mth = Str.ofString "append") && nmV k i x && noStar e && oneLine ap cp && chk m k .e e
    | _ => false)
  | .ext i m, k, s => (match s with
    | .Expr (.Call (.Attribute (.Name x _) mth ap) [e] [] cp) _ => decide (mth = Str.ofString "extend") && nmV k i x && noStar e && oneLine ap cp && chk m k .e e
    | _ => false)
  | .setdef _ _ _, _, _ => false
  | .expr m, k, s => (match s with
    | .Expr e _ => notComp e && chk m k .e e
    | _ => false)
  | .ift m a b, k, s => (match s with
    | .If e x y _ => chk m k .t e && chkB a k x && chkB b k y
    | _ => false)
  | .whl m a, k, s => (match s with
    | .While e x [] _ => chk m k .t e && chkB a k x
    | _ => false)
  | .fr tg it a, k, s => (match s with
    | .For t i x [] _ => noSet i && chkTg tg k t && chkI it k t i && chkB a k x
    | _ => false)
  | .brk, _, s => (match s with | .Break _ => true | _ => false)
  | .cont, _, s => (match s with | .Continue _ => true | _ => false)
  | .ret m, k, s => (match s with | .Return (some e) _ => chk m k .e e | _ => false)
  | .raise c, k, s => (match s with | .Raise (some (.Call (.Name x _) [.Constant (.str _) _ _] [] _)) none _ => decide (x = exN c) && glB k x | _ => false)
  | .tr a hs, k, s => (match s with | .Try x (h0 :: hds) [] [] _ => chkB a k x && hdB k hs (h0 :: hds) | _ => false)
  | .kl _, _, _ => false
  | .fz _, _, _ => false
def chkB : List S → Ck → List Stmt → Bool
  | [], _, ss => (match ss with | [] => true | _ => false)
  | s :: rest, k, ss => (match isGhost s with
    | some vs => (vs.all fun i => decide (i ∉ k.ks.fx)) && chkB rest k ss
    | none => (match ss with | st :: sts => chkS s k st && chkB rest k sts | [] => false))
where isGhost : S → Option (List Nat)
  | .kl vs => some vs
  | .fz vs => some vs
  | _ => none
end

structure StOk (X : Cx) (k : Ck) (n : Nat) (ex : Exs) (cs : CS) : Prop extends CtxOk X k n ex cs where
  stk : X.stack = X.env :: X.outer
  fr : X.env.frame = some X.env.locals
  po : PassesOwn (model X.prog X.w) X.A X.env X.xe
  exf : ExF X.K X.mg ex
  kind : X.env.scope.kind = .function

def isS : Expr → Bool
  | .Starred _ _ => true
  | _ => false
theorem isS_no {e : Expr} (h : noStar e = true) : isS e = false := by
  cases e <;> first | rfl | cases h
def nmL (env : PySem.Env) (l : Nat) : Expr → Option Str
  | .Name id pos => if env.kindOf id == some .local && pos.line == l then some id else none
  | _ => none
theorem sw_unf {ts vs : List Expr} {kt k2 : Nat} {pt pt2 : Pos} {env : PySem.Env} : swappedStores [.Tuple ts kt pt] (.Tuple vs k2 pt2) env =
    (if (!(ts.length == 2 || ts.length == 3) || vs.length != ts.length || env.blockKind != .function) = true then pure none else
     if vs.any isS = true then pure none else
     if ((ts.filterMap (nmL env ((ts.head?.map (·.pos.line)).getD 0))).length != ts.length || (ts.filterMap (nmL env ((ts.head?.map (·.pos.line)).getD 0))).eraseDups.length != (ts.filterMap (nmL env ((ts.head?.map (·.pos.line)).getD 0))).length) = true then pure none else
     if vs.all (foldedForSure 8) = true then pure none else
     if vs.all (constantsAlone 8) = true then (do unsupported "assign.tuple-of-constant-expressions:order-of-the-stores"; pure (some (ts.filterMap (nmL env ((ts.head?.map (·.pos.line)).getD 0)))))
     else pure (some (ts.filterMap (nmL env ((ts.head?.map (·.pos.line)).getD 0))))) := rfl
theorem locB_ok {sc : Scope} {x : Str} (h : locB sc x = true) : sc.names.lookup x = some .local := by
  unfold locB at h
  split at h
  · assumption
  · cases h
section
variable {X : Cx} {k : Ck} {n : Nat} {ex : Exs} {cs : CS} {wx : WXs} {m : E} {e : Expr} {x y z : Str} {i : Nat} {p pos px py pz pt pt2 : Pos} {kt k2 : Nat} {a b d : Expr}
theorem par2_ok (hk : X.env.scope.kind = .function) (hsc : X.env.scope = k.sc) (h : par2B k.sc x y px py a b = true) :
    swappedStores [.Tuple [.Name x px, .Name y py] kt pt] (.Tuple [a, b] k2 pt2) X.env = pure (some [x, y]) ∧ X.env.scope.names.lookup x = some .local ∧ X.env.scope.names.lookup y = some .local := by
  unfold par2B at h
  simp only [Bool.and_eq_true, Bool.not_eq_true'] at h
  obtain ⟨⟨⟨⟨⟨⟨⟨⟨h1, h2⟩, h3⟩, h4⟩, h5⟩, h6⟩, h7⟩, h8⟩, h9⟩ := h
  have lx : X.env.scope.names.lookup x = some .local := by rw [hsc]; exact locB_ok h2
  have ly : X.env.scope.names.lookup y = some .local := by rw [hsc]; exact locB_ok h3
  refine ⟨?_, lx, ly⟩
  have bk : X.env.blockKind = .function := by unfold Env.blockKind; rw [hk]; rfl
  have kx : X.env.kindOf x = some .local := lx
  have ky : X.env.kindOf y = some .local := ly
  have ns : [a, b].any isS = false := by
    rw [List.any_cons, List.any_cons, isS_no h6, isS_no h7]; rfl
  have hn : [Expr.Name x px, Expr.Name y py].filterMap (nmL X.env (([Expr.Name x px, Expr.Name y py].head?.map (·.pos.line)).getD 0)) = [x, y] := by
    have e1 : nmL X.env px.line (.Name x px) = some x := by simp [nmL, kx]
    have e2 : nmL X.env px.line (.Name y py) = some y := by simp [nmL, ky, beq_iff_eq.mp h4]
    show [Expr.Name x px, Expr.Name y py].filterMap (nmL X.env px.line) = [x, y]
    rw [List.filterMap_cons, e1, List.filterMap_cons, e2]
    rfl
  have hne : (y == x) = false := by
    rw [Bool.eq_false_iff] at h5 ⊢
    intro q
    exact h5 (beq_iff_eq.mpr (beq_iff_eq.mp q).symm)
  have dd : [x, y].eraseDups = [x, y] := by
    simp [List.eraseDups_cons, hne]
  rw [sw_unf, hn, dd, ns, h8, h9, bk]
  rfl
theorem par3_ok (hk : X.env.scope.kind = .function) (hsc : X.env.scope = k.sc) (h : par3B k.sc x y z px py pz a b d = true) :
    swappedStores [.Tuple [.Name x px, .Name y py, .Name z pz] kt pt] (.Tuple [a, b, d] k2 pt2) X.env = pure (some [x, y, z]) ∧ X.env.scope.names.lookup x = some .local ∧ X.env.scope.names.lookup y = some .local ∧ X.env.scope.names.lookup z = some .local := by
  unfold par3B at h
  simp only [Bool.and_eq_true, Bool.not_eq_true'] at h
  obtain ⟨⟨⟨⟨⟨⟨⟨⟨⟨⟨⟨⟨⟨h1, h2⟩, h3⟩, h3'⟩, h4⟩, h4'⟩, h5⟩, h5'⟩, h5''⟩, h6⟩, h7⟩, h7'⟩, h8⟩, h9⟩ := h
  have lx : X.env.scope.names.lookup x = some .local := by rw [hsc]; exact locB_ok h2
  have ly : X.env.scope.names.lookup y = some .local := by rw [hsc]; exact locB_ok h3
  have lz : X.env.scope.names.lookup z = some .local := by rw [hsc]; exact locB_ok h3'
  refine ⟨?_, lx, ly, lz⟩
  have bk : X.env.blockKind = .function := by unfold Env.blockKind; rw [hk]; rfl
  have kx : X.env.kindOf x = some .local := lx
  have ky : X.env.kindOf y = some .local := ly
  have kz : X.env.kindOf z = some .local := lz
  have ns : [a, b, d].any isS = false := by
    rw [List.any_cons, List.any_cons, List.any_cons, isS_no h6, isS_no h7, isS_no h7']; rfl
  have hn : [Expr.Name x px, Expr.Name y py, Expr.Name z pz].filterMap (nmL X.env (([Expr.Name x px, Expr.Name y py, Expr.Name z pz].head?.map (·.pos.line)).getD 0)) = [x, y, z] := by
    have e1 : nmL X.env px.line (.Name x px) = some x := by simp [nmL, kx]
    have e2 : nmL X.env px.line (.Name y py) = some y := by simp [nmL, ky, beq_iff_eq.mp h4]
    have e3 : nmL X.env px.line (.Name z pz) = some z := by simp [nmL, kz, beq_iff_eq.mp h4']
    show [Expr.Name x px, Expr.Name y py, Expr.Name z pz].filterMap (nmL X.env px.line) = [x, y, z]
    rw [List.filterMap_cons, e1, List.filterMap_cons, e2, List.filterMap_cons, e3]
    rfl
  have sy : ∀ {u v : Str}, (u == v) = false → (v == u) = false := fun {u v} h => by
    rw [Bool.eq_false_iff] at h ⊢
    intro q
    exact h (beq_iff_eq.mpr (beq_iff_eq.mp q).symm)
  have dd : [x, y, z].eraseDups = [x, y, z] := by
    simp [List.eraseDups_cons, sy h5, sy h5', sy h5'']
  rw [sw_unf, hn, dd, ns, h8, h9, bk]
  rfl
end
end G

set_option Elab.async false
set_option linter.all false
set_option maxRecDepth 100000
set_option maxHeartbeats 4000000
set_option autoImplicit false
/-! G24: the checker of statements is right. -/
namespace G
open PySem PySem.Spec PyProof.Rows L2

section
variable {n : Nat} {ex : Exs} {cs : CS}
theorem pl_asg {a : Expr} {x : Str} {p1 tp : Pos} {k : Expr} {env : PySem.Env} (h : noSlice k = true) : ∀ v, assign (.Subscript (.Name x p1) k tp) env v = (do
      let ov ← holding [v] (eval (.Name x p1) env)
      let iv ← holding [v, ov] (eval k env)
      standAt tp
      holding [v, ov, iv] (setItem ov iv v)
      release [v, ov, iv] []) := by
  intro v
  cases k <;> first | rfl | cases h
theorem pl_aug {k : Expr} (h : noSlice k = true) : ∀ ov iv new, augStore k ov iv new = (do holding [new, ov, iv] (setItem ov iv new); release [new, ov, iv] []; pure .next) := by
  intro ov iv new
  cases k <;> first | rfl | cases h
theorem sw_hl {x : Str} {p : Pos} {e : Expr} {sc : Scope} (h : swB sc x p e = true) : ∃ el gs s q, e = .ListComp el gs s q ∧ sc.names.lookup x = some .local ∧ (p.line == q.line) = true ∧ (s.names.any fun (n, k) => n == x && (k == .local || k == .cell)) = false := by
  unfold swB at h
  split at h
  · simp only [Bool.and_eq_true, Bool.not_eq_true'] at h
    refine ⟨_, _, _, _, rfl, ?_, h.1.2, h.2⟩
    have := h.1.1
    split at this
    · assumption
    · cases this
  · cases h
theorem as_swap {X : Cx} {k : Ck} {wx : WXs} {m : E} {e : Expr} {x : Str} {i : Nat} {tp pos : Pos} (st : StOk X k n ex cs) (tk : Takes X (WW ex wx)) (nm : NmOk X k.ks i x) (h1 : swB k.sc x tp e = true) (h2 : isLC m = true) (h3 : chk m k .f e = true) :
    PS X (.Assign [.Name x tp] e pos) (tAsg (tF (sx X) k.ks wx (evE cs m)) (gName i)) := by
  have c := st.toCtxOk
  obtain ⟨el, gs, s, q, rfl, lo, hl, ha⟩ := sw_hl h1
  have lo' : X.env.scope.names.lookup x = some .local := by rw [st.sc]; exact lo
  have sw := sw_true (elt := el) (gs := gs) (scope := s) (pos := q) (py := tp) (y := x) (l := pos.line) st.kind lo' hl ha
  cases m <;> first | (cases h2; done) | skip
  · rename_i m vs tg it cond
    unfold chk at h3
    rw [Bool.and_eq_true] at h3
    replace h3 := h3.2
    split at h3
    · rename_i e0 x0 tge iter ifs scope p0 he0
      cases he0
      simp only [Bool.and_eq_true] at h3
      obtain ⟨⟨⟨⟨⟨⟨⟨h1, h2⟩, h3⟩, h4⟩, h5⟩, h6⟩, h7⟩, h8⟩ := h3
      refine (ps_setLc (g := tTg (sx X) k.ks tg) (tt := tT (sx X) k.ks NoX (evC cs cond)) (te := tE (sx X) k.ks NoX (evE cs m)) c.calm c.nd nm.at_ lo' sw (chkI_ok it k _ _ X wx c tk h5) (by rw [c.N, c.sc]; exact blkOk_by h3) (fun s H C cl fp => tg_ok (c.blk s H _ C cl fp) tg _ h6) (fun s H C cl fp => chkC_ok cond (k.blk _) _ _ NoX (c.blk s H _ C cl fp) blk_takes h7)
        (fun s H C cl fp => chk_ok m (k.blk _) .e _ _ NoX (c.blk s H _ C cl fp) blk_takes h8) (set_no h4)).imp fun D σ H h => ?_
      exact t_lc (fun i hi => of_decide_eq_true (all_ok h1 i hi)) (own_map (k := k) vs) (fun i hi => of_decide_eq_true (all_ok h2 i hi)) h
    · cases h3
  · rename_i m vs tg it vs2 tg2 it2 cond
    unfold chk at h3
    rw [Bool.and_eq_true] at h3
    replace h3 := h3.2
    split at h3
    · rename_i e0 x0 tge iter tge2 iter2 ifs scope p0 he0
      cases he0
      simp only [Bool.and_eq_true] at h3
      obtain ⟨⟨⟨⟨⟨⟨⟨⟨⟨⟨⟨⟨h1, h2⟩, h9⟩, h10⟩, h3⟩, h4⟩, h11⟩, h5⟩, h6⟩, h12⟩, h13⟩, h7⟩, h8⟩ := h3
      refine (ps_setLc2 (g := tTg (sx X) k.ks tg) (wi1 := tI (sx X) k.ks NoX (evI cs it2)) (g1 := tTg (sx X) k.ks tg2) (tt1 := tT (sx X) k.ks NoX (evC cs cond)) (te := tE (sx X) k.ks NoX (evE cs m)) c.calm c.nd nm.at_ lo' sw (chkI_ok it k _ _ X wx c tk h5) (by rw [c.N, c.sc]; exact blkOk_by h3) (vs1 := vs2) (by rw [own_map]; exact fun i hi => of_decide_eq_true (all_ok h10 i hi)) (fun s H C cl fp => tg_ok (c.blk s H _ C cl fp) tg _ h6)
        (tt := tT (sx X) k.ks NoX (evC cs none)) (fun s H C cl fp => tc_none (X := X.blk s H _ (compEnvC _ cl C X.env) fp) (ks := k.ks) (wx := NoX) (cs := cs))
        (fun s H C cl fp => chkI_ok it2 (k.blk _) _ _ _ NoX (c.blk s H _ C cl fp) blk_takes h12) (fun s H C cl fp => tg_ok (c.blk s H _ C cl fp) tg2 _ h13) (fun s H C cl fp => chkC_ok cond (k.blk _) _ _ NoX (c.blk s H _ C cl fp) blk_takes h7)
        (fun s H C cl fp => chk_ok m (k.blk _) .e _ _ NoX (c.blk s H _ C cl fp) blk_takes h8) (set_no h4) (fun env => set_no h11)).imp fun D σ H h => ?_
      exact t_lc2 (fun i hi => of_decide_eq_true (all_ok h1 i hi)) (own_map (k := k) vs) (fun i hi => of_decide_eq_true (all_ok h2 i hi)) (fun i hi => of_decide_eq_true (all_ok h9 i hi)) (fun i hi => of_decide_eq_true (all_ok h10 i hi)) h
    · cases h3
theorem lc_isF {m : E} (h : isLC m = true) (ρ : Env) (d : D) (ρ' : Env) (e : evE cs m ρ = .ok d ρ') : (∃ ds, d = .list ds) ∨ ∃ ds, d = .dict ds := by
  cases m <;> first | (cases h; done) | skip
  · exact lc_is ρ d ρ' e
  · exact lc2_is ρ d ρ' e
theorem chkPN_ok {k : Ck} {X : Cx} {wx : WXs} (c : CtxOk X k n ex cs) (tk : Takes X (WW ex wx)) : ∀ (os : List Bool) (ms : List E) (es : List Expr), chkPN os ms k es = true → PA X es (tPN (sx X) k.ks wx os (evPs cs os ms))
  | [], [], [], _ => pn_nil
  | [], [], _ :: _, h => by simp [chkPN] at h
  | [], _ :: _, _, h => by simp [chkPN] at h
  | _ :: _, [], _, h => by simp [chkPN] at h
  | _ :: _, _ :: _, [], h => by simp [chkPN] at h
  | o :: os, m :: ms, e :: es, h => by
    rw [chkPN] at h
    simp only [Bool.and_eq_true] at h
    have r := chkPN_ok c tk os ms es h.2
    cases o with
    | true => exact pn_own (chk_ok m k .f _ X wx c tk h.1.2) r h.1.1
    | false => exact pn_val (chk_ok m k .e _ X wx c tk h.1.2) r h.1.1
theorem StOk.try_ {X : Cx} {k : Ck} (st : StOk X k n ex cs) (pn : List (Addr × Obj)) (xe : Value → Shared → Prop) (po : PassesOwn (model X.prog X.w) X.A X.env xe) : StOk (X.tr pn xe) k n ex cs :=
  ⟨⟨st.N, st.nd, st.sc, st.fnc, st.calm, st.room, st.gu, st.cons, st.bl, fun f x np io h => ⟨(st.call f x np io h).ex, (st.call f x np io h).db⟩⟩, st.stk, st.fr, po, st.exf, st.kind⟩
theorem exN_db (c : Ex) : (exN c == ("__debug__" : Str)) = false := by cases c <;> decide +kernel
theorem hdB_ok {X : Cx} {k : Ck} (st : StOk X k n ex cs) : ∀ (hs : List (Ex × Nat × Bool)) (hds : List ExceptHandler), hdB k hs hds = true → AsOk X hds (hlOf ex hs) ∧ (∀ h ∈ hs, h.2.1 ∉ k.ks.fx) ∧ ∀ h ∈ hs, h.2.1 < X.N.length
  | [], hds, h => by
    unfold hdB at h
    split at h
    · exact ⟨.nil, fun _ z => by simp at z, fun _ z => by simp at z⟩
    · cases ‹([] : List (Ex × Nat × Bool)) = _ :: _›
    · cases h
  | (c, i, b) :: hs, hds, h => by
    unfold hdB at h
    split at h
    · cases ‹(c, i, b) :: hs = ([] : List (Ex × Nat × Bool))›
    · rename_i c' i' b' hs' x np nm body hp hds' q1
      cases q1
      simp only [Bool.and_eq_true, decide_eq_true_eq, Bool.not_eq_true'] at h
      obtain ⟨⟨⟨⟨⟨⟨⟨⟨⟨⟨h1, h2⟩, h3⟩, h4⟩, h5⟩, h6⟩, h7⟩, h8⟩, h9⟩, h10⟩, h11⟩ := h
      obtain ⟨g1, g2, g3⟩ := hdB_ok st hs hds' h11
      subst h1
      have hN : X.N[i]? = some nm := by rw [st.N]; exact h3
      have lo : X.env.scope.names.lookup nm = some .local := by rw [st.sc]; exact locB_ok h4
      have bi := bltB_ok st.toCtxOk h8 boot_isinst
      have bv := bltB_ok st.toCtxOk h9 boot_ve
      have nm' : Names X (exN c) (.ref (exA ex c)) := ⟨glB_ok st.toCtxOk h2, exN_db c, .inl (st.exf.mg c)⟩
      have b1 : ∀ h ∈ (c, i, b) :: hs, h.2.1 ∉ k.ks.fx := fun h hh => by
        rcases List.mem_cons.mp hh with e | hh
        · rw [e]; exact h7
        · exact g2 h hh
      have b2 : ∀ h ∈ (c, i, b) :: hs, h.2.1 < X.N.length := fun h hh => by
        rcases List.mem_cons.mp hh with e | hh
        · rw [e]; exact (List.getElem?_eq_some_iff.mp hN).1
        · exact g3 h hh
      split at h10
      · simp only [Bool.and_eq_true, decide_eq_true_eq] at h10
        obtain ⟨⟨rfl, rfl⟩, rfl⟩ := h10
        refine ⟨.cons nm' hN lo (fun p ob cls d pn z hf => ?_) g1, b1, b2⟩
        exact (suite_ret st.exf bi bv hN (.inl lo) h5 h6 z hf).imp fun D σ H ⟨c, e1, e2, e3, e4⟩ => ⟨c, e1, e2, e3, by rw [if_pos rfl] at e4; exact e4⟩
      · simp only [Bool.and_eq_true, decide_eq_true_eq] at h10
        obtain ⟨⟨rfl, rfl⟩, rfl⟩ := h10
        refine ⟨.cons nm' hN lo (fun p ob cls d pn z hf => ?_) g1, b1, b2⟩
        exact (suite_on st.exf bi bv hN (.inl lo) h5 h6 z hf).imp fun D σ H ⟨c, e1, e2, e3, e4⟩ => ⟨c, e1, e2, e3, by rw [if_neg (by simp)] at e4; exact e4⟩
      · cases h10
    · cases h
mutual
theorem chkS_ok : ∀ (s : S) (k : Ck) (st : Stmt) (X : Cx) (wx : WXs), StOk X k n ex cs → Takes X (WW ex wx) → chkS s k st = true → PS X st (tS (sx X) k.ks wx (exS cs s))
  | .setv tg m, k, s, X, wx, c, tk, h => by
    unfold chkS at h
    split at h
    · split at h
      · simp only [Bool.and_eq_true, Bool.or_eq_true] at h
        obtain ⟨h1, h2⟩ := h
        have nm := nmS_ok c.toCtxOk h1
        rcases h2 with ⟨h2, h3⟩ | ⟨⟨h2, h4⟩, h3⟩
        · exact as_setv nm c.nd (chk_ok m k .e _ X wx c.toCtxOk tk h3) (h2.elim sw_no fun h2 => sw_cell (by rw [c.sc]; exact h2))
        · exact (as_swap c tk nm h2 h4 h3).imp fun D σ H h => tE_tF (lc_isF h4) (t_setv nm.fx h)
      · cases h
    · simp only [Bool.and_eq_true] at h
      exact as_setT (chk_ok m k .e _ X wx c.toCtxOk tk h.1.2) (tg_ok c.toCtxOk tg _ h.2) h.1.1
    · cases h
  | .seto i m, k, s, X, wx, c, tk, h => by
    unfold chkS at h
    split at h
    · simp only [Bool.and_eq_true, Bool.or_eq_true, decide_eq_true_eq] at h
      obtain ⟨⟨h1, h0⟩, h2⟩ := h
      have nm := nmS_ok c.toCtxOk h1
      rcases h2 with ⟨h2, h3⟩ | ⟨⟨h2, h4⟩, h3⟩
      · exact as_seto nm h0 c.nd (chk_ok m k .f _ X wx c.toCtxOk tk h3) (h2.elim sw_no fun h2 => sw_cell (by rw [c.sc]; exact h2))
      · exact (as_swap c tk nm h2 h4 h3).imp fun D σ H h => t_seto nm.fx h0 h
    · cases h
  | .par is ms, k, s, X, wx, c, tk, h => by
    unfold chkS at h
    split at h
    · split at h
      · simp only [Bool.and_eq_true, Bool.not_eq_true', beq_eq_false_iff_ne] at h
        obtain ⟨⟨⟨⟨⟨⟨h1, h2⟩, h3⟩, h4⟩, h5⟩, h6⟩, h7⟩ := h
        obtain ⟨_, g2, g3⟩ := par2_ok (kt := 0) (k2 := 0) (pt := ⟨0, 0, 0, 0⟩) (pt2 := ⟨0, 0, 0, 0⟩) c.kind c.sc h1
        have pa := chkPN_ok c.toCtxOk tk _ _ _ h7
        match ms, pa, h7 with
        | [ma, mb], pa, _ => exact as_par2 c.calm c.nd (nmS_ok c.toCtxOk h2) (nmS_ok c.toCtxOk h3) (fun q => of_decide_eq_true (or_imp h4 q)) (fun q => of_decide_eq_true (or_imp h5 q)) h6 g2 g3 pa (par2_ok c.kind c.sc h1).1
        | [], _, h7 => simp [chkPN] at h7
        | [_], _, h7 => simp [chkPN] at h7
        | _ :: _ :: _ :: _, _, h7 => simp [chkPN] at h7
      · cases h
    · split at h
      · simp only [Bool.and_eq_true, Bool.not_eq_true', beq_eq_false_iff_ne] at h
        obtain ⟨⟨⟨⟨⟨⟨⟨⟨⟨⟨h1, h2⟩, h3⟩, h3'⟩, h4⟩, h5⟩, h5'⟩, h6⟩, h6'⟩, h6''⟩, h7⟩ := h
        obtain ⟨_, g2, g3, g4⟩ := par3_ok (kt := 0) (k2 := 0) (pt := ⟨0, 0, 0, 0⟩) (pt2 := ⟨0, 0, 0, 0⟩) c.kind c.sc h1
        have pa := chkPN_ok c.toCtxOk tk _ _ _ h7
        match ms, pa, h7 with
        | [ma, mb, md], pa, _ => exact as_par3 c.calm c.nd (nmS_ok c.toCtxOk h2) (nmS_ok c.toCtxOk h3) (nmS_ok c.toCtxOk h3') (fun q => of_decide_eq_true (or_imp h4 q)) (fun q => of_decide_eq_true (or_imp h5 q)) (fun q => of_decide_eq_true (or_imp h5' q)) h6 h6' h6'' g2 g3 g4 pa (par3_ok c.kind c.sc h1).1
        | [], _, h7 => simp [chkPN] at h7
        | [_], _, h7 => simp [chkPN] at h7
        | [_, _], _, h7 => simp [chkPN] at h7
        | _ :: _ :: _ :: _ :: _, _, h7 => simp [chkPN] at h7
      · cases h
    · cases h
  | .setx i mk m, k, s, X, wx, c, tk, h => by
    unfold chkS at h
    split at h
    · simp only [Bool.and_eq_true] at h
      obtain ⟨⟨⟨h1, h2⟩, h3⟩, h4⟩ := h
      obtain ⟨q1, q2, q3, q4⟩ := nmV_ok c.toCtxOk h1
      exact as_setx q1 q2 q3 q4 c.toCtxOk.un (chk_ok m k .e _ X wx c.toCtxOk tk h3) (chk_ok mk k .e _ X wx c.toCtxOk tk h4) (pl_asg (a := .Name (Str.ofString "") ⟨0, 0, 0, 0⟩) h2)
    · cases h
  | .augx i mk op m, k, s, X, wx, c, tk, h => by
    unfold chkS at h
    split at h
    · simp only [Bool.and_eq_true] at h
      obtain ⟨⟨⟨⟨h0, h1⟩, h2⟩, h3⟩, h4⟩ := h
      obtain rfl := opB_ok h0
      obtain ⟨q1, q2, q3, q4⟩ := nmV_ok c.toCtxOk h1
      exact as_augx op q1 q2 q3 q4 c.toCtxOk.un (chk_ok m k .e _ X wx c.toCtxOk tk h3) (chk_ok mk k .e _ X wx c.toCtxOk tk h4) (pl_aug h2)
    · cases h
  | .aug i op m, k, s, X, wx, c, tk, h => by
    unfold chkS at h
    split at h
    · simp only [Bool.and_eq_true] at h
      obtain ⟨⟨h0, h1⟩, h2⟩ := h
      obtain rfl := opB_ok h0
      exact as_aug op (nmS_ok c.toCtxOk h1) c.nd (chk_ok m k .e _ X wx c.toCtxOk tk h2)
    · cases h
  | .app i m, k, s, X, wx, c, tk, h => by
    unfold chkS at h
    split at h
    · simp only [Bool.and_eq_true, decide_eq_true_eq] at h
      obtain ⟨⟨⟨⟨rfl, h1⟩, h2⟩, h3⟩, h4⟩ := h
      obtain ⟨q1, q2, q3, q4⟩ := nmV_ok c.toCtxOk h1
      exact as_app q1 q2 q3 q4 (chk_ok m k .e _ X wx c.toCtxOk tk h4) h2 h3
    · cases h
  | .ext i m, k, s, X, wx, c, tk, h => by
    unfold chkS at h
    split at h
    · simp only [Bool.and_eq_true, decide_eq_true_eq] at h
      obtain ⟨⟨⟨⟨rfl, h1⟩, h2⟩, h3⟩, h4⟩ := h
      obtain ⟨q1, q2, q3, q4⟩ := nmV_ok c.toCtxOk h1
      exact as_ext q1 q2 q3 q4 (chk_ok m k .e _ X wx c.toCtxOk tk h4) h2 h3
    · cases h
  | .setdef _ _ _, k, s, X, wx, c, tk, h => by unfold chkS at h; cases h
  | .expr m, k, s, X, wx, c, tk, h => by
    unfold chkS at h
    split at h
    · simp only [Bool.and_eq_true] at h
      exact as_expr (chk_ok m k .e _ X wx c.toCtxOk tk h.2) (sw_no h.1)
    · cases h
  | .ift m a b, k, s, X, wx, c, tk, h => by
    unfold chkS at h
    split at h
    · simp only [Bool.and_eq_true] at h
      exact as_if (chk_ok m k .t _ X wx c.toCtxOk tk h.1.1) (chkB_ok a k _ X wx c tk h.1.2) (chkB_ok b k _ X wx c tk h.2)
    · cases h
  | .whl m a, k, s, X, wx, c, tk, h => by
    unfold chkS at h
    split at h
    · simp only [Bool.and_eq_true] at h
      exact as_whl c.po (chk_ok m k .t _ X wx c.toCtxOk tk h.1) (chkB_ok a k _ X wx c tk h.2)
    · cases h
  | .fr tg it a, k, s, X, wx, c, tk, h => by
    unfold chkS at h
    split at h
    · simp only [Bool.and_eq_true] at h
      exact as_for c.po c.calm (chkI_ok it k _ _ X wx c.toCtxOk tk h.1.2) (tg_ok c.toCtxOk tg _ h.1.1.2) (chkB_ok a k _ X wx c tk h.2) (set_no h.1.1.1)
    · cases h
  | .brk, k, s, X, wx, c, tk, h => by
    unfold chkS at h
    split at h
    · exact as_brk
    · cases h
  | .cont, k, s, X, wx, c, tk, h => by
    unfold chkS at h
    split at h
    · exact as_cont
    · cases h
  | .ret m, k, s, X, wx, c, tk, h => by
    unfold chkS at h
    split at h
    · exact as_ret (chk_ok m k .e _ X wx c.toCtxOk tk h)
    · cases h
  | .raise z, k, s, X, wx, c, tk, h => by
    unfold chkS at h
    split at h
    · simp only [Bool.and_eq_true, decide_eq_true_eq] at h
      obtain ⟨rfl, h⟩ := h
      exact as_raise z c.exf c.calm tk (glB_ok c.toCtxOk h)
    · cases h
  | .tr a hs, k, s, X, wx, c, tk, h => by
    unfold chkS at h
    split at h
    · simp only [Bool.and_eq_true] at h
      obtain ⟨g1, g2, g3⟩ := hdB_ok c hs _ h.2
      exact as_try c.exf c.stk c.fr c.nd tk g2 g3 (fun wx' pn xe tk' po => chkB_ok a k _ (X.tr pn xe) wx' (c.try_ pn xe po) tk' h.1) g1
    · cases h
  | .kl _, k, s, X, wx, c, tk, h => by unfold chkS at h; cases h
  | .fz _, k, s, X, wx, c, tk, h => by unfold chkS at h; cases h
theorem chkB_ok : ∀ (ss : List S) (k : Ck) (sts : List Stmt) (X : Cx) (wx : WXs), StOk X k n ex cs → Takes X (WW ex wx) → chkB ss k sts = true → PSs X sts (tS (sx X) k.ks wx (exB cs ss))
  | [], k, sts, X, wx, c, tk, h => by
    unfold chkB at h
    split at h
    · exact sb_nil
    · cases h
  | s :: ss, k, sts, X, wx, c, tk, h => by
    unfold chkB at h
    split at h
    · rename_i vs hg
      simp only [Bool.and_eq_true] at h
      have hv : ∀ i ∈ vs, i ∉ k.ks.fx := fun i hi => of_decide_eq_true (all_ok h.1 i hi)
      have r := chkB_ok ss k sts X wx c tk h.2
      cases s <;> first | (cases hg; done) | skip
      · cases hg; exact sb_kl hv r
      · cases hg; exact sb_fz hv r
    · split at h
      · simp only [Bool.and_eq_true] at h
        exact sb_cons (chkS_ok s k _ X wx c tk h.1) (chkB_ok ss k _ X wx c tk h.2)
      · cases h
end
end
end G

set_option Elab.async false
set_option linter.all false
set_option maxRecDepth 100000
set_option maxHeartbeats 4000000
set_option autoImplicit false
/-! G25: all defs of a table keep their promises; the law's own def. -/
namespace G
open PySem PySem.Spec PyProof.Rows L2

/-- what is given of a def -/
structure DT where
  x : Str
  st : Stmt
  N : List Str
  ps : List Str
  ks : Ks
  fd : FD
def pairD (d : DT) : Str × Nat × Bool := (d.x, d.ps.length, d.fd.io)
def tabP (tab : List DT) : Prog := fun i => (tab[i]?).map (·.fd)
def ckOf (g : GI) (d : DT) : Ck := ⟨d.N, defScope d.st, d.ks, fun _ => true, g⟩
/-- the def's scope -/
def scB (N ps : List Str) (sc : Scope) : Bool :=
  (match sc.kind with | .function => true | _ => false) && !sc.isCoroutine && !sc.isGenerator && decide N.Nodup && decide (N.take ps.length = ps) &&
  (ps.all fun x => match sc.names.lookup x with | some .local => true | some .cell => true | _ => false) && (sc.names.all fun y => match y.2 with | .free => false | _ => true)
theorem scB_ok {N ps : List Str} {sc : Scope} (h : scB N ps sc = true) : FnScope N ps sc := by
  unfold scB at h
  simp only [Bool.and_eq_true, Bool.not_eq_true', decide_eq_true_eq] at h
  obtain ⟨⟨⟨⟨⟨⟨h1, h2⟩, h3⟩, h4⟩, h5⟩, h6⟩, h7⟩ := h
  refine ⟨?_, h2, h3, h4, h5, fun x hx => ?_, fun y hy e => ?_⟩
  · split at h1
    · assumption
    · cases h1
  · have := List.all_eq_true.mp h6 x hx
    split at this
    · exact .inl (by assumption)
    · exact .inr (by assumption)
    · cases this
  · have := List.all_eq_true.mp h7 y hy
    rw [e] at this
    cases this
def okD (g : GI) (d : DT) : Bool :=
  scB d.N d.ps (defScope d.st) && decide (d.fd.np = d.ps.length) && decide (d.fd.ns = d.N.length) && decide (d.ps.length ≤ d.N.length) && (!d.fd.io || (decide (0 ∈ d.ks.fx) && decide (0 ∈ d.ks.ow))) && chkB d.fd.body (ckOf g d) (defBody d.st)
/-- all of them, and the names that calls look up -/
def okTab (g : GI) (tab : List DT) : Bool := decide (g.fns = tab.map pairD) && tab.all (okD g) && tab.all fun d => !(d.x == ("__debug__" : Str))
theorem okTab_at {g : GI} {tab : List DT} (h : okTab g tab = true) {i : Nat} {d : DT} (e : tab[i]? = some d) : okD g d = true ∧ (d.x == ("__debug__" : Str)) = false := by
  unfold okTab at h
  simp only [Bool.and_eq_true, decide_eq_true_eq] at h
  have hm := List.mem_of_getElem? e
  exact ⟨List.all_eq_true.mp h.1.2 d hm, by simpa using List.all_eq_true.mp h.2 d hm⟩
theorem okTab_fns {g : GI} {tab : List DT} (h : okTab g tab = true) {f np : Nat} {x : Str} {io : Bool} (e : g.fns[f]? = some (x, np, io)) : ∃ d, tab[f]? = some d ∧ d.x = x ∧ d.ps.length = np ∧ d.fd.io = io := by
  unfold okTab at h
  simp only [Bool.and_eq_true, decide_eq_true_eq] at h
  rw [h.1.1, List.getElem?_map] at e
  obtain ⟨d, e1, e2⟩ := Option.map_eq_some_iff.mp e
  cases e2
  exact ⟨d, e1, rfl, rfl, rfl⟩

section
variable {P : Program} {w : World} {K : PySem.W.Frag} {mg : Str → Option Value} {base : Heap} {g : GI} {tab : List DT} {ex : Exs}
/-- what the heap's written part tells of a def -/
structure DefOk (K : PySem.W.Frag) (mg : Str → Option Value) (d : DT) (f : Addr) (fd : FuncData) : Prop where
  fn : Fun K d.x d.x d.st f fd
  mg : mg d.x = some (.ref f)
  bd : Binds K fd d.ps []
structure Facts (P : Program) (w : World) (K : PySem.W.Frag) (mg : Str → Option Value) (g : GI) (tab : List DT) (ex : Exs) : Prop where
  fn : ∀ d ∈ tab, ∃ f fd, DefOk K mg d f fd
  cons : ∀ p ∈ g.cons, ∃ v u, mg p.1 = some u ∧ RelV v u ∧ ∀ N H, Rep ⟨P, w, K⟩ N H v p.2
  bl : ∀ x ∈ g.bl, mg x = none
  exf : ExF K mg ex

theorem st_ok {n : Nat} {cs : CS} {d : DT} (F : Facts P w K mg g tab ex) (ho : okTab g tab = true) (hsc : FnScope d.N d.ps (defScope d.st))
    (hcs : ∀ (f : Nat) (d : DT), tab[f]? = some d → ∀ (a : Addr) (fd : FuncData), Fun K d.x d.x d.st a fd → FnG P w K mg base n a fd d.ps (spOf ⟨P, w, K⟩ ex d.fd.io (cs f)))
    {f : Addr} {cdv : Value} {A : Around} {outer : List PySem.Env} {s : Shared} {H : Hp} {E : XK} (room : Room n (A.deeper (envOfC d.x (defScope d.st) s.heap.objs.size f cdv))) (gu : (A.deeper (envOfC d.x (defScope d.st) s.heap.objs.size f cdv)).guards = some []) :
    StOk (cxF P w K mg base d.N d.x (defScope d.st) f cdv A outer s H E) (ckOf g d) n ex cs := by
  refine ⟨⟨rfl, hsc.nd, rfl, fun _ _ => rfl, rfl, room, gu, F.cons, F.bl, fun i x np io e => ?_⟩, rfl, rfl, L2.passes_of rfl, F.exf, hsc.kind⟩
  obtain ⟨d', e1, rfl, rfl, rfl⟩ := okTab_fns ho e
  obtain ⟨a, fd, D⟩ := F.fn d' (List.mem_of_getElem? e1)
  refine ⟨⟨a, fd, d'.ps, rfl, D.mg, D.fn.kp, D.bd, hcs i d' e1 a fd D.fn⟩, (okTab_at ho e1).2⟩
/-- every def of the table -/
theorem all_fn (F : Facts P w K mg g tab ex) (ho : okTab g tab = true) : ∀ (n : Nat) (i : Nat) (d : DT), tab[i]? = some d → ∀ (a : Addr) (fd : FuncData), Fun K d.x d.x d.st a fd → FnG P w K mg base n a fd d.ps (spOf ⟨P, w, K⟩ ex d.fd.io (callN (tabP tab) n i))
  | 0, i, d, _, a, fd, _ => ⟨fun A outer s H args us vs Q E _ _ _ _ _ _ h => by
      unfold spOf at h
      split at h
      · obtain ⟨_, _, _, _, _, _, _, _, _, _, _, _, h⟩ := h
        exact h.elim
      · obtain ⟨_, _, _, _, h⟩ := h
        exact h.elim⟩
  | n + 1, i, d, e, a, fd, G => by
    have ok := (okTab_at ho e).1
    unfold okD at ok
    simp only [Bool.and_eq_true, decide_eq_true_eq] at ok
    obtain ⟨⟨⟨⟨⟨h1, h2⟩, h3⟩, h4⟩, h5⟩, h6⟩ := ok
    have S := scB_ok h1
    obtain ⟨oc, od, kV, doc, pm, an, cdv, ct, osl, rfl, lk, hcd⟩ := G.ex
    have hc : callN (tabP tab) (n + 1) i = runF (callN (tabP tab) n) d.fd := by
      show (fun st ds => match tabP tab i with | some fd => runF (callN (tabP tab) n) fd st ds | none => .err) = _
      unfold tabP
      rw [e]
      rfl
    rw [hc]
    have io : d.fd.io = true → 0 ∈ d.ks.fx ∧ 0 ∈ d.ks.ow := fun q => by
      rw [q] at h5
      simpa using h5
    refine fn_small (ks := d.ks) lk hcd S h2 h3 h4 (fun q => (io q).1) (fun q => (io q).2) fun A outer s H E room gu => ?_
    exact chkB_ok d.fd.body (ckOf g d) (defBody d.st) _ _ (st_ok F ho S (fun j d' e' a' fd' G' => all_fn F ho n j d' e' a' fd' G') room gu)
      (Takes.imp (L2.takes_of rfl rfl rfl rfl) fun c z σ H' q => by
        obtain ⟨y, rfl, rfl, q⟩ := q
        exact q) h6

/-! ### the law's own def: the script in its first slot -/
def lawE (d : DT) (ns : List Int) : Env := some (.sc ns) :: List.replicate (d.N.length - 1) none
def lawR (cs : CS) (d : DT) (ns : List Int) : Fl := exB cs d.fd.body (lawE d ns)
/-- what the law's def asks -/
def spLaw (K : PySem.W.Frag) (cs : CS) (d : DT) : Sp := fun vs H Q _ => ∃ (a : Addr) (ns : List Int), vs = [.ref a] ∧ ((∃ o, H a = some (.frz o (.lst (ns.map V.int)))) ∨ SqL K (fun _ => none) a (ns.map V.int)) ∧ (∃ ρ, lawR cs d ns = .ret (.bool true) ρ) ∧ ∀ H', Q (.bl true) H'
def okLaw (g : GI) (d : DT) : Bool := scB d.N d.ps (defScope d.st) && decide (d.ps.length = 1) && decide (1 ≤ d.N.length) && decide (0 ∉ d.ks.ow) && chkB d.fd.body (ckOf g d) (defBody d.st)
theorem sc_rel {ns : List Int} {a : Addr} {H : Hp} {d : DT} (hn : 1 ≤ d.N.length) (h : (∃ o, H a = some (.frz o (.lst (ns.map V.int)))) ∨ SqL K (fun _ => none) a (ns.map V.int)) :
    Rel (⟨P, w, K⟩ : Sx) d.ks [] (fun _ => False) (lawE d ns) (start d.N [.ref a]) H := by
  have no : ∀ (i : Nat), ¬ isOwn (lawE d ns)[i]? := fun i h => by
    unfold lawE at h
    cases i with
    | zero => exact h
    | succ i =>
      rw [List.getElem?_cons_succ, List.getElem?_replicate] at h
      split at h <;> exact h
  refine ⟨?_, fun i x e => ?_, fun i j a p => (no i p.1).elim, fun a ⟨i, p⟩ => (no i p.1).elim, fun a q => q.elim, fun p hp => absurd hp (by simp), fun i h => (no i h).elim⟩
  · unfold lawE L2.start
    rw [List.length_cons, List.length_append, List.length_map, List.length_replicate, List.length_replicate]
    rw [List.length_singleton]
    omega
  · unfold lawE at e
    cases i with
    | zero =>
      cases e
      refine ⟨a, start_get rfl, h.imp (fun q => ⟨q, fun z => ?_⟩) id⟩
      rcases z with z | ⟨i, z⟩
      · exact z
      · exact no i z.1
    | succ i =>
      rw [List.getElem?_cons_succ, List.getElem?_replicate] at e
      split at e <;> cases e
theorem law_fn (F : Facts P w K mg g tab ex) (ho : okTab g tab = true) {d : DT} (hl : okLaw g d = true) (n : Nat) {a : Addr} {fd : FuncData} (G : Fun K d.x d.x d.st a fd) :
    FnG P w K mg base (n + 1) a fd d.ps (spLaw K (callN (tabP tab) n) d) := by
  unfold okLaw at hl
  simp only [Bool.and_eq_true, decide_eq_true_eq] at hl
  obtain ⟨⟨⟨⟨h1, h2⟩, h3⟩, h4⟩, h6⟩ := hl
  have S := scB_ok h1
  obtain ⟨oc, od, kV, doc, pm, an, cdv, ct, osl, rfl, lk, hcd⟩ := G.ex
  refine fn_g lk hcd S fun A outer s H vs Q E room gu hvs want => ?_
  obtain ⟨b, ns, rfl, hb, ⟨ρ, hr⟩, q⟩ := want
  have st := st_ok (base := base) F ho S (fun j d' e' a' fd' G' => all_fn F ho n j d' e' a' fd' G') (A := A) (s := s) (f := a) (cdv := cdv) (outer := outer) (H := H) (E := E) room gu
  have tk : Takes (cxF P w K mg base d.N d.x (defScope d.st) a cdv A outer s H E) (WW ex fun _ _ _ => False) := Takes.imp (L2.takes_of rfl rfl rfl rfl) fun c z σ H' q => by
    obtain ⟨y, _, _, q⟩ := q
    exact q.elim
  refine ⟨_, chkB_ok d.fd.body (ckOf g d) (defBody d.st) _ _ st tk h6, [], fun _ => False, lawE d ns, sc_rel h3 hb, ?_⟩
  have e : exB (callN (tabP tab) n) d.fd.body (lawE d ns) = .ret (.bool true) ρ := hr
  rw [e]
  intro v σ' H' r1 t1 f1
  cases f1
  exact q H'
end
end G

set_option Elab.async false
set_option linter.all false
set_option maxRecDepth 100000
set_option maxHeartbeats 4000000
set_option autoImplicit false
/-! G26: the law's def is called from outside. -/
namespace G
open PySem PySem.Spec PyProof.Rows L2

/-- the script alone, where the written part doesn't hold it -/
def hL (K : PySem.W.Frag) (a : Addr) (xs : List Value) (ns : List Int) : Hp := fun b =>
  if b = a ∧ (K.lookup a).isNone = true then some (.frz ⟨.type "list", none, .seq xs.toArray 0, #[]⟩ (.lst (ns.map V.int))) else none
section
variable {P : Program} {w : World} {K : PySem.W.Frag} {mg mb : Str → Option Value} {n : Nat} {fa a : Addr} {fd : FuncData} {x : Str} {s : Shared} {xs : List Value} {ns : List Int} {cs : CS} {d : DT}
theorem hL_some {b : Addr} {u : HO} (h : hL K a xs ns b = some u) : b = a ∧ K.lookup a = none ∧ u = .frz ⟨.type "list", none, .seq xs.toArray 0, #[]⟩ (.lst (ns.map V.int)) := by
  unfold hL at h
  split at h
  · rename_i q
    cases h
    exact ⟨q.1, by simpa using q.2, rfl⟩
  · cases h
theorem ints_vals : ∀ {us : List Value} {ks : List Int}, IntsAre us ks → Vals (ks.map V.int) us
  | _, _, .nil => .nil
  | _, _, .cons k q r => .cons ⟨q, rfl⟩ (ints_vals r)
theorem enter (inK : K.In s.heap) (gl : s.heap.Ns mainGlobals mg) (bu : s.heap.Ns builtinsNs mb) (bv : ∀ y : Str, y ≠ "__name__" → mb y = bootBuiltins y) (nl : s.heap.NoLimit) (g0 : s.gens = #[])
    (ga : s.heap.get? a = some { cls := .type "list", data := .seq xs.toArray }) (iv : IntsAre xs ns) (len : ns.length ≤ sizeLine) (room : Room n callerA)
    (F : ∀ base : Heap, K.In base → base.Ns mainGlobals mg → FnG P w K mg base n fa fd [x] (spLaw K cs d)) (bd : ∀ (s : Shared) (u : Value), BindsTo s fd ⟨[u], []⟩ [(x, u)])
    (true_ : ∃ ρ, lawR cs d ns = .ret (.bool true) ρ) :
    codeAny (model P w) callerA (.call (.ref fa) ⟨[.ref a], []⟩) (fun r t => r = .ok (.ret (.bool true)) ∧ OldK s.heap t.heap ∧ t.os = s.os ∧ AllBare t.gens) s := by
  have vv := ints_vals iv
  have lv := iv.length
  -- the tracked heap: at most the script
  have H0 : ∀ {b : Addr} {o : Obj}, s.heap.get? b = some o → (K.lookup b = some o ∨ ∃ es ep, o.data = .dict es ep) → hL K a xs ns b = none := fun {b o} e q => by
    cases z : hL K a xs ns b with
    | none => rfl
    | some u =>
      obtain ⟨rfl, z2, _⟩ := hL_some z
      rcases q with q | ⟨es, ep, q⟩
      · rw [z2] at q; cases q
      · rw [ga] at e
        cases e
        cases q
  have low : ∀ {b : Addr} {m : Str → Option Value}, s.heap.Ns b m → (hidT s.heap (hL K a xs ns)).Ns b m := fun {b m} q => by
    obtain ⟨o, es, ep, e, hd, r⟩ := q
    exact ⟨o, es, ep, hidT_get e (H0 e (.inr ⟨es, ep, hd⟩)), hd, r⟩
  have kb : K.In (hidT s.heap (hL K a xs ns)) := fun b o q => hidT_get (inK b o q) (H0 (inK b o q) (.inl q))
  have ok : HOk P w (hL K a xs ns) s.heap := fun b u z => by
    obtain ⟨rfl, _, rfl⟩ := hL_some z
    refine ⟨ga, ?_, xs, _, vv, ga⟩
    rw [List.length_map]
    exact len
  have low2 : (hidT s.heap (hL K a xs ns)).NoLimit := by
    obtain ⟨mc, q1, q2⟩ := nl
    exact ⟨mc, low q1, q2⟩
  have e0 : Env0 P w K mg (hidT s.heap (hL K a xs ns)) callerA [] s (hL K a xs ns) :=
    { frames := rfl, mod := ⟨kb, low gl, ⟨mb, low bu, bv⟩, low2⟩, bs := fun _ _ q => of_hidT q, bsz := Nat.le_of_eq (hidT_size _ _), funs := trivial, frf := fun b q => (List.not_mem_nil q).elim, hok := ok, bare := .of_eq g0 }
  have sq : (∃ o, hL K a xs ns a = some (.frz o (.lst (ns.map V.int)))) ∨ SqL K (fun _ => none) a (ns.map V.int) := by
    cases z : K.lookup a with
    | none => exact .inl ⟨_, if_pos ⟨rfl, by rw [z]; rfl⟩⟩
    | some o =>
      have e := inK a o z
      rw [ga] at e
      cases e
      refine .inr (.inr ⟨_, xs.toArray, _, z, rfl, rfl, rfl, ?_, by simpa using vv⟩)
      rw [List.size_toArray, lv]
      exact len
  have run := (F _ kb (low gl)).run callerA [] s (hL K a xs ns) ⟨[.ref a], []⟩ [.ref a] [.ref a] (fun v _ => v = .bl true) (fun _ _ _ => False) room rfl e0 (bd s _) (.cons rfl .nil) rfl ⟨a, ns, rfl, sq, true_, fun _ => rfl⟩
  refine codeAny_mono run fun r t q => ?_
  match r, q with
  | .error e, q =>
    obtain ⟨_, _, _, _, _, _, _, _, _, _, _, _, q⟩ := q
    exact q.elim
  | .ok .next, q => exact q.elim
  | .ok .brk, q => exact q.elim
  | .ok .cont, q => exact q.elim
  | .ok (.ret u), q =>
    obtain ⟨v, H', os, br, un, ok', rv, rfl⟩ := q
    obtain rfl : u = Value.bool true := rv
    refine ⟨rfl, .of_keep fun b o e => ?_, os, br⟩
    cases z : hL K a xs ns b with
    | none => exact un.keep b o e z List.not_mem_nil List.not_mem_nil
    | some u =>
      obtain ⟨rfl, _, rfl⟩ := hL_some z
      obtain ⟨e2, _⟩ := ok' _ _ (un.frzs _ _ _ z)
      rw [ga] at e
      cases e
      exact e2
end

/-- the goal that the law's head leaves -/
theorem leave {l : PySem.W.OpenLaw} {n k : Nat} {q : Program} {loose : List Str} {XP : (Str → Option Value) → Heap → Prop} {YP : World → Heap → Prop} {dr : DefRec} {K : Params → PySem.W.Frag} {x : Str} {cs : CS} {d : DT}
    (hn : l.most = some n) (le : n ≤ sizeLine) (nodef : dr.params.defaults = []) (room : Room k callerA) (hY : ∀ (w : World) (h : Heap), YP w h → (K w.params).In h)
    (F : ∀ (w : World) (mg : Str → Option Value) (fa : Addr) (h : Heap), (K w.params).In h → h.Ns mainGlobals mg → mg dr.name = some (.ref fa) →
      ∃ fd : FuncData, (∀ (s : Shared) (u : Value), BindsTo s fd ⟨[u], []⟩ [(x, u)]) ∧ ∀ base : Heap, (K w.params).In base → base.Ns mainGlobals mg → FnG l.prog w (K w.params) mg base k fa fd [x] (spLaw (K w.params) cs d))
    (true_ : ∀ ns : List Int, ns.length ≤ n → (∀ z ∈ ns, Builtin.Int.intBits z ≤ 1048576) → ∃ ρ, lawR cs d ns = .ret (.bool true) ρ) :
    PySem.W.WalkO q loose XP YP l.row.toRowW dr [] (fun f vs => PySem.call f vs) := by
  refine Att.attach_callB hn nodef fun w _ s mg mb fa _ _ _ _ a xs ns g y _ _ _ hm ga iv hl hb g0 => ?_
  obtain ⟨fd, b, H⟩ := F w mg fa _ (hY w _ y) g.T.g hm
  exact enter (hY w _ y) g.T.g g.T.b g.T.builtins g.T.nolimit g0 ga iv (Nat.le_trans hl le) room H b (true_ ns hl hb)
end G

set_option Elab.async false
set_option linter.all false
set_option maxRecDepth 100000
set_option maxHeartbeats 4000000
set_option autoImplicit false
/-! G27: the facts that the written part tells. -/
namespace G
open PySem PySem.Spec PyProof.Rows L2

section
variable {K : PySem.W.Frag} {mg : Str → Option Value} {h : Heap}
/-- of an own exception class -/
structure ExK (K : PySem.W.Frag) (C : Addr) : Prop where
  xi : PySem.W.excIn K C [.type "ValueError", .type "Exception", .type "BaseException", .type "object"] "ValueError.__new__" = true
  kp : PySem.W.keepIn K (.ref C) = true
  sb : PySem.W.subIn K (.ref C) (.type "BaseException") = some true
  ty : PySem.W.typeIn K (.ref C) = some (.type "type")
  hd : PySem.W.hasDictIn K C = true
  ve : PySem.W.subIn K (.ref C) (.type "ValueError") = some true
  hg : PySem.W.findIn K (.ref C) "__getattribute__" = some (some (.builtin "BaseException.__getattribute__"))
  hk : PySem.W.findIn K (.ref C) "__getattr__" = some none
  ha : PySem.W.findIn K (.ref C) "__class__" = some (some (.builtin "object.__class__"))
  hm : PySem.W.mroIn K C (.type "object") = some true
theorem kit_VE {C : Addr} (h : PySem.W.subIn K (.ref C) (.type "ValueError") = some true) : PySem.W.kitOne K (.ref C) (.type "ValueError") = some true := by
  have e : PySem.W.kitMeta "ValueError" = true := by decide +kernel
  show (if (Value.ref C == Value.type "ValueError") = true then some true else if PySem.W.kitMeta "ValueError" = true then PySem.W.subIn K (.ref C) (.type "ValueError") else none) = some true
  rw [if_pos e, h]
  split <;> rfl
theorem exf_mk {u w : Addr} (X : K.In h) (G : h.Ns mainGlobals mg) (au : PySem.W.nsIn K mainGlobals "UnfitGrid" = some (some (.ref u))) (aw : PySem.W.nsIn K mainGlobals "TooWide" = some (some (.ref w))) (U : ExK K u) (W : ExK K w)
    (uu : PySem.W.subIn K (.ref u) (.ref u) = some true) (uw : PySem.W.subIn K (.ref u) (.ref w) = some false) (wu : PySem.W.subIn K (.ref w) (.ref u) = some false) (ww : PySem.W.subIn K (.ref w) (.ref w) = some true)
    (gs : PySem.W.specialIn K (.builtin "object.__class__") "__get__" = some (some (.builtin "getset_descriptor.__get__"))) (ts : PySem.W.takesIn K (.builtin "object.__class__") = some true) : ExF K mg ⟨u, w⟩ := by
  have k : ∀ c, ExK K (exA ⟨u, w⟩ c) := fun c => by cases c <;> assumption
  refine ⟨fun c => ?_, fun c => (k c).xi, fun c => (k c).kp, fun c => (k c).sb, fun c => (k c).ty, fun c c' => PySem.W.exm_ref (k c').sb (k c').hd (k c').ty ?_, fun c => ⟨(k c).hg, (k c).hk, (k c).sb, (k c).hd, (k c).ha, gs, ts, (k c).hm⟩, fun c => kit_VE (k c).ve⟩
  · cases c
    · exact PySem.W.mg_of X G au
    · exact PySem.W.mg_of X G aw
  · cases c <;> cases c'
    · exact uu
    · exact uw
    · exact wu
    · exact ww
theorem def_mk {d : DT} {f : Addr} {oc kV dc pm cdv ct : Value} {od an : Option Addr} {sl : Array (Option Value)} (X : K.In h) (G : h.Ns mainGlobals mg) (a : PySem.W.nsIn K mainGlobals d.x = some (some (.ref f)))
    (l : K.lookup f = some ⟨oc, od, .func (PySem.W.fnOf d.x d.x (defArgs d.st) (defBody d.st) (defScope d.st) .none kV dc pm an cdv ct), sl⟩) (c : PySem.W.codeIn K cdv d.x = true) (k : PySem.W.keepIn K (.ref f) = true)
    (b : ∀ (kV doc pm : Value) (an : Option Addr) (cdv ct : Value) (us : List Value), us.length = d.ps.length → bindArgs (PySem.W.fnOf d.x d.x (defArgs d.st) (defBody d.st) (defScope d.st) .none kV doc pm an cdv ct) ⟨us, []⟩ = pure (d.ps.zip us)) : ∃ f fd, DefOk K mg d f fd := by
  have F : Fun K d.x d.x d.st f _ := fun_mk l c k
  exact ⟨f, _, F, PySem.W.mg_of X G a, F.binds b⟩
/-- the law's own def -/
theorem law_mk {P : Program} {w : World} {g : GI} {tab : List DT} {ex : Exs} {d : DT} {fa f : Addr} {oc kV dc pm cdv ct : Value} {od an : Option Addr} {sl : Array (Option Value)} {x : Str} {n : Nat} (X : K.In h) (G : h.Ns mainGlobals mg) (F : Facts P w K mg g tab ex) (ho : okTab g tab = true) (hl : okLaw g d = true)
    (hfa : mg d.x = some (.ref fa)) (a : PySem.W.nsIn K mainGlobals d.x = some (some (.ref f)))
    (l : K.lookup f = some ⟨oc, od, .func (PySem.W.fnOf d.x d.x (defArgs d.st) (defBody d.st) (defScope d.st) .none kV dc pm an cdv ct), sl⟩) (c : PySem.W.codeIn K cdv d.x = true) (k : PySem.W.keepIn K (.ref f) = true) (hx : d.ps = [x])
    (b : ∀ (s : Shared) (v : Value), BindsTo s (PySem.W.fnOf d.x d.x (defArgs d.st) (defBody d.st) (defScope d.st) .none kV dc pm an cdv ct) ⟨[v], []⟩ [(x, v)]) :
    ∃ fd : FuncData, (∀ (s : Shared) (v : Value), BindsTo s fd ⟨[v], []⟩ [(x, v)]) ∧ ∀ base : Heap, K.In base → base.Ns mainGlobals mg → FnG P w K mg base (n + 1) fa fd [x] (spLaw K (callN (tabP tab) n) d) := by
  have e := hfa.symm.trans (PySem.W.mg_of X G a)
  cases e
  refine ⟨_, b, fun base _ _ => ?_⟩
  rw [← hx]
  exact law_fn F ho hl n (fun_mk l c k)
end
end G

set_option Elab.async false
set_option linter.all false
set_option maxRecDepth 100000
set_option autoImplicit false
/-! P0: the evaluator, by simp. -/
namespace G
open PySem

/-- a test's two ways -/
def thn {α : Type} (b : Bool) (x y : α) : α := if b then x else y
@[simp] theorem thn_t {α : Type} (x y : α) : thn true x y = x := rfl
@[simp] theorem thn_f {α : Type} (x y : α) : thn false x y = y := rfl
def andK (o : Option Bool) (x : R D) (y : R D) : R D := match o with | some true => y | some false => x | none => .err
@[simp] theorem andK_t (x y : R D) : andK (some true) x y = y := rfl
@[simp] theorem andK_f (x y : R D) : andK (some false) x y = x := rfl

/-! slots -/
section
variable {ρ : Env} {x : D} {o : Option AV} {i : Nat} {xs : List D} {ns : List Int}
@[simp] theorem rd0 : rd (some (.d x) :: ρ) 0 = some x := rfl
@[simp] theorem rdS : rd (o :: ρ) (i + 1) = rd ρ i := by unfold rd; rw [List.getElem?_cons_succ]
@[simp] theorem rdB0 : rdB (some (.d x) :: ρ) 0 = some x := rfl
@[simp] theorem rdBl : rdB (some (.ol xs) :: ρ) 0 = some (.list xs) := rfl
@[simp] theorem rdBd {kvs : List (D × D)} : rdB (some (.od kvs) :: ρ) 0 = some (.dict kvs) := rfl
@[simp] theorem rdBS : rdB (o :: ρ) (i + 1) = rdB ρ i := by unfold rdB; rw [List.getElem?_cons_succ]
@[simp] theorem rdOl : rdO (some (.ol xs) :: ρ) 0 = some (.list xs) := rfl
@[simp] theorem rdOd {kvs : List (D × D)} : rdO (some (.od kvs) :: ρ) 0 = some (.dict kvs) := rfl
@[simp] theorem rdOS : rdO (o :: ρ) (i + 1) = rdO ρ i := by unfold rdO; rw [List.getElem?_cons_succ]
@[simp] theorem own0 : own (some (.ol xs) :: ρ) 0 = some xs := rfl
@[simp] theorem ownS : own (o :: ρ) (i + 1) = own ρ i := by unfold own; rw [List.getElem?_cons_succ]
@[simp] theorem wr0 : wr (o :: ρ) 0 x = some (some (.d x) :: ρ) := by unfold wr; rw [if_pos (by simp)]; rfl
@[simp] theorem wrS : wr (o :: ρ) (i + 1) x = (wr ρ i x).map (o :: ·) := by
  unfold wr
  by_cases h : i < ρ.length
  · rw [if_pos h, if_pos (by simpa using h)]; rfl
  · rw [if_neg h, if_neg (by simpa using h)]; rfl
@[simp] theorem wrO0 : wrO (o :: ρ) 0 (.list xs) = some (some (.ol xs) :: ρ) := by unfold wrO; rw [if_pos (by simp)]; rfl
@[simp] theorem wrO0d {kvs : List (D × D)} : wrO (o :: ρ) 0 (.dict kvs) = some (some (.od kvs) :: ρ) := by unfold wrO; rw [if_pos (by simp)]; rfl
@[simp] theorem wrOS : wrO (o :: ρ) (i + 1) x = (wrO ρ i x).map (o :: ·) := by
  unfold wrO
  by_cases h : i < ρ.length
  · rw [if_pos h, if_pos (by simpa using h)]
    cases x <;> rfl
  · rw [if_neg h, if_neg (by simpa using h)]; rfl
@[simp] theorem frz0 : frz (some (.d x) :: ρ) 0 = some (.d x) :: ρ := rfl
@[simp] theorem frz0l : frz (some (.ol xs) :: ρ) 0 = some (.d (.list xs)) :: ρ := rfl
@[simp] theorem frz0d {kvs : List (D × D)} : frz (some (.od kvs) :: ρ) 0 = some (.d (.dict kvs)) :: ρ := rfl
@[simp] theorem frz0n : frz (none :: ρ) 0 = none :: ρ := rfl
@[simp] theorem frzS : frz (o :: ρ) (i + 1) = o :: frz ρ i := by
  unfold frz
  rw [rdBS]
  cases rdB ρ i <;> rfl
/-- a list's item is set -/
@[simp] theorem setQ_l {j : Int} {v : D} {n : Nat} (h : L2.ixN xs.length j = some n) : setQ 0 (.int j) v (some (.ol xs) :: ρ) = some (some (.ol (xs.set n v)) :: ρ) := by
  unfold setQ
  show ((L2.ixN xs.length j).map fun n => (some (AV.ol xs) :: ρ).set 0 (some (.ol (xs.set n v)))) = _
  rw [h]; rfl
@[simp] theorem setQ_S {k v : D} : setQ (i + 1) k v (o :: ρ) = (setQ i k v ρ).map (o :: ·) := by
  unfold setQ
  rw [List.getElem?_cons_succ]
  cases h : ρ[i]? with
  | none => rfl
  | some z =>
    cases z with
    | none => rfl
    | some z =>
      cases z with
      | d _ => rfl
      | sc _ => rfl
      | ol xs =>
        cases k with
        | int j =>
          show ((L2.ixN xs.length j).map _) = ((L2.ixN xs.length j).map _).map _
          cases L2.ixN xs.length j <;> rfl
        | _ => rfl
      | od kvs =>
        show (if (isKey k && okLen kvs.length) = true then _ else _) = (if (isKey k && okLen kvs.length) = true then _ else _ : Option Env).map _
        split <;> rfl
@[simp] theorem appQ0 {v : D} (h : xs.length ≤ LIM) : appQ 0 v (some (.ol xs) :: ρ) = some (some (.ol (xs ++ [v])) :: ρ) := by
  unfold appQ okLen
  show (if decide (xs.length ≤ LIM) = true then some ((some (AV.ol xs) :: ρ).set 0 (some (.ol (xs ++ [v])))) else none) = _
  rw [if_pos (decide_eq_true h)]; rfl
@[simp] theorem appQS {v : D} : appQ (i + 1) v (o :: ρ) = (appQ i v ρ).map (o :: ·) := by
  unfold appQ
  rw [ownS]
  cases own ρ i with
  | none => rfl
  | some xs =>
    show (if okLen xs.length = true then _ else _) = Option.map _ (if okLen xs.length = true then _ else _)
    split <;> rfl
end

@[simp] theorem outS0 {d : D} {ρ : Env} {xs : List D} : outS d (some (.ol xs) :: ρ) = .ok d xs := rfl
/-! data -/
section
variable {xs : List D} {k : Nat} {x y : D}
@[simp] theorem atI_nt {α : Type} {xs : List α} : L2.atI xs ((k : Nat) : Int) = xs[k]? := by
  unfold L2.atI L2.ixN
  rw [if_pos (show (0 : Int) ≤ (k : Int) by omega)]
  by_cases h : ((k : Nat) : Int) < xs.length
  · rw [if_pos h]; rfl
  · rw [if_neg h]
    show none = xs[k]?
    rw [List.getElem?_eq_none (by omega)]
@[simp] theorem atI_ng {α : Type} {xs : List α} {i : Int} (h : i < 0) (h2 : -(xs.length : Int) ≤ i) : L2.atI xs i = xs[(i + xs.length).toNat]? := by
  unfold L2.atI L2.ixN
  rw [if_neg (by omega), if_pos h2]
  rfl
@[simp] theorem ixN_nn {n : Nat} {i : Int} (h0 : 0 ≤ i) (h1 : i < n) : L2.ixN n i = some i.toNat := by
  unfold L2.ixN; rw [if_pos h0, if_pos h1]
@[simp] theorem atI_nn {α : Type} {xs : List α} {i : Int} (h0 : 0 ≤ i) : L2.atI xs i = xs[i.toNat]? := by
  obtain ⟨m, rfl⟩ := Int.eq_ofNat_of_zero_le h0
  exact atI_nt
@[simp] theorem idx_l {i : Int} : idxD (.list xs) (.int i) = L2.atI xs i := rfl
@[simp] theorem idx_t {i : Int} : idxD (.tuple xs) (.int i) = L2.atI xs i := rfl
@[simp] theorem tru_b {b : Bool} : truD (.bool b) = some b := rfl
@[simp] theorem tru_i {i : Int} : truD (.int i) = some (i != 0) := rfl
@[simp] theorem tru_n : truD .none = some false := rfl
@[simp] theorem tru_l : truD (.list xs) = some (!xs.isEmpty) := rfl
@[simp] theorem tru_t : truD (.tuple xs) = some (!xs.isEmpty) := rfl
@[simp] theorem add_i {a b : Int} : binD .add (.int a) (.int b) = some (.int (a + b)) := rfl
@[simp] theorem sub_i {a b : Int} : binD .sub (.int a) (.int b) = some (.int (a - b)) := rfl
@[simp] theorem mulOk_r {a b : Int} (h1 : -18446744073709551616 < b) (h2 : b < 18446744073709551616) : mulOk a b = true := by
  unfold mulOk
  simp [h1, h2]
@[simp] theorem mulOk_l {a b : Int} (h1 : -18446744073709551616 < a) (h2 : a < 18446744073709551616) : mulOk a b = true := by
  unfold mulOk
  simp [h1, h2]
@[simp] theorem pow_i {a b : Int} (h1 : 0 ≤ b) (h2 : b ≤ 1000000) (h3 : a.natAbs < 18446744073709551616) : binD .pow (.int a) (.int b) = some (.int (a ^ b.toNat)) := by
  show (if decide (0 ≤ b) && decide (b ≤ 1000000) && decide (a.natAbs < 2 ^ 64) then some (PyData.int (a ^ b.toNat)) else none) = _
  rw [if_pos (by simp [h1, h2, h3])]
@[simp] theorem mul_i {a b : Int} (h : mulOk a b = true) : binD .mul (.int a) (.int b) = some (.int (a * b)) := by
  show (if mulOk a b then some (PyData.int (a * b)) else none) = _
  rw [if_pos h]
@[simp] theorem mod_i {a b : Int} (h : b ≠ 0) : binD .mod (.int a) (.int b) = some (.int (a.fmod b)) := by
  show (if decide (b ≠ 0) then some (PyData.int (a.fmod b)) else none) = _
  rw [if_pos (decide_eq_true h)]
@[simp] theorem fdiv_i {a b : Int} (h : b ≠ 0) (h2 : b.natAbs < 1073741824) : binD .fdiv (.int a) (.int b) = some (.int (a.fdiv b)) := by
  show (if decide (b ≠ 0) && decide (b.natAbs < 1073741824) then some (PyData.int (a.fdiv b)) else none) = _
  rw [if_pos (by rw [decide_eq_true h, decide_eq_true h2]; rfl)]
@[simp] theorem lt_i {a b : Int} : cmpD .lt (.int a) (.int b) = some (decide (a < b)) := by
  show (if shp (.int a) && shp (.int b) then ltD (.int a) (.int b) else none) = _
  rw [ltD]; rfl
@[simp] theorem gt_i {a b : Int} : cmpD .gt (.int a) (.int b) = some (decide (b < a)) := rfl
@[simp] theorem le_i {a b : Int} : cmpD .le (.int a) (.int b) = some (decide (a ≤ b)) := rfl
@[simp] theorem ge_i {a b : Int} : cmpD .ge (.int a) (.int b) = some (decide (b ≤ a)) := rfl
@[simp] theorem eq_i {a b : Int} : cmpD .eq (.int a) (.int b) = some (decide (a = b)) := by
  show (if shp (.int a) && shp (.int b) then some (PyData.eqv (.int a) (.int b)) else none) = _
  rw [PyData.eqv]; rfl
@[simp] theorem ne_i {a b : Int} : cmpD .ne (.int a) (.int b) = some (!decide (a = b)) := by
  show (if shp (.int a) && shp (.int b) then some (!PyData.eqv (.int a) (.int b)) else none) = _
  rw [PyData.eqv]; rfl
@[simp] theorem bi_int {i : Int} : biD .int [.int i] = some (.int i) := rfl
@[simp] theorem bi_intb {b : Bool} : biD .int [.bool b] = some (.int (if b then 1 else 0)) := rfl
@[simp] theorem bi_lenl : biD .len [.list xs] = some (.int xs.length) := rfl
@[simp] theorem bi_lent : biD .len [.tuple xs] = some (.int xs.length) := rfl
@[simp] theorem aug_add {a b : Int} : augD .add (.int a) (.int b) = some (.int (a + b)) := rfl
@[simp] theorem aug_sub {a b : Int} : augD .sub (.int a) (.int b) = some (.int (a - b)) := rfl
end

/-! expressions -/
section
variable {cs : CS} {ρ : Env} {a b c e : E} {es : List E} {i f : Nat}
@[simp] theorem e_var : evE cs (.var i) ρ = R.opt (rd ρ i) ρ := by rw [evE]
@[simp] theorem e_bor : evE cs (.bor i) ρ = R.opt (rdB ρ i) ρ := by rw [evE]
@[simp] theorem e_scr {ns : List Int} {o : Env} : evE cs (.scr 0) (some (.sc ns) :: o) = .ok (.list (ns.map .int)) (some (.sc ns) :: o) := by rw [evE]; rfl
@[simp] theorem e_non : evE cs .non ρ = .ok .none ρ := by rw [evE]
@[simp] theorem e_bl {x : Bool} : evE cs (.bl x) ρ = .ok (.bool x) ρ := by rw [evE]
@[simp] theorem e_int {x : Int} : evE cs (.int x) ρ = .ok (.int x) ρ := by rw [evE]
@[simp] theorem e_str {x : Str} : evE cs (.str x) ρ = .ok (.str x) ρ := by rw [evE]
@[simp] theorem e_glob {x : Str} {v : D} : evE cs (.glob x v) ρ = .ok v ρ := by rw [evE]
@[simp] theorem e_tup : evE cs (.tup es) ρ = (evEs cs es ρ).bind fun ds ρ => .ok (.tuple ds) ρ := by rw [evE]
@[simp] theorem e_lst : evE cs (.lst es) ρ = (evEs cs es ρ).bind fun ds ρ => .ok (.list ds) ρ := by rw [evE]
@[simp] theorem e_bin {op : BOp} : evE cs (.bin op a b) ρ = (evE cs a ρ).bind fun x ρ => (evE cs b ρ).bind fun y ρ => R.opt (binD op x y) ρ := by rw [evE]
def negD : D → Option D
  | .int i => some (.int (-i))
  | _ => none
@[simp] theorem negD_i {n : Int} : negD (.int n) = some (.int (-n)) := rfl
@[simp] theorem e_neg : evE cs (.neg a) ρ = (evE cs a ρ).bind fun x ρ => R.opt (negD x) ρ := by
  rw [evE]
  congr 1
  funext x ρ
  cases x <;> rfl
@[simp] theorem e_nt : evE cs (.nt a) ρ = (truR (evE cs a ρ)).bind fun b ρ => .ok (.bool (!b)) ρ := by rw [evE]
@[simp] theorem tru_def {x : R D} : truR x = x.bind fun d ρ => R.opt (truD d) ρ := rfl
@[simp] theorem e_and : evE cs (.and a b) ρ = (evE cs a ρ).bind fun x ρ => andK (truD x) (.ok x ρ) (evE cs b ρ) := by
  rw [evE]; rfl
@[simp] theorem e_or : evE cs (.or a b) ρ = (evE cs a ρ).bind fun x ρ => andK (truD x) (evE cs b ρ) (.ok x ρ) := by
  rw [evE]; rfl
@[simp] theorem e_cmp {op : COp} : evE cs (.cmp op a b) ρ = (evE cs a ρ).bind fun x ρ => (evE cs b ρ).bind fun y ρ => (R.opt (cmpD op x y) ρ).bind fun b ρ => .ok (.bool b) ρ := by rw [evE]
@[simp] theorem e_chain {op op' : COp} : evE cs (.chain op op' a b c) ρ = (evE cs a ρ).bind fun x ρ => (evE cs b ρ).bind fun y ρ => (R.opt (cmpD op x y) ρ).bind fun t ρ =>
    thn t ((evE cs c ρ).bind fun z ρ => (R.opt (cmpD op' y z) ρ).bind fun b ρ => .ok (.bool b) ρ) (.ok (.bool false) ρ) := by rw [evE]; rfl
@[simp] theorem e_isNon {ng : Bool} : evE cs (.isNon ng a) ρ = (evE cs a ρ).bind fun x ρ => .ok (.bool (xor ng (nonD x))) ρ := by rw [evE]
def isTruD (ng : Bool) : D → Option D
  | .bool b => some (.bool (xor ng b))
  | _ => none
@[simp] theorem isTruD_b {ng b : Bool} : isTruD ng (.bool b) = some (.bool (xor ng b)) := rfl
@[simp] theorem e_isTru {ng : Bool} : evE cs (.isTru ng a) ρ = (evE cs a ρ).bind fun x ρ => R.opt (isTruD ng x) ρ := by
  rw [evE]
  congr 1
  funext x ρ
  cases x <;> rfl
@[simp] theorem e_ife : evE cs (.ife c a b) ρ = (truR (evE cs c ρ)).bind fun t ρ => thn t (evE cs a ρ) (evE cs b ρ) := by rw [evE]; rfl
@[simp] theorem e_idx : evE cs (.idx a b) ρ = (evE cs a ρ).bind fun x ρ => (evE cs b ρ).bind fun y ρ => R.opt (idxD x y) ρ := by rw [evE]
@[simp] theorem e_slc {lo hi : Option E} : evE cs (.slc a lo hi) ρ = (evE cs a ρ).bind fun x ρ => (evO cs lo ρ).bind fun l ρ => (evO cs hi ρ).bind fun h ρ => R.opt (slcD x l h) ρ := by rw [evE]
@[simp] theorem e_rev : evE cs (.rev a) ρ = (evE cs a ρ).bind fun x ρ => R.opt (revD x) ρ := by rw [evE]
@[simp] theorem e_call : evE cs (.call f es) ρ = (evEs cs es ρ).bind fun ds ρ => callP (cs f [] ds) ρ := by rw [evE]
@[simp] theorem e_callS : evE cs (.callS f i es) ρ = (R.opt (own ρ i) ρ).bind fun _ ρ => (evEs cs es ρ).bind fun ds ρ => callQ cs f i ds ρ := by rw [evE]
@[simp] theorem e_bi {q : Bi} : evE cs (.bi q es) ρ = (evEs cs es ρ).bind fun ds ρ => R.opt (biD q ds) ρ := by rw [evE]
@[simp] theorem es_nil : evEs cs [] ρ = .ok [] ρ := by rw [evEs]
@[simp] theorem es_cons : evEs cs (e :: es) ρ = (evE cs e ρ).bind fun d ρ => (evEs cs es ρ).bind fun ds ρ => .ok (d :: ds) ρ := by rw [evEs]
@[simp] theorem o_none : evO cs none ρ = .ok none ρ := by rw [evO]
def intO : D → Option (Option Int)
  | .int i => some (some i)
  | _ => none
@[simp] theorem intO_i {n : Int} : intO (.int n) = some (some n) := rfl
@[simp] theorem o_some : evO cs (some e) ρ = (evE cs e ρ).bind fun d ρ => R.opt (intO d) ρ := by
  rw [evO]
  congr 1
  funext x ρ
  cases x <;> rfl
@[simp] theorem c_none : evC cs none ρ = .ok true ρ := by rw [evC]
@[simp] theorem c_some : evC cs (some e) ρ = truR (evE cs e ρ) := by rw [evC]
@[simp] theorem i_e : evI cs (.e e) ρ = (evE cs e ρ).bind fun d ρ => R.opt (itemsD d) ρ := by rw [evI]
def r1D : D → Option (List D)
  | .int j => if decide (-(2 ^ 62) ≤ j) && decide (j < 2 ^ 62) then some (rngL 0 j) else none
  | _ => none
@[simp] theorem r1D_i {j : Int} (h1 : -(2 ^ 62) ≤ j) (h2 : j < 2 ^ 62) : r1D (.int j) = some (rngL 0 j) := by
  show (if decide (-(2 ^ 62) ≤ j) && decide (j < 2 ^ 62) then some (rngL 0 j) else none) = _
  rw [decide_eq_true h1, decide_eq_true h2]; rfl
@[simp] theorem i_r1 : evI cs (.r1 a) ρ = (evE cs a ρ).bind fun d ρ => R.opt (r1D d) ρ := by
  rw [evI]
  congr 1
  funext x ρ
  cases x <;> try rfl
  unfold r1D
  dsimp only
  split <;> rfl
end

/-! statements -/
section
variable {cs : CS} {ρ : Env} {e k m : E} {s : S} {ss a b : List S} {i : Nat} {tg : Tg} {it : It}
@[simp] theorem b_nil : exB cs [] ρ = .next ρ := by rw [exB]
@[simp] theorem b_cons : exB cs (s :: ss) ρ = (exS cs s ρ).bind fun ρ => exB cs ss ρ := by rw [exB]
@[simp] theorem s_setv : exS cs (.setv tg e) ρ = (evE cs e ρ).fl fun d ρ => Fl.opt (tg.bind d ρ) := by rw [exS]
@[simp] theorem s_seto : exS cs (.seto i e) ρ = (evE cs e ρ).fl fun d ρ => Fl.opt (wrO ρ i d) := by rw [exS]
@[simp] theorem s_par {is : List (Nat × Bool)} {es : List E} : exS cs (.par is es) ρ = (evPs cs (is.map (·.2)) es ρ).fl fun ds ρ => Fl.opt (wrs is ds ρ) := by rw [exS]
@[simp] theorem s_setx : exS cs (.setx i k e) ρ = (evE cs e ρ).fl fun d ρ => (R.opt (rdO ρ i) ρ).fl fun _ ρ => (evE cs k ρ).fl fun k ρ => Fl.opt (setQ i k d ρ) := by rw [exS]
@[simp] theorem s_augx {op : BOp} : exS cs (.augx i k op e) ρ = (R.opt (rdO ρ i) ρ).fl fun _ ρ => (evE cs k ρ).fl fun k ρ => (R.opt ((rdO ρ i).bind fun x => idxD x k) ρ).fl fun old ρ => (evE cs e ρ).fl fun d ρ =>
      (R.opt (augD op old d) ρ).fl fun z ρ => Fl.opt (setQ i k z ρ) := by rw [exS]
@[simp] theorem s_aug {op : BOp} : exS cs (.aug i op e) ρ = (R.opt (rd ρ i) ρ).fl fun old ρ => (evE cs e ρ).fl fun d ρ => (R.opt (augD op old d) ρ).fl fun z ρ => Fl.opt (wr ρ i z) := by rw [exS]
@[simp] theorem s_app : exS cs (.app i e) ρ = (R.opt (own ρ i) ρ).fl fun _ ρ => (evE cs e ρ).fl fun d ρ => Fl.opt (appQ i d ρ) := by rw [exS]
@[simp] theorem s_expr : exS cs (.expr e) ρ = (evE cs e ρ).fl fun _ ρ => .next ρ := by rw [exS]
@[simp] theorem s_ift : exS cs (.ift e a b) ρ = (truR (evE cs e ρ)).fl fun t ρ => thn t (exB cs a ρ) (exB cs b ρ) := by rw [exS]; rfl
@[simp] theorem s_fr : exS cs (.fr tg it a) ρ = (evI cs it ρ).fl fun xs ρ => forL tg.bind (fun ρ => exB cs a ρ) xs ρ := by rw [exS]
@[simp] theorem s_ret : exS cs (.ret e) ρ = (evE cs e ρ).fl fun d ρ => .ret d ρ := by rw [exS]
@[simp] theorem s_raise {c : Ex} : exS cs (.raise c) ρ = .exc c ρ := by rw [exS]
@[simp] theorem s_fz {vs : List Nat} : exS cs (.fz vs) ρ = .next (vs.foldl frz ρ) := by rw [exS]
@[simp] theorem tg_n {x : D} : Tg.bind (.n i) x ρ = wr ρ i x := by rw [Tg.bind]
@[simp] theorem ps_nil : evPs cs [] [] ρ = .ok [] ρ := by rw [evPs]
@[simp] theorem ps_f {os : List Bool} {es : List E} : evPs cs (false :: os) (e :: es) ρ = (evE cs e ρ).bind fun d ρ => (evPs cs os es ρ).bind fun ds ρ => .ok (d :: ds) ρ := by
  rw [evPs]; rfl
end

/-! loops -/
section
variable {bd : D → Env → Option Env} {body : Env → Fl}
/-- a loop that ends early with d, where an item fails -/
theorem forL_ok {P : Env → Prop} {g : D → Bool} {d : D} : ∀ {xs : List D} {ρ : Env}, P ρ → (∀ x ∈ xs, ∀ ρ, P ρ → ∃ ρ1 ρ', bd x ρ = some ρ1 ∧ P ρ' ∧ body ρ1 = thn (g x) (.next ρ') (.ret d ρ')) → ∃ ρ', P ρ' ∧ forL bd body xs ρ = thn (xs.all g) (.next ρ') (.ret d ρ')
  | [], ρ, p, _ => ⟨ρ, p, rfl⟩
  | x :: xs, ρ, p, h => by
    obtain ⟨ρ1, ρ', e1, p', e2⟩ := h x (List.mem_cons_self) ρ p
    rw [forL, e1, Fl.opt_some, Fl.bind_next, e2, List.all_cons]
    cases g x with
    | false => exact ⟨ρ', p', rfl⟩
    | true => exact forL_ok (xs := xs) p' fun y hy => h y (List.mem_cons_of_mem _ hy)
theorem forL_or {P : Env → Prop} {G : D → Prop} {d : D} : ∀ {xs : List D} {ρ : Env}, P ρ → (∀ x ∈ xs, ∀ ρ, P ρ → ∃ ρ1 ρ', bd x ρ = some ρ1 ∧ P ρ' ∧ ((G x ∧ body ρ1 = .next ρ') ∨ (¬ G x ∧ body ρ1 = .ret d ρ'))) →
    ∃ ρ', P ρ' ∧ (((∀ x ∈ xs, G x) ∧ forL bd body xs ρ = .next ρ') ∨ ((¬ ∀ x ∈ xs, G x) ∧ forL bd body xs ρ = .ret d ρ'))
  | [], ρ, p, _ => ⟨ρ, p, .inl ⟨fun _ h => absurd h (by simp), rfl⟩⟩
  | x :: xs, ρ, p, h => by
    obtain ⟨ρ1, ρ', e1, p', e2⟩ := h x (List.mem_cons_self) ρ p
    rw [forL, e1, Fl.opt_some, Fl.bind_next]
    rcases e2 with ⟨g, e2⟩ | ⟨g, e2⟩
    · rw [e2, Fl.turn_next]
      obtain ⟨ρ2, p2, q⟩ := forL_or (xs := xs) p' fun y hy => h y (List.mem_cons_of_mem _ hy)
      refine ⟨ρ2, p2, q.imp (fun q => ⟨fun y hy => ?_, q.2⟩) fun q => ⟨fun z => q.1 fun y hy => z y (List.mem_cons_of_mem _ hy), q.2⟩⟩
      rcases List.mem_cons.mp hy with rfl | hy
      · exact g
      · exact q.1 y hy
    · rw [e2]
      exact ⟨ρ', p', .inr ⟨fun z => g (z x List.mem_cons_self), rfl⟩⟩
/-- a loop that goes to its end -/
theorem forL_inv {P : List D → Env → Prop} : ∀ {xs : List D} {ρ : Env}, P xs ρ → (∀ x ys ρ, P (x :: ys) ρ → ∃ ρ1 ρ', bd x ρ = some ρ1 ∧ P ys ρ' ∧ (body ρ1 = .next ρ' ∨ body ρ1 = .cont ρ')) → ∃ ρ', P [] ρ' ∧ forL bd body xs ρ = .next ρ'
  | [], ρ, p, _ => ⟨ρ, p, rfl⟩
  | x :: xs, ρ, p, h => by
    obtain ⟨ρ1, ρ', e1, p', e2⟩ := h x xs ρ p
    rw [forL, e1, Fl.opt_some, Fl.bind_next]
    rcases e2 with e2 | e2
    · rw [e2]; exact forL_inv p' h
    · rw [e2]; exact forL_inv p' h
end
theorem rngL_mem {a b : Int} {x : D} : x ∈ rngL a b ↔ ∃ i : Int, a ≤ i ∧ i < b ∧ x = .int i := by
  unfold rngL
  rw [List.mem_map]
  constructor
  · rintro ⟨i, hi, rfl⟩
    rw [List.mem_range] at hi
    exact ⟨_, by omega, by omega, rfl⟩
  · rintro ⟨i, h1, h2, rfl⟩
    refine ⟨(i - a).toNat, ?_, ?_⟩
    · rw [List.mem_range]; omega
    · congr 1; omega
@[simp] theorem bi_tuB {d : D} : biD .isTuple [d] = some (.bool (match d with | .tuple _ => true | _ => false)) := rfl
@[simp] theorem bi_liB {d : D} : biD .isList [d] = some (.bool (match d with | .list _ => true | _ => false)) := rfl
@[simp] theorem bi_inB {d : D} : biD .isInt [d] = some (.bool (match d with | .int _ => true | .bool _ => true | _ => false)) := rfl
@[simp] theorem bi_boB {d : D} : biD .isBool [d] = some (.bool (match d with | .bool _ => true | _ => false)) := rfl
@[simp] theorem bi_stB {d : D} : biD .isStr [d] = some (.bool (match d with | .str _ => true | _ => false)) := rfl
@[simp] theorem bi_itB {d : D} : biD .isIntTup [d] = some (.bool (match d with | .int _ => true | .bool _ => true | .tuple _ => true | _ => false)) := rfl
@[simp] theorem nonD_n : nonD .none = true := rfl
@[simp] theorem nonD_b {b : Bool} : nonD (.bool b) = false := rfl
@[simp] theorem nonD_i {b : Int} : nonD (.int b) = false := rfl
@[simp] theorem nonD_s {b : Str} : nonD (.str b) = false := rfl
@[simp] theorem nonD_l {b : List D} : nonD (.list b) = false := rfl
@[simp] theorem nonD_t {b : List D} : nonD (.tuple b) = false := rfl
@[simp] theorem nonD_d {b : List (D × D)} : nonD (.dict b) = false := rfl
theorem eq_s {a b : Str} (h1 : shp (.str a) = true) (h2 : shp (.str b) = true) : cmpD .eq (.str a) (.str b) = some (a == b) := by
  show (if shp (.str a) && shp (.str b) then some (PyData.eqv (.str a) (.str b)) else none) = _
  rw [PyData.eqv, h1, h2]; rfl
theorem eq_b {a b : Bool} : cmpD .eq (.bool a) (.bool b) = some (a == b) := by
  show (if shp (.bool a) && shp (.bool b) then some (PyData.eqv (.bool a) (.bool b)) else none) = _
  rw [PyData.eqv]; rfl
end G

set_option Elab.async false
set_option linter.all false
set_option maxRecDepth 100000
set_option autoImplicit false
/-! P1: expressions that change nothing, by an evaluator that hands no slots on. -/
namespace G
open PySem

inductive O (α : Type) where
  | ok (a : α)
  | exc (c : Ex)
  | err
namespace O
variable {α β : Type}
def bind (x : O α) (f : α → O β) : O β := match x with
  | .ok a => f a
  | .exc c => .exc c
  | .err => .err
@[simp] theorem bind_ok (a : α) (f : α → O β) : (O.ok a).bind f = f a := rfl
@[simp] theorem bind_exc (c : Ex) (f : α → O β) : (O.exc c : O α).bind f = .exc c := rfl
@[simp] theorem bind_err (f : α → O β) : (O.err : O α).bind f = .err := rfl
def opt (o : Option α) : O α := match o with | some a => .ok a | none => .err
@[simp] theorem opt_some (a : α) : opt (some a) = .ok a := rfl
@[simp] theorem opt_none : opt (none : Option α) = .err := rfl
def nox (x : O α) : O α := match x with | .ok a => .ok a | .exc _ => .err | .err => .err
@[simp] theorem nox_ok (a : α) : (O.ok a).nox = .ok a := rfl
@[simp] theorem nox_exc (c : Ex) : (O.exc c : O α).nox = .err := rfl
@[simp] theorem nox_err : (O.err : O α).nox = .err := rfl
def R (x : O α) (ρ : Env) : G.R α := match x with | .ok a => .ok a ρ | .exc c => .exc c ρ | .err => .err
@[simp] theorem R_ok (a : α) (ρ : Env) : (O.ok a).R ρ = .ok a ρ := rfl
@[simp] theorem R_exc (c : Ex) (ρ : Env) : (O.exc c : O α).R ρ = .exc c ρ := rfl
@[simp] theorem R_err (ρ : Env) : (O.err : O α).R ρ = .err := rfl
theorem R_bind (x : O α) (f : α → O β) (ρ : Env) : (x.R ρ).bind (fun a ρ => (f a).R ρ) = (x.bind f).R ρ := by cases x <;> rfl
theorem R_opt (o : Option α) (ρ : Env) : G.R.opt o ρ = (O.opt o).R ρ := by cases o <;> rfl
theorem R_nox (x : O α) (ρ : Env) : (x.R ρ).nox = x.nox.R ρ := by cases x <;> rfl
end O
def andO (o : Option Bool) (x y : O D) : O D := match o with | some true => y | some false => x | none => .err
@[simp] theorem andO_t (x y : O D) : andO (some true) x y = y := rfl
@[simp] theorem andO_f (x y : O D) : andO (some false) x y = x := rfl
def joinO (f : D → O (List D)) : List D → O (List D)
  | [] => .ok []
  | x :: xs => (f x).bind fun r => (joinO f xs).bind fun r' => .ok (r ++ r')
def limO (x : O (List D)) : O (List D) := x.bind fun r => thn (okLen r.length) (.ok r) .err
def joinKO (f : D → O (D × D)) : List D → List (D × D) → O (List (D × D))
  | [], acc => .ok acc
  | x :: xs, acc => (f x).bind fun p => thn (isKey p.1 && okLen acc.length) (joinKO f xs (putD acc p.1 p.2)) .err
def callO (r : CR) : O D := match r with
  | .ok d _ => .ok d
  | .exc c => .exc c
  | .err => .err
@[simp] theorem callO_ok (d : D) (st : List D) : callO (.ok d st) = .ok d := rfl
@[simp] theorem callO_exc (c : Ex) : callO (.exc c) = .exc c := rfl
@[simp] theorem callO_err : callO .err = .err := rfl
def r2D : D → D → Option (List D)
  | .int i, .int j => if decide (-(2 ^ 62) ≤ i) && decide (i < 2 ^ 62) && decide (-(2 ^ 62) ≤ j) && decide (j < 2 ^ 62) then some (rngL i j) else none
  | _, _ => none
def r3D : D → D → D → Option (List D)
  | .int i, .int j, .int k => if decide (-(2 ^ 62) ≤ i) && decide (i < 2 ^ 62) && decide (-(2 ^ 62) ≤ j) && decide (j < 2 ^ 62) && decide (k = -1) then some (rngL3 i j k) else none
  | _, _, _ => none
def enumD : D → Option (List D)
  | .list xs => some (enumL 0 xs)
  | .tuple xs => some (enumL 0 xs)
  | _ => none
def zipD : D → D → Option (List D)
  | .list xs, .list ys => some (zipL xs ys)
  | .tuple xs, .tuple ys => some (zipL xs ys)
  | _, _ => none

/-- one clause: what each item gives -/
def lcO (f : D → O (List D)) (xs : List D) : O D := (limO (joinO f xs)).bind fun ds => .ok (.list ds)
def itO (t : O Bool) (e : O D) : O (List D) := t.nox.bind fun t => thn t (e.nox.bind fun d => .ok [d]) (.ok [])
mutual
def pE (cs : CS) : E → Env → O D
  | .var i, ρ => O.opt (rd ρ i)
  | .bor i, ρ => O.opt (rdB ρ i)
  | .scr _, _ => .err
  | .non, _ => .ok .none
  | .bl b, _ => .ok (.bool b)
  | .int n, _ => .ok (.int n)
  | .str s, _ => .ok (.str s)
  | .glob _ v, _ => .ok v
  | .tup es, ρ => (pEs cs es ρ).bind fun ds => .ok (.tuple ds)
  | .lst es, ρ => (pEs cs es ρ).bind fun ds => .ok (.list ds)
  | .bin op a b, ρ => (pE cs a ρ).bind fun x => (pE cs b ρ).bind fun y => O.opt (binD op x y)
  | .neg a, ρ => (pE cs a ρ).bind fun x => O.opt (negD x)
  | .nt a, ρ => (pE cs a ρ).bind fun x => (O.opt (truD x)).bind fun b => .ok (.bool (!b))
  | .and a b, ρ => (pE cs a ρ).bind fun x => andO (truD x) (.ok x) (pE cs b ρ)
  | .or a b, ρ => (pE cs a ρ).bind fun x => andO (truD x) (pE cs b ρ) (.ok x)
  | .cmp op a b, ρ => (pE cs a ρ).bind fun x => (pE cs b ρ).bind fun y => (O.opt (cmpD op x y)).bind fun b => .ok (.bool b)
  | .chain op op' a b c, ρ => (pE cs a ρ).bind fun x => (pE cs b ρ).bind fun y => (O.opt (cmpD op x y)).bind fun t =>
      thn t ((pE cs c ρ).bind fun z => (O.opt (cmpD op' y z)).bind fun b => .ok (.bool b)) (.ok (.bool false))
  | .isNon ng a, ρ => (pE cs a ρ).bind fun x => .ok (.bool (xor ng (nonD x)))
  | .isTru ng a, ρ => (pE cs a ρ).bind fun x => O.opt (isTruD ng x)
  | .ife c a b, ρ => (pE cs c ρ).bind fun x => (O.opt (truD x)).bind fun t => thn t (pE cs a ρ) (pE cs b ρ)
  | .idx a b, ρ => (pE cs a ρ).bind fun x => (pE cs b ρ).bind fun y => O.opt (idxD x y)
  | .slc a lo hi, ρ => (pE cs a ρ).bind fun x => (pO cs lo ρ).bind fun l => (pO cs hi ρ).bind fun h => O.opt (slcD x l h)
  | .rev a, ρ => (pE cs a ρ).bind fun x => O.opt (revD x)
  | .call f es, ρ => (pEs cs es ρ).bind fun ds => callO (cs f [] ds)
  | .callS _ _ _, _ => .err
  | .bi b es, ρ => (pEs cs es ρ).bind fun ds => O.opt (biD b ds)
  | .pop _ _, _ => .err
  | .dict0, _ => .ok (.dict [])
  | .dict1 k v, ρ => (pE cs k ρ).bind fun k => (pE cs v ρ).bind fun v => thn (isKey k) (.ok (.dict [(k, v)])) .err
  | .lit it, ρ => (pI cs it ρ).bind fun xs => thn (okLen xs.length) (.ok (.list xs)) .err
  | .lc elt vs tg it cond, ρ => (pI cs it ρ).bind fun xs =>
      lcO (fun x => (O.opt (tg.bind x (kill ρ vs))).bind fun ρa => itO (pC cs cond ρa) (pE cs elt ρa)) xs
  | .lc2 elt vs tg it vs2 tg2 it2 cond, ρ => (pI cs it ρ).bind fun xs =>
      lcO (fun x => (O.opt (tg.bind x (kill ρ vs))).bind fun ρa => (pI cs it2 ρa).nox.bind fun ys =>
        joinO (fun y => (O.opt (tg2.bind y (kill ρa vs2))).bind fun ρb => itO (pC cs cond ρb) (pE cs elt ρb)) ys) xs
  | .dc k v vs tg it, ρ => (pI cs it ρ).bind fun xs =>
      (joinKO (fun x => (O.opt (tg.bind x (kill ρ vs))).bind fun ρa => (pE cs k ρa).nox.bind fun k => (pE cs v ρa).nox.bind fun v => .ok (k, v)) xs []).bind fun kvs => .ok (.dict kvs)
def pEs (cs : CS) : List E → Env → O (List D)
  | [], _ => .ok []
  | e :: es, ρ => (pE cs e ρ).bind fun d => (pEs cs es ρ).bind fun ds => .ok (d :: ds)
def pO (cs : CS) : Option E → Env → O (Option Int)
  | none, _ => .ok none
  | some e, ρ => (pE cs e ρ).bind fun d => O.opt (intO d)
def pC (cs : CS) : Option E → Env → O Bool
  | none, _ => .ok true
  | some e, ρ => (pE cs e ρ).bind fun d => O.opt (truD d)
def pI (cs : CS) : It → Env → O (List D)
  | .e m, ρ => (pE cs m ρ).bind fun d => O.opt (itemsD d)
  | .r1 b, ρ => (pE cs b ρ).bind fun y => O.opt (r1D y)
  | .r2 a b, ρ => (pE cs a ρ).bind fun x => (pE cs b ρ).bind fun y => O.opt (r2D x y)
  | .r3 a b c, ρ => (pE cs a ρ).bind fun x => (pE cs b ρ).bind fun y => (pE cs c ρ).bind fun z => O.opt (r3D x y z)
  | .enum m, ρ => (pE cs m ρ).bind fun d => O.opt (enumD d)
  | .zip a b, ρ => (pE cs a ρ).bind fun x => (pE cs b ρ).bind fun y => O.opt (zipD x y)
end

mutual
def tgIn : Tg → List Nat → Bool
  | .n i, vs => vs.contains i
  | .t ts, vs => tgIns ts vs
def tgIns : List Tg → List Nat → Bool
  | [], _ => true
  | t :: ts, vs => tgIn t vs && tgIns ts vs
end
mutual
/-- nothing is changed -/
def prE : E → Bool
  | .var _ => true
  | .bor _ => true
  | .scr _ => false
  | .non => true
  | .bl _ => true
  | .int _ => true
  | .str _ => true
  | .glob _ _ => true
  | .tup es => prEs es
  | .lst es => prEs es
  | .bin _ a b => prE a && prE b
  | .neg a => prE a
  | .nt a => prE a
  | .and a b => prE a && prE b
  | .or a b => prE a && prE b
  | .cmp _ a b => prE a && prE b
  | .chain _ _ a b c => prE a && prE b && prE c
  | .isNon _ a => prE a
  | .isTru _ a => prE a
  | .ife c a b => prE c && prE a && prE b
  | .idx a b => prE a && prE b
  | .slc a lo hi => prE a && prO lo && prO hi
  | .rev a => prE a
  | .call _ es => prEs es
  | .callS _ _ _ => false
  | .bi _ es => prEs es
  | .pop _ _ => false
  | .dict0 => true
  | .dict1 k v => prE k && prE v
  | .lit it => prI it
  | .lc elt vs tg it cond => prE elt && prI it && prO cond && tgIn tg vs
  | .lc2 elt vs tg it vs2 tg2 it2 cond => prE elt && prI it && prI it2 && prO cond && tgIn tg vs && tgIn tg2 vs2 && vs2.all (vs.contains ·)
  | .dc k v vs tg it => prE k && prE v && prI it && tgIn tg vs
def prEs : List E → Bool
  | [] => true
  | e :: es => prE e && prEs es
def prO : Option E → Bool
  | none => true
  | some e => prE e
def prI : It → Bool
  | .e m => prE m
  | .r1 b => prE b
  | .r2 a b => prE a && prE b
  | .r3 a b c => prE a && prE b && prE c
  | .enum m => prE m
  | .zip a b => prE a && prE b
end

/-! ### slots of a comprehension -/
structure Sm (vs : List Nat) (ρ ρ' : Env) : Prop where
  len : ρ'.length = ρ.length
  at_ : ∀ i, i ∉ vs → ρ'[i]? = ρ[i]?
theorem Sm.rfl' {vs : List Nat} {ρ : Env} : Sm vs ρ ρ := ⟨rfl, fun _ _ => rfl⟩
theorem Sm.trans {vs : List Nat} {a b c : Env} (h : Sm vs a b) (k : Sm vs b c) : Sm vs a c := ⟨k.len.trans h.len, fun i hi => (k.at_ i hi).trans (h.at_ i hi)⟩
theorem Sm.more {vs ws : List Nat} {a b : Env} (h : Sm vs a b) (k : ∀ i ∈ vs, i ∈ ws) : Sm ws a b := ⟨h.len, fun i hi => h.at_ i fun z => hi (k i z)⟩
theorem killAt : ∀ (vs : List Nat) (ρ : Env) (i : Nat), (kill ρ vs)[i]? = if i ∈ vs then (if i < ρ.length then some none else none) else ρ[i]?
  | [], ρ, i => by simp [kill]
  | v :: vs, ρ, i => by
    show (kill (ρ.set v none) vs)[i]? = _
    rw [killAt vs, List.length_set]
    by_cases h : i ∈ vs
    · rw [if_pos h, if_pos (List.mem_cons_of_mem _ h)]
    · rw [if_neg h]
      by_cases e : i = v
      · subst e
        rw [if_pos List.mem_cons_self]
        by_cases l : i < ρ.length
        · rw [if_pos l, List.getElem?_set_self l]
        · rw [if_neg l]
          exact List.getElem?_eq_none (by rw [List.length_set]; omega)
      · rw [if_neg (by simp [e, h]), List.getElem?_set_ne (fun z => e z.symm)]
theorem killLen : ∀ (vs : List Nat) (ρ : Env), (kill ρ vs).length = ρ.length
  | [], ρ => rfl
  | v :: vs, ρ => by
    show (kill (ρ.set v none) vs).length = _
    rw [killLen vs, List.length_set]
theorem sm_kill (vs : List Nat) (ρ : Env) : Sm vs ρ (kill ρ vs) := ⟨killLen _ _, fun i h => by rw [killAt, if_neg h]⟩
theorem kill_sm {vs : List Nat} {ρ ρ' : Env} (h : Sm vs ρ ρ') : kill ρ' vs = kill ρ vs := by
  refine List.ext_getElem? fun i => ?_
  rw [killAt, killAt, h.len]
  by_cases m : i ∈ vs
  · rw [if_pos m, if_pos m]
  · rw [if_neg m, if_neg m, h.at_ i m]
theorem wr_some {ρ ρ' : Env} {i : Nat} {x : D} (h : wr ρ i x = some ρ') : ρ' = ρ.set i (some (.d x)) := by
  unfold wr at h
  split at h
  · exact (Option.some.inj h).symm
  · cases h
mutual
theorem sm_bind : ∀ (tg : Tg) (vs : List Nat) (x : D) (ρ ρ' : Env), tgIn tg vs = true → tg.bind x ρ = some ρ' → Sm vs ρ ρ'
  | .n i, vs, x, ρ, ρ', h, e => by
    rw [Tg.bind] at e
    rw [tgIn] at h
    rw [wr_some e]
    refine ⟨List.length_set, fun j hj => List.getElem?_set_ne fun z => hj ?_⟩
    subst z
    simpa using h
  | .t ts, vs, .tuple xs, ρ, ρ', h, e => by
    rw [tgIn] at h
    rw [Tg.bind] at e
    exact sm_binds ts vs xs ρ ρ' h e
  | .t ts, vs, .list xs, ρ, ρ', h, e => by
    rw [tgIn] at h
    rw [Tg.bind] at e
    exact sm_binds ts vs xs ρ ρ' h e
  | .t ts, vs, .none, ρ, ρ', h, e => by simp [Tg.bind] at e
  | .t ts, vs, .bool _, ρ, ρ', h, e => by simp [Tg.bind] at e
  | .t ts, vs, .int _, ρ, ρ', h, e => by simp [Tg.bind] at e
  | .t ts, vs, .str _, ρ, ρ', h, e => by simp [Tg.bind] at e
  | .t ts, vs, .dict _, ρ, ρ', h, e => by simp [Tg.bind] at e
theorem sm_binds : ∀ (ts : List Tg) (vs : List Nat) (xs : List D) (ρ ρ' : Env), tgIns ts vs = true → Tg.binds ts xs ρ = some ρ' → Sm vs ρ ρ'
  | [], vs, [], ρ, ρ', h, e => by
    rw [Tg.binds] at e
    cases e
    exact .rfl'
  | [], vs, _ :: _, ρ, ρ', h, e => by simp [Tg.binds] at e
  | _ :: _, vs, [], ρ, ρ', h, e => by simp [Tg.binds] at e
  | t :: ts, vs, x :: xs, ρ, ρ', h, e => by
    rw [tgIns, Bool.and_eq_true] at h
    rw [Tg.binds] at e
    obtain ⟨ρ1, e1, e2⟩ := Option.bind_eq_some_iff.mp e
    exact (sm_bind t vs x ρ ρ1 h.1 e1).trans (sm_binds ts vs xs ρ1 ρ' h.2 e2)
end
theorem back_at : ∀ (vs : List Nat) (ρ ρ' : Env) (i : Nat), ρ'.length = ρ.length → (back vs ρ ρ')[i]? = if i ∈ vs then ρ[i]? else ρ'[i]?
  | [], ρ, ρ', i, _ => by simp [back]
  | v :: vs, ρ, ρ', i, l => by
    show (back vs ρ (ρ'.set v (ρ.getD v none)))[i]? = _
    rw [back_at vs _ _ _ (by rw [List.length_set]; exact l)]
    by_cases h : i ∈ vs
    · rw [if_pos h, if_pos (List.mem_cons_of_mem _ h)]
    · rw [if_neg h]
      by_cases e : i = v
      · subst e
        rw [if_pos List.mem_cons_self]
        by_cases q : i < ρ.length
        · rw [List.getElem?_set_self (by omega), List.getD_eq_getElem?_getD, List.getElem?_eq_getElem q]; rfl
        · rw [List.getElem?_eq_none (by rw [List.length_set]; omega), List.getElem?_eq_none (by omega)]
      · rw [if_neg (by simp [e, h]), List.getElem?_set_ne (fun z => e z.symm)]
theorem back_sm {vs : List Nat} {ρ ρ' : Env} (h : Sm vs ρ ρ') : back vs ρ ρ' = ρ := by
  refine List.ext_getElem? fun i => ?_
  rw [back_at _ _ _ _ h.len]
  by_cases m : i ∈ vs
  · rw [if_pos m]
  · rw [if_neg m, h.at_ i m]

theorem joinR_sm {vs : List Nat} {ρ : Env} {f : D → Env → R (List D)} {g : D → O (List D)} (h : ∀ x ρ', Sm vs ρ ρ' → ∃ ρ'', Sm vs ρ ρ'' ∧ f x ρ' = (g x).R ρ'') : ∀ (xs : List D) (ρ' : Env), Sm vs ρ ρ' → ∃ ρ'', Sm vs ρ ρ'' ∧ joinR f xs ρ' = (joinO g xs).R ρ''
  | [], ρ', s => ⟨ρ', s, rfl⟩
  | x :: xs, ρ', s => by
    obtain ⟨ρ1, s1, e1⟩ := h x ρ' s
    rw [joinR, joinO, e1]
    cases g x with
    | err => exact ⟨ρ1, s1, rfl⟩
    | exc c => exact ⟨ρ1, s1, rfl⟩
    | ok r =>
      obtain ⟨ρ2, s2, e2⟩ := joinR_sm h xs ρ1 s1
      refine ⟨ρ2, s2, ?_⟩
      rw [O.R_ok, R.bind_ok, O.bind_ok, e2]
      cases joinO g xs <;> rfl
theorem joinK_sm {vs : List Nat} {ρ : Env} {f : D → Env → R (D × D)} {g : D → O (D × D)} (h : ∀ x ρ', Sm vs ρ ρ' → ∃ ρ'', Sm vs ρ ρ'' ∧ f x ρ' = (g x).R ρ'') : ∀ (xs : List D) (acc : List (D × D)) (ρ' : Env), Sm vs ρ ρ' → ∃ ρ'', Sm vs ρ ρ'' ∧ joinK f xs ρ' acc = (joinKO g xs acc).R ρ''
  | [], acc, ρ', s => ⟨ρ', s, rfl⟩
  | x :: xs, acc, ρ', s => by
    obtain ⟨ρ1, s1, e1⟩ := h x ρ' s
    rw [joinK, joinKO, e1]
    cases g x with
    | err => exact ⟨ρ1, s1, rfl⟩
    | exc c => exact ⟨ρ1, s1, rfl⟩
    | ok p =>
      rw [O.R_ok, R.bind_ok, O.bind_ok]
      by_cases q : (isKey p.1 && okLen acc.length) = true
      · rw [if_pos q, q]
        exact joinK_sm h xs _ ρ1 s1
      · rw [if_neg q, Bool.not_eq_true _ |>.mp q]
        exact ⟨ρ1, s1, rfl⟩

theorem joinO_ne {g : D → O (List D)} (h : ∀ x c, g x ≠ .exc c) : ∀ (xs : List D) (c : Ex), joinO g xs ≠ .exc c
  | [], c, e => by cases e
  | x :: xs, c, e => by
    rw [joinO] at e
    cases q : g x with
    | err => rw [q] at e; cases e
    | exc c' => exact h x c' q
    | ok r =>
      rw [q, O.bind_ok] at e
      cases q2 : joinO g xs with
      | err => rw [q2] at e; cases e
      | exc c' => exact joinO_ne h xs c' q2
      | ok r' => rw [q2] at e; cases e
theorem joinKO_ne {g : D → O (D × D)} (h : ∀ x c, g x ≠ .exc c) : ∀ (xs : List D) (acc : List (D × D)) (c : Ex), joinKO g xs acc ≠ .exc c
  | [], acc, c, e => by cases e
  | x :: xs, acc, c, e => by
    rw [joinKO] at e
    cases q : g x with
    | err => rw [q] at e; cases e
    | exc c' => exact h x c' q
    | ok p =>
      rw [q, O.bind_ok] at e
      cases q2 : (isKey p.1 && okLen acc.length) with
      | true => rw [q2] at e; exact joinKO_ne h xs _ c e
      | false => rw [q2] at e; cases e
theorem itO_ne {t : O Bool} {e : O D} {c : Ex} : itO t e ≠ .exc c := fun z => by
  unfold itO at z
  cases t with
  | ok t =>
    cases t with
    | false => cases z
    | true => cases e <;> cases z
  | _ => cases z
theorem optb_ne {α β : Type} {o : Option α} {f : α → O β} {c : Ex} (h : ∀ a, f a ≠ .exc c) : (O.opt o).bind f ≠ .exc c := fun z => by
  cases o with
  | none => cases z
  | some a => exact h a z
theorem noxb_ne {α β : Type} {o : O α} {f : α → O β} {c : Ex} (h : ∀ a, f a ≠ .exc c) : o.nox.bind f ≠ .exc c := fun z => by
  cases o with
  | ok a => exact h a z
  | _ => cases z
mutual
theorem ev_pr (cs : CS) : ∀ (e : E) (ρ : Env), prE e = true → evE cs e ρ = (pE cs e ρ).R ρ
  | .var i, ρ, _ => by rw [evE, pE, O.R_opt]
  | .bor i, ρ, _ => by rw [evE, pE, O.R_opt]
  | .scr _, _, h => by rw [prE] at h; cases h
  | .non, _, _ => by rw [evE, pE]; rfl
  | .bl b, _, _ => by rw [evE, pE]; rfl
  | .int n, _, _ => by rw [evE, pE]; rfl
  | .str s, _, _ => by rw [evE, pE]; rfl
  | .glob _ v, _, _ => by rw [evE, pE]; rfl
  | .tup es, ρ, h => by
    rw [prE] at h
    rw [evE, pE, evs_pr cs es ρ h]
    cases pEs cs es ρ <;> rfl
  | .lst es, ρ, h => by
    rw [prE] at h
    rw [evE, pE, evs_pr cs es ρ h]
    cases pEs cs es ρ <;> rfl
  | .bin op a b, ρ, h => by
    rw [prE, Bool.and_eq_true] at h
    rw [evE, pE, ev_pr cs a ρ h.1]
    cases pE cs a ρ with
    | ok x =>
      simp only [O.R_ok, R.bind_ok, O.bind_ok]
      rw [ev_pr cs b ρ h.2]
      cases pE cs b ρ with
      | ok y => simp only [O.R_ok, R.bind_ok, O.bind_ok, O.R_opt]
      | _ => rfl
    | _ => rfl
  | .neg a, ρ, h => by
    rw [prE] at h
    rw [e_neg, pE, ev_pr cs a ρ h]
    cases pE cs a ρ with
    | ok x => simp only [O.R_ok, R.bind_ok, O.bind_ok, O.R_opt]
    | _ => rfl
  | .nt a, ρ, h => by
    rw [prE] at h
    rw [e_nt, tru_def, pE, ev_pr cs a ρ h]
    cases pE cs a ρ with
    | ok x =>
      simp only [O.R_ok, R.bind_ok, O.bind_ok]
      cases truD x <;> rfl
    | _ => rfl
  | .and a b, ρ, h => by
    rw [prE, Bool.and_eq_true] at h
    rw [e_and, pE, ev_pr cs a ρ h.1]
    cases pE cs a ρ with
    | ok x =>
      simp only [O.R_ok, R.bind_ok, O.bind_ok]
      rw [ev_pr cs b ρ h.2]
      cases truD x with
      | none => rfl
      | some t => cases t <;> rfl
    | _ => rfl
  | .or a b, ρ, h => by
    rw [prE, Bool.and_eq_true] at h
    rw [e_or, pE, ev_pr cs a ρ h.1]
    cases pE cs a ρ with
    | ok x =>
      simp only [O.R_ok, R.bind_ok, O.bind_ok]
      rw [ev_pr cs b ρ h.2]
      cases truD x with
      | none => rfl
      | some t => cases t <;> rfl
    | _ => rfl
  | .cmp op a b, ρ, h => by
    rw [prE, Bool.and_eq_true] at h
    rw [e_cmp, pE, ev_pr cs a ρ h.1]
    cases pE cs a ρ with
    | ok x =>
      simp only [O.R_ok, R.bind_ok, O.bind_ok]
      rw [ev_pr cs b ρ h.2]
      cases pE cs b ρ with
      | ok y =>
        simp only [O.R_ok, R.bind_ok, O.bind_ok]
        cases cmpD op x y <;> rfl
      | _ => rfl
    | _ => rfl
  | .chain op op' a b c, ρ, h => by
    rw [prE, Bool.and_eq_true, Bool.and_eq_true] at h
    rw [e_chain, pE, ev_pr cs a ρ h.1.1]
    cases pE cs a ρ with
    | ok x =>
      simp only [O.R_ok, R.bind_ok, O.bind_ok]
      rw [ev_pr cs b ρ h.1.2]
      cases pE cs b ρ with
      | ok y =>
        simp only [O.R_ok, R.bind_ok, O.bind_ok]
        cases cmpD op x y with
        | none => rfl
        | some t =>
          cases t with
          | false => rfl
          | true =>
            simp only [R.opt_some, O.opt_some, R.bind_ok, O.bind_ok, thn_t]
            rw [ev_pr cs c ρ h.2]
            cases pE cs c ρ with
            | ok z =>
              simp only [O.R_ok, R.bind_ok, O.bind_ok]
              cases cmpD op' y z <;> rfl
            | _ => rfl
      | _ => rfl
    | _ => rfl
  | .isNon ng a, ρ, h => by
    rw [prE] at h
    rw [e_isNon, pE, ev_pr cs a ρ h]
    cases pE cs a ρ <;> rfl
  | .isTru ng a, ρ, h => by
    rw [prE] at h
    rw [e_isTru, pE, ev_pr cs a ρ h]
    cases pE cs a ρ with
    | ok x => simp only [O.R_ok, R.bind_ok, O.bind_ok, O.R_opt]
    | _ => rfl
  | .ife c a b, ρ, h => by
    rw [prE, Bool.and_eq_true, Bool.and_eq_true] at h
    rw [e_ife, tru_def, pE, ev_pr cs c ρ h.1.1]
    cases pE cs c ρ with
    | ok x =>
      simp only [O.R_ok, R.bind_ok, O.bind_ok]
      cases truD x with
      | none => rfl
      | some t =>
        simp only [R.opt_some, O.opt_some, R.bind_ok, O.bind_ok]
        cases t with
        | true => exact ev_pr cs a ρ h.1.2
        | false => exact ev_pr cs b ρ h.2
    | _ => rfl
  | .idx a b, ρ, h => by
    rw [prE, Bool.and_eq_true] at h
    rw [e_idx, pE, ev_pr cs a ρ h.1]
    cases pE cs a ρ with
    | ok x =>
      simp only [O.R_ok, R.bind_ok, O.bind_ok]
      rw [ev_pr cs b ρ h.2]
      cases pE cs b ρ with
      | ok y => simp only [O.R_ok, R.bind_ok, O.bind_ok, O.R_opt]
      | _ => rfl
    | _ => rfl
  | .slc a lo hi, ρ, h => by
    rw [prE, Bool.and_eq_true, Bool.and_eq_true] at h
    rw [e_slc, pE, ev_pr cs a ρ h.1.1]
    cases pE cs a ρ with
    | ok x =>
      simp only [O.R_ok, R.bind_ok, O.bind_ok]
      rw [evo_pr cs lo ρ h.1.2]
      cases pO cs lo ρ with
      | ok y =>
        simp only [O.R_ok, R.bind_ok, O.bind_ok]
        rw [evo_pr cs hi ρ h.2]
        cases pO cs hi ρ with
        | ok z => simp only [O.R_ok, R.bind_ok, O.bind_ok, O.R_opt]
        | _ => rfl
      | _ => rfl
    | _ => rfl
  | .rev a, ρ, h => by
    rw [prE] at h
    rw [e_rev, pE, ev_pr cs a ρ h]
    cases pE cs a ρ with
    | ok x => simp only [O.R_ok, R.bind_ok, O.bind_ok, O.R_opt]
    | _ => rfl
  | .call f es, ρ, h => by
    rw [prE] at h
    rw [e_call, pE, evs_pr cs es ρ h]
    cases pEs cs es ρ with
    | ok ds =>
      simp only [O.R_ok, R.bind_ok, O.bind_ok]
      cases cs f [] ds <;> rfl
    | _ => rfl
  | .callS _ _ _, _, h => by rw [prE] at h; cases h
  | .bi b es, ρ, h => by
    rw [prE] at h
    rw [e_bi, pE, evs_pr cs es ρ h]
    cases pEs cs es ρ with
    | ok ds => simp only [O.R_ok, R.bind_ok, O.bind_ok, O.R_opt]
    | _ => rfl
  | .pop _ _, _, h => by rw [prE] at h; cases h
  | .dict0, _, _ => by rw [evE, pE]; rfl
  | .dict1 k v, ρ, h => by
    rw [prE, Bool.and_eq_true] at h
    rw [evE, pE, ev_pr cs k ρ h.1]
    cases pE cs k ρ with
    | ok x =>
      simp only [O.R_ok, R.bind_ok, O.bind_ok]
      rw [ev_pr cs v ρ h.2]
      cases pE cs v ρ with
      | ok y =>
        simp only [O.R_ok, R.bind_ok, O.bind_ok]
        cases isKey x <;> rfl
      | _ => rfl
    | _ => rfl
  | .lit it, ρ, h => by
    rw [prE] at h
    rw [evE, pE, evi_pr cs it ρ h]
    cases pI cs it ρ with
    | ok xs =>
      simp only [O.R_ok, R.bind_ok, O.bind_ok]
      cases okLen xs.length <;> rfl
    | _ => rfl
  | .lc elt vs tg it cond, ρ, h => by
    rw [prE, Bool.and_eq_true, Bool.and_eq_true, Bool.and_eq_true] at h
    obtain ⟨⟨⟨h1, h2⟩, h3⟩, h4⟩ := h
    rw [evE, pE, evi_pr cs it ρ h2]
    cases pI cs it ρ with
    | ok xs =>
      simp only [O.R_ok, R.bind_ok, O.bind_ok]
      obtain ⟨ρ2, s2, e2⟩ := joinR_sm (vs := vs) (ρ := ρ) (f := fun x ρ => (R.opt (tg.bind x (kill ρ vs)) ρ).bind fun ρa _ => (evC cs cond ρa).nox.bind fun t ρ => if t then (evE cs elt ρ).nox.bind fun d ρ => .ok [d] ρ else .ok [] ρ)
        (g := fun x => (O.opt (tg.bind x (kill ρ vs))).bind fun ρa => itO (pC cs cond ρa) (pE cs elt ρa)) (by
          intro x ρ' s
          simp only [kill_sm s]
          cases hb : tg.bind x (kill ρ vs) with
          | none => exact ⟨ρ', s, rfl⟩
          | some ρa =>
            have sa := (sm_kill vs ρ).trans (sm_bind tg vs x _ _ h4 hb)
            refine ⟨ρa, sa, ?_⟩
            simp only [R.opt_some, O.opt_some, R.bind_ok, O.bind_ok]
            rw [evc_pr cs cond ρa h3]
            unfold itO
            cases pC cs cond ρa with
            | ok t =>
              simp only [O.R_ok, R.nox_ok, O.nox_ok, R.bind_ok, O.bind_ok]
              cases t with
              | false => rfl
              | true =>
                simp only [if_true, thn_t]
                rw [ev_pr cs elt ρa h1]
                cases pE cs elt ρa <;> rfl
            | _ => rfl) xs ρ .rfl'
      rw [e2]
      unfold lcO
      cases q : joinO (fun x => (O.opt (tg.bind x (kill ρ vs))).bind fun ρa => itO (pC cs cond ρa) (pE cs elt ρa)) xs with
      | ok ds =>
        unfold limR limO
        simp only [O.R_ok, R.bind_ok, O.bind_ok]
        cases okLen ds.length with
        | true => simp only [if_true, thn_t, R.bind_ok, O.bind_ok, O.R_ok, back_sm s2]
        | false => rfl
      | exc c => exact absurd q (joinO_ne (fun x c => optb_ne fun _ => itO_ne) xs c)
      | err => rfl
    | _ => rfl
  | .lc2 elt vs tg it vs2 tg2 it2 cond, ρ, h => by
    rw [prE] at h
    simp only [Bool.and_eq_true] at h
    obtain ⟨⟨⟨⟨⟨⟨h1, h2⟩, h2'⟩, h3⟩, h4⟩, h5⟩, h6⟩ := h
    have hv : ∀ i ∈ vs2, i ∈ vs := fun i hi => by simpa using List.all_eq_true.mp h6 i hi
    rw [evE, pE, evi_pr cs it ρ h2]
    cases pI cs it ρ with
    | ok xs =>
      simp only [O.R_ok, R.bind_ok, O.bind_ok]
      obtain ⟨ρ2, s2, e2⟩ := joinR_sm (vs := vs) (ρ := ρ) (f := fun x ρ => (R.opt (tg.bind x (kill ρ vs)) ρ).bind fun ρa _ => (evI cs it2 ρa).nox.bind fun ys ρ =>
            joinR (fun y ρ => (R.opt (tg2.bind y (kill ρ vs2)) ρ).bind fun ρb _ => (evC cs cond ρb).nox.bind fun t ρ => if t then (evE cs elt ρ).nox.bind fun d ρ => .ok [d] ρ else .ok [] ρ) ys ρ)
        (g := fun x => (O.opt (tg.bind x (kill ρ vs))).bind fun ρa => (pI cs it2 ρa).nox.bind fun ys =>
          joinO (fun y => (O.opt (tg2.bind y (kill ρa vs2))).bind fun ρb => itO (pC cs cond ρb) (pE cs elt ρb)) ys) (by
          intro x ρ' s
          simp only [kill_sm s]
          cases hb : tg.bind x (kill ρ vs) with
          | none => exact ⟨ρ', s, rfl⟩
          | some ρa =>
            have sa := (sm_kill vs ρ).trans (sm_bind tg vs x _ _ h4 hb)
            simp only [R.opt_some, O.opt_some, R.bind_ok, O.bind_ok]
            rw [evi_pr cs it2 ρa h2']
            cases pI cs it2 ρa with
            | ok ys =>
              simp only [O.R_ok, R.nox_ok, O.nox_ok, R.bind_ok, O.bind_ok]
              obtain ⟨ρ3, s3, e3⟩ := joinR_sm (vs := vs2) (ρ := ρa) (f := fun y ρ => (R.opt (tg2.bind y (kill ρ vs2)) ρ).bind fun ρb _ => (evC cs cond ρb).nox.bind fun t ρ => if t then (evE cs elt ρ).nox.bind fun d ρ => .ok [d] ρ else .ok [] ρ)
                (g := fun y => (O.opt (tg2.bind y (kill ρa vs2))).bind fun ρb => itO (pC cs cond ρb) (pE cs elt ρb)) (by
                  intro y ρ'' s'
                  simp only [kill_sm s']
                  cases hb2 : tg2.bind y (kill ρa vs2) with
                  | none => exact ⟨ρ'', s', rfl⟩
                  | some ρb =>
                    have sb := (sm_kill vs2 ρa).trans (sm_bind tg2 vs2 y _ _ h5 hb2)
                    refine ⟨ρb, sb, ?_⟩
                    simp only [R.opt_some, O.opt_some, R.bind_ok, O.bind_ok]
                    rw [evc_pr cs cond ρb h3]
                    unfold itO
                    cases pC cs cond ρb with
                    | ok t =>
                      simp only [O.R_ok, R.nox_ok, O.nox_ok, R.bind_ok, O.bind_ok]
                      cases t with
                      | false => rfl
                      | true =>
                        simp only [if_true, thn_t]
                        rw [ev_pr cs elt ρb h1]
                        cases pE cs elt ρb <;> rfl
                    | _ => rfl) ys ρa .rfl'
              exact ⟨ρ3, sa.trans (s3.more hv), e3⟩
            | _ => exact ⟨ρa, sa, rfl⟩) xs ρ .rfl'
      rw [e2]
      unfold lcO
      cases q : joinO (fun x => (O.opt (tg.bind x (kill ρ vs))).bind fun ρa => (pI cs it2 ρa).nox.bind fun ys =>
          joinO (fun y => (O.opt (tg2.bind y (kill ρa vs2))).bind fun ρb => itO (pC cs cond ρb) (pE cs elt ρb)) ys) xs with
      | ok ds =>
        unfold limR limO
        simp only [O.R_ok, R.bind_ok, O.bind_ok]
        cases okLen ds.length with
        | true => simp only [if_true, thn_t, R.bind_ok, O.bind_ok, O.R_ok, back_sm s2]
        | false => rfl
      | exc c => exact absurd q (joinO_ne (fun x c => optb_ne fun _ => noxb_ne fun ys => joinO_ne (fun _ _ => optb_ne fun _ => itO_ne) ys c) xs c)
      | err => rfl
    | _ => rfl
  | .dc k v vs tg it, ρ, h => by
    rw [prE] at h
    simp only [Bool.and_eq_true] at h
    obtain ⟨⟨⟨h1, h1'⟩, h2⟩, h4⟩ := h
    rw [evE, pE, evi_pr cs it ρ h2]
    cases pI cs it ρ with
    | ok xs =>
      simp only [O.R_ok, R.bind_ok, O.bind_ok]
      obtain ⟨ρ2, s2, e2⟩ := joinK_sm (vs := vs) (ρ := ρ) (f := fun x ρ => (R.opt (tg.bind x (kill ρ vs)) ρ).bind fun ρa _ => (evE cs k ρa).nox.bind fun k ρ => (evE cs v ρ).nox.bind fun v ρ => .ok (k, v) ρ)
        (g := fun x => (O.opt (tg.bind x (kill ρ vs))).bind fun ρa => (pE cs k ρa).nox.bind fun k => (pE cs v ρa).nox.bind fun v => .ok (k, v)) (by
          intro x ρ' s
          simp only [kill_sm s]
          cases hb : tg.bind x (kill ρ vs) with
          | none => exact ⟨ρ', s, rfl⟩
          | some ρa =>
            have sa := (sm_kill vs ρ).trans (sm_bind tg vs x _ _ h4 hb)
            refine ⟨ρa, sa, ?_⟩
            simp only [R.opt_some, O.opt_some, R.bind_ok, O.bind_ok]
            rw [ev_pr cs k ρa h1]
            cases pE cs k ρa with
            | ok x =>
              simp only [O.R_ok, R.nox_ok, O.nox_ok, R.bind_ok, O.bind_ok]
              rw [ev_pr cs v ρa h1']
              cases pE cs v ρa <;> rfl
            | _ => rfl) xs [] ρ .rfl'
      rw [e2]
      cases q : joinKO (fun x => (O.opt (tg.bind x (kill ρ vs))).bind fun ρa => (pE cs k ρa).nox.bind fun k => (pE cs v ρa).nox.bind fun v => .ok (k, v)) xs [] with
      | ok ds => simp only [O.R_ok, R.bind_ok, O.bind_ok, back_sm s2]
      | exc c => exact absurd q (joinKO_ne (fun x c => optb_ne fun _ => noxb_ne fun _ => noxb_ne fun _ z => by cases z) xs [] c)
      | err => rfl
    | _ => rfl
theorem evs_pr (cs : CS) : ∀ (es : List E) (ρ : Env), prEs es = true → evEs cs es ρ = (pEs cs es ρ).R ρ
  | [], ρ, _ => by rw [evEs, pEs]; rfl
  | e :: es, ρ, h => by
    rw [prEs, Bool.and_eq_true] at h
    rw [evEs, pEs, ev_pr cs e ρ h.1]
    cases pE cs e ρ with
    | ok d =>
      simp only [O.R_ok, R.bind_ok, O.bind_ok]
      rw [evs_pr cs es ρ h.2]
      cases pEs cs es ρ <;> rfl
    | _ => rfl
theorem evo_pr (cs : CS) : ∀ (o : Option E) (ρ : Env), prO o = true → evO cs o ρ = (pO cs o ρ).R ρ
  | none, ρ, _ => by rw [evO, pO]; rfl
  | some e, ρ, h => by
    rw [prO] at h
    rw [o_some, pO, ev_pr cs e ρ h]
    cases pE cs e ρ with
    | ok x => simp only [O.R_ok, R.bind_ok, O.bind_ok, O.R_opt]
    | _ => rfl
theorem evc_pr (cs : CS) : ∀ (o : Option E) (ρ : Env), prO o = true → evC cs o ρ = (pC cs o ρ).R ρ
  | none, ρ, _ => by rw [evC, pC]; rfl
  | some e, ρ, h => by
    rw [prO] at h
    rw [c_some, tru_def, pC, ev_pr cs e ρ h]
    cases pE cs e ρ with
    | ok x => simp only [O.R_ok, R.bind_ok, O.bind_ok, O.R_opt]
    | _ => rfl
theorem evi_pr (cs : CS) : ∀ (it : It) (ρ : Env), prI it = true → evI cs it ρ = (pI cs it ρ).R ρ
  | .e m, ρ, h => by
    rw [prI] at h
    rw [i_e, pI, ev_pr cs m ρ h]
    cases pE cs m ρ with
    | ok x => simp only [O.R_ok, R.bind_ok, O.bind_ok, O.R_opt]
    | _ => rfl
  | .r1 b, ρ, h => by
    rw [prI] at h
    rw [i_r1, pI, ev_pr cs b ρ h]
    cases pE cs b ρ with
    | ok x => simp only [O.R_ok, R.bind_ok, O.bind_ok, O.R_opt]
    | _ => rfl
  | .r2 a b, ρ, h => by
    rw [prI, Bool.and_eq_true] at h
    rw [evI, pI, ev_pr cs a ρ h.1]
    cases pE cs a ρ with
    | ok x =>
      simp only [O.R_ok, R.bind_ok, O.bind_ok]
      rw [ev_pr cs b ρ h.2]
      cases pE cs b ρ with
      | ok y =>
        simp only [O.R_ok, R.bind_ok, O.bind_ok]
        cases x <;> cases y <;> try rfl
        unfold r2D
        dsimp only
        split <;> rfl
      | _ => rfl
    | _ => rfl
  | .r3 a b c, ρ, h => by
    rw [prI, Bool.and_eq_true, Bool.and_eq_true] at h
    rw [evI, pI, ev_pr cs a ρ h.1.1]
    cases pE cs a ρ with
    | ok x =>
      simp only [O.R_ok, R.bind_ok, O.bind_ok]
      rw [ev_pr cs b ρ h.1.2]
      cases pE cs b ρ with
      | ok y =>
        simp only [O.R_ok, R.bind_ok, O.bind_ok]
        rw [ev_pr cs c ρ h.2]
        cases pE cs c ρ with
        | ok z =>
          simp only [O.R_ok, R.bind_ok, O.bind_ok]
          cases x <;> cases y <;> cases z <;> try rfl
          unfold r3D
          dsimp only
          split <;> rfl
        | _ => rfl
      | _ => rfl
    | _ => rfl
  | .enum m, ρ, h => by
    rw [prI] at h
    rw [evI, pI, ev_pr cs m ρ h]
    cases pE cs m ρ with
    | ok x =>
      simp only [O.R_ok, R.bind_ok, O.bind_ok]
      cases x <;> rfl
    | _ => rfl
  | .zip a b, ρ, h => by
    rw [prI, Bool.and_eq_true] at h
    rw [evI, pI, ev_pr cs a ρ h.1]
    cases pE cs a ρ with
    | ok x =>
      simp only [O.R_ok, R.bind_ok, O.bind_ok]
      rw [ev_pr cs b ρ h.2]
      cases pE cs b ρ with
      | ok y =>
        simp only [O.R_ok, R.bind_ok, O.bind_ok]
        cases x <;> cases y <;> rfl
      | _ => rfl
    | _ => rfl
end
end G

set_option Elab.async false
set_option linter.all false
set_option maxRecDepth 100000
set_option autoImplicit false
/-! P2: the evaluator of what changes nothing, by simp; comprehensions. -/
namespace G
open PySem

section
variable {cs : CS} {ρ : Env} {a b c e : E} {es : List E} {i f : Nat} {it it2 : It} {o : Option E}
@[simp high] theorem ev_p (h : prE e = true) : evE cs e ρ = (pE cs e ρ).R ρ := ev_pr cs e ρ h
@[simp high] theorem evi_p (h : prI it = true) : evI cs it ρ = (pI cs it ρ).R ρ := evi_pr cs it ρ h
@[simp] theorem pr_var : prE (.var i) = true := by rw [prE]
@[simp] theorem pr_bor : prE (.bor i) = true := by rw [prE]
@[simp] theorem pr_scr : prE (.scr i) = false := by rw [prE]
@[simp] theorem pr_non : prE .non = true := by rw [prE]
@[simp] theorem pr_bl {x : Bool} : prE (.bl x) = true := by rw [prE]
@[simp] theorem pr_int {x : Int} : prE (.int x) = true := by rw [prE]
@[simp] theorem pr_str {x : Str} : prE (.str x) = true := by rw [prE]
@[simp] theorem pr_glob {x : Str} {v : D} : prE (.glob x v) = true := by rw [prE]
@[simp] theorem pr_tup : prE (.tup es) = prEs es := by rw [prE]
@[simp] theorem pr_lst : prE (.lst es) = prEs es := by rw [prE]
@[simp] theorem pr_bin {op : BOp} : prE (.bin op a b) = (prE a && prE b) := by rw [prE]
@[simp] theorem pr_neg : prE (.neg a) = prE a := by rw [prE]
@[simp] theorem pr_nt : prE (.nt a) = prE a := by rw [prE]
@[simp] theorem pr_and : prE (.and a b) = (prE a && prE b) := by rw [prE]
@[simp] theorem pr_or : prE (.or a b) = (prE a && prE b) := by rw [prE]
@[simp] theorem pr_cmp {op : COp} : prE (.cmp op a b) = (prE a && prE b) := by rw [prE]
@[simp] theorem pr_chain {op op' : COp} : prE (.chain op op' a b c) = (prE a && prE b && prE c) := by rw [prE]
@[simp] theorem pr_isNon {n : Bool} : prE (.isNon n a) = prE a := by rw [prE]
@[simp] theorem pr_isTru {n : Bool} : prE (.isTru n a) = prE a := by rw [prE]
@[simp] theorem pr_ife : prE (.ife c a b) = (prE c && prE a && prE b) := by rw [prE]
@[simp] theorem pr_idx : prE (.idx a b) = (prE a && prE b) := by rw [prE]
@[simp] theorem pr_slc {lo hi : Option E} : prE (.slc a lo hi) = (prE a && prO lo && prO hi) := by rw [prE]
@[simp] theorem pr_rev : prE (.rev a) = prE a := by rw [prE]
@[simp] theorem pr_call : prE (.call f es) = prEs es := by rw [prE]
@[simp] theorem pr_callS : prE (.callS f i es) = false := by rw [prE]
@[simp] theorem pr_bi {q : Bi} : prE (.bi q es) = prEs es := by rw [prE]
@[simp] theorem pr_pop : prE (.pop i e) = false := by rw [prE]
@[simp] theorem pr_dict0 : prE .dict0 = true := by rw [prE]
@[simp] theorem pr_dict1 : prE (.dict1 a b) = (prE a && prE b) := by rw [prE]
@[simp] theorem pr_lit : prE (.lit it) = prI it := by rw [prE]
@[simp] theorem pr_lc {elt : E} {vs : List Nat} {tg : Tg} {cond : Option E} : prE (.lc elt vs tg it cond) = (prE elt && prI it && prO cond && tgIn tg vs) := by rw [prE]
@[simp] theorem pr_lc2 {elt : E} {vs vs2 : List Nat} {tg tg2 : Tg} {cond : Option E} : prE (.lc2 elt vs tg it vs2 tg2 it2 cond) = (prE elt && prI it && prI it2 && prO cond && tgIn tg vs && tgIn tg2 vs2 && vs2.all (vs.contains ·)) := by rw [prE]
@[simp] theorem pr_dc {k v : E} {vs : List Nat} {tg : Tg} : prE (.dc k v vs tg it) = (prE k && prE v && prI it && tgIn tg vs) := by rw [prE]
@[simp] theorem pr_nil : prEs [] = true := by rw [prEs]
@[simp] theorem pr_cons : prEs (e :: es) = (prE e && prEs es) := by rw [prEs]
@[simp] theorem pr_onone : prO none = true := by rw [prO]
@[simp] theorem pr_osome : prO (some e) = prE e := by rw [prO]
@[simp] theorem pr_ie : prI (.e e) = prE e := by rw [prI]
@[simp] theorem pr_r1 : prI (.r1 a) = prE a := by rw [prI]
@[simp] theorem pr_r2 : prI (.r2 a b) = (prE a && prE b) := by rw [prI]
@[simp] theorem pr_r3 : prI (.r3 a b c) = (prE a && prE b && prE c) := by rw [prI]
@[simp] theorem pr_enum : prI (.enum a) = prE a := by rw [prI]
@[simp] theorem pr_zip : prI (.zip a b) = (prE a && prE b) := by rw [prI]
@[simp] theorem tgIn_n {vs : List Nat} : tgIn (.n i) vs = vs.contains i := by rw [tgIn]
@[simp] theorem tgIn_t {vs : List Nat} {ts : List Tg} : tgIn (.t ts) vs = tgIns ts vs := by rw [tgIn]
@[simp] theorem tgIns_nil {vs : List Nat} : tgIns [] vs = true := by rw [tgIns]
@[simp] theorem tgIns_cons {vs : List Nat} {t : Tg} {ts : List Tg} : tgIns (t :: ts) vs = (tgIn t vs && tgIns ts vs) := by rw [tgIns]

@[simp] theorem p_var : pE cs (.var i) ρ = O.opt (rd ρ i) := by rw [pE]
@[simp] theorem p_bor : pE cs (.bor i) ρ = O.opt (rdB ρ i) := by rw [pE]
@[simp] theorem p_non : pE cs .non ρ = .ok .none := by rw [pE]
@[simp] theorem p_bl {x : Bool} : pE cs (.bl x) ρ = .ok (.bool x) := by rw [pE]
@[simp] theorem p_int {x : Int} : pE cs (.int x) ρ = .ok (.int x) := by rw [pE]
@[simp] theorem p_str {x : Str} : pE cs (.str x) ρ = .ok (.str x) := by rw [pE]
@[simp] theorem p_glob {x : Str} {v : D} : pE cs (.glob x v) ρ = .ok v := by rw [pE]
@[simp] theorem p_tup : pE cs (.tup es) ρ = (pEs cs es ρ).bind fun ds => .ok (.tuple ds) := by rw [pE]
@[simp] theorem p_lst : pE cs (.lst es) ρ = (pEs cs es ρ).bind fun ds => .ok (.list ds) := by rw [pE]
@[simp] theorem p_bin {op : BOp} : pE cs (.bin op a b) ρ = (pE cs a ρ).bind fun x => (pE cs b ρ).bind fun y => O.opt (binD op x y) := by rw [pE]
@[simp] theorem p_neg : pE cs (.neg a) ρ = (pE cs a ρ).bind fun x => O.opt (negD x) := by rw [pE]
@[simp] theorem p_nt : pE cs (.nt a) ρ = (pE cs a ρ).bind fun x => (O.opt (truD x)).bind fun b => .ok (.bool (!b)) := by rw [pE]
@[simp] theorem p_and : pE cs (.and a b) ρ = (pE cs a ρ).bind fun x => andO (truD x) (.ok x) (pE cs b ρ) := by rw [pE]
@[simp] theorem p_or : pE cs (.or a b) ρ = (pE cs a ρ).bind fun x => andO (truD x) (pE cs b ρ) (.ok x) := by rw [pE]
@[simp] theorem p_cmp {op : COp} : pE cs (.cmp op a b) ρ = (pE cs a ρ).bind fun x => (pE cs b ρ).bind fun y => (O.opt (cmpD op x y)).bind fun b => .ok (.bool b) := by rw [pE]
@[simp] theorem p_chain {op op' : COp} : pE cs (.chain op op' a b c) ρ = (pE cs a ρ).bind fun x => (pE cs b ρ).bind fun y => (O.opt (cmpD op x y)).bind fun t =>
      thn t ((pE cs c ρ).bind fun z => (O.opt (cmpD op' y z)).bind fun b => .ok (.bool b)) (.ok (.bool false)) := by rw [pE]
@[simp] theorem p_isNon {ng : Bool} : pE cs (.isNon ng a) ρ = (pE cs a ρ).bind fun x => .ok (.bool (xor ng (nonD x))) := by rw [pE]
@[simp] theorem p_isTru {ng : Bool} : pE cs (.isTru ng a) ρ = (pE cs a ρ).bind fun x => O.opt (isTruD ng x) := by rw [pE]
@[simp] theorem p_ife : pE cs (.ife c a b) ρ = (pE cs c ρ).bind fun x => (O.opt (truD x)).bind fun t => thn t (pE cs a ρ) (pE cs b ρ) := by rw [pE]
@[simp] theorem p_idx : pE cs (.idx a b) ρ = (pE cs a ρ).bind fun x => (pE cs b ρ).bind fun y => O.opt (idxD x y) := by rw [pE]
@[simp] theorem p_slc {lo hi : Option E} : pE cs (.slc a lo hi) ρ = (pE cs a ρ).bind fun x => (pO cs lo ρ).bind fun l => (pO cs hi ρ).bind fun h => O.opt (slcD x l h) := by rw [pE]
@[simp] theorem p_rev : pE cs (.rev a) ρ = (pE cs a ρ).bind fun x => O.opt (revD x) := by rw [pE]
@[simp] theorem p_call : pE cs (.call f es) ρ = (pEs cs es ρ).bind fun ds => callO (cs f [] ds) := by rw [pE]
@[simp] theorem p_bi {q : Bi} : pE cs (.bi q es) ρ = (pEs cs es ρ).bind fun ds => O.opt (biD q ds) := by rw [pE]
@[simp] theorem p_dict0 : pE cs .dict0 ρ = .ok (.dict []) := by rw [pE]
@[simp] theorem p_dict1 {k v : E} : pE cs (.dict1 k v) ρ = (pE cs k ρ).bind fun k => (pE cs v ρ).bind fun v => thn (isKey k) (.ok (.dict [(k, v)])) .err := by rw [pE]
@[simp] theorem p_lit : pE cs (.lit it) ρ = (pI cs it ρ).bind fun xs => thn (okLen xs.length) (.ok (.list xs)) .err := by rw [pE]
@[simp] theorem p_lc {elt : E} {vs : List Nat} {tg : Tg} {cond : Option E} : pE cs (.lc elt vs tg it cond) ρ = (pI cs it ρ).bind fun xs =>
      lcO (fun x => (O.opt (tg.bind x (kill ρ vs))).bind fun ρa => itO (pC cs cond ρa) (pE cs elt ρa)) xs := by rw [pE]
@[simp] theorem p_lc2 {elt : E} {vs vs2 : List Nat} {tg tg2 : Tg} {cond : Option E} : pE cs (.lc2 elt vs tg it vs2 tg2 it2 cond) ρ = (pI cs it ρ).bind fun xs =>
      lcO (fun x => (O.opt (tg.bind x (kill ρ vs))).bind fun ρa => (pI cs it2 ρa).nox.bind fun ys =>
        joinO (fun y => (O.opt (tg2.bind y (kill ρa vs2))).bind fun ρb => itO (pC cs cond ρb) (pE cs elt ρb)) ys) xs := by rw [pE]
@[simp] theorem p_dc {k v : E} {vs : List Nat} {tg : Tg} : pE cs (.dc k v vs tg it) ρ = (pI cs it ρ).bind fun xs =>
      (joinKO (fun x => (O.opt (tg.bind x (kill ρ vs))).bind fun ρa => (pE cs k ρa).nox.bind fun k => (pE cs v ρa).nox.bind fun v => .ok (k, v)) xs []).bind fun kvs => .ok (.dict kvs) := by rw [pE]
@[simp] theorem ps_n : pEs cs [] ρ = .ok [] := by rw [pEs]
@[simp] theorem ps_c : pEs cs (e :: es) ρ = (pE cs e ρ).bind fun d => (pEs cs es ρ).bind fun ds => .ok (d :: ds) := by rw [pEs]
@[simp] theorem po_n : pO cs none ρ = .ok none := by rw [pO]
@[simp] theorem po_s : pO cs (some e) ρ = (pE cs e ρ).bind fun d => O.opt (intO d) := by rw [pO]
@[simp] theorem pc_n : pC cs none ρ = .ok true := by rw [pC]
@[simp] theorem pc_s : pC cs (some e) ρ = (pE cs e ρ).bind fun d => O.opt (truD d) := by rw [pC]
@[simp] theorem pi_e : pI cs (.e e) ρ = (pE cs e ρ).bind fun d => O.opt (itemsD d) := by rw [pI]
@[simp] theorem pi_r1 : pI cs (.r1 a) ρ = (pE cs a ρ).bind fun y => O.opt (r1D y) := by rw [pI]
@[simp] theorem pi_r2 : pI cs (.r2 a b) ρ = (pE cs a ρ).bind fun x => (pE cs b ρ).bind fun y => O.opt (r2D x y) := by rw [pI]
@[simp] theorem pi_r3 : pI cs (.r3 a b c) ρ = (pE cs a ρ).bind fun x => (pE cs b ρ).bind fun y => (pE cs c ρ).bind fun z => O.opt (r3D x y z) := by rw [pI]
@[simp] theorem pi_enum : pI cs (.enum a) ρ = (pE cs a ρ).bind fun d => O.opt (enumD d) := by rw [pI]
@[simp] theorem pi_zip : pI cs (.zip a b) ρ = (pE cs a ρ).bind fun x => (pE cs b ρ).bind fun y => O.opt (zipD x y) := by rw [pI]
@[simp] theorem items_l {xs : List D} : itemsD (.list xs) = some xs := rfl
@[simp] theorem items_t {xs : List D} : itemsD (.tuple xs) = some xs := rfl
@[simp] theorem enum_l {xs : List D} : enumD (.list xs) = some (enumL 0 xs) := rfl
@[simp] theorem enum_t {xs : List D} : enumD (.tuple xs) = some (enumL 0 xs) := rfl
@[simp] theorem zip_ll {xs ys : List D} : zipD (.list xs) (.list ys) = some (zipL xs ys) := rfl
@[simp] theorem zip_tt {xs ys : List D} : zipD (.tuple xs) (.tuple ys) = some (zipL xs ys) := rfl
@[simp] theorem kill_nil : kill ρ [] = ρ := rfl
@[simp] theorem kill_cons {v : Nat} {vs : List Nat} : kill ρ (v :: vs) = kill (ρ.set v none) vs := rfl
@[simp] theorem tg_t {ts : List Tg} {xs : List D} : Tg.bind (.t ts) (.tuple xs) ρ = Tg.binds ts xs ρ := by rw [Tg.bind]
@[simp] theorem tg_tl {ts : List Tg} {xs : List D} : Tg.bind (.t ts) (.list xs) ρ = Tg.binds ts xs ρ := by rw [Tg.bind]
@[simp] theorem tg_nil : Tg.binds [] [] ρ = some ρ := by rw [Tg.binds]
@[simp] theorem tg_cons {t : Tg} {ts : List Tg} {x : D} {xs : List D} : Tg.binds (t :: ts) (x :: xs) ρ = (Tg.bind t x ρ).bind fun ρ => Tg.binds ts xs ρ := by rw [Tg.binds]
@[simp] theorem s_ext : exS cs (.ext i e) ρ = (R.opt (own ρ i) ρ).fl fun _ ρ => (evE cs e ρ).fl fun d ρ => Fl.opt (extQ i d ρ) := by rw [exS]
@[simp] theorem s_setdef {k : E} : exS cs (.setdef i k e) ρ = (R.opt (ownD ρ i) ρ).fl fun _ ρ => (evE cs k ρ).fl fun k ρ => (evE cs e ρ).fl fun d ρ => Fl.opt (setdefQ i k d ρ) := by rw [exS]
@[simp] theorem s_whl {body : List S} : exS cs (.whl e body) ρ = whlL (fun ρ => truR (evE cs e ρ)) (fun ρ => exB cs body ρ) WF ρ := by rw [exS]
@[simp] theorem s_brk : exS cs .brk ρ = .brk ρ := by rw [exS]
@[simp] theorem s_cont : exS cs .cont ρ = .cont ρ := by rw [exS]
@[simp] theorem s_kl {vs : List Nat} : exS cs (.kl vs) ρ = .next (kill ρ vs) := by rw [exS]
def trF (x : Fl) (hs : List (Ex × Nat × Bool)) : Fl := match x with
  | .exc c ρ' => hdl c ρ' hs
  | x => x
@[simp] theorem trF_exc {c : Ex} {hs : List (Ex × Nat × Bool)} : trF (.exc c ρ) hs = hdl c ρ hs := rfl
@[simp] theorem trF_next {hs : List (Ex × Nat × Bool)} : trF (.next ρ) hs = .next ρ := rfl
@[simp] theorem trF_ret {d : D} {hs : List (Ex × Nat × Bool)} : trF (.ret d ρ) hs = .ret d ρ := rfl
@[simp] theorem trF_err {hs : List (Ex × Nat × Bool)} : trF .err hs = .err := rfl
@[simp] theorem s_tr {body : List S} {hs : List (Ex × Nat × Bool)} : exS cs (.tr body hs) ρ = trF (exB cs body ρ) hs := by rw [exS]; rfl
@[simp] theorem ps_t {os : List Bool} : evPs cs (true :: os) (e :: es) ρ = (evE cs e ρ).bind fun d ρ => thn (isLD d) ((evPs cs os es ρ).bind fun ds ρ => .ok (d :: ds) ρ) .err := by
  rw [evPs]
  cases evE cs e ρ with
  | ok d ρ' =>
    show (if (true && !isLD d) = true then _ else _) = thn (isLD d) _ _
    cases isLD d <;> rfl
  | _ => rfl
@[simp] theorem isLD_l {xs : List D} : isLD (.list xs) = true := rfl
@[simp] theorem isLD_d {xs : List (D × D)} : isLD (.dict xs) = true := rfl
@[simp] theorem wrs_nil : wrs [] [] ρ = some ρ := rfl
@[simp] theorem wrs_t {is : List (Nat × Bool)} {x : D} {xs : List D} : wrs ((i, true) :: is) (x :: xs) ρ = (wrO ρ i x).bind fun ρ => wrs is xs ρ := rfl
@[simp] theorem wrs_f {is : List (Nat × Bool)} {x : D} {xs : List D} : wrs ((i, false) :: is) (x :: xs) ρ = (wr ρ i x).bind fun ρ => wrs is xs ρ := rfl
end
@[simp] theorem extQ0 {ρ : Env} {xs ys : List D} (h : xs.length + ys.length ≤ LIM) : extQ 0 (.list ys) (some (.ol xs) :: ρ) = some (some (.ol (xs ++ ys)) :: ρ) := by
  show (if okLen (xs.length + ys.length) = true then some ((some (AV.ol xs) :: ρ).set 0 (some (.ol (xs ++ ys)))) else none) = _
  rw [show okLen (xs.length + ys.length) = true from decide_eq_true h]; rfl
@[simp] theorem extQS {ρ : Env} {o : Option AV} {i : Nat} {v : D} : extQ (i + 1) v (o :: ρ) = (extQ i v ρ).map (o :: ·) := by
  unfold extQ
  rw [ownS]
  cases own ρ i with
  | none => rfl
  | some xs =>
    cases v with
    | list ys =>
      show (if okLen (xs.length + ys.length) = true then _ else _) = Option.map _ (if okLen (xs.length + ys.length) = true then _ else _)
      split <;> rfl
    | _ => rfl
@[simp] theorem callP_ok {d : D} {st : List D} {ρ : Env} : callP (.ok d st) ρ = .ok d ρ := rfl
@[simp] theorem callP_exc {c : Ex} {ρ : Env} : callP (.exc c) ρ = .exc c ρ := rfl
/-- a call over the state -/
theorem callQ_ok {cs : CS} {f i : Nat} {ds st st' : List D} {d : D} {ρ : Env} (h : own ρ i = some st) (e : cs f st ds = .ok d st') : callQ cs f i ds ρ = .ok d (ρ.set i (some (.ol st'))) := by
  unfold callQ; rw [h]; dsimp only; rw [e]
@[simp] theorem callQ0 {cs : CS} {f : Nat} {ds st st' : List D} {d : D} {ρ : Env} (e : cs f st ds = .ok d st') : callQ cs f 0 ds (some (.ol st) :: ρ) = .ok d (some (.ol st') :: ρ) := callQ_ok rfl e
@[simp] theorem callQ1 {cs : CS} {f : Nat} {ds st st' : List D} {d : D} {o : Option AV} {ρ : Env} (e : cs f st ds = .ok d st') : callQ cs f 1 ds (o :: some (.ol st) :: ρ) = .ok d (o :: some (.ol st') :: ρ) := callQ_ok rfl e

section
variable {α : Type} {a b c d e : α} {l : List α}
@[simp high] theorem at0 : L2.atI (a :: l) 0 = some a := by rw [atI_nn (by omega)]; rfl
@[simp high] theorem at1 : L2.atI (a :: b :: l) 1 = some b := by rw [atI_nn (by omega)]; rfl
@[simp high] theorem at2 : L2.atI (a :: b :: c :: l) 2 = some c := by rw [atI_nn (by omega)]; rfl
@[simp high] theorem at3 : L2.atI (a :: b :: c :: d :: l) 3 = some d := by rw [atI_nn (by omega)]; rfl
@[simp high] theorem at4 : L2.atI (a :: b :: c :: d :: e :: l) 4 = some e := by rw [atI_nn (by omega)]; rfl
end
/-! items of a comprehension -/
@[simp] theorem itO_t {d : D} : itO (.ok true) (.ok d) = .ok [d] := rfl
@[simp] theorem itO_f {x : O D} : itO (.ok false) x = .ok [] := rfl
theorem itO_b {b : Bool} {d : D} {x : O D} (h : b = true → x = .ok d) : itO (.ok b) x = .ok (if b then [d] else []) := by
  cases b with
  | false => rfl
  | true => rw [h rfl]; rfl
@[simp] theorem okLen_t {n : Nat} (h : n ≤ LIM) : okLen n = true := decide_eq_true h
section
variable {α : Type} {f : D → O (List D)}
theorem joinO_flat (ys : List α) (enc : α → D) (g : α → List D) (h : ∀ y ∈ ys, f (enc y) = .ok (g y)) : joinO f (ys.map enc) = .ok (ys.flatMap g) := by
  induction ys with
  | nil => rfl
  | cons y ys ih =>
    rw [List.map_cons, joinO, h y List.mem_cons_self, O.bind_ok, ih fun z hz => h z (List.mem_cons_of_mem _ hz), O.bind_ok, List.flatMap_cons]
theorem joinO_filter (ys : List α) (enc : α → D) (p : α → Bool) (g : α → D) (h : ∀ y ∈ ys, f (enc y) = .ok (if p y then [g y] else [])) : joinO f (ys.map enc) = .ok ((ys.filter p).map g) := by
  rw [joinO_flat ys enc _ h]
  congr 1
  clear h
  induction ys with
  | nil => rfl
  | cons y ys ih =>
    rw [List.flatMap_cons, ih, List.filter_cons]
    split <;> rfl
theorem joinO_map (ys : List α) (enc : α → D) (g : α → D) (h : ∀ y ∈ ys, f (enc y) = .ok [g y]) : joinO f (ys.map enc) = .ok (ys.map g) := by
  rw [joinO_flat ys enc _ h, List.map_eq_flatMap]
theorem lcO_filter (ys : List α) (enc : α → D) (p : α → Bool) (g : α → D) (hl : ys.length ≤ LIM) (h : ∀ y ∈ ys, f (enc y) = .ok (if p y then [g y] else [])) : lcO f (ys.map enc) = .ok (.list ((ys.filter p).map g)) := by
  unfold lcO limO
  rw [joinO_filter ys enc p g h, O.bind_ok, okLen_t (by rw [List.length_map]; exact Nat.le_trans (List.length_filter_le _ _) hl)]
  rfl
theorem lcO_map (ys : List α) (enc : α → D) (g : α → D) (hl : ys.length ≤ LIM) (h : ∀ y ∈ ys, f (enc y) = .ok [g y]) : lcO f (ys.map enc) = .ok (.list (ys.map g)) := by
  unfold lcO limO
  rw [joinO_map ys enc g h, O.bind_ok, okLen_t (by rw [List.length_map]; exact hl)]
  rfl
theorem lcO_flat (ys : List α) (enc : α → D) (g : α → List D) (hl : (ys.flatMap g).length ≤ LIM) (h : ∀ y ∈ ys, f (enc y) = .ok (g y)) : lcO f (ys.map enc) = .ok (.list (ys.flatMap g)) := by
  unfold lcO limO
  rw [joinO_flat ys enc g h, O.bind_ok, okLen_t hl]
  rfl
end
theorem exB_app {cs : CS} : ∀ (a b : List S) (ρ : Env), exB cs (a ++ b) ρ = (exB cs a ρ).bind fun ρ => exB cs b ρ
  | [], b, ρ => by rw [List.nil_append, b_nil]; rfl
  | s :: a, b, ρ => by
    rw [List.cons_append, b_cons, b_cons]
    cases exS cs s ρ with
    | next ρ' => exact exB_app a b ρ'
    | _ => rfl
theorem exB_cut {cs : CS} (n : Nat) (a : List S) (ρ : Env) : exB cs a ρ = (exB cs (a.take n) ρ).bind fun ρ => exB cs (a.drop n) ρ := by
  rw [← exB_app, List.take_append_drop]
/-- ranges -/
def rngZ (a b : Int) : List Int := (List.range (b - a).toNat).map fun (i : Nat) => a + i
theorem rngL_eq (a b : Int) : rngL a b = (rngZ a b).map .int := by unfold rngL rngZ; rw [List.map_map]; rfl
theorem rngZ_len {a b : Int} : (rngZ a b).length = (b - a).toNat := by unfold rngZ; rw [List.length_map, List.length_range]
theorem mem_rngZ {a b z : Int} : z ∈ rngZ a b ↔ a ≤ z ∧ z < b := by
  unfold rngZ
  rw [List.mem_map]
  constructor
  · rintro ⟨i, hi, rfl⟩
    rw [List.mem_range] at hi
    omega
  · rintro ⟨h1, h2⟩
    exact ⟨(z - a).toNat, by rw [List.mem_range]; omega, by omega⟩
@[simp high] theorem r1D_s {j : Int} (h1 : -4611686018427387904 ≤ j) (h2 : j < 4611686018427387904) : r1D (.int j) = some ((rngZ 0 j).map .int) := by
  rw [r1D_i h1 h2, rngL_eq]
@[simp] theorem r2D_s {i j : Int} (h1 : -4611686018427387904 ≤ i) (h2 : i < 4611686018427387904) (h3 : -4611686018427387904 ≤ j) (h4 : j < 4611686018427387904) : r2D (.int i) (.int j) = some ((rngZ i j).map .int) := by
  show (if decide (-(2 ^ 62) ≤ i) && decide (i < 2 ^ 62) && decide (-(2 ^ 62) ≤ j) && decide (j < 2 ^ 62) then some (rngL i j) else none) = _
  rw [if_pos (by simp [h1, h2, h3, h4]), rngL_eq]
theorem rngZ_nat (n : Nat) : rngZ 0 n = (List.range n).map fun (i : Nat) => (i : Int) := by
  unfold rngZ
  rw [show (((n : Int)) - 0).toNat = n by omega]
  exact List.map_congr_left fun i _ => by omega
end G

set_option Elab.async false
set_option linter.all false
set_option maxRecDepth 100000
set_option maxHeartbeats 4000000
set_option autoImplicit false
/-! H1: the laws' helpers: their texts by numbers of defs; next, same; good data. -/
namespace G
open PySem
structure LI where
  next : Nat
  same : Nat
  changed : Nat
  nums : Nat
  exch : Nat
  cut : Nat
  turn : Nat
  odd : Nat
  neigh : Nat
def h_next (I : LI) : List S := [
  .ift (.and (.cmp .eq (.idx (.bor 0) (.int 2)) (.int 0)) (.cmp .lt (.idx (.bor 0) (.int 1)) (.bi .len [(.idx (.bor 0) (.int 0))]))) [.setv (.n 2) (.idx (.idx (.bor 0) (.int 0)) (.idx (.bor 0) (.int 1))), .augx 0 (.int 1) .add (.int 1), .ift (.cmp .ge (.var 2) (.bin .pow (.int 10) (.int 18))) [.setx 0 (.int 2) (.var 2)] [.setx 0 (.int 3) (.bin .mod (.bi .int [(.bin .add (.bin .add (.bin .mul (.idx (.bor 0) (.int 3)) (.int 48271)) (.bin .mod (.bi .int [(.var 2)]) (.int 2147483647))) (.int 7))]) (.int 2147483647))]] [],
  .ift (.cmp .gt (.idx (.bor 0) (.int 2)) (.int 0)) [.setv (.n 3) (.bin .mod (.bi .int [(.idx (.bor 0) (.int 2))]) (.var 1)), .setx 0 (.int 2) (.bin .fdiv (.idx (.bor 0) (.int 2)) (.var 1)), .ret (.var 3)] [],
  .setx 0 (.int 3) (.bin .mod (.bi .int [(.bin .add (.bin .mul (.idx (.bor 0) (.int 3)) (.int 69621)) (.int 12345))]) (.int 2147483647)),
  .ret (.bin .mod (.bi .int [(.bin .fdiv (.idx (.bor 0) (.int 3)) (.int 7))]) (.var 1))]
def hl0_same (I : LI) : List S := [.ift (.nt (.call I.same [(.idx (.var 0) (.var 2)), (.idx (.var 1) (.var 2))])) [.ret (.bl false)] []]
def h_same (I : LI) : List S := [
  .ift (.isNon false (.var 1)) [.ret (.isNon false (.var 0))] [],
  .ift (.bi .isBool [(.var 1)]) [.ret (.and (.bi .isBool [(.var 0)]) (.cmp .eq (.var 0) (.var 1)))] [],
  .ift (.bi .isInt [(.var 1)]) [.ret (.and (.bi .isInt [(.var 0)]) (.and (.nt (.bi .isBool [(.var 0)])) (.cmp .eq (.var 0) (.var 1))))] [],
  .ift (.bi .isStr [(.var 1)]) [.ret (.and (.bi .isStr [(.var 0)]) (.cmp .eq (.var 0) (.var 1)))] [],
  .ift (.and (.bi .isTuple [(.var 1)]) (.nt (.bi .isTuple [(.var 0)]))) [.ret (.bl false)] [],
  .ift (.and (.bi .isList [(.var 1)]) (.nt (.bi .isList [(.var 0)]))) [.ret (.bl false)] [],
  .ift (.cmp .ne (.bi .len [(.var 0)]) (.bi .len [(.var 1)])) [.ret (.bl false)] [],
  .fr (.n 2) (.r1 (.bi .len [(.var 1)])) (hl0_same I),
  .ret (.bl true)]
def h_changed (I : LI) : List S := [
  .ift (.bi .isBool [(.var 1)]) [.ret (.idx (.lst [(.nt (.var 1)), (.bi .int [(.var 1)])]) (.callS I.next 0 [(.int 2)]))] [],
  .ift (.or (.isNon false (.var 1)) (.bi .isInt [(.var 1)])) [.ret (.idx (.lst [(.bin .add (.or (.var 1) (.int 0)) (.int 1)), (.bin .sub (.or (.var 1) (.int 0)) (.int 1)), (.int 0), (.non), (.cmp .eq (.var 1) (.int 1)), (.bi .str [(.var 1)]), (.bin .mul (.int 2) (.or (.var 1) (.int 1)))]) (.callS I.next 0 [(.int 7)]))] [],
  .ift (.bi .isStr [(.var 1)]) [.setv (.n 2) (.lst [(.slc (.var 1) (some (.int 1)) none), (.bin .add (.var 1) (.str (Str.ofString "a"))), (.rev (.var 1)), (.bin .add (.str (Str.ofString "b")) (.var 1)), (.str (Str.ofString "")), (.slc (.var 1) none (some (.neg (.int 1)))), (.str (Str.ofString "left")), (.int 3), (.str (Str.ofString "in"))]), .ret (.idx (.var 2) (.callS I.next 0 [(.bi .len [(.var 2)])]))] [],
  .ift (.and (.bi .isTuple [(.var 1)]) (.and (.cmp .ne (.var 1) (.tup [])) (.cmp .gt (.callS I.next 0 [(.int 4)]) (.int 0)))) [.setv (.n 3) (.callS I.next 0 [(.bi .len [(.var 1)])]), .ret (.bin .add (.bin .add (.slc (.var 1) none (some (.var 3))) (.tup [(.callS I.changed 0 [(.idx (.var 1) (.var 3))])])) (.slc (.var 1) (some (.bin .add (.var 3) (.int 1))) none))] [],
  .ift (.nt (.bi .isTuple [(.var 1)])) [.ret (.tup [])] [],
  .setv (.n 3) (.callS I.next 0 [(.bin .add (.bi .len [(.var 1)]) (.int 1))]),
  .setv (.n 4) (.callS I.next 0 [(.bin .add (.bi .len [(.var 1)]) (.int 1))]),
  .setv (.n 5) (.lst [(.bin .add (.slc (.var 1) none (some (.var 3))) (.slc (.var 1) (some (.bin .add (.var 3) (.int 1))) none)), (.bin .add (.var 1) (.slc (.var 1) none (some (.int 1)))), (.rev (.var 1)), (.bin .add (.slc (.var 1) (some (.var 3)) none) (.slc (.var 1) none (some (.var 3)))), (.bi .list [(.var 1)]), (.slc (.var 1) none (some (.var 3))), (.tup []), (.bin .add (.var 1) (.tup [(.int 0)]))]),
  .ift (.chain .lt .lt (.var 3) (.var 4) (.bi .len [(.var 1)])) [.setv (.n 5) (.bin .add (.var 5) (.lc (.bin .add (.bin .add (.bin .add (.bin .add (.slc (.var 1) none (some (.var 3))) (.slc (.var 1) (some (.var 4)) (some (.bin .add (.var 4) (.int 1))))) (.slc (.var 1) (some (.bin .add (.var 3) (.int 1))) (some (.var 4)))) (.slc (.var 1) (some (.var 3)) (some (.bin .add (.var 3) (.int 1))))) (.slc (.var 1) (some (.bin .add (.var 4) (.int 1))) none)) [6] (.n 6) (.r1 (.int 3)) none))] [],
  .ret (.idx (.var 5) (.callS I.next 0 [(.bi .len [(.var 5)])]))]
def hl0_ints (I : LI) : List S := [.setv (.n 1) (.bin .add (.var 1) (.lc (.var 3) [3] (.n 3) (.e (.call I.nums [(.var 2)])) (some (.cmp .notin (.var 3) (.var 1)))))]
def h_ints (I : LI) : List S := [.ift (.or (.bi .isBool [(.var 0)]) (.nt (.bi .isIntTup [(.var 0)]))) [.ret (.lst [])] [], .ift (.bi .isInt [(.var 0)]) [.ret (.lst [(.var 0)])] [], .setv (.n 1) (.lst []), .fr (.n 2) (.e (.var 0)) (hl0_ints I), .ret (.var 1)]
def h_exch (I : LI) : List S := [.ift (.or (.bi .isBool [(.var 0)]) (.nt (.bi .isIntTup [(.var 0)]))) [.ret (.var 0)] [], .ift (.bi .isInt [(.var 0)]) [.ret (.ife (.cmp .eq (.var 0) (.var 1)) (.var 2) (.ife (.cmp .eq (.var 0) (.var 2)) (.var 1) (.var 0)))] [], .ret (.bi .tuple [(.lc (.call I.exch [(.var 3), (.var 1), (.var 2)]) [3] (.n 3) (.e (.var 0)) none)])]
def h_cut (I : LI) : List S := [
  .ift (.or (.nt (.bi .isTuple [(.var 1)])) (.cmp .eq (.var 1) (.tup []))) [.ret (.var 1)] [],
  .ift (.cmp .ne (.lc (.var 5) [5] (.n 5) (.e (.var 1)) (some (.nt (.bi .isStr [(.var 5)])))) (.lst [])) [.setv (.n 2) (.callS I.next 0 [(.bi .len [(.var 1)])]), .ret (.bin .add (.bin .add (.slc (.var 1) none (some (.var 2))) (.tup [(.callS I.cut 0 [(.idx (.var 1) (.var 2))])])) (.slc (.var 1) (some (.bin .add (.var 2) (.int 1))) none))] [],
  .setv (.n 2) (.callS I.next 0 [(.bi .len [(.var 1)])]),
  .setv (.n 3) (.callS I.next 0 [(.bin .add (.bi .len [(.idx (.var 1) (.var 2))]) (.int 1))]),
  .setv (.n 4) (.lst [(.bin .add (.bin .add (.slc (.var 1) none (some (.var 2))) (.tup [(.slc (.idx (.var 1) (.var 2)) none (some (.var 3))), (.slc (.idx (.var 1) (.var 2)) (some (.var 3)) none)])) (.slc (.var 1) (some (.bin .add (.var 2) (.int 1))) none)), (.bin .add (.bin .add (.slc (.var 1) none (some (.var 2))) (.tup [(.bi .join [(.slc (.var 1) (some (.var 2)) (some (.bin .add (.var 2) (.int 2))))])])) (.slc (.var 1) (some (.bin .add (.var 2) (.int 2))) none))]),
  .setv (.n 4) (.bin .add (.var 4) (.lst [(.tup [(.bi .join [(.var 1)])]), (.bi .tuple [(.bi .join [(.var 1)])]), (.bin .add (.bin .add (.slc (.var 1) none (some (.var 2))) (.tup [(.str (Str.ofString ""))])) (.slc (.var 1) (some (.var 2)) none)), (.bin .add (.bin .add (.slc (.var 1) none (some (.var 2))) (.rev (.slc (.var 1) (some (.var 2)) (some (.bin .add (.var 2) (.int 2)))))) (.slc (.var 1) (some (.bin .add (.var 2) (.int 2))) none))])),
  .ret (.idx (.var 4) (.callS I.next 0 [(.bi .len [(.var 4)])]))]
def h_turn (I : LI) : List S := [
  .setv (.n 2) (.call I.nums [(.var 1)]),
  .setv (.n 3) (.callS I.next 0 [(.int 5)]),
  .ift (.and (.cmp .lt (.var 3) (.int 3)) (.cmp .ne (.var 2) (.lst []))) [.setv (.n 4) (.idx (.var 2) (.callS I.next 0 [(.bi .len [(.var 2)])])), .setv (.n 5) (.ife (.cmp .eq (.var 3) (.int 0)) (.bin .add (.var 4) (.int 1)) (.idx (.var 2) (.callS I.next 0 [(.bi .len [(.var 2)])]))), .ret (.call I.exch [(.var 1), (.var 4), (.var 5)])] [],
  .ift (.cmp .eq (.var 3) (.int 3)) [.ret (.bin .add (.slc (.var 1) none (some (.int 1))) (.ife (.cmp .gt (.bi .len [(.var 1)]) (.int 2)) (.callS I.cut 0 [(.slc (.var 1) (some (.int 1)) none)]) (.bi .tuple [(.lc (.callS I.cut 0 [(.var 8)]) [8] (.n 8) (.e (.slc (.var 1) (some (.int 1)) none)) none)])))] [],
  .par [(6, false), (7, false)] [(.callS I.next 0 [(.bi .len [(.var 1)])]), (.callS I.next 0 [(.bi .len [(.var 1)])])],
  .ift (.and (.cmp .eq (.bi .len [(.var 1)]) (.int 2)) (.and (.bi .isTuple [(.idx (.var 1) (.int 1))]) (.cmp .ne (.idx (.var 1) (.int 1)) (.tup [])))) [.par [(6, false), (7, false)] [(.callS I.next 0 [(.bi .len [(.idx (.var 1) (.int 1))])]), (.callS I.next 0 [(.bi .len [(.idx (.var 1) (.int 1))])])], .ret (.tup [(.idx (.var 1) (.int 0)), (.bin .add (.bin .add (.slc (.idx (.var 1) (.int 1)) none (some (.var 6))) (.slc (.idx (.var 1) (.int 1)) (some (.var 7)) (some (.bin .add (.var 7) (.int 1))))) (.slc (.idx (.var 1) (.int 1)) (some (.bin .add (.var 6) (.int 1))) none))])] [],
  .ret (.ife (.and (.cmp .gt (.var 6) (.int 0)) (.cmp .gt (.var 7) (.int 0))) (.bin .add (.bin .add (.slc (.var 1) none (some (.var 6))) (.slc (.var 1) (some (.var 7)) (some (.bin .add (.var 7) (.int 1))))) (.slc (.var 1) (some (.bin .add (.var 6) (.int 1))) none)) (.var 1))]
def h_odd (I : LI) : List S := [
  .setv (.n 2) (.lst [(.non), (.str (Str.ofString "")), (.str (Str.ofString "yes")), (.dict0), (.tup []), (.slc (.var 1) none (some (.int 1))), (.bi .list [(.var 1)]), (.bin .add (.var 1) (.tup [(.int 0)])), (.bin .add (.tup [(.lst [(.idx (.var 1) (.int 0))])]) (.slc (.var 1) (some (.int 1)) none)), (.bin .add (.tup [(.str (Str.ofString "none such"))]) (.slc (.var 1) (some (.int 1)) none)), (.int 7)]),
  .setv (.n 3) (.callS I.next 0 [(.int 9)]),
  .ift (.cmp .gt (.var 3) (.int 4)) [.ret (.callS I.turn 0 [(.var 1)])] [],
  .ret (.ife (.cmp .eq (.var 3) (.int 0)) (.idx (.var 2) (.callS I.next 0 [(.bi .len [(.var 2)])])) (.callS I.changed 0 [(.var 1)]))]
def h_neigh (I : LI) : List S := [
  .setv (.n 2) (.idx (.lst [(.int 1), (.neg (.int 1))]) (.callS I.next 0 [(.int 2)])),
  .ift (.bi .isStr [(.var 1)]) [.ret (.var 1)] [],
  .ift (.bi .isInt [(.var 1)]) [.ret (.bin .add (.var 1) (.var 2))] [],
  .ift (.cmp .eq (.var 1) (.tup [])) [.ret (.var 1)] [],
  .ift (.bi .isStr [(.idx (.var 1) (.int 0))]) [.ret (.tup [(.idx (.var 1) (.int 0)), (.bin .add (.idx (.var 1) (.int 1)) (.var 2))])] [],
  .setv (.n 3) (.callS I.next 0 [(.bi .len [(.var 1)])]),
  .ift (.and (.cmp .eq (.callS I.next 0 [(.int 3)]) (.int 0)) (.cmp .gt (.bi .len [(.var 1)]) (.int 1))) [.ret (.bin .add (.slc (.var 1) none (some (.var 3))) (.slc (.var 1) (some (.bin .add (.var 3) (.int 1))) none))] [],
  .ret (.bin .add (.bin .add (.slc (.var 1) none (some (.var 3))) (.tup [(.callS I.neigh 0 [(.idx (.var 1) (.var 3))])])) (.slc (.var 1) (some (.bin .add (.var 3) (.int 1))) none))]
structure Lib (P : Prog) (I : LI) : Prop where
  next : P I.next = some ⟨2, true, 4, h_next I⟩
  same : P I.same = some ⟨2, false, 3, h_same I⟩
  changed : P I.changed = some ⟨2, true, 7, h_changed I⟩
  nums : P I.nums = some ⟨1, false, 4, h_ints I⟩
  exch : P I.exch = some ⟨3, false, 4, h_exch I⟩
  cut : P I.cut = some ⟨2, true, 6, h_cut I⟩
  turn : P I.turn = some ⟨2, true, 9, h_turn I⟩
  odd : P I.odd = some ⟨2, true, 4, h_odd I⟩
  neigh : P I.neigh = some ⟨2, true, 4, h_neigh I⟩
theorem callN_s {P : Prog} {f : Nat} {fd : FD} (h : P f = some fd) (n : Nat) (st ds : List D) : callN P (n + 1) f st ds = runF (callN P n) fd st ds := by
  show (match P f with | some fd => runF (callN P n) fd st ds | none => .err) = _
  rw [h]
/-- the body of a def without a state -/
def runB (cs : CS) (body : List S) (ρ : Env) : CR := match exB cs body ρ with
  | .ret d _ => .ok d []
  | .next _ => .ok .none []
  | .exc c _ => .exc c
  | _ => .err
def outB (x : Fl) : CR := match x with
  | .ret d _ => .ok d []
  | .next _ => .ok .none []
  | .exc c _ => .exc c
  | _ => .err
@[simp] theorem outB_ret {d : D} {ρ : Env} : outB (.ret d ρ) = .ok d [] := rfl
@[simp] theorem outB_next {ρ : Env} : outB (.next ρ) = .ok .none [] := rfl
@[simp] theorem outB_exc {c : Ex} {ρ : Env} : outB (.exc c ρ) = .exc c := rfl
def outI (x : Fl) : CR := match x with
  | .ret d ρ => outS d ρ
  | .next ρ => outS .none ρ
  | _ => .err
@[simp] theorem outI_ret {d : D} {ρ : Env} : outI (.ret d ρ) = outS d ρ := rfl
@[simp] theorem outI_next {ρ : Env} : outI (.next ρ) = outS .none ρ := rfl
theorem run_p {P : Prog} {f np ns : Nat} {body : List S} (h : P f = some ⟨np, false, ns, body⟩) (n : Nat) {ds : List D} (e : ds.length = np) :
    callN P (n + 1) f [] ds = outB (exB (callN P n) body (ds.map (fun d => some (.d d)) ++ List.replicate (ns - np) none)) := by
  rw [callN_s h]
  unfold runF
  rw [if_neg (by simp), if_pos e]
  rfl
theorem run_i {P : Prog} {f np ns : Nat} {body : List S} (h : P f = some ⟨np, true, ns, body⟩) (n : Nat) {st ds : List D} (e : ds.length + 1 = np) :
    callN P (n + 1) f st ds = outI (exB (callN P n) body (some (.ol st) :: ds.map (fun d => some (.d d)) ++ List.replicate (ns - np) none)) := by
  rw [callN_s h]
  unfold runF
  rw [if_pos rfl, if_pos e]
  rfl

/-- the state of the law's draws -/
def stv (ns : List Int) (pos big lcg : Int) : List D := [.list (ns.map .int), .int pos, .int big, .int lcg]
def DrOk (st : List D) : Prop := ∃ ns pos big lcg, st = stv ns pos big lcg ∧ 0 ≤ pos ∧ 0 ≤ big ∧ 0 ≤ lcg ∧ lcg < 2147483647
section
variable {P : Prog} {I : LI} (L : Lib P I)
include L
theorem next_spec (n : Nat) {st : List D} (h : DrOk st) {lim : Int} (h1 : 1 ≤ lim) (h2 : lim < 1000000000) :
    ∃ r st', callN P (n + 1) I.next st [.int lim] = .ok (.int r) st' ∧ 0 ≤ r ∧ r < lim ∧ DrOk st' := by
  obtain ⟨ns, pos, big, lcg, rfl, p0, b0, l0, l1⟩ := h
  rw [run_i L.next n (by rfl)]
  unfold stv h_next
  have q1 : lim ≠ 0 := by omega
  have q2 : lim.natAbs < 1073741824 := by omega
  have fm : ∀ x m : Int, 0 < m → 0 ≤ x.fmod m ∧ x.fmod m < m := fun x m hm => ⟨Int.fmod_nonneg_of_pos x hm, Int.fmod_lt_of_pos x hm⟩
  have fl := fun x : Int => fm x lim (by omega)
  have fM := fun x : Int => fm x 2147483647 (by omega)
  have fd : ∀ x : Int, 0 ≤ x → 0 ≤ x.fdiv lim := fun x hx => by rw [Int.fdiv_eq_ediv_of_nonneg _ (by omega)]; exact Int.ediv_nonneg hx (by omega)
  by_cases hb : big = 0
  · subst hb
    by_cases hp : pos < ns.length
    · have hg : pos.toNat < ns.length := by omega
      obtain ⟨cell, hc⟩ : ∃ c, ns[pos.toNat] = c := ⟨_, rfl⟩
      by_cases h18 : 1000000000000000000 ≤ cell
      · have c0 : 0 < cell := by omega
        refine ⟨cell.fmod lim, stv ns (pos + 1) (cell.fdiv lim) lcg, ?_, (fl _).1, (fl _).2, _, _, _, _, rfl, by omega, fd _ (by omega), l0, l1⟩
        simp [hp, p0, hg, hc, h18, c0, q1, q2, stv]
      · refine ⟨((((lcg * 48271 + cell.fmod 2147483647 + 7).fmod 2147483647 * 69621 + 12345).fmod 2147483647).fdiv 7).fmod lim, stv ns (pos + 1) 0 (((lcg * 48271 + cell.fmod 2147483647 + 7).fmod 2147483647 * 69621 + 12345).fmod 2147483647), ?_, (fl _).1, (fl _).2, _, _, _, _, rfl, by omega, by omega, (fM _).1, (fM _).2⟩
        simp [hp, p0, hg, hc, h18, q1, q2, stv]
    · refine ⟨(((lcg * 69621 + 12345).fmod 2147483647).fdiv 7).fmod lim, stv ns pos 0 ((lcg * 69621 + 12345).fmod 2147483647), ?_, (fl _).1, (fl _).2, _, _, _, _, rfl, by omega, by omega, (fM _).1, (fM _).2⟩
      simp [hp, p0, q1, q2, stv]
  · have b1 : 0 < big := by omega
    refine ⟨big.fmod lim, stv ns pos (big.fdiv lim) lcg, ?_, (fl _).1, (fl _).2, _, _, _, _, rfl, p0, fd _ b0, l0, l1⟩
    simp [hb, b1, p0, q1, q2, stv]
end

/-! ### good data -/
mutual
/-- no dicts, ints up to a bound -/
def gd (b : Nat) : D → Prop
  | .none => True
  | .bool _ => True
  | .int i => i.natAbs ≤ b
  | .str s => PyData.strOk s = true
  | .list xs => gds b xs
  | .tuple xs => gds b xs
  | .dict _ => False
def gds (b : Nat) : List D → Prop
  | [] => True
  | x :: xs => gd b x ∧ gds b xs
end
mutual
/-- how large -/
def sz : D → Nat
  | .none => 1
  | .bool _ => 1
  | .int _ => 1
  | .str s => s.length + 1
  | .list xs => szs xs + 1
  | .tuple xs => szs xs + 1
  | .dict _ => 1
def szs : List D → Nat
  | [] => 0
  | x :: xs => sz x + szs xs
end
theorem gds_iff {b : Nat} : ∀ {xs : List D}, gds b xs ↔ ∀ x ∈ xs, gd b x
  | [] => by simp [gds]
  | x :: xs => by rw [gds, gds_iff (xs := xs)]; simp
@[simp] theorem gd_n {b : Nat} : gd b .none := by rw [gd]; trivial
@[simp] theorem gd_b {b : Nat} {x : Bool} : gd b (.bool x) := by rw [gd]; trivial
@[simp] theorem gd_i {b : Nat} {i : Int} : gd b (.int i) ↔ i.natAbs ≤ b := by rw [gd]
@[simp] theorem gd_s {b : Nat} {s : Str} : gd b (.str s) ↔ PyData.strOk s = true := by rw [gd]
@[simp] theorem gd_l {b : Nat} {xs : List D} : gd b (.list xs) ↔ ∀ x ∈ xs, gd b x := by rw [gd, gds_iff]
@[simp] theorem gd_t {b : Nat} {xs : List D} : gd b (.tuple xs) ↔ ∀ x ∈ xs, gd b x := by rw [gd, gds_iff]
@[simp] theorem gd_d {b : Nat} {xs : List (D × D)} : ¬ gd b (.dict xs) := by rw [gd]; exact id
@[simp] theorem sz_n : sz .none = 1 := by rw [sz]
@[simp] theorem sz_b {x : Bool} : sz (.bool x) = 1 := by rw [sz]
@[simp] theorem sz_i {i : Int} : sz (.int i) = 1 := by rw [sz]
@[simp] theorem sz_s {s : Str} : sz (.str s) = s.length + 1 := by rw [sz]
@[simp] theorem sz_l {xs : List D} : sz (.list xs) = szs xs + 1 := by rw [sz]
@[simp] theorem sz_t {xs : List D} : sz (.tuple xs) = szs xs + 1 := by rw [sz]
@[simp] theorem szs_nil : szs [] = 0 := by rw [szs]
@[simp] theorem szs_cons {x : D} {xs : List D} : szs (x :: xs) = sz x + szs xs := by rw [szs]
@[simp] theorem szs_app : ∀ {xs ys : List D}, szs (xs ++ ys) = szs xs + szs ys
  | [], ys => by simp
  | x :: xs, ys => by rw [List.cons_append, szs_cons, szs_cons, szs_app, Nat.add_assoc]
theorem szs_sub {xs ys : List D} (h : xs.Sublist ys) : szs xs ≤ szs ys := by
  induction h with
  | slnil => exact Nat.le_refl _
  | cons a _ ih => rw [szs_cons]; omega
  | cons_cons a _ ih => rw [szs_cons, szs_cons]; omega
theorem sz_pos (x : D) : 1 ≤ sz x := by
  cases x <;> first | (rw [sz]; omega) | (rw [sz]; exact Nat.le_refl _)
theorem len_szs : ∀ xs : List D, xs.length ≤ szs xs
  | [] => Nat.zero_le _
  | x :: xs => by
    have := len_szs xs
    have := sz_pos x
    rw [szs_cons, List.length_cons]; omega
theorem sz_mem {x : D} {xs : List D} (h : x ∈ xs) : sz x ≤ szs xs := by
  obtain ⟨a, b, rfl⟩ := List.append_of_mem h
  rw [szs_app, szs_cons]; omega
theorem szs_rev : ∀ {xs : List D}, szs xs.reverse = szs xs
  | [] => rfl
  | x :: xs => by rw [List.reverse_cons, szs_app, szs_rev, szs_cons, szs_cons, szs_nil]; omega
theorem szs_split {xs : List D} {i : Nat} {x : D} (h : xs[i]? = some x) : szs (xs.take i) + sz x + szs (xs.drop (i + 1)) = szs xs := by
  obtain ⟨hi, rfl⟩ := List.getElem?_eq_some_iff.mp h
  have e : xs = xs.take i ++ (xs[i] :: xs.drop (i + 1)) := by rw [List.getElem_cons_drop, List.take_append_drop]
  conv => rhs; rw [e]
  rw [szs_app, szs_cons]; omega
@[simp] theorem dep_n : PyData.depth .none = 0 := by rw [PyData.depth]
@[simp] theorem dep_b {x : Bool} : PyData.depth (.bool x) = 0 := by rw [PyData.depth]
@[simp] theorem dep_i {x : Int} : PyData.depth (.int x) = 0 := by rw [PyData.depth]
@[simp] theorem dep_s {x : Str} : PyData.depth (.str x) = 0 := by rw [PyData.depth]
theorem depAll_le {k : Nat} : ∀ {xs : List D}, PyData.depthAll xs ≤ k ↔ ∀ x ∈ xs, x.depth ≤ k
  | [] => by simp [PyData.depthAll]
  | x :: xs => by
    rw [PyData.depthAll, Nat.max_le, depAll_le (xs := xs)]; simp
theorem dep_t {k : Nat} {xs : List D} : PyData.depth (.tuple xs) ≤ k + 1 ↔ ∀ x ∈ xs, x.depth ≤ k := by
  rw [PyData.depth, Nat.add_le_add_iff_right, depAll_le]
theorem dep_l {k : Nat} {xs : List D} : PyData.depth (.list xs) ≤ k + 1 ↔ ∀ x ∈ xs, x.depth ≤ k := by
  rw [PyData.depth, Nat.add_le_add_iff_right, depAll_le]
theorem dep_t0 {k : Nat} {xs : List D} (h : PyData.depth (.tuple xs) ≤ k) : ∃ j, k = j + 1 ∧ ∀ x ∈ xs, x.depth ≤ j := by
  cases k with
  | zero => rw [PyData.depth] at h; omega
  | succ j => exact ⟨j, rfl, dep_t.mp h⟩
theorem dep_l0 {k : Nat} {xs : List D} (h : PyData.depth (.list xs) ≤ k) : ∃ j, k = j + 1 ∧ ∀ x ∈ xs, x.depth ≤ j := by
  cases k with
  | zero => rw [PyData.depth] at h; omega
  | succ j => exact ⟨j, rfl, dep_l.mp h⟩
mutual
theorem lay_of {b : Nat} : ∀ {d : D}, gd b d → d.canLay0 = true
  | .none, _ => by rw [PyData.canLay0]
  | .bool _, _ => by rw [PyData.canLay0]
  | .int _, _ => by rw [PyData.canLay0]
  | .str s, h => by rw [PyData.canLay0]; rwa [gd] at h
  | .list xs, h => by rw [PyData.canLay0]; rw [gd] at h; exact lays_of h
  | .tuple xs, h => by rw [PyData.canLay0]; rw [gd] at h; exact lays_of h
  | .dict _, h => by rw [gd] at h; exact h.elim
theorem lays_of {b : Nat} : ∀ {xs : List D}, gds b xs → PyData.canLayAll0 xs = true
  | [], _ => by rw [PyData.canLayAll0]
  | x :: xs, h => by
    rw [gds] at h
    rw [PyData.canLayAll0, lay_of h.1, lays_of h.2]; rfl
end
theorem shp_of {b k : Nat} {d : D} (h : gd b d) (hd : d.depth ≤ k) (hk : k ≤ 64) : shp d = true := by
  unfold shp SeqAt.shaped
  rw [lay_of h, decide_eq_true (Nat.le_trans hd hk)]; rfl
mutual
theorem gd_mono {b c : Nat} (h : b ≤ c) : ∀ {d : D}, gd b d → gd c d
  | .none, _ => by simp
  | .bool _, _ => by simp
  | .int _, q => by rw [gd] at q ⊢; omega
  | .str _, q => by rw [gd] at q ⊢; exact q
  | .list xs, q => by rw [gd] at q ⊢; exact gds_mono h q
  | .tuple xs, q => by rw [gd] at q ⊢; exact gds_mono h q
  | .dict _, q => by rw [gd] at q; exact q.elim
theorem gds_mono {b c : Nat} (h : b ≤ c) : ∀ {xs : List D}, gds b xs → gds c xs
  | [], _ => by rw [gds]; trivial
  | x :: xs, q => by
    rw [gds] at q ⊢
    exact ⟨gd_mono h q.1, gds_mono h q.2⟩
end
/-- good data: ints up to b, not deeper than k, not larger than w -/
structure Gd (b k w : Nat) (d : D) : Prop where
  g : gd b d
  dp : d.depth ≤ k
  s : sz d ≤ w
theorem Gd.mono {b k w b' k' w' : Nat} {d : D} (h : Gd b k w d) (h1 : b ≤ b') (h2 : k ≤ k') (h3 : w ≤ w') : Gd b' k' w' d := ⟨gd_mono h1 h.g, Nat.le_trans h.dp h2, Nat.le_trans h.s h3⟩
theorem Gd.shp {b k w : Nat} {d : D} (h : Gd b k w d) (hk : k ≤ 64) : shp d = true := shp_of h.g h.dp hk
theorem Gd.t_mem {b k w : Nat} {xs : List D} (h : Gd b (k + 1) w (.tuple xs)) {x : D} (m : x ∈ xs) : Gd b k w x :=
  ⟨gd_t.mp h.g x m, dep_t.mp h.dp x m, by have h1 := h.s; have h2 := sz_mem m; rw [sz_t] at h1; omega⟩
theorem Gd.l_mem {b k w : Nat} {xs : List D} (h : Gd b (k + 1) w (.list xs)) {x : D} (m : x ∈ xs) : Gd b k w x :=
  ⟨gd_l.mp h.g x m, dep_l.mp h.dp x m, by have h1 := h.s; have h2 := sz_mem m; rw [sz_l] at h1; omega⟩

/-! ### same -/
section
variable {P : Prog} {I : LI} (L : Lib P I)
include L
def SameAt (P : Prog) (I : LI) (k : Nat) : Prop := ∀ (b : Nat) (e a : D) (n : Nat), gd b e → e.depth ≤ k → sz e ≤ LIM → k ≤ 64 → shp a = true → ∃ b : Bool, callN P (n + k + 1) I.same [] [a, e] = .ok (.bool b) [] ∧ (b = true ↔ a = e)
theorem same_flat (e a : D) (n : Nat) (h0 : ∀ xs, e ≠ .tuple xs) (h1 : ∀ xs, e ≠ .list xs) (he : shp e = true) (ha : shp a = true) : ∃ b : Bool, callN P (n + 1) I.same [] [a, e] = .ok (.bool b) [] ∧ (b = true ↔ a = e) := by
  rw [run_p L.same n (by rfl)]
  unfold h_same
  cases e with
  | none =>
    refine ⟨nonD a, ?_, ?_⟩
    · simp
    · cases a <;> simp
  | bool x =>
    cases a with
    | bool y => simp [eq_b]
    | _ => simp
  | int x => cases a <;> simp
  | str x =>
    cases a with
    | str y => simp [eq_s ha he]
    | _ => simp
  | dict _ => exact absurd he (by simp [shp, SeqAt.shaped, PyData.canLay0])
  | tuple xs => exact absurd rfl (h0 xs)
  | list xs => exact absurd rfl (h1 xs)
omit L in
theorem shp_t {xs : List D} {i : Nat} {x : D} (h : shp (.tuple xs) = true) (e : xs[i]? = some x) : shp x = true := by
  have lay : ∀ {xs : List D} {i : Nat} {x : D}, PyData.canLayAll0 xs = true → xs[i]? = some x → x.canLay0 = true := by
    intro xs
    induction xs with
    | nil => intro i x _ h; simp at h
    | cons y xs ih =>
      intro i x h e
      rw [PyData.canLayAll0, Bool.and_eq_true] at h
      cases i with
      | zero => simp at e; subst e; exact h.1
      | succ i => exact ih h.2 (by simpa using e)
  unfold shp SeqAt.shaped at h ⊢
  simp only [Bool.and_eq_true, decide_eq_true_eq] at h ⊢
  have h1 : PyData.canLayAll0 xs = true := by simpa [PyData.canLay0] using h.1
  have h2 := dep_t (k := 63).mp h.2 x (List.mem_of_getElem? e)
  exact ⟨lay h1 e, by omega⟩
omit L in
theorem shp_l {xs : List D} {i : Nat} {x : D} (h : shp (.list xs) = true) (e : xs[i]? = some x) : shp x = true := by
  refine shp_t (xs := xs) ?_ e
  unfold shp SeqAt.shaped at h ⊢
  simpa [PyData.canLay0, PyData.depth] using h
/-- the loop over places -/
theorem same_loop (k : Nat) (ih : SameAt P I k) (n : Nat) (hk : k ≤ 64) {b : Nat} {as es : List D} {A E : D} (hl : as.length = es.length) (hg : ∀ x ∈ es, gd b x) (hd : ∀ x ∈ es, x.depth ≤ k) (hw : szs es ≤ LIM) (ha : ∀ (i : Nat) (x : D), as[i]? = some x → shp x = true)
    (iA : ∀ i : Int, idxD A (.int i) = L2.atI as i) (iE : ∀ i : Int, idxD E (.int i) = L2.atI es i) (o : Option AV) :
    ∃ (b : Bool) (o' : Option AV), (b = true ↔ as = es) ∧ forL (Tg.n 2).bind (fun ρ => exB (callN P (n + k + 1)) (hl0_same I) ρ) (rngL 0 es.length) [some (.d A), some (.d E), o] = thn b (.next [some (.d A), some (.d E), o']) (.ret (.bool false) [some (.d A), some (.d E), o']) := by
  obtain ⟨ρ', ⟨o', rfl⟩, q⟩ := forL_or (bd := (Tg.n 2).bind) (body := fun ρ => exB (callN P (n + k + 1)) (hl0_same I) ρ) (P := fun ρ => ∃ o', ρ = [some (.d A), some (.d E), o']) (G := fun x => ∃ i : Nat, x = .int i ∧ as[i]? = es[i]?) (d := .bool false) (xs := rngL 0 es.length) (ρ := [some (.d A), some (.d E), o]) ⟨o, rfl⟩ (by
    rintro x hx ρ ⟨o1, rfl⟩
    obtain ⟨z, z0, z1, rfl⟩ := rngL_mem.mp hx
    obtain ⟨i, rfl⟩ := Int.eq_ofNat_of_zero_le z0
    have hi : i < es.length := by omega
    obtain ⟨x, ex⟩ : ∃ x, as[i]? = some x := ⟨_, List.getElem?_eq_getElem (by omega)⟩
    obtain ⟨y, ey⟩ : ∃ y, es[i]? = some y := ⟨_, List.getElem?_eq_getElem hi⟩
    have my := List.mem_of_getElem? ey
    obtain ⟨b, h1, h2⟩ := ih b y x n (hg y my) (hd y my) (Nat.le_trans (sz_mem my) hw) hk (ha i _ ex)
    refine ⟨_, [some (.d A), some (.d E), some (.d (.int i))], by simp; rfl, ⟨_, rfl⟩, ?_⟩
    unfold hl0_same
    have g : (∃ j : Nat, PyData.int (i : Int) = PyData.int j ∧ as[j]? = es[j]?) ↔ x = y := by
      constructor
      · rintro ⟨j, e, q⟩
        have e' : i = j := by injection e with e; omega
        rw [← e', ex, ey] at q
        exact Option.some.inj q
      · exact fun q => ⟨i, rfl, by rw [ex, ey, q]⟩
    rw [g]
    cases b with
    | true => exact .inl ⟨h2.mp rfl, by simp [iA, iE, ex, ey, h1]⟩
    | false => exact .inr ⟨fun z => by simpa using h2.mpr z, by simp [iA, iE, ex, ey, h1]⟩)
  have key : (∀ x ∈ rngL 0 es.length, ∃ i : Nat, x = .int i ∧ as[i]? = es[i]?) ↔ as = es := by
    constructor
    · intro z
      refine List.ext_getElem? fun i => ?_
      by_cases hi : i < es.length
      · obtain ⟨j, e, q⟩ := z (.int i) (rngL_mem.mpr ⟨i, by omega, by omega, rfl⟩)
        have e' : i = j := by injection e with e; omega
        rw [e']; exact q
      · rw [List.getElem?_eq_none (by omega), List.getElem?_eq_none (by omega)]
    · rintro rfl x hx
      obtain ⟨z, z0, z1, rfl⟩ := rngL_mem.mp hx
      obtain ⟨i, rfl⟩ := Int.eq_ofNat_of_zero_le z0
      exact ⟨i, rfl, rfl⟩
  rw [key] at q
  rcases q with ⟨q1, q2⟩ | ⟨q1, q2⟩
  · exact ⟨true, o', by simp [q1], q2⟩
  · exact ⟨false, o', by simp [q1], q2⟩
omit L in
theorem len_r1 {n : Nat} (h : n ≤ LIM) : r1D (.int (n : Int)) = some (rngL 0 n) := by
  have h0 : n ≤ 1000000 := h
  have h' : (n : Int) ≤ 1000000 := by omega
  exact r1D_i (Int.le_trans (by decide) (Int.natCast_nonneg n)) (Int.lt_of_le_of_lt h' (by decide))
omit L in
theorem len_ne {a b : Nat} (h : a ≠ b) : ((a : Int) = (b : Int)) = False := eq_false fun z => h (by omega)
theorem same_step (k : Nat) (ih : ∀ j, k = j + 1 → SameAt P I j) : SameAt P I k := by
    intro b e a n hg hd hw hk ha
    by_cases ht : ∃ xs, e = .tuple xs
    · obtain ⟨xs, rfl⟩ := ht
      obtain ⟨k, rfl, hd2⟩ := dep_t0 hd
      rw [gd_t] at hg
      rw [sz_t] at hw
      have lw : xs.length ≤ LIM := Nat.le_trans (len_szs xs) (Nat.le_of_succ_le hw)
      have r1 : r1D (.int (xs.length : Int)) = some (rngL 0 xs.length) := len_r1 lw
      rw [show n + (k + 1) + 1 = (n + k + 1) + 1 from rfl, run_p L.same _ (by rfl)]
      unfold h_same
      cases a with
      | tuple ys =>
        by_cases hl : ys.length = xs.length
        · obtain ⟨b, o', hb, e⟩ := same_loop L k (ih k rfl) n (Nat.le_of_succ_le hk) (as := ys) (es := xs) (A := .tuple ys) (E := .tuple xs) hl hg hd2 (Nat.le_of_succ_le hw) (fun i x q => shp_t ha q) (fun _ => rfl) (fun _ => rfl) none
          refine ⟨b, ?_, hb.trans ⟨fun z => by rw [z], fun z => by injection z⟩⟩
          cases b <;> simp -implicitDefEqProofs [hl, e, r1, -r1D_s, -r1D_i]
        · refine ⟨false, ?_, by simp; rintro rfl; exact hl rfl⟩
          simp -implicitDefEqProofs [len_ne hl]
      | _ => simp
    · by_cases hl : ∃ xs, e = .list xs
      · obtain ⟨xs, rfl⟩ := hl
        obtain ⟨k, rfl, hd2⟩ := dep_l0 hd
        rw [gd_l] at hg
        rw [sz_l] at hw
        have lw : xs.length ≤ LIM := Nat.le_trans (len_szs xs) (Nat.le_of_succ_le hw)
        have r1 : r1D (.int (xs.length : Int)) = some (rngL 0 xs.length) := len_r1 lw
        rw [show n + (k + 1) + 1 = (n + k + 1) + 1 from rfl, run_p L.same _ (by rfl)]
        unfold h_same
        cases a with
        | list ys =>
          by_cases hl : ys.length = xs.length
          · obtain ⟨b, o', hb, e⟩ := same_loop L k (ih k rfl) n (Nat.le_of_succ_le hk) (as := ys) (es := xs) (A := .list ys) (E := .list xs) hl hg hd2 (Nat.le_of_succ_le hw) (fun i x q => shp_l ha q) (fun _ => rfl) (fun _ => rfl) none
            refine ⟨b, ?_, hb.trans ⟨fun z => by rw [z], fun z => by injection z⟩⟩
            cases b <;> simp -implicitDefEqProofs [hl, e, r1, -r1D_s, -r1D_i]
          · refine ⟨false, ?_, by simp; rintro rfl; exact hl rfl⟩
            simp -implicitDefEqProofs [len_ne hl]
        | _ => simp
      · exact same_flat L e a _ (fun xs z => ht ⟨xs, z⟩) (fun xs z => hl ⟨xs, z⟩) (shp_of hg hd hk) ha
theorem same_all (k : Nat) : SameAt P I k := by
  induction k with
  | zero => exact same_step L 0 fun j e => by omega
  | succ k ih => exact same_step L _ fun j e => by cases e; exact ih
/-- _law_same: the same data -/
theorem same_spec (k n : Nat) {b : Nat} {e a : D} (hg : gd b e) (h : e.depth ≤ k) (hw : sz e ≤ LIM) (hk : k ≤ 64) (ha : shp a = true) : ∃ b : Bool, callN P (n + k + 1) I.same [] [a, e] = .ok (.bool b) [] ∧ (b = true ↔ a = e) := same_all L k b e a n hg h hw hk ha
/-- a dict is nothing that's expected -/
theorem same_dict (n : Nat) {e : D} (h : shp e = true) : callN P (n + 1) I.same [] [.dict [], e] = .ok (.bool false) [] := by
  rw [run_p L.same _ (by rfl)]
  unfold h_same
  cases e with
  | dict _ => exact absurd h (by simp [shp, SeqAt.shaped, PyData.canLay0])
  | _ => simp
end
end G

set_option Elab.async false
set_option linter.all false
set_option maxRecDepth 100000
set_option maxHeartbeats 4000000
set_option autoImplicit false
/-! H2: the laws' helpers: what is told, turned; something odd. -/
namespace G
open PySem

/-! parts of lists and texts -/
@[simp] theorem slc_t {xs : List D} {lo hi : Option Int} : slcD (.tuple xs) lo hi = some (.tuple (cutL xs lo hi)) := rfl
@[simp] theorem slc_l {xs : List D} {lo hi : Option Int} : slcD (.list xs) lo hi = some (.list (cutL xs lo hi)) := rfl
theorem slc_s {s : Str} {lo hi : Option Int} (h : s.length ≤ LIM) : slcD (.str s) lo hi = some (.str (L2.cutS s lo hi)) := by
  show (if okLen s.length = true then some (PyData.str (L2.cutS s lo hi)) else none) = _
  rw [okLen_t h]; rfl
@[simp] theorem rev_t {xs : List D} : revD (.tuple xs) = some (.tuple xs.reverse) := rfl
@[simp] theorem rev_l {xs : List D} : revD (.list xs) = some (.list xs.reverse) := rfl
theorem rev_s {s : Str} (h : s.length ≤ LIM) : revD (.str s) = some (.str ⟨s.cps.reverse⟩) := by
  show (if okLen s.length = true then some (PyData.str ⟨s.cps.reverse⟩) else none) = _
  rw [okLen_t h]; rfl
theorem add_t {xs ys : List D} (h : xs.length + ys.length ≤ LIM) : binD .add (.tuple xs) (.tuple ys) = some (.tuple (xs ++ ys)) := by
  show (if okLen (xs.length + ys.length) = true then some (PyData.tuple (xs ++ ys)) else none) = _
  rw [okLen_t h]; rfl
theorem add_l {xs ys : List D} (h : xs.length + ys.length ≤ LIM) : binD .add (.list xs) (.list ys) = some (.list (xs ++ ys)) := by
  show (if okLen (xs.length + ys.length) = true then some (PyData.list (xs ++ ys)) else none) = _
  rw [okLen_t h]; rfl
theorem add_s {xs ys : Str} (h : xs.length + ys.length ≤ LIM) : binD .add (.str xs) (.str ys) = some (.str (xs ++ ys)) := by
  show (if okLen (xs.length + ys.length) = true then some (PyData.str (xs ++ ys)) else none) = _
  rw [okLen_t h]; rfl
@[simp] theorem bi_list_t {xs : List D} : biD .list [.tuple xs] = some (.list xs) := rfl
@[simp] theorem bi_list_l {xs : List D} : biD .list [.list xs] = some (.list xs) := rfl
@[simp] theorem bi_tuple_l {xs : List D} : biD .tuple [.list xs] = some (.tuple xs) := rfl
@[simp] theorem bi_tuple_t {xs : List D} : biD .tuple [.tuple xs] = some (.tuple xs) := rfl
theorem bi_lens {s : Str} (h : s.length ≤ LIM) : biD .len [.str s] = some (.int s.length) := by
  show (if okLen s.length = true then some (PyData.int s.length) else none) = _
  rw [okLen_t h]; rfl
theorem cutL_sub (xs : List D) (lo hi : Option Int) : (cutL xs lo hi).Sublist xs := (List.take_sublist _ _).trans (List.drop_sublist _ _)
theorem cutL_take {xs : List D} {k : Int} (h : 0 ≤ k) : cutL xs none (some k) = xs.take k.toNat := by
  obtain ⟨m, rfl⟩ := Int.eq_ofNat_of_zero_le h
  unfold cutL
  rw [HT.sIx_none, HT.sIx_nat, List.drop_zero, Nat.sub_zero, show ((m : Nat) : Int).toNat = m from rfl]
  by_cases q : m ≤ xs.length
  · rw [Nat.min_eq_left q]
  · rw [Nat.min_eq_right (by omega), List.take_length, List.take_of_length_le (by omega)]
theorem cutL_drop {xs : List D} {k : Int} (h : 0 ≤ k) : cutL xs (some k) none = xs.drop k.toNat := by
  obtain ⟨m, rfl⟩ := Int.eq_ofNat_of_zero_le h
  unfold cutL
  rw [HT.sIx_none, HT.sIx_nat, show ((m : Nat) : Int).toNat = m from rfl]
  by_cases q : m ≤ xs.length
  · rw [Nat.min_eq_left q, List.take_of_length_le (by rw [List.length_drop]; omega)]
  · rw [Nat.min_eq_right (by omega), List.drop_length, List.drop_eq_nil_of_le (by omega), List.take_nil]
theorem cutS_len (s : Str) (lo hi : Option Int) : (L2.cutS s lo hi).length ≤ s.length := by
  unfold L2.cutS
  show (List.toArray _).size ≤ s.cps.size
  rw [List.size_toArray, List.length_take, List.length_drop, Array.length_toList]
  omega
theorem ok_mem {s : Str} : PyData.strOk s = true ↔ ∀ c ∈ s.cps.toList, c < 1114112 := by
  unfold PyData.strOk
  rw [← Array.all_toList, List.all_eq_true]
  simp
theorem cutS_ok {s : Str} (lo hi : Option Int) (h : PyData.strOk s = true) : PyData.strOk (L2.cutS s lo hi) = true := by
  rw [ok_mem] at h ⊢
  intro c hc
  unfold L2.cutS at hc
  exact h c (((List.take_sublist _ _).trans (List.drop_sublist _ _)).subset hc)
theorem rev_ok {s : Str} (h : PyData.strOk s = true) : PyData.strOk ⟨s.cps.reverse⟩ = true := by
  rw [ok_mem] at h ⊢
  intro c hc
  exact h c (by simpa using hc)
theorem str_app_len (a b : Str) : (a ++ b).length = a.length + b.length := by
  show (a.cps ++ b.cps).size = _
  rw [Array.size_append]; rfl
theorem str_app_ok {a b : Str} (ha : PyData.strOk a = true) (hb : PyData.strOk b = true) : PyData.strOk (a ++ b) = true := by
  rw [ok_mem] at *
  intro c hc
  have e : (a ++ b).cps.toList = a.cps.toList ++ b.cps.toList := by
    show (a.cps ++ b.cps).toList = _
    rw [Array.toList_append]
  rw [e, List.mem_append] at hc
  exact hc.elim (ha c) (hb c)
theorem pick_at {xs : List D} {r : Int} (h0 : 0 ≤ r) (h1 : r < xs.length) : ∃ x ∈ xs, L2.atI xs r = some x := by
  rw [atI_nn h0]
  have : r.toNat < xs.length := by omega
  exact ⟨xs[r.toNat], List.getElem_mem _, List.getElem?_eq_getElem this⟩
theorem skol {α β : Type} [Inhabited β] {Q : α → β → Prop} {xs : List α} (h : ∀ x ∈ xs, ∃ r, Q x r) : ∃ g : α → β, ∀ x ∈ xs, Q x (g x) := by
  classical
  refine ⟨fun x => if q : ∃ r, Q x r then Classical.choose q else default, fun x hx => ?_⟩
  have q := h x hx
  show Q x (if q : ∃ r, Q x r then Classical.choose q else default)
  rw [dif_pos q]
  exact Classical.choose_spec q
instance : Inhabited D := ⟨.none⟩
/-- a comprehension's items one by one -/
theorem joinO_ex {f : D → O (List D)} {Q : D → D → Prop} {xs : List D} (h : ∀ x ∈ xs, ∃ r, f x = .ok [r] ∧ Q x r) : ∃ g : D → D, joinO f xs = .ok (xs.map g) ∧ ∀ x ∈ xs, Q x (g x) := by
  obtain ⟨g, hg⟩ := skol h
  refine ⟨g, ?_, fun x hx => (hg x hx).2⟩
  have := joinO_map (f := f) xs id g fun x hx => (hg x hx).1
  rwa [List.map_id] at this
theorem lcO_ex {f : D → O (List D)} {Q : D → D → Prop} {xs : List D} (hl : xs.length ≤ LIM) (h : ∀ x ∈ xs, ∃ r, f x = .ok [r] ∧ Q x r) : ∃ g : D → D, lcO f xs = .ok (.list (xs.map g)) ∧ ∀ x ∈ xs, Q x (g x) := by
  obtain ⟨g, e, q⟩ := joinO_ex h
  refine ⟨g, ?_, q⟩
  unfold lcO limO
  rw [e, O.bind_ok, okLen_t (by rw [List.length_map]; exact hl)]
  rfl
theorem lcO_sub {f : D → O (List D)} {p : D → Bool} {xs : List D} (hl : xs.length ≤ LIM) (h : ∀ x ∈ xs, f x = .ok (if p x then [x] else [])) : lcO f xs = .ok (.list (xs.filter p)) := by
  have := lcO_filter (f := f) xs id p id hl h
  rwa [List.map_id, List.map_id] at this

/-! ints within lists -/
theorem lay_ints : ∀ ns : List Int, PyData.canLayAll0 (ns.map .int) = true
  | [] => by rw [List.map_nil, PyData.canLayAll0]
  | n :: ns => by rw [List.map_cons, PyData.canLayAll0, PyData.canLay0, lay_ints ns]; rfl
theorem dep_ints : ∀ ns : List Int, PyData.depthAll (ns.map .int) = 0
  | [] => by rw [List.map_nil, PyData.depthAll]
  | n :: ns => by rw [List.map_cons, PyData.depthAll, PyData.depth, dep_ints ns]; rfl
theorem shp_ints {ns : List Int} : shp (.list (ns.map .int)) = true := by
  unfold shp SeqAt.shaped
  rw [PyData.canLay0, PyData.depth, lay_ints, dep_ints]; rfl
theorem shp_intt {ns : List Int} : shp (.tuple (ns.map .int)) = true := by
  have h := shp_ints (ns := ns)
  unfold shp SeqAt.shaped at h ⊢
  simpa [PyData.canLay0, PyData.depth] using h
@[simp] theorem shp_i {i : Int} : shp (.int i) = true := by simp [shp, SeqAt.shaped, PyData.canLay0]
@[simp] theorem shp_n : shp .none = true := by simp [shp, SeqAt.shaped, PyData.canLay0]
@[simp] theorem shp_b {b : Bool} : shp (.bool b) = true := by simp [shp, SeqAt.shaped, PyData.canLay0]
theorem any_ints {ns : List Int} {x : Int} : ((ns.map PyData.int).any fun z => PyData.eqv z (.int x)) = decide (x ∈ ns) := by
  induction ns with
  | nil => rfl
  | cons n ns ih =>
    rw [List.map_cons, List.any_cons, ih, PyData.eqv]
    have : (n == x) = decide (x = n) := by rw [Bool.eq_iff_iff, beq_iff_eq, decide_eq_true_iff]; exact eq_comm
    rw [this]
    simp
theorem in_intl {ns : List Int} {x : Int} : cmpD .isin (.int x) (.list (ns.map .int)) = some (decide (x ∈ ns)) := by
  show (if shp (.int x) && shp (.list (ns.map .int)) then some ((ns.map PyData.int).any fun z => PyData.eqv z (.int x)) else none) = _
  rw [shp_i, shp_ints, any_ints]; rfl
theorem notin_intl {ns : List Int} {x : Int} : cmpD .notin (.int x) (.list (ns.map .int)) = some (!decide (x ∈ ns)) := by
  show (cmpD .isin (.int x) (.list (ns.map .int))).map (!·) = _
  rw [in_intl]; rfl
theorem in_intt {ns : List Int} {x : Int} : cmpD .isin (.int x) (.tuple (ns.map .int)) = some (decide (x ∈ ns)) := by
  show (if shp (.int x) && shp (.tuple (ns.map .int)) then some ((ns.map PyData.int).any fun z => PyData.eqv z (.int x)) else none) = _
  rw [shp_i, shp_intt, any_ints]; rfl
theorem notin_intt {ns : List Int} {x : Int} : cmpD .notin (.int x) (.tuple (ns.map .int)) = some (!decide (x ∈ ns)) := by
  show (cmpD .isin (.int x) (.tuple (ns.map .int))).map (!·) = _
  rw [in_intt]; rfl
/-- is it empty -/
theorem eq_nt {xs : List D} (h : shp (.tuple xs) = true) : cmpD .eq (.tuple xs) (.tuple []) = some xs.isEmpty := by
  show (if shp (.tuple xs) && shp (.tuple []) then some (PyData.eqv (.tuple xs) (.tuple [])) else none) = _
  rw [h, show shp (.tuple []) = true by decide, PyData.eqv]
  cases xs <;> simp [PyData.eqvAll]
theorem ne_nt {xs : List D} (h : shp (.tuple xs) = true) : cmpD .ne (.tuple xs) (.tuple []) = some (!xs.isEmpty) := by
  show (if shp (.tuple xs) && shp (.tuple []) then some (!PyData.eqv (.tuple xs) (.tuple [])) else none) = _
  rw [h, show shp (.tuple []) = true by decide, PyData.eqv]
  cases xs <;> simp [PyData.eqvAll]
theorem ne_nl {xs : List D} (h : shp (.list xs) = true) : cmpD .ne (.list xs) (.list []) = some (!xs.isEmpty) := by
  show (if shp (.list xs) && shp (.list []) then some (!PyData.eqv (.list xs) (.list [])) else none) = _
  rw [h, show shp (.list []) = true by decide, PyData.eqv]
  cases xs <;> simp [PyData.eqvAll]
theorem eq_nl {xs : List D} (h : shp (.list xs) = true) : cmpD .eq (.list xs) (.list []) = some xs.isEmpty := by
  show (if shp (.list xs) && shp (.list []) then some (PyData.eqv (.list xs) (.list [])) else none) = _
  rw [h, show shp (.list []) = true by decide, PyData.eqv]
  cases xs <;> simp [PyData.eqvAll]

section
variable {P : Prog} {I : LI} (L : Lib P I)
include L
/-- _law_ints -/
theorem nums_all (k : Nat) : ∀ (b w : Nat) (v : D) (n : Nat), Gd b k w v → w ≤ LIM → ∃ ns : List Int, callN P (n + k + 1) I.nums [] [v] = .ok (.list (ns.map .int)) [] ∧ (∀ i ∈ ns, i.natAbs ≤ b) ∧ ns.length ≤ sz v := by
  induction k with
  | zero =>
    intro b w v n h hw
    rw [run_p L.nums _ (by rfl)]
    unfold h_ints
    cases v with
    | int i => exact ⟨[i], by simp -implicitDefEqProofs, by simpa using h.g, by simp⟩
    | tuple xs => exact absurd h.dp (by rw [PyData.depth]; omega)
    | list xs => exact absurd h.dp (by rw [PyData.depth]; omega)
    | dict _ => exact absurd h.g (by simp)
    | _ => exact ⟨[], by simp -implicitDefEqProofs, by simp, by simp⟩
  | succ k ih =>
    intro b w v n h hw
    rw [run_p L.nums _ (by rfl)]
    unfold h_ints
    cases v with
    | int i => exact ⟨[i], by simp -implicitDefEqProofs, by simpa using h.g, by simp⟩
    | list xs => exact ⟨[], by simp -implicitDefEqProofs, by simp, by simp⟩
    | dict _ => exact absurd h.g (by simp)
    | tuple xs =>
      have hs := h.s
      rw [sz_t] at hs
      obtain ⟨ρ', ⟨ns, p, rfl, hb, hl⟩, e⟩ := forL_inv (bd := (Tg.n 2).bind) (body := fun ρ => exB (callN P (n + (k + 1))) (hl0_ints I) ρ) (xs := xs) (ρ := [some (.d (.tuple xs)), some (.d (.list [])), none, none])
        (P := fun ys ρ => ∃ (ns : List Int) (p : Option AV), ρ = [some (.d (.tuple xs)), some (.d (.list (ns.map .int))), p, none] ∧ (∀ i ∈ ns, i.natAbs ≤ b) ∧ ns.length + szs ys ≤ szs xs ∧ ∀ y ∈ ys, y ∈ xs) ⟨[], none, rfl, by simp, by simp, fun _ h => h⟩ (by
          rintro x ys ρ ⟨ns, p, rfl, hb, hl, hm⟩
          rw [szs_cons] at hl
          obtain ⟨ms, e1, hb1, hl1⟩ := ih b w x n (h.t_mem (hm x (by simp))) hw
          refine ⟨[some (.d (.tuple xs)), some (.d (.list (ns.map .int))), some (.d x), none], [some (.d (.tuple xs)), some (.d (.list ((ns ++ ms.filter fun m => !decide (m ∈ ns)).map .int))), some (.d x), none], by simp -implicitDefEqProofs, ⟨_, _, rfl, ?_, ?_, fun y hy => hm y (by simp [hy])⟩, .inl ?_⟩
          · intro i hi
            rcases List.mem_append.mp hi with hi | hi
            · exact hb i hi
            · exact hb1 i ((List.mem_filter.mp hi).1)
          · have := List.length_filter_le (fun m => !decide (m ∈ ns)) ms
            rw [List.length_append]; omega
          · unfold hl0_ints
            have q1 : ms.length ≤ LIM := by
              have h1 : sz x ≤ szs xs := sz_mem (hm x (by simp))
              have h2 : ms.length ≤ w := by omega
              exact Nat.le_trans h2 hw
            have q2 : ns.length + (ms.filter fun m => !decide (m ∈ ns)).length ≤ LIM := by
              have := List.length_filter_le (fun m => !decide (m ∈ ns)) ms
              have h2 : ns.length + (ms.filter fun m => !decide (m ∈ ns)).length ≤ w := by omega
              exact Nat.le_trans h2 hw
            rw [show n + (k + 1) = n + k + 1 from rfl]
            simp -implicitDefEqProofs [e1]
            rw [lcO_filter (ys := ms) (enc := PyData.int) (p := fun m => !decide (m ∈ ns)) (g := PyData.int) q1 (by
              intro m hm
              by_cases q : m ∈ ns <;> simp -implicitDefEqProofs [notin_intl, q])]
            simp -implicitDefEqProofs [add_l, q2])
      refine ⟨ns, ?_, hb, ?_⟩
      · simp -implicitDefEqProofs [e]
      · rw [sz_t]; have := hl.1; simp at this; omega
    | _ => exact ⟨[], by simp -implicitDefEqProofs, by simp, by simp⟩
/-- _law_exchanged -/
theorem exch_all (k : Nat) : ∀ (b w : Nat) (v : D) (n : Nat) (one other : Int), Gd b k w v → w ≤ LIM → one.natAbs ≤ b → other.natAbs ≤ b → ∃ r, callN P (n + k + 1) I.exch [] [v, .int one, .int other] = .ok r [] ∧ Gd b k w r ∧ sz r = sz v := by
  induction k with
  | zero =>
    intro b w v n one other h hw h1 h2
    rw [run_p L.exch _ (by rfl)]
    unfold h_exch
    cases v with
    | int i =>
      by_cases c1 : i = one
      · exact ⟨.int other, by simp -implicitDefEqProofs [c1], ⟨by simpa using h2, by simp, by simpa using h.s⟩, by simp⟩
      · by_cases c2 : i = other
        · exact ⟨.int one, by simp -implicitDefEqProofs [c1, c2]; (by_cases q : other = one) <;> simp [q], ⟨by simpa using h1, by simp, by simpa using h.s⟩, by simp⟩
        · exact ⟨.int i, by simp -implicitDefEqProofs [c1, c2], h, rfl⟩
    | tuple xs => exact absurd h.dp (by rw [PyData.depth]; omega)
    | _ => exact ⟨_, by simp -implicitDefEqProofs, h, rfl⟩
  | succ k ih =>
    intro b w v n one other h hw h1 h2
    rw [run_p L.exch _ (by rfl)]
    unfold h_exch
    cases v with
    | int i =>
      by_cases c1 : i = one
      · exact ⟨.int other, by simp -implicitDefEqProofs [c1], ⟨by simpa using h2, by simp, by simpa using h.s⟩, by simp⟩
      · by_cases c2 : i = other
        · exact ⟨.int one, by simp -implicitDefEqProofs [c1, c2]; (by_cases q : other = one) <;> simp [q], ⟨by simpa using h1, by simp, by simpa using h.s⟩, by simp⟩
        · exact ⟨.int i, by simp -implicitDefEqProofs [c1, c2], h, rfl⟩
    | tuple xs =>
      have hs := h.s
      rw [sz_t] at hs
      have ll : xs.length ≤ LIM := Nat.le_trans (len_szs xs) (by omega)
      have f : ∀ x ∈ xs, ∃ r, callN P (n + k + 1) I.exch [] [x, .int one, .int other] = .ok r [] ∧ Gd b k w r ∧ sz r = sz x := fun x hx => ih b w x n one other (h.t_mem hx) hw h1 h2
      obtain ⟨g, hg⟩ := skol f
      have sz' : szs (xs.map g) = szs xs := by
        have : ∀ ys : List D, (∀ y ∈ ys, y ∈ xs) → szs (ys.map g) = szs ys := by
          intro ys
          induction ys with
          | nil => intro _; rfl
          | cons y ys ih => intro q; rw [List.map_cons, szs_cons, szs_cons, (hg y (q y (by simp))).2.2, ih fun z hz => q z (by simp [hz])]
        exact this xs fun _ h => h
      refine ⟨.tuple (xs.map g), ?_, ⟨?_, dep_t.mpr ?_, ?_⟩, ?_⟩
      · rw [show n + (k + 1) = n + k + 1 from rfl]
        simp -implicitDefEqProofs
        have := lcO_map (f := fun x => itO (O.ok true) (callO (callN P (n + k + 1) I.exch [] [x, PyData.int one, PyData.int other]))) xs id g ll (by
          intro x hx
          show itO _ (callO (callN P (n + k + 1) I.exch [] [x, .int one, .int other])) = _
          rw [(hg x hx).1]; rfl)
        rw [List.map_id] at this
        rw [this]
        simp -implicitDefEqProofs
      · rw [gd_t]
        intro x hx
        obtain ⟨y, hy, rfl⟩ := List.mem_map.mp hx
        exact (hg y hy).2.1.g
      · intro x hx
        obtain ⟨y, hy, rfl⟩ := List.mem_map.mp hx
        exact (hg y hy).2.1.dp
      · rw [sz_t, sz']; exact hs
      · rw [sz_t, sz_t, sz']
    | _ => exact ⟨_, by simp -implicitDefEqProofs, ⟨h.g, h.dp, h.s⟩, rfl⟩
end
end G

set_option Elab.async false
set_option linter.all false
set_option maxRecDepth 100000
set_option maxHeartbeats 4000000
set_option autoImplicit false
/-! H3: cut. -/
namespace G
open PySem

theorem bi_tus {s : Str} (h : s.length ≤ LIM) : biD .tuple [.str s] = some (.tuple (charsD s)) := by
  show (if okLen s.length = true then some (PyData.tuple (charsD s)) else none) = _
  rw [okLen_t h]; rfl
/-- a call over the state, by its end -/
def cq (r : CR) (F : List D → Env) : R D := match r with
  | .ok d st' => .ok d (F st')
  | _ => .err
@[simp] theorem cq_ok {d : D} {st : List D} {F : List D → Env} : cq (.ok d st) F = .ok d (F st) := rfl
theorem cq0 {cs : CS} {f : Nat} {ds st : List D} {ρ : Env} : callQ cs f 0 ds (some (.ol st) :: ρ) = cq (cs f st ds) (fun st' => some (.ol st') :: ρ) := by
  unfold callQ
  show (match cs f st ds with | .ok d st' => R.ok d ((some (AV.ol st) :: ρ).set 0 (some (.ol st'))) | _ => .err) = _
  cases cs f st ds <;> rfl
theorem cq1 {cs : CS} {f : Nat} {ds st : List D} {o : Option AV} {ρ : Env} : callQ cs f 1 ds (o :: some (.ol st) :: ρ) = cq (cs f st ds) (fun st' => o :: some (.ol st') :: ρ) := by
  unfold callQ
  show (match cs f st ds with | .ok d st' => R.ok d ((o :: some (AV.ol st) :: ρ).set 1 (some (.ol st'))) | _ => .err) = _
  cases cs f st ds <;> rfl

def isStrD : D → Bool
  | .str _ => true
  | _ => false
theorem strs_of : ∀ {xs : List D}, (∀ x ∈ xs, isStrD x = true) → ∃ ss, xs = ss.map PyData.str ∧ strsD xs = some ss
  | [], _ => ⟨[], rfl, rfl⟩
  | x :: xs, h => by
    have hx := h x (by simp)
    cases x with
    | str s =>
      obtain ⟨ss, e, q⟩ := strs_of (xs := xs) fun y hy => h y (by simp [hy])
      exact ⟨s :: ss, by rw [e]; rfl, by rw [strsD, q]; rfl⟩
    | _ => cases hx
theorem join_len : ∀ ss : List Str, (Txt.join (Str.ofString "") ss).length = (ss.map Str.length).sum := by
  have z : (Str.ofString "").length = 0 := by decide
  intro ss
  show (Builtin.Str.glued (Str.ofString "") ss).length = _
  rw [StrLaws.glued_eq_join]
  induction ss with
  | nil => rfl
  | cons s ss ih =>
    cases ss with
    | nil => simp [Str.join]
    | cons t r =>
      show (s ++ Str.ofString "" ++ Str.join (Str.ofString "") (t :: r)).length = _
      rw [str_app_len, str_app_len, z, ih, List.map_cons (a := s), List.sum_cons]
      omega
theorem join_ok : ∀ ss : List Str, (∀ s ∈ ss, PyData.strOk s = true) → PyData.strOk (Txt.join (Str.ofString "") ss) = true := by
  intro ss h
  show PyData.strOk (Builtin.Str.glued (Str.ofString "") ss) = true
  rw [StrLaws.glued_eq_join]
  induction ss with
  | nil => decide +kernel
  | cons s ss ih =>
    cases ss with
    | nil => exact h s (by simp)
    | cons t r =>
      show PyData.strOk (s ++ Str.ofString "" ++ Str.join (Str.ofString "") (t :: r)) = true
      exact str_app_ok (str_app_ok (h s (by simp)) (by decide +kernel)) (ih fun x hx => h x (by simp [hx]))
theorem szs_strs : ∀ ss : List Str, szs (ss.map PyData.str) = (ss.map Str.length).sum + ss.length
  | [] => rfl
  | s :: ss => by
    rw [List.map_cons, szs_cons, sz_s, szs_strs ss, List.map_cons, List.sum_cons, List.length_cons]; omega
/-- joined texts of a list -/
theorem join_spec {b : Nat} {ys : List D} (h : ∀ x ∈ ys, isStrD x = true) (g : ∀ x ∈ ys, gd b x) (hl : szs ys ≤ LIM) : ∃ s : Str, biD .join [.tuple ys] = some (.str s) ∧ PyData.strOk s = true ∧ s.length ≤ szs ys := by
  obtain ⟨ss, e, q⟩ := strs_of h
  subst e
  rw [szs_strs] at hl
  refine ⟨Txt.join (Str.ofString "") ss, ?_, join_ok ss fun s hs => ?_, ?_⟩
  · show ((strsD (ss.map .str)).bind fun ss => if okLen ((ss.map Str.length).sum) then some (PyData.str (Txt.join (Str.ofString "") ss)) else none) = _
    rw [q]
    show (if okLen ((ss.map Str.length).sum) then some (PyData.str (Txt.join (Str.ofString "") ss)) else none) = _
    rw [okLen_t (Nat.le_trans (Nat.le_add_right _ _) hl)]; rfl
  · exact gd_s.mp (g _ (List.mem_map_of_mem hs))
  · rw [join_len, szs_strs]; omega
theorem chars_sz (s : Str) : szs (charsD s) = 2 * s.length := by
  unfold charsD
  have : ∀ l : List Nat, szs (l.map fun c => PyData.str ⟨#[c]⟩) = 2 * l.length := by
    intro l
    induction l with
    | nil => rfl
    | cons c l ih =>
      rw [List.map_cons, szs_cons, sz_s, ih, List.length_cons]
      show 1 + 1 + _ = _
      omega
  rw [this, Array.length_toList]; rfl
theorem chars_ok {b : Nat} {s : Str} (h : PyData.strOk s = true) : ∀ x ∈ charsD s, gd b x ∧ x.depth ≤ 0 := by
  intro x hx
  unfold charsD at hx
  obtain ⟨c, hc, rfl⟩ := List.mem_map.mp hx
  refine ⟨?_, by simp⟩
  rw [gd_s, ok_mem]
  intro d hd
  have e : d = c := by simpa using hd
  subst e
  exact ok_mem.mp h d hc

/-- lists of good data -/
structure Gs (b k w : Nat) (xs : List D) : Prop where
  g : ∀ x ∈ xs, gd b x
  dp : ∀ x ∈ xs, x.depth ≤ k
  s : szs xs ≤ w
theorem Gs.t {b k w : Nat} {xs : List D} (h : Gs b k w xs) : Gd b (k + 1) (w + 1) (.tuple xs) := ⟨gd_t.mpr h.g, dep_t.mpr h.dp, by rw [sz_t]; exact Nat.succ_le_succ h.s⟩
theorem Gs.l {b k w : Nat} {xs : List D} (h : Gs b k w xs) : Gd b (k + 1) (w + 1) (.list xs) := ⟨gd_l.mpr h.g, dep_l.mpr h.dp, by rw [sz_l]; exact Nat.succ_le_succ h.s⟩
theorem Gd.gs {b k w : Nat} {xs : List D} (h : Gd b (k + 1) w (.tuple xs)) : Gs b k (szs xs) xs := ⟨gd_t.mp h.g, dep_t.mp h.dp, Nat.le_refl _⟩
theorem Gd.gsl {b k w : Nat} {xs : List D} (h : Gd b (k + 1) w (.list xs)) : Gs b k (szs xs) xs := ⟨gd_l.mp h.g, dep_l.mp h.dp, Nat.le_refl _⟩
theorem Gs.app {b k w w' : Nat} {xs ys : List D} (h : Gs b k w xs) (q : Gs b k w' ys) : Gs b k (w + w') (xs ++ ys) :=
  ⟨fun x hx => (List.mem_append.mp hx).elim (h.g x) (q.g x), fun x hx => (List.mem_append.mp hx).elim (h.dp x) (q.dp x), by rw [szs_app]; exact Nat.add_le_add h.s q.s⟩
theorem Gs.one {b k w : Nat} {x : D} (h : Gd b k w x) : Gs b k w [x] := ⟨by simpa using h.g, by simpa using h.dp, by simpa using h.s⟩
theorem Gs.cons {b k w w' : Nat} {x : D} {xs : List D} (h : Gd b k w x) (q : Gs b k w' xs) : Gs b k (w + w') (x :: xs) := (Gs.one h).app q
theorem Gs.nil {b k : Nat} : Gs b k 0 [] := ⟨by simp, by simp, by simp⟩
theorem Gs.sub {b k w : Nat} {xs ys : List D} (h : Gs b k w xs) (q : ys.Sublist xs) : Gs b k w ys := ⟨fun x hx => h.g x (q.subset hx), fun x hx => h.dp x (q.subset hx), Nat.le_trans (szs_sub q) h.s⟩
theorem Gs.rev {b k w : Nat} {xs : List D} (h : Gs b k w xs) : Gs b k w xs.reverse := ⟨fun x hx => h.g x (List.mem_reverse.mp hx), fun x hx => h.dp x (List.mem_reverse.mp hx), by rw [szs_rev]; exact h.s⟩
theorem Gs.cut {b k w : Nat} {xs : List D} (h : Gs b k w xs) (lo hi : Option Int) : Gs b k w (cutL xs lo hi) := h.sub (cutL_sub _ _ _)
theorem Gs.mono {b k w b' k' w' : Nat} {xs : List D} (h : Gs b k w xs) (h1 : b ≤ b') (h2 : k ≤ k') (h3 : w ≤ w') : Gs b' k' w' xs := ⟨fun x hx => gd_mono h1 (h.g x hx), fun x hx => Nat.le_trans (h.dp x hx) h2, Nat.le_trans h.s h3⟩
theorem Gs.len {b k w : Nat} {xs : List D} (h : Gs b k w xs) : xs.length ≤ w := Nat.le_trans (len_szs xs) h.s
theorem Gs.shpt {b k w : Nat} {xs : List D} (h : Gs b k w xs) (hk : k ≤ 63) : shp (.tuple xs) = true := h.t.shp (by omega)
theorem Gs.shpl {b k w : Nat} {xs : List D} (h : Gs b k w xs) (hk : k ≤ 63) : shp (.list xs) = true := h.l.shp (by omega)
theorem Gd.str {b k : Nat} {s : Str} (h : PyData.strOk s = true) : Gd b k (s.length + 1) (.str s) := ⟨gd_s.mpr h, by simp, by simp⟩
/-- value[:k] + (x,) + value[k + 1:] -/
theorem put_gs {b k w : Nat} {xs : List D} (h : Gs b k (szs xs) xs) {i : Int} {x y : D} (h0 : 0 ≤ i) (e : L2.atI xs i = some x) (q : Gd b k w y) : Gs b k (szs xs - sz x + w) (cutL xs none (some i) ++ [y] ++ cutL xs (some (i + 1)) none) := by
  have e' : xs[i.toNat]? = some x := by rwa [atI_nn h0] at e
  have s1 := szs_split e'
  rw [cutL_take h0, cutL_drop (by omega), show (i + 1).toNat = i.toNat + 1 by omega]
  have h1 := h.sub (List.take_sublist i.toNat xs)
  have h2 := h.sub (List.drop_sublist (i.toNat + 1) xs)
  refine ⟨?_, ?_, ?_⟩
  · intro z hz
    simp only [List.mem_append, List.mem_singleton] at hz
    rcases hz with (hz | rfl) | hz
    · exact h1.g z hz
    · exact q.g
    · exact h2.g z hz
  · intro z hz
    simp only [List.mem_append, List.mem_singleton] at hz
    rcases hz with (hz | rfl) | hz
    · exact h1.dp z hz
    · exact q.dp
    · exact h2.dp z hz
  · have := q.s
    rw [szs_app, szs_app, szs_cons, szs_nil]; omega
theorem cut_len {xs : List D} {lo hi : Option Int} : (cutL xs lo hi).length ≤ xs.length := (cutL_sub xs lo hi).length_le
section
variable {P : Prog} {I : LI} (L : Lib P I)
include L
/-- _law_cut -/
theorem cut_all (k : Nat) : ∀ (b w : Nat) (v : D) (n : Nat) (st : List D), Gd b k w v → k ≤ 60 → w ≤ 100000 → DrOk st → ∃ r st', callN P (n + k + 2) I.cut st [v] = .ok r st' ∧ DrOk st' ∧ Gd b k (8 * sz v + 40) r ∧ ((∃ xs, v = .tuple xs) → ∃ ys, r = .tuple ys) := by
  induction k with
  | zero =>
    intro b w v n st h hk hw hst
    refine ⟨v, st, ?_, hst, ⟨h.g, h.dp, by omega⟩, fun h => h⟩
    rw [run_i L.cut _ (by rfl)]
    unfold h_cut
    cases v with
    | tuple xs => exact absurd h.dp (by rw [PyData.depth]; omega)
    | list xs => exact absurd h.dp (by rw [PyData.depth]; omega)
    | _ => simp -implicitDefEqProofs
  | succ k ih =>
    intro b w v n st h hk hw hst
    rw [run_i L.cut _ (by rfl)]
    unfold h_cut
    cases v with
    | tuple xs =>
      have gs := h.gs
      have hs := h.s
      rw [sz_t] at hs
      have ll : xs.length ≤ 100000 := Nat.le_trans gs.len (by omega)
      have ll' : xs.length ≤ LIM := Nat.le_trans ll (by decide)
      have e0 := eq_nt (gs.shpt (by omega))
      by_cases hn : xs = []
      · subst hn
        refine ⟨.tuple [], st, ?_, hst, ⟨h.g, h.dp, by simp⟩, fun h => h⟩
        simp -implicitDefEqProofs [e0]
      · have hne : xs.isEmpty = false := by cases xs <;> simp_all
        have hpos : 0 < xs.length := List.length_pos_iff.mpr hn
        rw [hne] at e0
        have fil : ∀ f : D → O (List D), (∀ x ∈ xs, f x = .ok (if !isStrD x then [x] else [])) → lcO f xs = .ok (.list (xs.filter fun x => !isStrD x)) := fun f hf => lcO_sub ll' hf
        obtain ⟨r1, st1, e1, r10, r11, hst1⟩ := next_spec L (n + k + 1) hst (lim := xs.length) (by omega) (by omega)
        obtain ⟨x, hx, ex⟩ := pick_at r10 r11
        by_cases hf : xs.filter (fun x => !isStrD x) = []
        · have allS : ∀ x ∈ xs, isStrD x = true := fun x hx => by simpa using List.filter_eq_nil_iff.mp hf x hx
          have e2 : cmpD .ne (.list (xs.filter fun x => !isStrD x)) (.list []) = some false := by rw [hf]; decide
          have hxs := allS x hx
          cases x with
          | str s =>
            have sok : PyData.strOk s = true := gd_s.mp (gs.g _ hx)
            have hsl : s.length ≤ szs xs := by have := sz_mem hx; rw [sz_s] at this; omega
            have hsl' : s.length ≤ LIM := Nat.le_trans hsl (Nat.le_trans (by omega) (show 100000 ≤ LIM by decide))
            obtain ⟨r2, st2, e3, r20, r21, hst2⟩ := next_spec L (n + k + 1) hst1 (lim := (s.length : Int) + 1) (by omega) (by omega)
            have c1 := gs.cut none (some r1)
            have c2 := gs.cut (some (r1 + 1)) none
            have c3 := gs.cut (some r1) (some (r1 + 2))
            have c4 := gs.cut (some (r1 + 2)) none
            have c5 := gs.cut (some r1) none
            have lim : szs xs ≤ LIM := Nat.le_trans (by omega) (show 100000 ≤ LIM by decide)
            obtain ⟨s1, j1, o1, l1⟩ := join_spec (b := b) (ys := cutL xs (some r1) (some (r1 + 2))) (fun y hy => allS y ((cutL_sub _ _ _).subset hy)) c3.g (Nat.le_trans c3.s lim)
            obtain ⟨s2, j2, o2, l2⟩ := join_spec (b := b) (ys := xs) allS gs.g lim
            have l1' : s1.length ≤ szs xs := Nat.le_trans l1 c3.s
            have l2' : s2.length ≤ LIM := Nat.le_trans l2 lim
            obtain ⟨r3, st3, e4, r30, r31, hst3⟩ := next_spec L (n + k + 1) hst2 (lim := 6) (by omega) (by omega)
            have a1 : Gs b k (s.length + 1) [PyData.str (L2.cutS s none (some r2))] := Gs.one ((Gd.str (cutS_ok none (some r2) sok)).mono (Nat.le_refl _) (Nat.le_refl _) (Nat.succ_le_succ (cutS_len s _ _)))
            have a2 : Gs b k (s.length + 1) [PyData.str (L2.cutS s (some r2) none)] := Gs.one ((Gd.str (cutS_ok (some r2) none sok)).mono (Nat.le_refl _) (Nat.le_refl _) (Nat.succ_le_succ (cutS_len s _ _)))
            have ea : Gs b k (0 + 1) [PyData.str (Str.ofString "")] := Gs.one (Gd.str (s := Str.ofString "") (by decide +kernel))
            have g1 := (c1.app (a1.app a2)).app c2
            have g2 := (c1.app (Gs.one (Gd.str (k := k) o1))).app c4
            have g3 := Gs.one (Gd.str (b := b) (k := k) o2)
            have g4 : Gs b k (2 * s2.length) (charsD s2) := ⟨fun x hx => (chars_ok o2 x hx).1, fun x hx => Nat.le_trans (chars_ok (b := b) o2 x hx).2 (Nat.zero_le _), Nat.le_of_eq (chars_sz s2)⟩
            have g5 := (c1.app ea).app c5
            have g6 := (c1.app c3.rev).app c4
            obtain ⟨W, hW⟩ : ∃ W, W = 8 * szs xs + 40 := ⟨_, rfl⟩
            have q1 := g1.t.mono (Nat.le_refl _) (Nat.le_refl _) (show _ ≤ W by omega)
            have q2 := g2.t.mono (Nat.le_refl _) (Nat.le_refl _) (show _ ≤ W by omega)
            have q3 := g3.t.mono (Nat.le_refl _) (Nat.le_refl _) (show _ ≤ W by omega)
            have q4 := g4.t.mono (Nat.le_refl _) (Nat.le_refl _) (show _ ≤ W by omega)
            have q5 := g5.t.mono (Nat.le_refl _) (Nat.le_refl _) (show _ ≤ W by omega)
            have q6 := g6.t.mono (Nat.le_refl _) (Nat.le_refl _) (show _ ≤ W by omega)
            have k1 := g1.len
            have k2 := g2.len
            have k5 := g5.len
            have k6 := g6.len
            simp only [List.length_append, List.length_cons, List.length_nil, List.length_reverse] at k1 k2 k5 k6
            have LL : LIM = 1000000 := rfl
            obtain ⟨y, hy, ey⟩ := pick_at (xs := [.tuple (cutL xs none (some r1) ++ [PyData.str (L2.cutS s none (some r2)), PyData.str (L2.cutS s (some r2) none)] ++ cutL xs (some (r1 + 1)) none),
              .tuple (cutL xs none (some r1) ++ [PyData.str s1] ++ cutL xs (some (r1 + 2)) none), .tuple [PyData.str s2], .tuple (charsD s2), .tuple (cutL xs none (some r1) ++ [PyData.str (Str.ofString "")] ++ cutL xs (some r1) none),
              .tuple (cutL xs none (some r1) ++ (cutL xs (some r1) (some (r1 + 2))).reverse ++ cutL xs (some (r1 + 2)) none)]) r30 (by simpa using r31)
            have gy : Gd b (k + 1) W y ∧ ∃ ys, y = .tuple ys := by
              simp only [List.mem_cons, List.not_mem_nil, or_false] at hy
              rcases hy with rfl | rfl | rfl | rfl | rfl | rfl
              · exact ⟨q1, _, rfl⟩
              · exact ⟨q2, _, rfl⟩
              · exact ⟨q3, _, rfl⟩
              · exact ⟨q4, _, rfl⟩
              · exact ⟨q5, _, rfl⟩
              · exact ⟨q6, _, rfl⟩
            refine ⟨y, st3, ?_, hst3, gy.1.mono (Nat.le_refl _) (Nat.le_refl _) (by rw [sz_t]; omega), fun _ => gy.2⟩
            rw [show n + (k + 1) + 1 = n + k + 1 + 1 from rfl]
            simp -implicitDefEqProofs [e0]
            rw [fil _ (by intro x hx; cases x <;> simp -implicitDefEqProofs [isStrD])]
            simp only [List.append_assoc, List.cons_append, List.nil_append] at ey
            simp -implicitDefEqProofs (disch := first | rfl | omega | (simp only [List.length_append, List.length_cons, List.length_nil, List.length_reverse, List.length_map]; omega) | (simp; done)) [-atI_nn, e2, cq0, e1, ex, bi_lens hsl', e3, slc_s hsl', add_t, j1, j2, add_l, bi_tus l2', e4, ey]
          | _ => cases hxs
        · have e2 : cmpD .ne (.list (xs.filter fun x => !isStrD x)) (.list []) = some true := by
            rw [ne_nl ((gs.sub List.filter_sublist).shpl (by omega))]
            cases q : xs.filter fun x => !isStrD x with
            | nil => exact absurd q hf
            | cons _ _ => rfl
          obtain ⟨y, st2, e3, hst2, gy, _⟩ := ih b w x n st1 (h.t_mem hx) (by omega) hw hst1
          have g1 := put_gs gs r10 ex gy
          have hxs := sz_mem hx
          have k1 := g1.len
          simp only [List.length_append, List.length_cons, List.length_nil] at k1
          have LL : LIM = 1000000 := rfl
          refine ⟨.tuple (cutL xs none (some r1) ++ [y] ++ cutL xs (some (r1 + 1)) none), st2, ?_, hst2, g1.t.mono (Nat.le_refl _) (Nat.le_refl _) (by rw [sz_t]; omega), fun _ => ⟨_, rfl⟩⟩
          rw [show n + (k + 1) + 1 = n + k + 1 + 1 from rfl]
          simp -implicitDefEqProofs [e0]
          rw [fil _ (by intro x hx; cases x <;> simp -implicitDefEqProofs [isStrD])]
          simp -implicitDefEqProofs (disch := first | rfl | omega | (simp only [List.length_append, List.length_cons, List.length_nil, List.length_reverse, List.length_map]; omega) | (simp; done)) [-atI_nn, e2, cq0, e1, ex, e3, add_t]
    | dict _ => exact absurd h.g (by simp)
    | _ =>
      refine ⟨_, st, ?_, hst, ⟨h.g, h.dp, by omega⟩, fun ⟨_, q⟩ => by cases q⟩
      simp -implicitDefEqProofs
end
end G

set_option Elab.async false
set_option linter.all false
set_option maxRecDepth 100000
set_option maxHeartbeats 4000000
set_option autoImplicit false
/-! H4: changed. -/
namespace G
open PySem
mutual
/-- no None within -/
def nn : D → Prop
  | .none => False
  | .list xs => nns xs
  | .tuple xs => nns xs
  | .bool _ => True
  | .int _ => True
  | .str _ => True
  | .dict _ => True
def nns : List D → Prop
  | [] => True
  | x :: xs => nn x ∧ nns xs
end
theorem nns_iff : ∀ {xs : List D}, nns xs ↔ ∀ x ∈ xs, nn x
  | [] => by simp [nns]
  | x :: xs => by rw [nns, nns_iff (xs := xs)]; simp
@[simp] theorem nn_n : ¬ nn .none := by rw [nn]; exact id
@[simp] theorem nn_b {b : Bool} : nn (.bool b) := by rw [nn]; trivial
@[simp] theorem nn_i {b : Int} : nn (.int b) := by rw [nn]; trivial
@[simp] theorem nn_s {b : Str} : nn (.str b) := by rw [nn]; trivial
@[simp] theorem nn_l {xs : List D} : nn (.list xs) ↔ ∀ x ∈ xs, nn x := by rw [nn, nns_iff]
@[simp] theorem nn_t {xs : List D} : nn (.tuple xs) ↔ ∀ x ∈ xs, nn x := by rw [nn, nns_iff]

theorem text_ok {i : Int} (h : i.natAbs.log2 < 1920) : PyData.strOk (Str.ofString (toString i)) = true := by
  rw [ok_mem, Str.ofString_eq_toList]
  intro c hc
  have hc' : c ∈ (toString i).toList.map Char.toNat := by simpa using hc
  obtain ⟨d, _, rfl⟩ := List.mem_map.mp hc'
  have := d.valid
  have h2 := d.val.toNat_lt
  show d.val.toNat < 1114112
  rcases this with h | h <;> omega
theorem text_len {i : Int} (h : i.natAbs < 10 ^ 60) : (Str.ofString (toString i)).length ≤ 61 := by
  have := PySem.int_text_length_le10 (a := i) (k := 60) (by decide) h
  rw [ofString_length]; omega
theorem bi_str {i : Int} (h : i.natAbs < 10 ^ 60) : biD .str [.int i] = some (.str (Str.ofString (toString i))) ∧ i.natAbs.log2 < 1920 := by
  have : i.natAbs.log2 < 1920 := by
    by_cases z : i.natAbs = 0
    · rw [z]; decide
    · exact (Nat.log2_lt z).mpr (Nat.lt_trans h (by decide +kernel))
  refine ⟨?_, this⟩
  show (if decide (i.natAbs.log2 < 1920) then some (PyData.str (toString i)) else none) = _
  rw [decide_eq_true this]; rfl
section
variable {P : Prog} {I : LI} (L : Lib P I)
include L
/-- _law_changed -/
theorem changed_flat (k : Nat) : ∀ (b w : Nat) (v : D) (n : Nat) (st : List D), Gd b k w v → nn v → (∀ xs, v ≠ .tuple xs) → 1 ≤ b → b < 10 ^ 60 → w ≤ 100000 → DrOk st → ∃ r st', callN P (n + 2) I.changed st [v] = .ok r st' ∧ DrOk st' ∧ Gd (2 * b + 2) k (8 * sz v + 150) r := by
  intro b w v n st h hnn hnt hb1 hb hw hst
  rw [run_i L.changed _ (by rfl)]
  unfold h_changed
  cases v with
  | tuple xs => exact absurd rfl (hnt xs)
  | dict _ => exact absurd h.g (by simp)
  | none => exact absurd hnn (by simp)
  | list xs =>
    obtain ⟨j, rfl, _⟩ := dep_l0 h.dp
    exact ⟨.tuple [], st, by simp -implicitDefEqProofs, hst, by simp, by rw [PyData.depth, PyData.depthAll]; omega, by simp⟩
  | bool x =>
    obtain ⟨r1, st1, e1, r10, r11, hst1⟩ := next_spec L n hst (lim := 2) (by omega) (by omega)
    obtain ⟨y, hy, ey⟩ := pick_at (xs := [.bool (!x), .int (if x then 1 else 0)]) r10 r11
    refine ⟨y, st1, by simp -implicitDefEqProofs (disch := first | rfl | omega | (simp only [List.length_append, List.length_cons, List.length_nil, List.length_reverse, List.length_map]; omega) | (simp; done) | fail) [-atI_nn, cq0, e1, ey], hst1, ?_⟩
    simp only [List.mem_cons, List.not_mem_nil, or_false] at hy
    rcases hy with rfl | rfl
    · exact ⟨by simp, by simp, by simp⟩
    · exact ⟨by cases x <;> simp, by simp, by simp⟩
  | int i =>
    have hi := gd_i.mp h.g
    obtain ⟨r1, st1, e1, r10, r11, hst1⟩ := next_spec L n hst (lim := 7) (by omega) (by omega)
    obtain ⟨z, hz⟩ : ∃ z, z = (if i = 0 then 1 else i) := ⟨_, rfl⟩
    have bs := bi_str (i := i) (Nat.lt_of_le_of_lt hi hb)
    have tl := text_len (i := i) (Nat.lt_of_le_of_lt hi hb)
    have tk := text_ok (i := i) bs.2
    obtain ⟨t, ht⟩ : ∃ t, t = Str.ofString (toString i) := ⟨_, rfl⟩
    rw [← ht] at bs tl tk
    obtain ⟨y, hy, ey⟩ := pick_at (xs := [.int (i + 1), .int (i - 1), .int 0, .none, .bool (decide (i = 1)), .str t, .int (2 * z)]) r10 r11
    refine ⟨y, st1, ?_, hst1, ?_⟩
    · by_cases q : i = 0
      · subst q
        simp at hz
        subst hz
        have bs' := bs.1
        replace ey : L2.atI [.int 1, .int (-1), .int 0, .none, .bool false, .str t, .int 2] r1 = some y := ey
        simp -implicitDefEqProofs (disch := first | rfl | omega | (simp only [List.length_append, List.length_cons, List.length_nil, List.length_reverse, List.length_map]; omega) | (simp; done) | fail) [-atI_nn, cq0, e1, bs', ey]
      · rw [if_neg q] at hz
        subst hz
        have q' : (z != 0) = true := by simpa using q
        have bs' := bs.1
        simp -implicitDefEqProofs (disch := first | rfl | omega | (simp only [List.length_append, List.length_cons, List.length_nil, List.length_reverse, List.length_map]; omega) | (simp; done) | fail) [-atI_nn, cq0, e1, bs', q', ey]
    · have hzb : z.natAbs ≤ b + 1 := by rw [hz]; split <;> omega
      simp only [List.mem_cons, List.not_mem_nil, or_false] at hy
      rcases hy with rfl | rfl | rfl | rfl | rfl | rfl | rfl
      · exact ⟨by rw [gd_i]; omega, by simp, by simp⟩
      · exact ⟨by rw [gd_i]; omega, by simp, by simp⟩
      · exact ⟨by rw [gd_i]; omega, by simp, by simp⟩
      · exact ⟨by simp, by simp, by simp⟩
      · exact ⟨by simp, by simp, by simp⟩
      · exact ⟨by rw [gd_s]; exact tk, by simp, by rw [sz_s, sz_i]; omega⟩
      · exact ⟨by rw [gd_i]; omega, by simp, by simp⟩
  | str s =>
    have sok := gd_s.mp h.g
    have hs := h.s
    rw [sz_s] at hs
    have LL : LIM = 1000000 := rfl
    obtain ⟨r1, st1, e1, r10, r11, hst1⟩ := next_spec L n hst (lim := 9) (by omega) (by omega)
    have la : (Str.ofString "a").length = 1 := by decide +kernel
    have lb : (Str.ofString "b").length = 1 := by decide +kernel
    obtain ⟨y, hy, ey⟩ := pick_at (xs := [.str (L2.cutS s (some 1) none), .str (s ++ Str.ofString "a"), .str ⟨s.cps.reverse⟩, .str (Str.ofString "b" ++ s), .str (Str.ofString ""), .str (L2.cutS s none (some (-1))), .str (Str.ofString "left"), .int 3, .str (Str.ofString "in")]) r10 r11
    refine ⟨y, st1, by simp -implicitDefEqProofs (disch := first | rfl | omega | (simp only [List.length_append, List.length_cons, List.length_nil, List.length_reverse, List.length_map]; omega) | (simp; done) | fail) [-atI_nn, cq0, e1, slc_s, add_s, la, lb, rev_s, ey], hst1, ?_⟩
    have l1 := cutS_len s (some 1) none
    have l2 := cutS_len s none (some (-1))
    simp only [List.mem_cons, List.not_mem_nil, or_false] at hy
    rcases hy with rfl | rfl | rfl | rfl | rfl | rfl | rfl | rfl | rfl
    · exact ⟨gd_s.mpr (cutS_ok _ _ sok), by simp, by rw [sz_s, sz_s]; omega⟩
    · exact ⟨gd_s.mpr (str_app_ok sok (by decide +kernel)), by simp, by rw [sz_s, sz_s, str_app_len, la]; omega⟩
    · exact ⟨gd_s.mpr (rev_ok sok), by simp, by rw [sz_s, sz_s]; show s.cps.reverse.size + 1 ≤ 8 * (s.cps.size + 1) + 150; rw [Array.size_reverse]; omega⟩
    · exact ⟨gd_s.mpr (str_app_ok (by decide +kernel) sok), by simp, by rw [sz_s, sz_s, str_app_len, lb]; omega⟩
    · exact ⟨gd_s.mpr (by decide +kernel), by simp, by rw [sz_s, show (Str.ofString "").length = 0 by decide +kernel]; omega⟩
    · exact ⟨gd_s.mpr (cutS_ok _ _ sok), by simp, by rw [sz_s, sz_s]; omega⟩
    · exact ⟨gd_s.mpr (by decide +kernel), by simp, by rw [sz_s, show (Str.ofString "left").length = 4 by decide +kernel]; omega⟩
    · exact ⟨by rw [gd_i]; show 3 ≤ 2 * b + 2; omega, by simp, by simp⟩
    · exact ⟨gd_s.mpr (by decide +kernel), by simp, by rw [sz_s, show (Str.ofString "in").length = 2 by decide +kernel]; omega⟩
theorem changed_all (k : Nat) : ∀ (b w : Nat) (v : D) (n : Nat) (st : List D), Gd b k w v → nn v → 1 ≤ b → b < 10 ^ 60 → k ≤ 60 → w ≤ 100000 → DrOk st → ∃ r st', callN P (n + k + 2) I.changed st [v] = .ok r st' ∧ DrOk st' ∧ Gd (2 * b + 2) k (8 * sz v + 150) r := by
  induction k with
  | zero =>
    intro b w v n st h hnn hb1 hb hk hw hst
    exact changed_flat L 0 b w v n st h hnn (fun xs e => by subst e; exact absurd h.dp (by rw [PyData.depth]; omega)) hb1 hb hw hst
  | succ k ih =>
    intro b w v n st h hnn hb1 hb hk hw hst
    by_cases hv : ∀ xs, v ≠ .tuple xs
    · exact changed_flat L (k + 1) b w v (n + (k + 1)) st h hnn hv hb1 hb hw hst
    · obtain ⟨xs, rfl⟩ : ∃ xs, v = .tuple xs := Classical.byContradiction fun z => hv fun xs e => z ⟨xs, e⟩
      have gs := (h.mono (show b ≤ 2 * b + 2 by omega) (Nat.le_refl _) (Nat.le_refl _)).gs
      have hs := h.s
      rw [sz_t] at hs
      have LL : LIM = 1000000 := rfl
      have ll : xs.length ≤ 100000 := Nat.le_trans gs.len (by omega)
      have e0 := ne_nt (gs.shpt (by omega))
      -- the rest: the whole turned
      have rest : ∀ st1, DrOk st1 → ∃ r st', DrOk st' ∧ Gd (2 * b + 2) (k + 1) (8 * sz (.tuple xs) + 150) r ∧ ∀ o, outI (exB (callN P (n + k + 2)) ((h_changed I).drop 5) [some (.ol st1), some (.d (.tuple xs)), none, o, none, none, none]) = .ok r st' := by
        intro st1 hst1
        obtain ⟨r1, st2, e1, r10, r11, hst2⟩ := next_spec L (n + k + 1) hst1 (lim := (xs.length : Int) + 1) (by omega) (by omega)
        obtain ⟨r2, st3, e2, r20, r21, hst3⟩ := next_spec L (n + k + 1) hst2 (lim := (xs.length : Int) + 1) (by omega) (by omega)
        have z1 : Gs (2 * b + 2) k 1 [PyData.int 0] := Gs.one ⟨by simp, by simp, by simp⟩
        have c1 := (gs.cut none (some r1)).app (gs.cut (some (r1 + 1)) none)
        have c2 := gs.app (gs.cut none (some 1))
        have c3 := gs.rev
        have c4 := (gs.cut (some r1) none).app (gs.cut none (some r1))
        have c6 := gs.cut none (some r1)
        have c8 := gs.app z1
        have c9 := (gs.cut none (some r1)).app ((gs.cut (some r2) (some (r2 + 1))).app ((gs.cut (some (r1 + 1)) (some r2)).app ((gs.cut (some r1) (some (r1 + 1))).app (gs.cut (some (r2 + 1)) none))))
        obtain ⟨W, hW⟩ : ∃ W, W = 8 * szs xs + 150 := ⟨_, rfl⟩
        have k1 := c1.len
        have k2 := c2.len
        have k4 := c4.len
        have k9 := c9.len
        have k6 := c6.len
        simp only [List.length_append, List.length_cons, List.length_nil, List.length_reverse] at k1 k2 k4 k9 k6
        have q1 := c1.t.mono (Nat.le_refl _) (Nat.le_refl _) (show _ ≤ W by omega)
        have q2 := c2.t.mono (Nat.le_refl _) (Nat.le_refl _) (show _ ≤ W by omega)
        have q3 := c3.t.mono (Nat.le_refl _) (Nat.le_refl _) (show _ ≤ W by omega)
        have q4 := c4.t.mono (Nat.le_refl _) (Nat.le_refl _) (show _ ≤ W by omega)
        have q5 := gs.l.mono (Nat.le_refl _) (Nat.le_refl _) (show _ ≤ W by omega)
        have q6 := c6.t.mono (Nat.le_refl _) (Nat.le_refl _) (show _ ≤ W by omega)
        have q7 : Gd (2 * b + 2) (k + 1) W (.tuple []) := (Gs.nil (b := 2 * b + 2) (k := k)).t.mono (Nat.le_refl _) (Nat.le_refl _) (by omega)
        have q8 := c8.t.mono (Nat.le_refl _) (Nat.le_refl _) (show _ ≤ W by omega)
        have q9 := c9.t.mono (Nat.le_refl _) (Nat.le_refl _) (show _ ≤ W by omega)
        have hsz : 8 * sz (.tuple xs) + 150 ≥ W := by rw [sz_t]; omega
        by_cases hc : r1 < r2 ∧ r2 < xs.length
        · obtain ⟨r3, st4, e3, r30, r31, hst4⟩ := next_spec L (n + k + 1) hst3 (lim := 11) (by omega) (by omega)
          obtain ⟨y, hy, ey⟩ := pick_at (xs := [.tuple (cutL xs none (some r1) ++ cutL xs (some (r1 + 1)) none), .tuple (xs ++ cutL xs none (some 1)), .tuple xs.reverse, .tuple (cutL xs (some r1) none ++ cutL xs none (some r1)), .list xs, .tuple (cutL xs none (some r1)), .tuple [], .tuple (xs ++ [PyData.int 0]),
            .tuple (cutL xs none (some r1) ++ (cutL xs (some r2) (some (r2 + 1)) ++ (cutL xs (some (r1 + 1)) (some r2) ++ (cutL xs (some r1) (some (r1 + 1)) ++ cutL xs (some (r2 + 1)) none)))),
            .tuple (cutL xs none (some r1) ++ (cutL xs (some r2) (some (r2 + 1)) ++ (cutL xs (some (r1 + 1)) (some r2) ++ (cutL xs (some r1) (some (r1 + 1)) ++ cutL xs (some (r2 + 1)) none)))),
            .tuple (cutL xs none (some r1) ++ (cutL xs (some r2) (some (r2 + 1)) ++ (cutL xs (some (r1 + 1)) (some r2) ++ (cutL xs (some r1) (some (r1 + 1)) ++ cutL xs (some (r2 + 1)) none))))]) r30 (by simpa using r31)
          refine ⟨y, st4, hst4, ?_, fun o => ?_⟩
          · simp only [List.mem_cons, List.not_mem_nil, or_false] at hy
            rcases hy with rfl | rfl | rfl | rfl | rfl | rfl | rfl | rfl | rfl | rfl | rfl
            · exact q1.mono (Nat.le_refl _) (Nat.le_refl _) hsz
            · exact q2.mono (Nat.le_refl _) (Nat.le_refl _) hsz
            · exact q3.mono (Nat.le_refl _) (Nat.le_refl _) hsz
            · exact q4.mono (Nat.le_refl _) (Nat.le_refl _) hsz
            · exact q5.mono (Nat.le_refl _) (Nat.le_refl _) hsz
            · exact q6.mono (Nat.le_refl _) (Nat.le_refl _) hsz
            · exact q7.mono (Nat.le_refl _) (Nat.le_refl _) hsz
            · exact q8.mono (Nat.le_refl _) (Nat.le_refl _) hsz
            · exact q9.mono (Nat.le_refl _) (Nat.le_refl _) hsz
            · exact q9.mono (Nat.le_refl _) (Nat.le_refl _) hsz
            · exact q9.mono (Nat.le_refl _) (Nat.le_refl _) hsz
          · unfold h_changed
            simp -implicitDefEqProofs (disch := first | rfl | omega | (simp only [List.length_append, List.length_cons, List.length_nil, List.length_reverse, List.length_map]; omega) | (simp; done) | fail) [-atI_nn, cq0, e1, e2, add_t, add_l, hc.1, hc.2, show rngZ 0 3 = [0, 1, 2] by decide, lcO, joinO, limO, e3, ey]
        · obtain ⟨r3, st4, e3, r30, r31, hst4⟩ := next_spec L (n + k + 1) hst3 (lim := 8) (by omega) (by omega)
          obtain ⟨y, hy, ey⟩ := pick_at (xs := [.tuple (cutL xs none (some r1) ++ cutL xs (some (r1 + 1)) none), .tuple (xs ++ cutL xs none (some 1)), .tuple xs.reverse, .tuple (cutL xs (some r1) none ++ cutL xs none (some r1)), .list xs, .tuple (cutL xs none (some r1)), .tuple [], .tuple (xs ++ [PyData.int 0])]) r30 (by simpa using r31)
          refine ⟨y, st4, hst4, ?_, fun o => ?_⟩
          · simp only [List.mem_cons, List.not_mem_nil, or_false] at hy
            rcases hy with rfl | rfl | rfl | rfl | rfl | rfl | rfl | rfl
            · exact q1.mono (Nat.le_refl _) (Nat.le_refl _) hsz
            · exact q2.mono (Nat.le_refl _) (Nat.le_refl _) hsz
            · exact q3.mono (Nat.le_refl _) (Nat.le_refl _) hsz
            · exact q4.mono (Nat.le_refl _) (Nat.le_refl _) hsz
            · exact q5.mono (Nat.le_refl _) (Nat.le_refl _) hsz
            · exact q6.mono (Nat.le_refl _) (Nat.le_refl _) hsz
            · exact q7.mono (Nat.le_refl _) (Nat.le_refl _) hsz
            · exact q8.mono (Nat.le_refl _) (Nat.le_refl _) hsz
          · unfold h_changed
            by_cases h1 : r1 < r2
            · have h2 : ¬ r2 < xs.length := fun z => hc ⟨h1, z⟩
              simp -implicitDefEqProofs (disch := first | rfl | omega | (simp only [List.length_append, List.length_cons, List.length_nil, List.length_reverse, List.length_map]; omega) | (simp; done) | fail) [-atI_nn, cq0, e1, e2, add_t, add_l, h1, h2, e3, ey]
            · simp -implicitDefEqProofs (disch := first | rfl | omega | (simp only [List.length_append, List.length_cons, List.length_nil, List.length_reverse, List.length_map]; omega) | (simp; done) | fail) [-atI_nn, cq0, e1, e2, add_t, add_l, h1, e3, ey]
      rw [run_i L.changed _ (by rfl)]
      rw [show n + (k + 1) + 1 = n + k + 2 from rfl]
      rw [exB_cut 5]
      by_cases hn : xs = []
      · subst hn
        obtain ⟨r, st', hst', g, e⟩ := rest st hst
        refine ⟨r, st', ?_, hst', g⟩
        have q : exB (callN P (n + k + 2)) ((h_changed I).take 5) [some (.ol st), some (.d (.tuple [])), none, none, none, none, none] = .next [some (.ol st), some (.d (.tuple [])), none, none, none, none, none] := by
          unfold h_changed
          simp -implicitDefEqProofs (disch := first | rfl | omega | (simp only [List.length_append, List.length_cons, List.length_nil, List.length_reverse, List.length_map]; omega) | (simp; done) | fail) [e0]
        exact (congrArg (fun x => outI (x.bind fun ρ => exB (callN P (n + k + 2)) ((h_changed I).drop 5) ρ)) q).trans (e none)
      · have hne : xs.isEmpty = false := by cases xs <;> simp_all
        have hpos : 0 < xs.length := List.length_pos_iff.mpr hn
        rw [hne] at e0
        obtain ⟨r1, st1, e1, r10, r11, hst1⟩ := next_spec L (n + k + 1) hst (lim := 4) (by omega) (by omega)
        by_cases hr : 0 < r1
        · obtain ⟨r2, st2, e2, r20, r21, hst2⟩ := next_spec L (n + k + 1) hst1 (lim := xs.length) (by omega) (by omega)
          obtain ⟨x, hx, ex⟩ := pick_at r20 r21
          obtain ⟨y, st3, e3, hst3, gy⟩ := ih b w x n st2 (h.t_mem hx) (nn_t.mp hnn x hx) hb1 hb (by omega) hw hst2
          have g1 := put_gs gs r20 ex gy
          have hxs := sz_mem hx
          have k1 := g1.len
          simp only [List.length_append, List.length_cons, List.length_nil] at k1
          refine ⟨.tuple (cutL xs none (some r2) ++ [y] ++ cutL xs (some (r2 + 1)) none), st3, ?_, hst3, g1.t.mono (Nat.le_refl _) (Nat.le_refl _) (by rw [sz_t]; omega)⟩
          have q : ∃ ρ, exB (callN P (n + k + 2)) ((h_changed I).take 5) [some (.ol st), some (.d (.tuple xs)), none, none, none, none, none] = .ret (.tuple (cutL xs none (some r2) ++ [y] ++ cutL xs (some (r2 + 1)) none)) (some (.ol st3) :: ρ) := by
            unfold h_changed
            simp -implicitDefEqProofs (disch := first | rfl | omega | (simp only [List.length_append, List.length_cons, List.length_nil, List.length_reverse, List.length_map]; omega) | (simp; done) | fail) [e0, -atI_nn, cq0, e1, hr, e2, ex, e3, add_t]
          obtain ⟨ρ, q⟩ := q
          exact (congrArg (fun x => outI (x.bind fun ρ => exB (callN P (n + k + 2)) ((h_changed I).drop 5) ρ)) q).trans rfl
        · obtain ⟨r, st', hst', g, e⟩ := rest st1 hst1
          refine ⟨r, st', ?_, hst', g⟩
          have q : exB (callN P (n + k + 2)) ((h_changed I).take 5) [some (.ol st), some (.d (.tuple xs)), none, none, none, none, none] = .next [some (.ol st1), some (.d (.tuple xs)), none, none, none, none, none] := by
            unfold h_changed
            simp -implicitDefEqProofs (disch := first | rfl | omega | (simp only [List.length_append, List.length_cons, List.length_nil, List.length_reverse, List.length_map]; omega) | (simp; done) | fail) [e0, cq0, e1, hr]
          exact (congrArg (fun x => outI (x.bind fun ρ => exB (callN P (n + k + 2)) ((h_changed I).drop 5) ρ)) q).trans (e none)
end
end G

set_option Elab.async false
set_option linter.all false
set_option maxRecDepth 100000
set_option maxHeartbeats 4000000
set_option autoImplicit false
/-! H5: turned about, odd, neighbour. -/
namespace G
open PySem
theorem e_lc {cs : CS} {elt : E} {vs : List Nat} {tg : Tg} {it : It} {cond : Option E} {ρ : Env} : evE cs (.lc elt vs tg it cond) ρ = (evI cs it ρ).bind fun xs ρ1 =>
      (limR (joinR (fun x ρ => (R.opt (tg.bind x (kill ρ vs)) ρ).bind fun ρa _ => (evC cs cond ρa).nox.bind fun t ρ =>
        thn t ((evE cs elt ρ).nox.bind fun d ρ => .ok [d] ρ) (.ok [] ρ)) xs ρ1)).bind fun ds ρ2 => .ok (.list ds) (back vs ρ1 ρ2) := by rw [evE]; rfl
@[simp] theorem joinR_nil {f : D → Env → R (List D)} {ρ : Env} : joinR f [] ρ = .ok [] ρ := rfl
@[simp] theorem joinRc {f : D → Env → R (List D)} {x : D} {xs : List D} {ρ : Env} : joinR f (x :: xs) ρ = (f x ρ).bind fun r ρ => (joinR f xs ρ).bind fun r' ρ => .ok (r ++ r') ρ := rfl
theorem limR_ok {xs : List D} {ρ : Env} (h : xs.length ≤ LIM) : limR (.ok xs ρ) = .ok xs ρ := by
  show (if okLen xs.length = true then _ else _) = _
  rw [okLen_t h]; rfl
theorem back_nil {ρ ρ' : Env} : back [] ρ ρ' = ρ' := rfl
theorem back_cons {v : Nat} {vs : List Nat} {ρ ρ' : Env} : back (v :: vs) ρ ρ' = back vs ρ (ρ'.set v (ρ.getD v none)) := rfl
theorem cut1 {x : D} {xs : List D} : cutL (x :: xs) (some 1) none = xs := by rw [cutL_drop (by omega)]; rfl
theorem cut01 {x : D} {xs : List D} : cutL (x :: xs) none (some 1) = [x] := by rw [cutL_take (by omega)]; rfl
section
variable {P : Prog} {I : LI} (L : Lib P I)
include L
/-- _law_turned_about -/
theorem turn_spec (k : Nat) (b w : Nat) (s : Str) (ps : List D) (n : Nat) (st : List D) (h : Gd b (k + 1) w (.tuple (.str s :: ps))) (hb1 : 1 ≤ b) (hb : b < 10 ^ 60) (hk : k ≤ 50) (hw : w ≤ 10000) (hst : DrOk st) :
    ∃ r st', callN P (n + k + 4) I.turn st [.tuple (.str s :: ps)] = .ok r st' ∧ DrOk st' ∧ Gd (2 * b + 2) (k + 1) (20 * w + 200) r := by
  have h' := h.mono (show b ≤ 2 * b + 2 by omega) (Nat.le_refl _) (Nat.le_refl _)
  have gs := h'.gs
  have hs := h.s
  rw [sz_t] at hs
  have LL : LIM = 1000000 := rfl
  have ll : (PyData.str s :: ps).length ≤ 10000 := Nat.le_trans gs.len (by omega)
  rw [run_i L.turn _ (by rfl)]
  unfold h_turn
  obtain ⟨ns, e0, nb, nl⟩ := nums_all L (k + 1) b w _ (n + 1) h (by omega)
  rw [show n + 1 + (k + 1) + 1 = n + k + 3 by omega] at e0
  obtain ⟨p, st1, e1, p0, p1, hst1⟩ := next_spec L (n + k + 2) hst (lim := 5) (by omega) (by omega)
  have nle : ns.length ≤ 10000 := by have := h.s; omega
  have en : cmpD .ne (.list (ns.map .int)) (.list []) = some (!(ns.map PyData.int).isEmpty) := ne_nl shp_ints
  by_cases c1 : p < 3 ∧ ns ≠ []
  · obtain ⟨c1, c2⟩ := c1
    have hne : ns.isEmpty = false := by cases ns <;> simp_all
    have hpos : 0 < ns.length := List.length_pos_iff.mpr c2
    rw [List.isEmpty_map, hne] at en
    obtain ⟨r2, st2, e2, r20, r21, hst2⟩ := next_spec L (n + k + 2) hst1 (lim := ns.length) (by omega) (by omega)
    obtain ⟨x, hx, ex⟩ := pick_at (xs := ns.map PyData.int) r20 (by simpa using r21)
    obtain ⟨one, ho, rfl⟩ := List.mem_map.mp hx
    have ho' := nb one ho
    by_cases c3 : p = 0
    · obtain ⟨r, e3, g3, z3⟩ := exch_all L (k + 1) (2 * b + 2) w _ (n + 1) one (one + 1) h' (by omega) (by omega) (by omega)
      rw [show n + 1 + (k + 1) + 1 = n + k + 3 by omega] at e3
      refine ⟨r, st2, ?_, hst2, g3.mono (Nat.le_refl _) (Nat.le_refl _) (by omega)⟩
      subst c3
      simp -implicitDefEqProofs (disch := first | rfl | omega | (simp only [List.length_append, List.length_cons, List.length_nil, List.length_reverse, List.length_map]; omega) | (simp; done) | fail) [-atI_nn, e0, cq0, e1, en, e2, ex, e3]
    · obtain ⟨r4, st4, e4, r40, r41, hst4⟩ := next_spec L (n + k + 2) hst2 (lim := ns.length) (by omega) (by omega)
      obtain ⟨x, hx, ex4⟩ := pick_at (xs := ns.map PyData.int) r40 (by simpa using r41)
      obtain ⟨other, ho4, rfl⟩ := List.mem_map.mp hx
      have ho4' := nb other ho4
      obtain ⟨r, e3, g3, z3⟩ := exch_all L (k + 1) (2 * b + 2) w _ (n + 1) one other h' (by omega) (by omega) (by omega)
      rw [show n + 1 + (k + 1) + 1 = n + k + 3 by omega] at e3
      refine ⟨r, st4, ?_, hst4, g3.mono (Nat.le_refl _) (Nat.le_refl _) (by omega)⟩
      simp -implicitDefEqProofs (disch := first | rfl | omega | (simp only [List.length_append, List.length_cons, List.length_nil, List.length_reverse, List.length_map]; omega) | (simp; done) | fail) [-atI_nn, e0, cq0, e1, en, e2, ex, e3, c1, c3, e4, ex4]
  · have en' : p < 3 → cmpD .ne (.list (ns.map .int)) (.list []) = some false := fun z => by
      have : ns = [] := Classical.byContradiction fun q => c1 ⟨z, q⟩
      rw [this]; decide
    have first : ∀ X : List S, exB (callN P (n + k + 3)) (((h_turn I).take 3)) [some (.ol st), some (.d (.tuple (.str s :: ps))), none, none, none, none, none, none, none] = .next [some (.ol st1), some (.d (.tuple (.str s :: ps))), some (.d (.list (ns.map .int))), some (.d (.int p)), none, none, none, none, none] := by
      intro X
      unfold h_turn
      by_cases q : p < 3
      · simp -implicitDefEqProofs (disch := first | rfl | omega | (simp only [List.length_append, List.length_cons, List.length_nil, List.length_reverse, List.length_map]; omega) | (simp; done) | fail) [-atI_nn, e0, cq0, e1, en' q, q]
      · simp -implicitDefEqProofs (disch := first | rfl | omega | (simp only [List.length_append, List.length_cons, List.length_nil, List.length_reverse, List.length_map]; omega) | (simp; done) | fail) [-atI_nn, e0, cq0, e1, q]
    suffices z : ∃ r st' ρ, exB (callN P (n + k + 3)) (((h_turn I).drop 3)) [some (.ol st1), some (.d (.tuple (.str s :: ps))), some (.d (.list (ns.map .int))), some (.d (.int p)), none, none, none, none, none] = .ret r (some (.ol st') :: ρ) ∧ DrOk st' ∧ Gd (2 * b + 2) (k + 1) (20 * w + 200) r by
      obtain ⟨r, st', ρ, e, q1, q2⟩ := z
      refine ⟨r, st', ?_, q1, q2⟩
      have := exB_cut (cs := callN P (n + k + 3)) 3 (h_turn I) [some (.ol st), some (.d (.tuple (.str s :: ps))), none, none, none, none, none, none, none]
      rw [first [], Fl.bind_next, e] at this
      exact congrArg outI this
    unfold h_turn
    by_cases c3 : p = 3
    · subst c3
      have g0 : Gs (2 * b + 2) k (s.length + 1) [PyData.str s] := ⟨by simpa using gs.g (.str s) List.mem_cons_self, by simp, by simp⟩
      have hsl : s.length + 1 + szs ps ≤ w := by rw [szs_cons, sz_s] at hs; omega
      have gp : Gs (2 * b + 2) k (szs ps) ps := ⟨fun x hx => gs.g x (by simp [hx]), fun x hx => gs.dp x (by simp [hx]), Nat.le_refl _⟩
      by_cases c4 : (PyData.str s :: ps).length > 2
      · obtain ⟨r, st2, e2, hst2, gr, tr⟩ := cut_all L (k + 1) (2 * b + 2) w (.tuple ps) n st1 (gp.t.mono (Nat.le_refl _) (Nat.le_refl _) (by omega)) (by omega) (by omega) hst1
        rw [show n + (k + 1) + 2 = n + k + 3 by omega] at e2
        obtain ⟨ys, rfl⟩ := tr ⟨ps, rfl⟩
        have k1 := gr.gs.len
        have k2 := gr.s
        rw [sz_t, sz_t] at k2
        have c4' : (2 : Int) < (ps.length : Int) + 1 := by simp only [List.length_cons] at c4; omega
        refine ⟨.tuple ([PyData.str s] ++ ys), st2, ?_⟩
        simp -implicitDefEqProofs (disch := first | rfl | omega | (simp only [List.length_append, List.length_cons, List.length_nil, List.length_reverse, List.length_map]; omega) | (simp; done) | fail) [-atI_nn, cq0, cut1, cut01, e2, add_t, c4']
        refine ⟨hst2, ?_⟩
        exact (g0.app gr.gs).t.mono (Nat.le_refl _) (Nat.le_refl _) (by omega)
      · have c4' : ¬ (2 : Int) < (ps.length : Int) + 1 := by simp only [List.length_cons] at c4; omega
        match ps, gp, c4', c4, h, h', gs, hs, ll, hsl, e0, first with
        | [], gp, c4', _, h, h', gs, hs, ll, hsl, e0, _ =>
          refine ⟨.tuple [PyData.str s], st1, ?_⟩
          simp -implicitDefEqProofs (disch := first | rfl | omega | (simp only [List.length_append, List.length_cons, List.length_nil, List.length_reverse, List.length_map]; omega) | (simp; done) | fail) [-atI_nn, cq0, cut1, cut01, add_t, e_lc, limR_ok, back_nil, back_cons]
          exact ⟨hst1, g0.t.mono (Nat.le_refl _) (Nat.le_refl _) (by omega)⟩
        | [q], gp, c4', _, h, h', gs, hs, ll, hsl, e0, _ =>
          obtain ⟨r, st2, e2, hst2, gr, tr⟩ := cut_all L k (2 * b + 2) w q (n + 1) st1 (h'.t_mem (by simp)) (by omega) (by omega) hst1
          rw [show n + 1 + k + 2 = n + k + 3 by omega] at e2
          refine ⟨.tuple [PyData.str s, r], st2, ?_⟩
          simp -implicitDefEqProofs (disch := first | rfl | omega | (simp only [List.length_append, List.length_cons, List.length_nil, List.length_reverse, List.length_map]; omega) | (simp; done) | fail) [-atI_nn, cq0, cut1, cut01, add_t, e_lc, limR_ok, back_nil, back_cons, e2]
          refine ⟨hst2, ?_⟩
          have k2 : szs [q] = sz q := by simp
          exact (g0.app (Gs.one gr)).t.mono (Nat.le_refl _) (Nat.le_refl _) (by omega)
        | a :: b' :: c, gp, c4', c4, _, _, _, _, _, _, _, _ => exact absurd (by simp) c4
    · obtain ⟨r2, st2, e2, r20, r21, hst2⟩ := next_spec L (n + k + 2) hst1 (lim := (ps.length : Int) + 1) (by omega) (by simp only [List.length_cons] at ll; omega)
      obtain ⟨r3, st3, e3, r30, r31, hst3⟩ := next_spec L (n + k + 2) hst2 (lim := (ps.length : Int) + 1) (by omega) (by simp only [List.length_cons] at ll; omega)
      have e2' : ps.length = 1 → callN P (n + k + 2 + 1) I.next st1 [.int 2] = .ok (.int r2) st2 := fun z => by rw [z] at e2; exact e2
      have e3' : ps.length = 1 → callN P (n + k + 2 + 1) I.next st2 [.int 2] = .ok (.int r3) st3 := fun z => by rw [z] at e3; exact e3
      have dflt : (¬ ∃ y ys, ps = [.tuple (y :: ys)]) → ∃ r st' ρ, exB (callN P (n + k + 3)) (((h_turn I).drop 3)) [some (.ol st1), some (.d (.tuple (.str s :: ps))), some (.d (.list (ns.map .int))), some (.d (.int p)), none, none, none, none, none] = .ret r (some (.ol st') :: ρ) ∧ DrOk st' ∧ Gd (2 * b + 2) (k + 1) (20 * w + 200) r := by
        intro hno
        have ha : ∀ (x : D), ps = [x] → (∃ ys, x = .tuple ys) → x = .tuple [] := fun x e1 ⟨ys, e2⟩ => by
          cases ys with
          | nil => exact e2
          | cons y ys => exact absurd ⟨y, ys, by rw [e1, e2]⟩ hno
        have c9 := (gs.cut none (some r2)).app ((gs.cut (some r3) (some (r3 + 1))).app (gs.cut (some (r2 + 1)) none))
        have k9 := c9.len
        simp only [List.length_append, List.length_cons, List.length_nil, List.length_reverse] at k9
        have l2 : ((ps.length : Int) + 1 = 2) ↔ ps.length = 1 := by omega
        have fin : ∀ X, (¬ ps.length = 1 ∨ (∃ x, ps = [x] ∧ ((∀ ys, x ≠ .tuple ys) ∨ x = .tuple []))) → X = exB (callN P (n + k + 3)) (((h_turn I).drop 3)) [some (.ol st1), some (.d (.tuple (.str s :: ps))), some (.d (.list (ns.map .int))), some (.d (.int p)), none, none, none, none, none] → ∃ r st' ρ, X = .ret r (some (.ol st') :: ρ) ∧ DrOk st' ∧ Gd (2 * b + 2) (k + 1) (20 * w + 200) r := by
          intro X hc hX
          by_cases q1 : 0 < r2 ∧ 0 < r3
          · refine ⟨.tuple (cutL (PyData.str s :: ps) none (some r2) ++ (cutL (PyData.str s :: ps) (some r3) (some (r3 + 1)) ++ cutL (PyData.str s :: ps) (some (r2 + 1)) none)), st3, [some (.d (.tuple (.str s :: ps))), some (.d (.list (ns.map .int))), some (.d (.int p)), none, none, some (.d (.int r2)), some (.d (.int r3)), none], ?_, hst3, c9.t.mono (Nat.le_refl _) (Nat.le_refl _) (by omega)⟩
            rw [hX]
            unfold h_turn
            rcases hc with hc | ⟨x, rfl, hc | rfl⟩
            · simp -implicitDefEqProofs (disch := first | rfl | omega | (simp only [List.length_append, List.length_cons, List.length_nil, List.length_reverse, List.length_map]; omega) | (simp; done) | fail) [-atI_nn, cq0, e2, e3, c3, l2, hc, q1.1, q1.2, add_t]
            · cases x with
              | tuple ys => exact absurd rfl (hc ys)
              | dict kvs => exact absurd (gs.g (.dict kvs) (by simp)) (by simp)
              | _ => simp -implicitDefEqProofs (disch := first | rfl | omega | (simp only [List.length_append, List.length_cons, List.length_nil, List.length_reverse, List.length_map]; omega) | (simp; done) | fail) [-atI_nn, cq0, e2' rfl, e3' rfl, c3, q1.1, q1.2, add_t]
            · simp -implicitDefEqProofs (disch := first | rfl | omega | (simp only [List.length_append, List.length_cons, List.length_nil, List.length_reverse, List.length_map]; omega) | (simp; done) | fail) [-atI_nn, cq0, e2' rfl, e3' rfl, c3, q1.1, q1.2, add_t, show cmpD .ne (.tuple []) (.tuple []) = some false by decide]
          · refine ⟨.tuple (.str s :: ps), st3, [some (.d (.tuple (.str s :: ps))), some (.d (.list (ns.map .int))), some (.d (.int p)), none, none, some (.d (.int r2)), some (.d (.int r3)), none], ?_, hst3, h'.mono (Nat.le_refl _) (Nat.le_refl _) (by omega)⟩
            rw [hX]
            unfold h_turn
            have q2 : ¬ 0 < r2 ∨ (0 < r2 ∧ ¬ 0 < r3) := by omega
            rcases hc with hc | ⟨x, rfl, hc | rfl⟩
            · rcases q2 with q2 | ⟨q2, q3⟩
              · simp -implicitDefEqProofs (disch := first | rfl | omega | (simp only [List.length_append, List.length_cons, List.length_nil, List.length_reverse, List.length_map]; omega) | (simp; done) | fail) [-atI_nn, cq0, e2, e3, c3, l2, hc, q2, add_t]
              · simp -implicitDefEqProofs (disch := first | rfl | omega | (simp only [List.length_append, List.length_cons, List.length_nil, List.length_reverse, List.length_map]; omega) | (simp; done) | fail) [-atI_nn, cq0, e2, e3, c3, l2, hc, q2, q3, add_t]
            · cases x with
              | tuple ys => exact absurd rfl (hc ys)
              | dict kvs => exact absurd (gs.g (.dict kvs) (by simp)) (by simp)
              | _ =>
                rcases q2 with q2 | ⟨q2, q3⟩
                · simp -implicitDefEqProofs (disch := first | rfl | omega | (simp only [List.length_append, List.length_cons, List.length_nil, List.length_reverse, List.length_map]; omega) | (simp; done) | fail) [-atI_nn, cq0, e2' rfl, e3' rfl, c3, q2, add_t]
                · simp -implicitDefEqProofs (disch := first | rfl | omega | (simp only [List.length_append, List.length_cons, List.length_nil, List.length_reverse, List.length_map]; omega) | (simp; done) | fail) [-atI_nn, cq0, e2' rfl, e3' rfl, c3, q2, q3, add_t]
            · rcases q2 with q2 | ⟨q2, q3⟩
              · simp -implicitDefEqProofs (disch := first | rfl | omega | (simp only [List.length_append, List.length_cons, List.length_nil, List.length_reverse, List.length_map]; omega) | (simp; done) | fail) [-atI_nn, cq0, e2' rfl, e3' rfl, c3, q2, add_t, show cmpD .ne (.tuple []) (.tuple []) = some false by decide]
              · simp -implicitDefEqProofs (disch := first | rfl | omega | (simp only [List.length_append, List.length_cons, List.length_nil, List.length_reverse, List.length_map]; omega) | (simp; done) | fail) [-atI_nn, cq0, e2' rfl, e3' rfl, c3, q2, q3, add_t, show cmpD .ne (.tuple []) (.tuple []) = some false by decide]
        refine fin _ ?_ rfl
        by_cases z : ps.length = 1
        · obtain ⟨x, rfl⟩ := List.length_eq_one_iff.mp z
          refine .inr ⟨x, rfl, ?_⟩
          by_cases q : ∃ ys, x = .tuple ys
          · exact .inr (ha x rfl q)
          · exact .inl fun ys e => q ⟨ys, e⟩
        · exact .inl z
      by_cases hno : ∃ y ys, ps = [.tuple (y :: ys)]
      · obtain ⟨y, ys, rfl⟩ := hno
        clear dflt
        have gy : Gd (2 * b + 2) k w (.tuple (y :: ys)) := h'.t_mem (List.mem_cons_of_mem _ List.mem_cons_self)
        obtain ⟨j, rfl, _⟩ := dep_t0 gy.dp
        have gys := gy.gs
        have hys := gy.s
        rw [sz_t] at hys
        have lys := gys.len
        simp only [List.length_cons] at lys
        obtain ⟨r4, st4, e4, r40, r41, hst4⟩ := next_spec L (n + (j + 1) + 2) hst3 (lim := (ys.length : Int) + 1) (by omega) (by omega)
        obtain ⟨r5, st5, e5, r50, r51, hst5⟩ := next_spec L (n + (j + 1) + 2) hst4 (lim := (ys.length : Int) + 1) (by omega) (by omega)
        have c9 := (gys.cut none (some r4)).app ((gys.cut (some r5) (some (r5 + 1))).app (gys.cut (some (r4 + 1)) none))
        have k9 := c9.len
        simp only [List.length_append, List.length_cons, List.length_nil, List.length_reverse] at k9
        have g0 : Gs (2 * b + 2) (j + 1) (s.length + 1) [PyData.str s] := ⟨by simpa using gs.g (.str s) List.mem_cons_self, by simp, by simp⟩
        have hsl : s.length + 1 ≤ w := by rw [szs_cons, sz_s] at hs; omega
        have en2 : cmpD .ne (.tuple (y :: ys)) (.tuple []) = some true := ne_nt (gys.shpt (by omega))
        refine ⟨.tuple [.str s, .tuple (cutL (y :: ys) none (some r4) ++ (cutL (y :: ys) (some r5) (some (r5 + 1)) ++ cutL (y :: ys) (some (r4 + 1)) none))], st5, ?_⟩
        simp -implicitDefEqProofs (disch := first | rfl | omega | (simp only [List.length_append, List.length_cons, List.length_nil, List.length_reverse, List.length_map]; omega) | (simp; done) | fail) [-atI_nn, cq0, e2' rfl, e3' rfl, c3, en2, e4, e5, add_t]
        exact ⟨hst5, (g0.app (Gs.one c9.t)).t.mono (Nat.le_refl _) (Nat.le_refl _) (by omega)⟩
      · exact dflt hno
end
end G

set_option Elab.async false
set_option linter.all false
set_option maxRecDepth 100000
set_option maxHeartbeats 4000000
set_option autoImplicit false
/-! H6: odd, neighbour. -/
namespace G
open PySem
/-- what may be asked -/
def Asked (b k w : Nat) (d : D) : Prop := d = .dict [] ∨ Gd b k w d
section
variable {P : Prog} {I : LI} (L : Lib P I)
include L
/-- _law_odd -/
theorem odd_spec (k : Nat) (b w : Nat) (s : Str) (ps : List D) (n : Nat) (st : List D) (h : Gd b (k + 1) w (.tuple (.str s :: ps))) (hnn : nn (.tuple (.str s :: ps))) (hb1 : 7 ≤ b) (hb : b < 10 ^ 60) (hk : k ≤ 50) (hw : w ≤ 10000) (hst : DrOk st) :
    ∃ r st', callN P (n + k + 5) I.odd st [.tuple (.str s :: ps)] = .ok r st' ∧ DrOk st' ∧ Asked (2 * b + 2) (k + 2) (20 * w + 200) r := by
  have h' := h.mono (show b ≤ 2 * b + 2 by omega) (Nat.le_refl _) (Nat.le_refl _)
  have gs := h'.gs
  have hs := h.s
  rw [sz_t] at hs
  have LL : LIM = 1000000 := rfl
  have ll : (PyData.str s :: ps).length ≤ 10000 := Nat.le_trans gs.len (by omega)
  rw [run_i L.odd _ (by rfl)]
  unfold h_odd
  obtain ⟨p, st1, e1, p0, p1, hst1⟩ := next_spec L (n + k + 3) hst (lim := 9) (by omega) (by omega)
  have g0 : Gs (2 * b + 2) k (s.length + 1) [PyData.str s] := ⟨by simpa using gs.g (.str s) List.mem_cons_self, by simp, by simp⟩
  have hsl : s.length + 1 + szs ps ≤ w := by rw [szs_cons, sz_s] at hs; omega
  have gp : Gs (2 * b + 2) k (szs ps) ps := ⟨fun x hx => gs.g x (by simp [hx]), fun x hx => gs.dp x (by simp [hx]), Nat.le_refl _⟩
  have z1 : Gs (2 * b + 2) k 1 [PyData.int 0] := Gs.one ⟨by simp, by simp, by simp⟩
  simp only [List.length_cons] at ll
  by_cases c1 : 4 < p
  · obtain ⟨r, st2, e2, hst2, g2⟩ := turn_spec L k b w s ps n st1 h (by omega) hb hk hw hst1
    refine ⟨r, st2, ?_, hst2, .inr (g2.mono (Nat.le_refl _) (by omega) (Nat.le_refl _))⟩
    simp -implicitDefEqProofs (disch := first | rfl | omega | (simp only [List.length_append, List.length_cons, List.length_nil, List.length_reverse, List.length_map]; omega) | (simp; done) | fail) [-atI_nn, cut01, cut1, add_t, cq0, e1, c1, e2]
  · by_cases c2 : p = 0
    · subst c2
      obtain ⟨r2, st2, e2, r20, r21, hst2⟩ := next_spec L (n + k + 3) hst1 (lim := 11) (by omega) (by omega)
      obtain ⟨y, hy, ey⟩ := pick_at (xs := [.none, .str (Str.ofString ""), .str (Str.ofString "yes"), .dict [], .tuple [], .tuple [PyData.str s], .list (.str s :: ps), .tuple (PyData.str s :: (ps ++ [PyData.int 0])), .tuple (.list [.str s] :: ps), .tuple (.str (Str.ofString "none such") :: ps), .int 7]) r20 (by simpa using r21)
      refine ⟨y, st2, ?_, hst2, ?_⟩
      · simp -implicitDefEqProofs (disch := first | rfl | omega | (simp only [List.length_append, List.length_cons, List.length_nil, List.length_reverse, List.length_map]; omega) | (simp; done) | fail) [-atI_nn, cut01, cut1, add_t, cq0, e1, c1, e2, ey]
      · simp only [List.mem_cons, List.not_mem_nil, or_false] at hy
        rcases hy with rfl | rfl | rfl | rfl | rfl | rfl | rfl | rfl | rfl | rfl | rfl
        · exact .inr ⟨by simp, by simp, by simp⟩
        · exact .inr ⟨by rw [gd_s]; decide +kernel, by simp, by rw [sz_s, show (Str.ofString "").length = 0 by decide +kernel]; omega⟩
        · exact .inr ⟨by rw [gd_s]; decide +kernel, by simp, by rw [sz_s, show (Str.ofString "yes").length = 3 by decide +kernel]; omega⟩
        · exact .inl rfl
        · exact .inr ((Gs.nil (b := 2 * b + 2) (k := k)).t.mono (Nat.le_refl _) (by omega) (by omega))
        · exact .inr (g0.t.mono (Nat.le_refl _) (by omega) (by omega))
        · exact .inr (gs.l.mono (Nat.le_refl _) (by omega) (by omega))
        · exact .inr ((gs.app z1).t.mono (Nat.le_refl _) (by omega) (by omega))
        · exact .inr ((Gs.cons g0.l (gp.mono (Nat.le_refl _) (by omega) (Nat.le_refl _))).t.mono (Nat.le_refl _) (by omega) (by omega))
        · exact .inr ((Gs.cons (Gd.str (s := Str.ofString "none such") (by decide +kernel)) gp).t.mono (Nat.le_refl _) (by omega) (by rw [show (Str.ofString "none such").length = 9 by decide +kernel]; omega))
        · exact .inr ⟨by rw [gd_i]; show 7 ≤ _; omega, by simp, by simp⟩
    · obtain ⟨r, st2, e2, hst2, g2⟩ := changed_all L (k + 1) b w _ (n + 1) st1 h hnn (by omega) hb (by omega) (by omega) hst1
      rw [show n + 1 + (k + 1) + 2 = n + k + 4 by omega] at e2
      refine ⟨r, st2, ?_, hst2, .inr (g2.mono (Nat.le_refl _) (by omega) ?_)⟩
      · simp -implicitDefEqProofs (disch := first | rfl | omega | (simp only [List.length_append, List.length_cons, List.length_nil, List.length_reverse, List.length_map]; omega) | (simp; done) | fail) [-atI_nn, cut01, cut1, add_t, cq0, e1, c1, c2, e2]
      · have := h.s; omega
/-- _law_neighbour of a whole number -/
theorem neigh_int (n : Nat) {st : List D} (hst : DrOk st) (i : Int) : ∃ j st', callN P (n + 2) I.neigh st [.int i] = .ok (.int j) st' ∧ DrOk st' ∧ (j = i + 1 ∨ j = i - 1) := by
  rw [run_i L.neigh _ (by rfl)]
  unfold h_neigh
  obtain ⟨p, st1, e1, p0, p1, hst1⟩ := next_spec L n hst (lim := 2) (by omega) (by omega)
  obtain ⟨y, hy, ey⟩ := pick_at (xs := [PyData.int 1, PyData.int (-1)]) p0 (by simpa using p1)
  simp only [List.mem_cons, List.not_mem_nil, or_false] at hy
  rcases hy with rfl | rfl
  · exact ⟨i + 1, st1, by simp -implicitDefEqProofs (disch := first | rfl | omega | (simp only [List.length_append, List.length_cons, List.length_nil, List.length_reverse, List.length_map]; omega) | (simp; done) | fail) [-atI_nn, cq0, e1, ey], hst1, .inl rfl⟩
  · exact ⟨i - 1, st1, by simp -implicitDefEqProofs (disch := first | rfl | omega | (simp only [List.length_append, List.length_cons, List.length_nil, List.length_reverse, List.length_map]; omega) | (simp; done) | fail) [-atI_nn, cq0, e1, ey]; omega, hst1, .inr rfl⟩
/-- .. of a tuple of what's no text: a part left out, or in its place a neighbour -/
theorem neigh_tup (n : Nat) {st : List D} (hst : DrOk st) (xs : List D) (hlen : xs.length ≤ 10000) (hsh : shp (.tuple xs) = true) (hx0 : ∀ x ∈ xs, isStrD x = false) {Q : D → D → Prop}
    (hx : ∀ x ∈ xs, ∀ st, DrOk st → ∃ y st', callN P (n + 1) I.neigh st [x] = .ok y st' ∧ DrOk st' ∧ Q x y) :
    ∃ ys st', callN P (n + 2) I.neigh st [.tuple xs] = .ok (.tuple ys) st' ∧ DrOk st' ∧ ((xs = [] ∧ ys = []) ∨ (∃ a x c, xs = a ++ [x] ++ c ∧ a ++ c ≠ [] ∧ ys = a ++ c) ∨ (∃ a x c y, xs = a ++ [x] ++ c ∧ ys = a ++ [y] ++ c ∧ Q x y)) := by
  rw [run_i L.neigh _ (by rfl)]
  unfold h_neigh
  have LL : LIM = 1000000 := rfl
  obtain ⟨p, st1, e1, p0, p1, hst1⟩ := next_spec L n hst (lim := 2) (by omega) (by omega)
  obtain ⟨q, hq, eq⟩ := pick_at (xs := [PyData.int 1, PyData.int (-1)]) p0 (by simpa using p1)
  have e0 := eq_nt hsh
  cases xs with
  | nil => exact ⟨[], st1, by simp -implicitDefEqProofs (disch := first | rfl | omega | (simp only [List.length_append, List.length_cons, List.length_nil, List.length_reverse, List.length_map]; omega) | (simp; done) | fail) [-atI_nn, cq0, e1, eq, e0], hst1, .inl ⟨rfl, rfl⟩⟩
  | cons x0 xs =>
    simp only [List.length_cons] at hlen
    obtain ⟨r2, st2, e2, r20, r21, hst2⟩ := next_spec L n hst1 (lim := (xs.length : Int) + 1) (by omega) (by omega)
    obtain ⟨r3, st3, e3, r30, r31, hst3⟩ := next_spec L n hst2 (lim := 3) (by omega) (by omega)
    have hs0 : biD .isStr [x0] = some (.bool false) := by
      have := hx0 x0 (by simp)
      cases x0 <;> first | rfl | cases this
    have hsT : biD .isStr [.tuple (x0 :: xs)] = some (.bool false) := rfl
    have ir : r2.toNat < (x0 :: xs).length := by simp only [List.length_cons]; omega
    have sp : (x0 :: xs).take r2.toNat ++ [(x0 :: xs)[r2.toNat]] ++ (x0 :: xs).drop (r2.toNat + 1) = x0 :: xs := by
      rw [List.append_assoc, List.singleton_append, List.getElem_cons_drop, List.take_append_drop]
    have ct := cutL_take (xs := x0 :: xs) r20
    have cd := cutL_drop (xs := x0 :: xs) (k := r2 + 1) (by omega)
    rw [show (r2 + 1).toNat = r2.toNat + 1 by omega] at cd
    have lt := (List.length_take_le r2.toNat (x0 :: xs))
    have lt2 : ((x0 :: xs).take r2.toNat).length ≤ (x0 :: xs).length := List.length_take_le' _ _
    have ld2 : ((x0 :: xs).drop (r2.toNat + 1)).length ≤ (x0 :: xs).length := (List.drop_sublist _ _).length_le
    simp only [List.length_cons] at lt2 ld2
    by_cases c : r3 = 0 ∧ 0 < xs.length
    · obtain ⟨rfl, c⟩ := c
      refine ⟨(x0 :: xs).take r2.toNat ++ (x0 :: xs).drop (r2.toNat + 1), st3, ?_, hst3, .inr (.inl ⟨_, _, _, sp.symm, ?_, rfl⟩)⟩
      · have c' : (1 : Int) < (xs.length : Int) + 1 := by omega
        simp -implicitDefEqProofs (disch := first | rfl | omega | (simp only [List.length_append, List.length_cons, List.length_nil, List.length_reverse, List.length_map]; omega) | (simp; done) | fail) [-atI_nn, cq0, e1, eq, e0, hs0, hsT, -bi_stB, e2, e3, ct, cd, add_t, c', -List.take_succ_cons, -List.drop_succ_cons]
      · intro z
        have := congrArg List.length sp
        rw [List.length_append, List.length_append] at this
        have z2 := congrArg List.length z
        rw [List.length_append, List.length_nil] at z2
        simp only [List.length_cons, List.length_nil] at this
        omega
    · obtain ⟨y, st4, e4, hst4, qy⟩ := hx _ (List.getElem_mem ir) st3 hst3
      have ex : L2.atI (x0 :: xs) r2 = some ((x0 :: xs)[r2.toNat]) := by rw [atI_nn r20, List.getElem?_eq_getElem ir]
      refine ⟨(x0 :: xs).take r2.toNat ++ [y] ++ (x0 :: xs).drop (r2.toNat + 1), st4, ?_, hst4, .inr (.inr ⟨_, _, _, _, sp.symm, rfl, qy⟩)⟩
      obtain ⟨x, hxe⟩ : ∃ x, x = (x0 :: xs)[r2.toNat] := ⟨_, rfl⟩
      rw [← hxe] at ex e4
      by_cases c3 : r3 = 0
      · have c' : ¬ (1 : Int) < (xs.length : Int) + 1 := by omega
        subst c3
        simp -implicitDefEqProofs (disch := first | rfl | omega | (simp only [List.length_append, List.length_cons, List.length_nil, List.length_reverse, List.length_map]; omega) | (simp; done) | fail) [-atI_nn, cq0, e1, eq, e0, hs0, hsT, -bi_stB, e2, e3, ct, cd, add_t, c', ex, e4, -List.take_succ_cons, -List.drop_succ_cons]
      · simp -implicitDefEqProofs (disch := first | rfl | omega | (simp only [List.length_append, List.length_cons, List.length_nil, List.length_reverse, List.length_map]; omega) | (simp; done) | fail) [-atI_nn, cq0, e1, eq, e0, hs0, hsT, -bi_stB, e2, e3, ct, cd, add_t, c3, ex, e4, -List.take_succ_cons, -List.drop_succ_cons]
end
end G

set_option Elab.async false
set_option linter.all false
set_option maxRecDepth 100000
set_option maxHeartbeats 4000000
set_option autoImplicit false
/-! H7: what repr says of tuples of whole numbers. -/
namespace G
open PySem
abbrev DG : List Nat → Prop := fun l => ∀ c ∈ l, 48 ≤ c ∧ c ≤ 57
def itL (i : Int) : List Nat := (toString i).toList.map Char.toNat
theorem itL_eq (i : Int) : (Str.ofString (toString i)).cps.toList = itL i := by rw [Str.ofString_eq_toList]; simp [itL]
theorem nat_dig (m : Nat) : DG ((Nat.toDigits 10 m).map Char.toNat) := by
  intro c hc
  obtain ⟨d, hd, rfl⟩ := List.mem_map.mp hc
  have := Nat.isDigit_of_mem_toDigits (by decide) (by decide) hd
  simp only [Char.isDigit, Bool.and_eq_true, decide_eq_true_eq] at this
  exact ⟨this.1, this.2⟩
theorem itL_nat (m : Nat) : itL (m : Int) = (Nat.toDigits 10 m).map Char.toNat := by
  rw [← itL_eq]; exact PySem.W.KIN.signs_num m
theorem itL_neg (m : Nat) : itL (Int.negSucc m) = 45 :: (Nat.toDigits 10 (m + 1)).map Char.toNat := by
  unfold itL
  have e : toString (Int.negSucc m) = "-" ++ Nat.repr (m + 1) := rfl
  rw [e, String.toList_append, List.map_append]
  show [45] ++ _ = _
  rw [List.singleton_append]
  congr 2
  exact Nat.toList_repr
theorem nat_dig_inj {m k : Nat} (h : (Nat.toDigits 10 m).map Char.toNat = (Nat.toDigits 10 k).map Char.toNat) : m = k := by
  rw [← PySem.W.KIN.val_back m, ← PySem.W.KIN.val_back k, h]
theorem itL_inj {i j : Int} (h : itL i = itL j) : i = j := by
  cases i with
  | ofNat m =>
    cases j with
    | ofNat k => rw [show Int.ofNat m = (m : Int) from rfl, show Int.ofNat k = (k : Int) from rfl, itL_nat, itL_nat] at h; rw [nat_dig_inj h]
    | negSucc k =>
      rw [show Int.ofNat m = (m : Int) from rfl, itL_nat, itL_neg] at h
      have := nat_dig m 45 (by rw [h]; simp)
      omega
  | negSucc m =>
    cases j with
    | ofNat k =>
      rw [show Int.ofNat k = (k : Int) from rfl, itL_nat, itL_neg] at h
      have := nat_dig k 45 (by rw [← h]; simp)
      omega
    | negSucc k =>
      rw [itL_neg, itL_neg] at h
      have := nat_dig_inj (List.cons.inj h).2
      omega
/-- signs of a whole number -/
abbrev NumG : List Nat → Prop := fun l => ∀ c ∈ l, c = 45 ∨ (48 ≤ c ∧ c ≤ 57)
theorem itL_ng (i : Int) : NumG (itL i) := by
  cases i with
  | ofNat m => intro c hc; rw [show Int.ofNat m = (m : Int) from rfl, itL_nat] at hc; exact .inr (nat_dig m c hc)
  | negSucc m =>
    intro c hc
    rw [itL_neg] at hc
    rcases List.mem_cons.mp hc with rfl | hc
    · exact .inl rfl
    · exact .inr (nat_dig _ c hc)
theorem itL_ne (i : Int) : itL i ≠ [] := by
  intro h
  cases i with
  | ofNat m =>
    rw [show Int.ofNat m = (m : Int) from rfl, itL_nat, List.map_eq_nil_iff] at h
    exact Nat.toDigits_ne_nil h
  | negSucc m => rw [itL_neg] at h; cases h
/-- where a part ends -/
def EndOk (r : List Nat) : Prop := ∃ c r', r = c :: r' ∧ (c = 44 ∨ c = 41)
theorem split_ng {a : List Nat} : ∀ {b r r' : List Nat}, NumG a → NumG b → EndOk r → EndOk r' → a ++ r = b ++ r' → a = b ∧ r = r' := by
  induction a with
  | nil =>
    intro b r r' _ hb q _ h
    cases b with
    | nil => exact ⟨rfl, h⟩
    | cons y b =>
      obtain ⟨c, r1, rfl, hc⟩ := q
      have e : c = y := (List.cons.inj h).1
      have := hb y (by simp)
      omega
  | cons x a ih =>
    intro b r r' ha hb q q' h
    cases b with
    | nil =>
      obtain ⟨c, r1, rfl, hc⟩ := q'
      have e : x = c := (List.cons.inj h).1
      have := ha x (by simp)
      omega
    | cons y b =>
      obtain ⟨e0, h2⟩ := List.cons.inj h
      obtain ⟨e1, h3⟩ := ih (fun c hc => ha c (List.mem_cons_of_mem _ hc)) (fun c hc => hb c (List.mem_cons_of_mem _ hc)) q q' h2
      exact ⟨by rw [e0, e1], h3⟩

abbrev shL (d : D) : List Nat := (PyData.shown d).cps.toList
theorem cps_app (a b : Str) : (a ++ b).cps.toList = a.cps.toList ++ b.cps.toList := by
  show (a.cps ++ b.cps).toList = _
  rw [Array.toList_append]
theorem shL_int (i : Int) : shL (.int i) = itL i := by
  unfold shL; rw [PyData.shown]; exact itL_eq i
/-- what follows the first part of a tuple -/
def restL : List D → List Nat
  | [] => [41]
  | y :: r => 44 :: 32 :: (shL y ++ restL r)
theorem shAll_len : ∀ xs : List D, (PyData.shownAll xs).length = xs.length
  | [] => rfl
  | x :: xs => by rw [PyData.shownAll, List.length_cons, List.length_cons, shAll_len]
theorem join_rest (x : D) : ∀ xs : List D, (Str.join ", " (PyData.shownAll (x :: xs))).cps.toList ++ [41] = shL x ++ restL xs
  | [] => by rw [PyData.shownAll, PyData.shownAll]; rfl
  | y :: r => by
    have ih := join_rest y r
    rw [PyData.shownAll, PyData.shownAll]
    rw [PyData.shownAll] at ih
    show (PyData.shown x ++ Str.ofString ", " ++ Str.join ", " (PyData.shown y :: PyData.shownAll r)).cps.toList ++ [41] = _
    rw [cps_app, cps_app, List.append_assoc, ih, restL, show (Str.ofString ", ").cps.toList = [44, 32] by decide +kernel]
    simp
theorem shL_nil : shL (.tuple []) = [40, 41] := by
  unfold shL
  rw [PyData.shown, PyData.shownAll]
  decide +kernel
theorem shL_one (x : D) : shL (.tuple [x]) = 40 :: (shL x ++ [44, 41]) := by
  unfold shL
  rw [PyData.shown, PyData.shownAll, PyData.shownAll]
  show (Str.ofString "(" ++ PyData.shown x ++ Str.ofString ",)").cps.toList = _
  rw [cps_app, cps_app, show (Str.ofString "(").cps.toList = [40] by decide +kernel, show (Str.ofString ",)").cps.toList = [44, 41] by decide +kernel]
  simp
theorem shL_two (x y : D) (r : List D) : shL (.tuple (x :: y :: r)) = 40 :: (shL x ++ restL (y :: r)) := by
  unfold shL
  rw [PyData.shown]
  have e : ((PyData.shownAll (x :: y :: r)).length == 1) = false := by rw [shAll_len]; simp
  unfold tupleText
  rw [e]
  show (Str.ofString "(" ++ Str.join ", " (PyData.shownAll (x :: y :: r)) ++ Str.ofString ")").cps.toList = _
  rw [cps_app, cps_app, show (Str.ofString "(").cps.toList = [40] by decide +kernel, show (Str.ofString ")").cps.toList = [41] by decide +kernel, List.append_assoc, join_rest x (y :: r)]
  simp
/-- the first sign -/
theorem shL_head (b : Nat) (d : D) (h : gd b d) : ∃ c l, shL d = c :: l ∧ (match d with | .int _ => c = 45 ∨ (48 ≤ c ∧ c ≤ 57) | .tuple _ => c = 40 | _ => c = 34 ∨ c = 39 ∨ c = 91 ∨ c = 78 ∨ c = 84 ∨ c = 70) := by
  cases d with
  | dict _ => exact absurd h (by simp)
  | none => exact ⟨78, [111, 110, 101], by unfold shL; rw [PyData.shown]; decide +kernel, by simp⟩
  | bool x =>
    cases x with
    | true => exact ⟨84, [114, 117, 101], by unfold shL; rw [PyData.shown]; decide +kernel, by simp⟩
    | false => exact ⟨70, [97, 108, 115, 101], by unfold shL; rw [PyData.shown]; decide +kernel, by simp⟩
  | int i =>
    cases q : itL i with
    | nil => exact absurd q (itL_ne i)
    | cons c l => exact ⟨c, l, by rw [shL_int, q], itL_ng i c (by rw [q]; simp)⟩
  | tuple xs =>
    match xs with
    | [] => exact ⟨40, [41], shL_nil, rfl⟩
    | [x] => exact ⟨40, _, shL_one x, rfl⟩
    | x :: y :: r => exact ⟨40, _, shL_two x y r, rfl⟩
  | list xs =>
    have : ∀ (ts : List Str) (k : Nat) (acc : Str), ∃ t, (textFrom k acc ts).cps.toList = acc.cps.toList ++ t := by
      intro ts
      induction ts with
      | nil => intro k acc; exact ⟨[], by rw [textFrom, List.append_nil]⟩
      | cons t ts ih =>
        intro k acc
        rw [textFrom]
        obtain ⟨u, hu⟩ := ih (k + 1) (acc ++ (if k > 0 then ", " else "" : String) ++ t)
        exact ⟨_, by rw [hu, cps_app, cps_app, List.append_assoc, List.append_assoc]⟩
    obtain ⟨t, ht⟩ := this (PyData.shownAll xs) 0 (Str.ofString "[")
    refine ⟨91, t ++ [93], ?_, by simp⟩
    unfold shL
    rw [PyData.shown]
    show (textFrom 0 (Str.ofString "[") (PyData.shownAll xs) ++ Str.ofString "]").cps.toList = _
    rw [cps_app, ht, show (Str.ofString "[").cps.toList = [91] by decide +kernel, show (Str.ofString "]").cps.toList = [93] by decide +kernel]
    rfl
  | str s =>
    have : ∀ (l : List Nat) (acc : Array Nat) (q : Nat), ∃ t, (l.foldl (fun out c => out ++ (Builtin.Str.reprChar q c).toArray) acc).toList = acc.toList ++ t := by
      intro l
      induction l with
      | nil => intro acc q; exact ⟨[], by simp⟩
      | cons c l ih =>
        intro acc q
        rw [List.foldl_cons]
        obtain ⟨u, hu⟩ := ih (acc ++ (Builtin.Str.reprChar q c).toArray) q
        exact ⟨Builtin.Str.reprChar q c ++ u, by rw [hu]; simp⟩
    obtain ⟨t, ht⟩ := this s.cps.toList #[reprQuote s] (reprQuote s)
    refine ⟨reprQuote s, t ++ [reprQuote s], ?_, ?_⟩
    · unfold shL
      rw [PyData.shown]
      unfold reprText
      rw [Array.toList_push, ← Array.foldl_toList, ht]
      simp
    · show reprQuote s = 34 ∨ _
      unfold reprQuote
      split <;> simp
mutual
/-- whole numbers, and tuples of such at any depth -/
def it : D → Prop
  | .int _ => True
  | .tuple xs => its xs
  | _ => False
def its : List D → Prop
  | [] => True
  | x :: xs => it x ∧ its xs
end
theorem its_iff : ∀ {xs : List D}, its xs ↔ ∀ x ∈ xs, it x
  | [] => by simp [its]
  | x :: xs => by rw [its, its_iff (xs := xs)]; simp
@[simp] theorem it_i {i : Int} : it (.int i) := by rw [it]; trivial
@[simp] theorem it_t {xs : List D} : it (.tuple xs) ↔ ∀ x ∈ xs, it x := by rw [it, its_iff]
theorem rest_end (xs : List D) (r : List Nat) : EndOk (restL xs ++ r) := by
  cases xs with
  | nil => exact ⟨41, r, rfl, .inr rfl⟩
  | cons x xs => exact ⟨44, _, rfl, .inl rfl⟩
mutual
theorem shL_inj (b : Nat) : ∀ (e d : D) (r r' : List Nat), it e → gd b d → EndOk r → EndOk r' → shL d ++ r = shL e ++ r' → d = e ∧ r = r'
  | .int j, d, r, r', _, g, q, q', h => by
    obtain ⟨c, l, hc, hm⟩ := shL_head b d g
    obtain ⟨c', l', hc', hm'⟩ := shL_head (j.natAbs) (.int j) (by simp)
    have ec : c = c' := by rw [hc, hc'] at h; exact (List.cons.inj h).1
    cases d with
    | int i =>
      rw [shL_int, shL_int] at h
      obtain ⟨e1, e2⟩ := split_ng (itL_ng i) (itL_ng j) q q' h
      exact ⟨by rw [itL_inj e1], e2⟩
    | tuple _ => simp only at hm hm'; omega
    | dict _ => exact absurd g (by simp)
    | _ => simp only at hm hm'; omega
  | .tuple es, d, r, r', he, g, q, q', h => by
    obtain ⟨c, l, hc, hm⟩ := shL_head b d g
    have h0 : ∃ l', shL (.tuple es) = 40 :: l' := by
      match es with
      | [] => exact ⟨_, shL_nil⟩
      | [x] => exact ⟨_, shL_one x⟩
      | x :: y :: r => exact ⟨_, shL_two x y r⟩
    obtain ⟨l', hl'⟩ := h0
    have ec : c = 40 := by rw [hc, hl'] at h; exact (List.cons.inj h).1
    cases d with
    | tuple ds =>
      rw [it] at he
      have g' := gd_t.mp g
      match es, ds, he, g', h with
      | [], [], _, _, h => rw [shL_nil] at h; exact ⟨rfl, List.append_cancel_left h⟩
      | [], [x], _, g', h =>
        exfalso
        rw [shL_nil, shL_one] at h
        obtain ⟨c1, l1, hc1, hm1⟩ := shL_head b x (g' x (by simp))
        have e1 := (List.cons.inj h).2
        rw [hc1] at e1
        have e2 : c1 = 41 := (List.cons.inj e1).1
        cases x <;> simp only at hm1 <;> first | omega | exact absurd (g' _ (List.mem_singleton.mpr rfl)) (by simp)
      | [], x :: y :: t, _, g', h =>
        exfalso
        rw [shL_nil, shL_two] at h
        obtain ⟨c1, l1, hc1, hm1⟩ := shL_head b x (g' x (by simp))
        have e1 := (List.cons.inj h).2
        rw [hc1] at e1
        have e2 : c1 = 41 := (List.cons.inj e1).1
        cases x <;> simp only at hm1 <;> first | omega | exact absurd (g' _ (List.mem_cons_self)) (by simp)
      | e :: es, [], he, _, h =>
        exfalso
        rw [its] at he
        have hh : ∃ c1 l1, shL e = c1 :: l1 ∧ c1 ≠ 41 := by
          cases e with
          | int i =>
            obtain ⟨c1, l1, hc1, hm1⟩ := shL_head i.natAbs (.int i) (by simp)
            exact ⟨c1, l1, hc1, by simp only at hm1; omega⟩
          | tuple zs =>
            match zs with
            | [] => exact ⟨40, [41], shL_nil, by decide⟩
            | [x] => exact ⟨40, _, shL_one x, by decide⟩
            | x :: y :: r => exact ⟨40, _, shL_two x y r, by decide⟩
          | _ => exact absurd he.1 (by simp [it])
        obtain ⟨c1, l1, hc1, hm1⟩ := hh
        cases es with
        | nil =>
          rw [shL_nil, shL_one] at h
          have e1 := (List.cons.inj h).2
          rw [hc1] at e1
          exact hm1 (List.cons.inj e1).1.symm
        | cons y t =>
          rw [shL_nil, shL_two] at h
          have e1 := (List.cons.inj h).2
          rw [hc1] at e1
          exact hm1 (List.cons.inj e1).1.symm
      | [e], [x], he, g', h =>
        rw [its] at he
        rw [shL_one, shL_one, List.cons_append, List.cons_append, List.append_assoc, List.append_assoc] at h
        obtain ⟨e1, e2⟩ := shL_inj b e x _ _ he.1 (g' x (by simp)) ⟨44, _, rfl, .inl rfl⟩ ⟨44, _, rfl, .inl rfl⟩ (List.cons.inj h).2
        subst e1
        exact ⟨rfl, List.append_cancel_left (as := [44, 41]) e2⟩
      | [e], x :: y :: t, he, g', h =>
        exfalso
        rw [its] at he
        rw [shL_one, shL_two, List.cons_append, List.cons_append, List.append_assoc, List.append_assoc] at h
        obtain ⟨e1, e2⟩ := shL_inj b e x _ _ he.1 (g' x (by simp)) (rest_end _ _) ⟨44, _, rfl, .inl rfl⟩ (List.cons.inj h).2
        rw [restL] at e2
        have := (List.cons.inj (List.cons.inj e2).2).1
        omega
      | e :: f :: es, [x], he, g', h =>
        exfalso
        rw [its] at he
        rw [shL_one, shL_two, List.cons_append, List.cons_append, List.append_assoc, List.append_assoc] at h
        obtain ⟨e1, e2⟩ := shL_inj b e x _ _ he.1 (g' x (by simp)) ⟨44, _, rfl, .inl rfl⟩ (rest_end _ _) (List.cons.inj h).2
        rw [restL] at e2
        have := (List.cons.inj (List.cons.inj e2).2).1
        omega
      | e :: f :: es, x :: y :: t, he, g', h =>
        rw [its] at he
        rw [shL_two, shL_two, List.cons_append, List.cons_append, List.append_assoc, List.append_assoc] at h
        obtain ⟨e1, e2⟩ := shL_inj b e x _ _ he.1 (g' x (by simp)) (rest_end _ _) (rest_end _ _) (List.cons.inj h).2
        obtain ⟨e3, e4⟩ := rest_inj b (f :: es) (y :: t) r r' he.2 (fun z hz => g' z (List.mem_cons_of_mem _ hz)) e2
        subst e1
        rw [e3]
        exact ⟨rfl, e4⟩
    | dict _ => exact absurd g (by simp)
    | _ => simp only at hm; omega
  | .none, d, r, r', he, _, _, _, _ => by simp [it] at he
  | .bool _, d, r, r', he, _, _, _, _ => by simp [it] at he
  | .str _, d, r, r', he, _, _, _, _ => by simp [it] at he
  | .list _, d, r, r', he, _, _, _, _ => by simp [it] at he
  | .dict _, d, r, r', he, _, _, _, _ => by simp [it] at he
theorem rest_inj (b : Nat) : ∀ (es ds : List D) (r r' : List Nat), its es → (∀ d ∈ ds, gd b d) → restL ds ++ r = restL es ++ r' → ds = es ∧ r = r'
  | [], [], r, r', _, _, h => ⟨rfl, (List.cons.inj h).2⟩
  | [], d :: ds, r, r', _, _, h => by
    rw [restL, restL] at h
    have := (List.cons.inj h).1
    omega
  | e :: es, [], r, r', _, _, h => by
    rw [restL, restL] at h
    have := (List.cons.inj h).1
    omega
  | e :: es, d :: ds, r, r', he, g, h => by
    rw [its] at he
    rw [restL, restL, List.cons_append, List.cons_append, List.cons_append, List.cons_append, List.append_assoc, List.append_assoc] at h
    obtain ⟨e1, e2⟩ := shL_inj b e d _ _ he.1 (g d (by simp)) (rest_end _ _) (rest_end _ _) (List.cons.inj (List.cons.inj h).2).2
    obtain ⟨e3, e4⟩ := rest_inj b es ds r r' he.2 (fun z hz => g z (List.mem_cons_of_mem _ hz)) e2
    rw [e1, e3]
    exact ⟨rfl, e4⟩
end
/-- shown alike, alike -/
theorem shown_inj {b : Nat} {w : Str} {p q : D} {ps qs : List D} (hq : its (q :: qs)) (hp : ∀ d ∈ p :: ps, gd b d) (h : PyData.shown (.tuple (.str w :: p :: ps)) = PyData.shown (.tuple (.str w :: q :: qs))) : p :: ps = q :: qs := by
  have e : shL (.tuple (.str w :: p :: ps)) = shL (.tuple (.str w :: q :: qs)) := by unfold shL; rw [h]
  rw [shL_two, shL_two] at e
  have e2 := List.append_cancel_left (List.cons.inj e).2
  exact (rest_inj b (q :: qs) (p :: ps) [] [] hq hp (by rw [List.append_nil, List.append_nil]; exact e2)).1

/-! lengths and signs of what's shown -/
theorem char_ok (d : Char) : d.toNat < 1114112 := by
  show d.val.toNat < 1114112
  rcases d.valid with h | h <;> omega
theorem rch_ok {q c : Nat} (hc : c < 1114112) (hq : q < 1114112) : ∀ z ∈ Builtin.Str.reprChar q c, z < 1114112 := by
  have hex : ∀ (w : Nat), ∀ z ∈ List.replicate (w - ((Nat.toDigits 16 c).map Char.toNat).length) 48 ++ (Nat.toDigits 16 c).map Char.toNat, z < 1114112 := by
    intro w z hz
    rcases List.mem_append.mp hz with hz | hz
    · rw [List.eq_of_mem_replicate hz]; decide
    · obtain ⟨d, _, rfl⟩ := List.mem_map.mp hz
      exact char_ok d
  intro z hz
  unfold Builtin.Str.reprChar at hz
  dsimp only at hz
  have two : ∀ {x y : Nat}, z ∈ [x, y] → x < 1114112 → y < 1114112 → z < 1114112 := fun h h1 h2 => by
    simp only [List.mem_cons, List.not_mem_nil, or_false] at h
    rcases h with rfl | rfl <;> assumption
  repeat' split at hz
  · exact two hz (by decide) hc
  · exact two hz (by decide) (by decide)
  · exact two hz (by decide) (by decide)
  · exact two hz (by decide) (by decide)
  · rw [List.mem_singleton.mp hz]; exact hc
  · exact (List.mem_append.mp hz).elim (fun h => two h (by decide) (by decide)) (hex 2 z)
  · exact (List.mem_append.mp hz).elim (fun h => two h (by decide) (by decide)) (hex 4 z)
  · exact (List.mem_append.mp hz).elim (fun h => two h (by decide) (by decide)) (hex 8 z)
def sumL : List Str → Nat
  | [] => 0
  | t :: ts => t.length + 2 + sumL ts
theorem join_le : ∀ ts : List Str, (Str.join (Str.ofString ", ") ts).length ≤ sumL ts
  | [] => Nat.zero_le _
  | [x] => by show x.length ≤ _; rw [sumL]; omega
  | x :: y :: r => by
    show (x ++ Str.ofString ", " ++ Str.join (Str.ofString ", ") (y :: r)).length ≤ _
    have ih := join_le (y :: r)
    have e : (Str.ofString ", ").length = 2 := by decide +kernel
    rw [str_app_len, str_app_len, e, sumL]
    omega
theorem join_okk : ∀ ts : List Str, (∀ t ∈ ts, PyData.strOk t = true) → PyData.strOk (Str.join (Str.ofString ", ") ts) = true
  | [], _ => by show PyData.strOk Str.empty = true; decide +kernel
  | [x], h => h x (by simp)
  | x :: y :: r, h => by
    show PyData.strOk (x ++ Str.ofString ", " ++ Str.join (Str.ofString ", ") (y :: r)) = true
    exact str_app_ok (str_app_ok (h x (by simp)) (by decide +kernel)) (join_okk (y :: r) fun t ht => h t (by simp [ht]))
theorem from_le : ∀ (ts : List Str) (k : Nat) (acc : Str), (textFrom k acc ts).length ≤ acc.length + sumL ts
  | [], _, acc => by rw [textFrom, sumL]; omega
  | t :: ts, k, acc => by
    rw [textFrom, sumL]
    have ih := from_le ts (k + 1) (acc ++ (if k > 0 then ", " else "" : String) ++ t)
    rw [str_app_len, str_app_len] at ih
    have e : (Str.ofString (if k > 0 then ", " else "" : String)).length ≤ 2 := by split <;> decide +kernel
    omega
theorem from_ok : ∀ (ts : List Str) (k : Nat) (acc : Str), PyData.strOk acc = true → (∀ t ∈ ts, PyData.strOk t = true) → PyData.strOk (textFrom k acc ts) = true
  | [], _, acc, h, _ => by rw [textFrom]; exact h
  | t :: ts, k, acc, h, q => by
    rw [textFrom]
    exact from_ok ts _ _ (str_app_ok (str_app_ok h (by split <;> decide +kernel)) (q t (by simp))) fun u hu => q u (by simp [hu])
mutual
theorem shown_len (b : Nat) (hb : b < 10 ^ 62) : ∀ d : D, gd b d → (PyData.shown d).length + 2 ≤ 70 * sz d ∧ PyData.strOk (PyData.shown d) = true ∧ PyData.showable d = true ∧ PyData.hasDict d = false
  | .none, _ => by rw [PyData.shown, PyData.showable, PyData.hasDict]; exact ⟨by decide +kernel, by decide +kernel, rfl, rfl⟩
  | .bool true, _ => by rw [PyData.shown, PyData.showable, PyData.hasDict]; exact ⟨by decide +kernel, by decide +kernel, rfl, rfl⟩
  | .bool false, _ => by rw [PyData.shown, PyData.showable, PyData.hasDict]; exact ⟨by decide +kernel, by decide +kernel, rfl, rfl⟩
  | .int i, h => by
    rw [gd] at h
    have l := PySem.int_text_length_le10 (a := i) (k := 62) (by decide) (Nat.lt_of_le_of_lt h hb)
    have lg : i.natAbs.log2 < 1920 := by
      by_cases z : i.natAbs = 0
      · rw [z]; decide
      · exact (Nat.log2_lt z).mpr (Nat.lt_trans (Nat.lt_of_le_of_lt h hb) (by decide +kernel))
    rw [PyData.shown, PyData.showable, PyData.hasDict, sz]
    refine ⟨?_, text_ok lg, decide_eq_true lg, rfl⟩
    show (Str.ofString (toString i)).length + 2 ≤ _
    rw [ofString_length]; omega
  | .str s, h => by
    rw [gd] at h
    rw [PyData.shown, PyData.showable, PyData.hasDict, sz]
    refine ⟨?_, ?_, rfl, rfl⟩
    · have : (reprText s).length ≤ 10 * s.length + 2 := by
        unfold reprText
        show Array.size (Array.push _ _) ≤ _
        rw [Array.size_push, ← Array.foldl_toList]
        have := StrLaws.foldl_repr_len (reprQuote s) s.cps.toList #[reprQuote s] fun c hc => Nat.lt_trans (ok_mem.mp h c hc) (by decide)
        have e : s.cps.toList.length = s.length := Array.length_toList
        have e2 : (#[reprQuote s] : Array Nat).size = 1 := rfl
        omega
      omega
    · rw [ok_mem]
      have hq : reprQuote s < 1114112 := by unfold reprQuote; split <;> decide
      have : ∀ (l : List Nat) (acc : Array Nat), (∀ c ∈ l, c < 1114112) → (∀ c ∈ acc.toList, c < 1114112) → ∀ c ∈ (l.foldl (fun out c => out ++ (Builtin.Str.reprChar (reprQuote s) c).toArray) acc).toList, c < 1114112 := by
        intro l
        induction l with
        | nil => intro acc _ h; exact h
        | cons c l ih =>
          intro acc hl ha
          rw [List.foldl_cons]
          refine ih _ (fun z hz => hl z (by simp [hz])) fun z hz => ?_
          rw [Array.toList_append, List.mem_append] at hz
          rcases hz with hz | hz
          · exact ha z hz
          · exact rch_ok (hl c (by simp)) hq z hz
      intro c hc
      unfold reprText at hc
      simp only [Array.toList_push, List.mem_append, List.mem_singleton] at hc
      rcases hc with hc | rfl
      · rw [← Array.foldl_toList] at hc
        exact this s.cps.toList #[reprQuote s] (ok_mem.mp h) (by simpa using hq) c hc
      · exact hq
  | .list xs, h => by
    rw [gd] at h
    obtain ⟨h1, h2, h3, h4⟩ := shown_lens b hb xs h
    rw [PyData.shown, PyData.showable, PyData.hasDict, sz]
    refine ⟨?_, ?_, h3, h4⟩
    · show (textFrom 0 (Str.ofString "[") (PyData.shownAll xs) ++ Str.ofString "]").length + 2 ≤ _
      have := from_le (PyData.shownAll xs) 0 (Str.ofString "[")
      rw [str_app_len, show (Str.ofString "]").length = 1 by decide +kernel]
      rw [show (Str.ofString "[").length = 1 by decide +kernel] at this
      omega
    · exact str_app_ok (from_ok _ _ _ (by decide +kernel) h2) (by decide +kernel)
  | .tuple xs, h => by
    rw [gd] at h
    obtain ⟨h1, h2, h3, h4⟩ := shown_lens b hb xs h
    rw [PyData.shown, PyData.showable, PyData.hasDict, sz]
    refine ⟨?_, ?_, h3, h4⟩
    · show (Str.ofString "(" ++ Str.join (Str.ofString ", ") (PyData.shownAll xs) ++ Str.ofString (if (PyData.shownAll xs).length == 1 then ",)" else ")" : String)).length + 2 ≤ _
      have := join_le (PyData.shownAll xs)
      have e : (Str.ofString (if (PyData.shownAll xs).length == 1 then ",)" else ")" : String)).length ≤ 2 := by split <;> decide +kernel
      rw [str_app_len, str_app_len, show (Str.ofString "(").length = 1 by decide +kernel]
      omega
    · exact str_app_ok (str_app_ok (by decide +kernel) (join_okk _ h2)) (by split <;> decide +kernel)
  | .dict _, h => absurd h (by simp)
theorem shown_lens (b : Nat) (hb : b < 10 ^ 62) : ∀ xs : List D, gds b xs → sumL (PyData.shownAll xs) ≤ 70 * szs xs ∧ (∀ t ∈ PyData.shownAll xs, PyData.strOk t = true) ∧ PyData.showableAll xs = true ∧ PyData.hasDictAll xs = false
  | [], _ => by rw [PyData.shownAll, PyData.showableAll, PyData.hasDictAll]; exact ⟨by simp [sumL], by simp, rfl, rfl⟩
  | x :: xs, h => by
    rw [gds] at h
    obtain ⟨h1, h2, h3, h4⟩ := shown_len b hb x h.1
    obtain ⟨g1, g2, g3, g4⟩ := shown_lens b hb xs h.2
    rw [PyData.shownAll, PyData.showableAll, PyData.hasDictAll, szs, sumL, h3, h4, g3, g4]
    refine ⟨by omega, fun t ht => ?_, rfl, rfl⟩
    rcases List.mem_cons.mp ht with rfl | ht
    · exact h2
    · exact g2 t ht
end
/-- repr of good tuples, compared -/
theorem repr_spec {b k w : Nat} {xs : List D} (h : Gd b k w (.tuple xs)) (hb : b < 10 ^ 62) (hk : k ≤ 64) (hw : w ≤ 14000) : biD .repr [.tuple xs] = some (.str (PyData.shown (.tuple xs))) ∧ shp (.str (PyData.shown (.tuple xs))) = true := by
  obtain ⟨h1, h2, h3, h4⟩ := shown_len b hb _ h.g
  have hs := h.s
  have hd := h.dp
  have q : (PyData.shown (.tuple xs)).length ≤ LIM := by
    have : (PyData.shown (.tuple xs)).length ≤ 70 * 14000 := by omega
    exact Nat.le_trans this (by decide)
  refine ⟨?_, ?_⟩
  · show (if (PyData.showable (.tuple xs)) && !(PyData.hasDict (.tuple xs)) && decide (PyData.depth (.tuple xs) ≤ 64) && okLen (PyData.shown (.tuple xs)).length then some (PyData.str (PyData.shown (.tuple xs))) else none) = _
    rw [h3, h4, decide_eq_true (show PyData.depth (.tuple xs) ≤ 64 by omega), okLen_t q]; rfl
  · unfold shp SeqAt.shaped
    rw [PyData.canLay0, h2]; simp
theorem repr_eq {b b' k k' w w' : Nat} {s : Str} {p q : D} {ps qs : List D} (h : Gd b k w (.tuple (.str s :: p :: ps))) (h' : Gd b' k' w' (.tuple (.str s :: q :: qs))) (hq : its (q :: qs)) (hb : b < 10 ^ 62) (hk : k ≤ 64) (hw : w ≤ 14000) (hb' : b' < 10 ^ 62) (hk' : k' ≤ 64) (hw' : w' ≤ 14000) :
    cmpD .eq (.str (PyData.shown (.tuple (.str s :: p :: ps)))) (.str (PyData.shown (.tuple (.str s :: q :: qs)))) = some (PyData.shown (.tuple (.str s :: p :: ps)) == PyData.shown (.tuple (.str s :: q :: qs))) ∧
    ((PyData.shown (.tuple (.str s :: p :: ps)) == PyData.shown (.tuple (.str s :: q :: qs))) = true ↔ PyData.tuple (.str s :: p :: ps) = .tuple (.str s :: q :: qs)) := by
  refine ⟨eq_s (repr_spec h hb hk hw).2 (repr_spec h' hb' hk' hw').2, ?_⟩
  rw [beq_iff_eq]
  constructor
  · intro e
    rw [shown_inj hq (fun d hd => gd_t.mp h.g d (List.mem_cons_of_mem _ hd)) e]
  · intro e; rw [e]
end G

set_option Elab.async false
set_option linter.all false
set_option maxRecDepth 100000
set_option maxHeartbeats 4000000
set_option autoImplicit false
/-! H8: small defs that most laws share; tables and cells. -/
namespace G
open PySem
def sb_is_told : List S := [.ift (.or (.nt (.bi .isTuple [(.var 0)])) (.cmp .ne (.bi .len [(.var 0)]) (.var 2))) [.ret (.bl false)] [], .ret (.and (.bi .isStr [(.idx (.var 0) (.int 0))]) (.cmp .eq (.idx (.var 0) (.int 0)) (.var 1)))]
def sb_check_table : List S := [.setv (.n 3) (.bi .len [(.idx (.var 0) (.int 0))]), .ift (.or (.cmp .eq (.var 3) (.int 0)) (.cmp .isin (.bl true) (.lc (.cmp .ne (.bi .len [(.var 4)]) (.var 3)) [4] (.n 4) (.e (.var 0)) none))) [.raise .unfit] [], .ift (.cmp .isin (.bl true) (.lc2 (.nt (.chain .le .le (.var 1) (.var 5) (.var 2))) [4, 5] (.n 4) (.e (.var 0)) [5] (.n 5) (.e (.var 4)) none)) [.raise .unfit] [], .ift (.cmp .gt (.bin .mul (.bi .len [(.var 0)]) (.var 3)) (.int 64)) [.raise .wide] [], .ret (.tup [(.bi .len [(.var 0)]), (.var 3)])]
def sb_cells_of : List S := [.ret (.lc2 (.tup [(.var 1), (.var 2)]) [1, 2] (.n 1) (.r1 (.bi .len [(.var 0)])) [2] (.n 2) (.r1 (.bi .len [(.idx (.var 0) (.int 0))])) none)]
def sb_beside : List S := [.setv (.t [(.n 3), (.n 4)]) (.var 0), .setv (.n 5) (.lst [(.tup [(.bin .sub (.var 3) (.int 1)), (.var 4)]), (.tup [(.var 3), (.bin .sub (.var 4) (.int 1))]), (.tup [(.var 3), (.bin .add (.var 4) (.int 1))]), (.tup [(.bin .add (.var 3) (.int 1)), (.var 4)])]), .ret (.lc (.tup [(.var 6), (.var 7)]) [6, 7] (.t [(.n 6), (.n 7)]) (.e (.var 5)) (some (.and (.chain .le .lt (.int 0) (.var 6) (.var 1)) (.chain .le .lt (.int 0) (.var 7) (.var 2)))))]
def sb_as_table : List S := [.ret (.bi .tuple [(.lc (.bi .tuple [(.lc (.idx (.var 1) (.tup [(.var 2), (.var 3)])) [3] (.n 3) (.r1 (.bi .len [(.idx (.var 0) (.int 0))])) none)]) [2] (.n 2) (.r1 (.bi .len [(.var 0)])) none)])]
def sl0__law_cells : List S := [.setv (.n 1) (.bin .add (.var 1) (.lc (.tup [(.var 2), (.var 3)]) [3] (.n 3) (.r1 (.bi .len [(.idx (.var 0) (.int 0))])) none))]
def sb__law_cells : List S := [.setv (.n 1) (.lst []), .fr (.n 2) (.r1 (.bi .len [(.var 0)])) (sl0__law_cells), .ret (.var 1)]
def sb__law_at : List S := [.ret (.idx (.idx (.var 0) (.idx (.var 1) (.int 0))) (.idx (.var 1) (.int 1)))]
def sb__law_inside : List S := [.ret (.and (.chain .le .lt (.int 0) (.idx (.var 1) (.int 0)) (.bi .len [(.var 0)])) (.chain .le .lt (.int 0) (.idx (.var 1) (.int 1)) (.bi .len [(.idx (.var 0) (.int 0))])))]
def sb__law_beside (f__law_inside : Nat) : List S := [.setv (.n 2) (.lst [(.tup [(.bin .sub (.idx (.var 1) (.int 0)) (.int 1)), (.idx (.var 1) (.int 1))]), (.tup [(.idx (.var 1) (.int 0)), (.bin .sub (.idx (.var 1) (.int 1)) (.int 1))]), (.tup [(.idx (.var 1) (.int 0)), (.bin .add (.idx (.var 1) (.int 1)) (.int 1))]), (.tup [(.bin .add (.idx (.var 1) (.int 0)) (.int 1)), (.idx (.var 1) (.int 1))])]), .ret (.lc (.var 3) [3] (.n 3) (.e (.var 2)) (some (.call f__law_inside [(.var 0), (.var 3)])))]
def sb__law_as_table : List S := [.ret (.bi .tuple [(.lc (.bi .tuple [(.lc (.idx (.var 1) (.tup [(.var 2), (.var 3)])) [3] (.n 3) (.r1 (.bi .len [(.idx (.var 0) (.int 0))])) none)]) [2] (.n 2) (.r1 (.bi .len [(.var 0)])) none)])]
def sb__law_drawn_table (f__law_next : Nat) : List S := [.setv (.n 5) (.bin .add (.var 1) (.callS f__law_next 0 [(.bin .add (.bin .sub (.var 2) (.var 1)) (.int 1))])), .ret (.bi .tuple [(.lc (.bi .tuple [(.lc (.bin .add (.var 3) (.callS f__law_next 0 [(.bin .add (.bin .sub (.var 4) (.var 3)) (.int 1))])) [7] (.n 7) (.r1 (.var 5)) none)]) [6] (.n 6) (.r1 (.bin .add (.var 1) (.callS f__law_next 0 [(.bin .add (.bin .sub (.var 2) (.var 1)) (.int 1))]))) none)])]
def sb_is_whole : List S := [.ret (.and (.bi .isInt [(.var 0)]) (.nt (.bi .isBool [(.var 0)])))]
def sb_are_wholes (f_is_whole : Nat) : List S := [.ret (.and (.bi .isTuple [(.var 0)]) (.and (.cmp .eq (.bi .len [(.var 0)]) (.var 1)) (.cmp .notin (.bl false) (.lc (.call f_is_whole [(.var 2)]) [2] (.n 2) (.e (.var 0)) none))))]
def sb__law_is_whole : List S := [.ret (.and (.bi .isInt [(.var 0)]) (.nt (.bi .isBool [(.var 0)])))]
def sb__law_is : List S := [.ret (.and (.bi .isTuple [(.var 0)]) (.and (.cmp .eq (.bi .len [(.var 0)]) (.var 2)) (.and (.bi .isStr [(.idx (.var 0) (.int 0))]) (.cmp .eq (.idx (.var 0) (.int 0)) (.var 1)))))]
def sb__law_are_wholes (f__law_is_whole : Nat) : List S := [.ret (.and (.bi .isTuple [(.var 0)]) (.and (.cmp .eq (.bi .len [(.var 0)]) (.var 1)) (.cmp .eq (.lc (.var 2) [2] (.n 2) (.e (.var 0)) (some (.nt (.call f__law_is_whole [(.var 2)])))) (.lst []))))]
def sb__law_columns : List S := [.ret (.lc (.bi .tuple [(.lc (.idx (.var 2) (.var 1)) [2] (.n 2) (.e (.var 0)) none)]) [1] (.n 1) (.r1 (.bi .len [(.idx (.var 0) (.int 0))])) none)]
def sb__law_is_place (f__law_is_whole : Nat) : List S := [.ret (.and (.call f__law_is_whole [(.var 0)]) (.chain .le .lt (.int 0) (.var 0) (.var 1)))]
def sb__law_are_places (f__law_is_place : Nat) : List S := [.ret (.and (.bi .isTuple [(.var 0)]) (.cmp .eq (.lc (.var 2) [2] (.n 2) (.e (.var 0)) (some (.nt (.call f__law_is_place [(.var 2), (.var 1)])))) (.lst [])))]
/-! ### whole numbers and words -/
def isWhole : D → Bool
  | .int _ => true
  | _ => false
def isTold (w : Str) (m : Nat) : D → Bool
  | .tuple (.str s :: ps) => (ps.length + 1 == m) && (s == w)
  | _ => false
theorem isTold_iff {w : Str} {m : Nat} {d : D} : isTold w m d = true ↔ ∃ ps, d = .tuple (.str w :: ps) ∧ ps.length + 1 = m := by
  constructor
  · intro h
    unfold isTold at h
    split at h
    · rw [Bool.and_eq_true, beq_iff_eq, beq_iff_eq] at h
      exact ⟨_, by rw [h.2], h.1⟩
    · cases h
  · rintro ⟨ps, rfl, rfl⟩
    unfold isTold
    simp
theorem isTold_t {w : Str} {ps : List D} {m : Nat} (h : ps.length + 1 = m) : isTold w m (.tuple (.str w :: ps)) = true := isTold_iff.mpr ⟨ps, rfl, h⟩
section
variable {P : Prog} {f f2 : Nat}
theorem whole_spec (hP : P f = some ⟨1, false, 1, sb_is_whole⟩) (n : Nat) (d : D) : callN P (n + 1) f [] [d] = .ok (.bool (isWhole d)) [] := by
  rw [run_p hP _ (by rfl)]
  unfold sb_is_whole
  cases d <;> simp -implicitDefEqProofs [isWhole]
theorem lwhole_spec (hP : P f = some ⟨1, false, 1, sb__law_is_whole⟩) (n : Nat) (d : D) : callN P (n + 1) f [] [d] = .ok (.bool (isWhole d)) [] := by
  rw [run_p hP _ (by rfl)]
  unfold sb__law_is_whole
  cases d <;> simp -implicitDefEqProofs [isWhole]
theorem told_spec (hP : P f = some ⟨3, false, 3, sb_is_told⟩) (n : Nat) {b k w : Nat} {d : D} (hd : Asked b k w d) {s : Str} (hs : PyData.strOk s = true) {m : Nat} (hm : 1 ≤ m) : callN P (n + 1) f [] [d, .str s, .int m] = .ok (.bool (isTold s m d)) [] := by
  rw [run_p hP _ (by rfl)]
  unfold sb_is_told
  have sh : shp (.str s) = true := shp_of (b := 0) (k := 0) (gd_s.mpr hs) (by simp) (by decide)
  rcases hd with rfl | hd
  · simp -implicitDefEqProofs [isTold]
  · cases d with
    | tuple xs =>
      cases xs with
      | nil => simp -implicitDefEqProofs [isTold, show ¬ (0 : Int) = m by omega]
      | cons x xs =>
        by_cases c : xs.length + 1 = m
        · have c' : (xs.length : Int) + 1 = m := by omega
          cases x with
          | str t =>
            have st : shp (.str t) = true := shp_of (b := b) (k := 0) (gd_t.mp hd.g _ (by simp)) (by simp) (by decide)
            simp -implicitDefEqProofs [isTold, c, c', eq_s st sh]
          | _ => simp -implicitDefEqProofs [isTold, c, c']
        · have c' : ¬ (xs.length : Int) + 1 = m := by omega
          have e : isTold s m (.tuple (x :: xs)) = false := by
            cases q : isTold s m (.tuple (x :: xs)) with
            | false => rfl
            | true => obtain ⟨ps, e, h⟩ := isTold_iff.mp q; cases e; exact absurd h c
          rw [e]
          simp -implicitDefEqProofs [c, c']
    | dict _ => exact absurd hd.g (by simp)
    | _ => simp -implicitDefEqProofs [isTold]
theorem lis_spec (hP : P f = some ⟨3, false, 3, sb__law_is⟩) (n : Nat) {b k w : Nat} {d : D} (hd : Asked b k w d) {s : Str} (hs : PyData.strOk s = true) {m : Nat} (hm : 1 ≤ m) : callN P (n + 1) f [] [d, .str s, .int m] = .ok (.bool (isTold s m d)) [] := by
  rw [run_p hP _ (by rfl)]
  unfold sb__law_is
  have sh : shp (.str s) = true := shp_of (b := 0) (k := 0) (gd_s.mpr hs) (by simp) (by decide)
  rcases hd with rfl | hd
  · simp -implicitDefEqProofs [isTold]
  · cases d with
    | tuple xs =>
      cases xs with
      | nil => simp -implicitDefEqProofs [isTold, show ¬ (0 : Int) = m by omega]
      | cons x xs =>
        by_cases c : xs.length + 1 = m
        · have c' : (xs.length : Int) + 1 = m := by omega
          cases x with
          | str t =>
            have st : shp (.str t) = true := shp_of (b := b) (k := 0) (gd_t.mp hd.g _ (by simp)) (by simp) (by decide)
            simp -implicitDefEqProofs [isTold, c, c', eq_s st sh]
          | _ => simp -implicitDefEqProofs [isTold, c, c']
        · have c' : ¬ (xs.length : Int) + 1 = m := by omega
          have e : isTold s m (.tuple (x :: xs)) = false := by
            cases q : isTold s m (.tuple (x :: xs)) with
            | false => rfl
            | true => obtain ⟨ps, e, h⟩ := isTold_iff.mp q; cases e; exact absurd h c
          rw [e]
          simp -implicitDefEqProofs [c, c']
    | dict _ => exact absurd hd.g (by simp)
    | _ => simp -implicitDefEqProofs [isTold]

/-! lists of truth values -/
theorem lay_bools : ∀ bs : List Bool, PyData.canLayAll0 (bs.map .bool) = true
  | [] => by rw [List.map_nil, PyData.canLayAll0]
  | n :: ns => by rw [List.map_cons, PyData.canLayAll0, PyData.canLay0, lay_bools ns]; rfl
theorem dep_bools : ∀ bs : List Bool, PyData.depthAll (bs.map .bool) = 0
  | [] => by rw [List.map_nil, PyData.depthAll]
  | n :: ns => by rw [List.map_cons, PyData.depthAll, PyData.depth, dep_bools ns]; rfl
theorem shp_bools {bs : List Bool} : shp (.list (bs.map .bool)) = true := by
  unfold shp SeqAt.shaped
  rw [PyData.canLay0, PyData.depth, lay_bools, dep_bools]; rfl
theorem any_bools {bs : List Bool} {x : Bool} : ((bs.map PyData.bool).any fun z => PyData.eqv z (.bool x)) = bs.any (· == x) := by
  induction bs with
  | nil => rfl
  | cons n ns ih => rw [List.map_cons, List.any_cons, ih, PyData.eqv, List.any_cons]
theorem in_boolD {bs : List Bool} {x : Bool} : cmpD .isin (.bool x) (.list (bs.map .bool)) = some (bs.any (· == x)) := by
  show (if shp (.bool x) && shp (.list (bs.map .bool)) then some ((bs.map PyData.bool).any fun z => PyData.eqv z (.bool x)) else none) = _
  rw [shp_b, shp_bools, any_bools]; rfl
theorem notin_boolD {bs : List Bool} {x : Bool} : cmpD .notin (.bool x) (.list (bs.map .bool)) = some (!bs.any (· == x)) := by
  show (cmpD .isin (.bool x) (.list (bs.map .bool))).map (!·) = _
  rw [in_boolD]; rfl
theorem in_boolm {α : Type} {ys : List α} {p : α → Bool} {x : Bool} : cmpD .isin (.bool x) (.list (ys.map fun y => .bool (p y))) = some (ys.any fun y => p y == x) := by
  have := in_boolD (bs := ys.map p) (x := x)
  rw [List.map_map, List.any_map] at this
  exact this
theorem notin_boolm {α : Type} {ys : List α} {p : α → Bool} {x : Bool} : cmpD .notin (.bool x) (.list (ys.map fun y => .bool (p y))) = some (!ys.any fun y => p y == x) := by
  show (cmpD .isin (.bool x) (.list (ys.map fun y => .bool (p y)))).map (!·) = _
  rw [in_boolm]; rfl
theorem lcO_bools {α : Type} {g : D → O (List D)} (ys : List α) (enc : α → D) (p : α → Bool) (hl : ys.length ≤ LIM) (h : ∀ y ∈ ys, g (enc y) = .ok [.bool (p y)]) : lcO g (ys.map enc) = .ok (.list (ys.map fun y => .bool (p y))) := lcO_map ys enc (fun y => .bool (p y)) hl h

def areWholes (m : Nat) : D → Bool
  | .tuple xs => (xs.length == m) && xs.all isWhole
  | _ => false
theorem whole_iff {d : D} : isWhole d = true ↔ ∃ i, d = .int i := by
  cases d <;> simp [isWhole]
theorem all_whole {xs : List D} : xs.all isWhole = true ↔ ∃ ns : List Int, xs = ns.map .int := by
  induction xs with
  | nil => simp
  | cons x xs ih =>
    rw [List.all_cons, Bool.and_eq_true, whole_iff, ih]
    constructor
    · rintro ⟨⟨i, rfl⟩, ns, rfl⟩; exact ⟨i :: ns, rfl⟩
    · rintro ⟨ns, h⟩
      cases ns with
      | nil => cases h
      | cons i ns =>
        rw [List.map_cons] at h
        obtain ⟨rfl, rfl⟩ := List.cons.inj h
        exact ⟨⟨i, rfl⟩, ns, rfl⟩
theorem areWholes_iff {m : Nat} {d : D} : areWholes m d = true ↔ ∃ ns : List Int, d = .tuple (ns.map .int) ∧ ns.length = m := by
  cases d with
  | tuple xs =>
    unfold areWholes
    rw [Bool.and_eq_true, beq_iff_eq, all_whole]
    constructor
    · rintro ⟨h, ns, rfl⟩; exact ⟨ns, rfl, by simpa using h⟩
    · rintro ⟨ns, h, l⟩
      injection h with h
      subst h
      exact ⟨by simpa using l, ns, rfl⟩
  | _ => simp [areWholes]
theorem wholes_spec (hP : P f = some ⟨2, false, 3, sb_are_wholes f2⟩) (hP2 : P f2 = some ⟨1, false, 1, sb_is_whole⟩) (n : Nat) {b k w : Nat} {d : D} (hd : Asked b k w d) (hw : w ≤ LIM) {m : Nat} : callN P (n + 2) f [] [d, .int m] = .ok (.bool (areWholes m d)) [] := by
  rw [run_p hP _ (by rfl)]
  unfold sb_are_wholes
  rcases hd with rfl | hd
  · simp -implicitDefEqProofs [areWholes]
  · cases d with
    | tuple xs =>
      have hs := hd.s
      rw [sz_t] at hs
      have ll : xs.length ≤ LIM := by have := len_szs xs; omega
      by_cases c : xs.length = m
      · have c' : (xs.length : Int) = m := by omega
        simp -implicitDefEqProofs [c']
        have := lcO_bools (g := fun x => itO (O.ok true) (callO (callN P (n + 1) f2 [] [x]))) xs id isWhole ll (by intro y _; simp -implicitDefEqProofs [whole_spec hP2])
        rw [List.map_id] at this
        rw [this]
        simp -implicitDefEqProofs [notin_boolm, areWholes, c]
        rw [Bool.eq_iff_iff]
        simp
      · have c' : ¬ (xs.length : Int) = m := by omega
        simp -implicitDefEqProofs [c', areWholes, c]
    | dict _ => exact absurd hd.g (by simp)
    | _ => simp -implicitDefEqProofs [areWholes]
theorem filter_nil_eq {xs : List D} {p : D → Bool} (h : shp (.list xs) = true) : cmpD .eq (.list (xs.filter p)) (.list []) = some (xs.all fun x => !p x) := by
  have e : ∀ ys : List D, shp (.list ys) = true → cmpD .eq (.list ys) (.list []) = some ys.isEmpty := fun ys h => eq_nl h
  by_cases q : xs.filter p = []
  · rw [q, show cmpD .eq (.list []) (.list []) = some true by decide, List.all_eq_true.mpr]
    intro x hx
    simpa using List.filter_eq_nil_iff.mp q x hx
  · have : shp (.list (xs.filter p)) = true := by
      have lay : ∀ ys : List D, PyData.canLayAll0 ys = true → PyData.canLayAll0 (ys.filter p) = true := by
        intro ys
        induction ys with
        | nil => intro _; rfl
        | cons y ys ih =>
          intro h
          rw [PyData.canLayAll0, Bool.and_eq_true] at h
          rw [List.filter_cons]
          split
          · rw [PyData.canLayAll0, h.1, ih h.2]; rfl
          · exact ih h.2
      unfold shp SeqAt.shaped at h ⊢
      rw [Bool.and_eq_true, decide_eq_true_eq] at h ⊢
      refine ⟨by rw [PyData.canLay0]; exact lay xs (by simpa [PyData.canLay0] using h.1), ?_⟩
      exact dep_l (k := 63).mpr fun x hx => dep_l (k := 63).mp h.2 x (List.mem_filter.mp hx).1
    rw [e _ this]
    congr 1
    rw [List.isEmpty_eq_false_iff.mpr q]
    symm
    rw [← Bool.not_eq_true]
    intro z
    exact q (List.filter_eq_nil_iff.mpr fun x hx => by simpa using List.all_eq_true.mp z x hx)
theorem lwholes_spec (hP : P f = some ⟨2, false, 3, sb__law_are_wholes f2⟩) (hP2 : P f2 = some ⟨1, false, 1, sb__law_is_whole⟩) (n : Nat) {b k w : Nat} {d : D} (hd : Asked b k w d) (hk : k ≤ 60) (hw : w ≤ LIM) {m : Nat} : callN P (n + 2) f [] [d, .int m] = .ok (.bool (areWholes m d)) [] := by
  rw [run_p hP _ (by rfl)]
  unfold sb__law_are_wholes
  rcases hd with rfl | hd
  · simp -implicitDefEqProofs [areWholes]
  · cases d with
    | tuple xs =>
      have hs := hd.s
      rw [sz_t] at hs
      have ll : xs.length ≤ LIM := by have := len_szs xs; omega
      obtain ⟨j, rfl, _⟩ := dep_t0 hd.dp
      have sh : shp (.list xs) = true := hd.gs.shpl (by omega)
      by_cases c : xs.length = m
      · have c' : (xs.length : Int) = m := by omega
        simp -implicitDefEqProofs [c']
        rw [lcO_sub (p := fun x => !isWhole x) ll (by intro y _; cases q : isWhole y <;> simp -implicitDefEqProofs [lwhole_spec hP2, q])]
        simp -implicitDefEqProofs [filter_nil_eq sh, areWholes, c]
      · have c' : ¬ (xs.length : Int) = m := by omega
        simp -implicitDefEqProofs [c', areWholes, c]
    | dict _ => exact absurd hd.g (by simp)
    | _ => simp -implicitDefEqProofs [areWholes]
/-- places below a number -/
def isPlace (m : Nat) : D → Bool
  | .int i => decide (0 ≤ i) && decide (i < m)
  | _ => false
theorem lplace_spec (hP : P f = some ⟨2, false, 2, sb__law_is_place f2⟩) (hP2 : P f2 = some ⟨1, false, 1, sb__law_is_whole⟩) (n : Nat) (d : D) (m : Nat) : callN P (n + 2) f [] [d, .int m] = .ok (.bool (isPlace m d)) [] := by
  rw [run_p hP _ (by rfl)]
  unfold sb__law_is_place
  cases d with
  | int i =>
    by_cases c : 0 ≤ i
    · simp -implicitDefEqProofs [lwhole_spec hP2, isWhole, isPlace, c]
    · simp -implicitDefEqProofs [lwhole_spec hP2, isWhole, isPlace, c]
  | _ => simp -implicitDefEqProofs [lwhole_spec hP2, isWhole, isPlace]
def arePlaces (m : Nat) : D → Bool
  | .tuple xs => xs.all (isPlace m)
  | _ => false
theorem lplaces_spec {f3 : Nat} (hP : P f = some ⟨2, false, 3, sb__law_are_places f2⟩) (hP2 : P f2 = some ⟨2, false, 2, sb__law_is_place f3⟩) (hP3 : P f3 = some ⟨1, false, 1, sb__law_is_whole⟩) (n : Nat) {b k w : Nat} {d : D} (hd : Asked b k w d) (hk : k ≤ 60) (hw : w ≤ LIM) {m : Nat} : callN P (n + 3) f [] [d, .int m] = .ok (.bool (arePlaces m d)) [] := by
  rw [run_p hP _ (by rfl)]
  unfold sb__law_are_places
  rcases hd with rfl | hd
  · simp -implicitDefEqProofs [arePlaces]
  · cases d with
    | tuple xs =>
      have hs := hd.s
      rw [sz_t] at hs
      have ll : xs.length ≤ LIM := by have := len_szs xs; omega
      obtain ⟨j, rfl, _⟩ := dep_t0 hd.dp
      have sh : shp (.list xs) = true := hd.gs.shpl (by omega)
      simp -implicitDefEqProofs
      rw [lcO_sub (p := fun x => !isPlace m x) ll (by intro y _; cases q : isPlace m y <;> simp -implicitDefEqProofs [lplace_spec hP2 hP3, q])]
      simp -implicitDefEqProofs [filter_nil_eq sh, arePlaces]
    | dict _ => exact absurd hd.g (by simp)
    | _ => simp -implicitDefEqProofs [arePlaces]
end
end G

set_option Elab.async false
set_option linter.all false
set_option maxRecDepth 100000
set_option maxHeartbeats 4000000
set_option autoImplicit false
/-! H9: judges by repr; what is asked; lists of draws. -/
namespace G
open PySem
/-- what a law tells: a word and more -/
structure Told (d : D) : Prop where
  g : Gd (10 ^ 30) 9 500 d
  n : nn d
  t : ∃ s ps, d = .tuple (.str s :: ps)
/-- what a law asks -/
abbrev Askd (d : D) : Prop := Asked (10 ^ 31) 11 12000 d
theorem Told.askd {d : D} (h : Told d) : Askd d := .inr (h.g.mono (Nat.pow_le_pow_right (by decide) (by decide)) (by decide) (by decide))
theorem askd_nil : Askd (.tuple []) := .inr ⟨by simp, by rw [PyData.depth, PyData.depthAll]; decide, by simp⟩
theorem askd_none : Askd .none := .inr ⟨by simp, by simp, by simp⟩
section
variable {P : Prog} {I : LI} (L : Lib P I)
include L
theorem odd_told (n : Nat) {d : D} (h : Told d) {st : List D} (hst : DrOk st) : ∃ r st', callN P (n + 13) I.odd st [d] = .ok r st' ∧ DrOk st' ∧ Askd r := by
  obtain ⟨s, ps, rfl⟩ := h.t
  obtain ⟨r, st', e, h1, h2⟩ := odd_spec L 8 (10 ^ 30) 500 s ps n st h.g h.n (by decide) (by decide) (by decide) (by decide) hst
  exact ⟨r, st', e, h1, h2.imp id fun q => q.mono (by decide) (by decide) (by decide)⟩
/-- the same as what's expected -/
theorem same_asked (n : Nat) {a e : D} (ha : Askd a) {b k w : Nat} (he : Gd b k w e) (hk : k ≤ 9) (hw : w ≤ LIM) : ∃ b : Bool, callN P (n + 10) I.same [] [a, e] = .ok (.bool b) [] ∧ (b = true ↔ a = e) := by
  rcases ha with rfl | ha
  · refine ⟨false, same_dict L (n + 9) (he.shp (by omega)), ?_⟩
    constructor
    · intro h; cases h
    · rintro rfl; exact absurd he.g (by simp)
  · exact same_spec L 9 n he.g (Nat.le_trans he.dp hk) (Nat.le_trans he.s hw) (by decide) (ha.shp (by decide))
theorem same_bool (n : Nat) (a b : Bool) : callN P (n + 1) I.same [] [.bool a, .bool b] = .ok (.bool (a == b)) [] := by
  rw [run_p L.same _ (by rfl)]
  unfold h_same
  simp -implicitDefEqProofs [eq_b]
end
/-- the judge by repr -/
theorem judge_rep {P : Prog} {f : Nat} (hP : P f = some ⟨3, false, 3, sb_is_told⟩) (n : Nat) {ρ : Env} {a e : E} {asked : D} {w : Str} {q : List D} {qs : List D} (ha : pE (callN P (n + 1)) a ρ = .ok asked) (he : pE (callN P (n + 1)) e ρ = .ok (.tuple (.str w :: .tuple q :: qs)))
    (hA : Askd asked) {b k c : Nat} (hE : Gd b k c (.tuple (.str w :: .tuple q :: qs))) (hi : its (.tuple q :: qs)) (hb : b < 10 ^ 62) (hk : k ≤ 64) (hc : c ≤ 14000) {m : Int} (hm : m = (qs.length + 2 : Nat)) :
    ∃ t : Bool, pE (callN P (n + 1)) (.and (.call f [a, .str w, .int m]) (.and (.bi .isTuple [.idx a (.int 1)]) (.cmp .eq (.bi .repr [a]) (.bi .repr [e])))) ρ = .ok (.bool t) ∧ (t = true ↔ asked = .tuple (.str w :: .tuple q :: qs)) := by
  have ws : PyData.strOk w = true := gd_s.mp (gd_t.mp hE.g _ (by simp))
  have tl := told_spec hP n hA ws (m := qs.length + 2) (by omega)
  rw [← hm] at tl
  by_cases ht : isTold w (qs.length + 2) asked = true
  · obtain ⟨ps, rfl, hl⟩ := isTold_iff.mp ht
    cases ps with
    | nil => simp at hl
    | cons p ps =>
      have hA' : Gd (10 ^ 31) 11 12000 (.tuple (.str w :: p :: ps)) := by
        rcases hA with h | h
        · cases h
        · exact h
      cases p with
      | tuple p =>
        obtain ⟨r1, r2⟩ := repr_eq hA' hE hi (by decide) (by decide) (by decide) hb hk hc
        refine ⟨_, ?_, r2⟩
        rw [ht] at tl
        simp -implicitDefEqProofs [ha, he, tl, (repr_spec hA' (by decide) (by decide) (by decide)).1, (repr_spec hE hb hk hc).1, r1]
      | _ =>
        refine ⟨false, ?_, ?_⟩
        · rw [ht] at tl
          simp -implicitDefEqProofs [ha, he, tl]
        · simp
  · refine ⟨false, ?_, ?_⟩
    · rw [Bool.not_eq_true _ |>.mp ht] at tl
      simp -implicitDefEqProofs [ha, tl]
    · constructor
      · intro h; cases h
      · intro h
        exact absurd (isTold_iff.mpr ⟨_, h, by simp⟩) ht

section
variable {ρ : Env} {a b c d v : D} {l : List D}
theorem setQ_n {xs : List D} {j : Int} (h0 : 0 ≤ j) (h1 : j < xs.length) : setQ 0 (.int j) v (some (.ol xs) :: ρ) = some (some (.ol (xs.set j.toNat v)) :: ρ) := setQ_l (ixN_nn h0 h1)
@[simp] theorem set0 : setQ 0 (.int 0) v (some (.ol (a :: l)) :: ρ) = some (some (.ol (v :: l)) :: ρ) := setQ_n (by omega) (by simp)
@[simp] theorem set1 : setQ 0 (.int 1) v (some (.ol (a :: b :: l)) :: ρ) = some (some (.ol (a :: v :: l)) :: ρ) := setQ_n (by omega) (by simp; omega)
@[simp] theorem set2 : setQ 0 (.int 2) v (some (.ol (a :: b :: c :: l)) :: ρ) = some (some (.ol (a :: b :: v :: l)) :: ρ) := setQ_n (by omega) (by simp; omega)
@[simp] theorem set3 : setQ 0 (.int 3) v (some (.ol (a :: b :: c :: d :: l)) :: ρ) = some (some (.ol (a :: b :: c :: v :: l)) :: ρ) := setQ_n (by omega) (by simp; omega)
@[simp] theorem setQ_d {kvs : List (D × D)} {k : D} (h1 : isKey k = true) (h2 : kvs.length ≤ LIM) : setQ 0 k v (some (.od kvs) :: ρ) = some (some (.od (putD kvs k v)) :: ρ) := by
  show (if (isKey k && okLen kvs.length) = true then some ((some (AV.od kvs) :: ρ).set 0 (some (.od (putD kvs k v)))) else none) = _
  rw [h1, okLen_t h2]; rfl
end
/-- a loop over a list, by what's behind it -/
theorem forL_pre {α : Type} {bd : D → Env → Option Env} {body : Env → Fl} {enc : α → D} {Rep : List α → Env → Prop} {ys : List α} {ρ : Env} (h0 : Rep [] ρ)
    (h : ∀ us x zs ρ, ys = us ++ x :: zs → Rep us ρ → ∃ ρ1, bd (enc x) ρ = some ρ1 ∧ ∃ ρ', (body ρ1 = .next ρ' ∨ body ρ1 = .cont ρ') ∧ Rep (us ++ [x]) ρ') : ∃ ρ', Rep ys ρ' ∧ forL bd body (ys.map enc) ρ = .next ρ' := by
  have go : ∀ (zs us : List α) (ρ : Env), ys = us ++ zs → Rep us ρ → ∃ ρ', Rep ys ρ' ∧ forL bd body (zs.map enc) ρ = .next ρ' := by
    intro zs
    induction zs with
    | nil => intro us ρ e r; exact ⟨ρ, by rw [e, List.append_nil]; exact r, rfl⟩
    | cons z zs ih =>
      intro us ρ e r
      obtain ⟨ρ1, e1, ρ', e2, r'⟩ := h us z zs ρ e r
      obtain ⟨ρ2, r2, e3⟩ := ih (us ++ [z]) ρ' (by rw [e, List.append_assoc]; rfl) r'
      refine ⟨ρ2, r2, ?_⟩
      rw [List.map_cons, forL, e1, Fl.opt_some, Fl.bind_next]
      rcases e2 with e2 | e2 <;> rw [e2] <;> exact e3
  exact go ys [] ρ rfl h0
/-! typed data -/
abbrev cD (c : Int × Int) : D := .tuple [.int c.1, .int c.2]
abbrev rD (r : List Int) : D := .tuple (r.map .int)
abbrev tD (t : List (List Int)) : D := .tuple (t.map rD)
/-- an item, counted from behind below 0 -/
def pyAt (xs : List Int) (i : Int) : Int := (L2.atI xs i).getD 0
theorem atI_map {α β : Type} {f : α → β} {xs : List α} {i : Int} : L2.atI (xs.map f) i = (L2.atI xs i).map f := by
  unfold L2.atI
  rw [List.length_map]
  cases L2.ixN xs.length i with
  | none => rfl
  | some n => show (xs.map f)[n]? = (xs[n]?).map f; rw [List.getElem?_map]
theorem atI_some {α : Type} {xs : List α} {i : Int} (h1 : -(xs.length : Int) ≤ i) (h2 : i < xs.length) : ∃ x ∈ xs, L2.atI xs i = some x := by
  by_cases h0 : 0 ≤ i
  · have : i.toNat < xs.length := by omega
    exact ⟨xs[i.toNat], List.getElem_mem _, by rw [atI_nn h0, List.getElem?_eq_getElem this]⟩
  · have : (i + xs.length).toNat < xs.length := by omega
    exact ⟨xs[(i + xs.length).toNat], List.getElem_mem _, by rw [atI_ng (by omega) h1, List.getElem?_eq_getElem this]⟩
theorem at_int {xs : List Int} {i : Int} (h1 : -(xs.length : Int) ≤ i) (h2 : i < xs.length) : L2.atI (xs.map PyData.int) i = some (.int (pyAt xs i)) ∧ pyAt xs i ∈ xs := by
  obtain ⟨x, hx, e⟩ := atI_some h1 h2
  rw [atI_map, e]
  unfold pyAt
  rw [e]
  exact ⟨rfl, hx⟩
theorem atI_last {α : Type} {xs : List α} {x : α} : L2.atI (xs ++ [x]) (-1) = some x := by
  rw [atI_ng (by omega) (by rw [List.length_append]; simp only [List.length_cons, List.length_nil]; omega)]
  rw [List.length_append, show ((-1 : Int) + ((xs.length + [x].length : Nat) : Int)).toNat = xs.length by simp only [List.length_cons, List.length_nil]; omega]
  rw [List.getElem?_append_right (Nat.le_refl _), Nat.sub_self]; rfl
theorem eqv_ints : ∀ xs ys : List Int, PyData.eqvAll (xs.map .int) (ys.map .int) = decide (xs = ys)
  | [], [] => rfl
  | [], _ :: _ => by simp [PyData.eqvAll]
  | _ :: _, [] => by simp [PyData.eqvAll]
  | x :: xs, y :: ys => by
    rw [List.map_cons, List.map_cons, PyData.eqvAll, PyData.eqv, eqv_ints xs ys, Bool.eq_iff_iff]
    simp
theorem eq_row {a b : List Int} : cmpD .eq (rD a) (rD b) = some (decide (a = b)) := by
  show (if shp (rD a) && shp (rD b) then some (PyData.eqv (rD a) (rD b)) else none) = _
  rw [shp_intt, shp_intt, PyData.eqv, eqv_ints]; rfl
theorem ne_row {a b : List Int} : cmpD .ne (rD a) (rD b) = some (!decide (a = b)) := by
  show (if shp (rD a) && shp (rD b) then some (!PyData.eqv (rD a) (rD b)) else none) = _
  rw [shp_intt, shp_intt, PyData.eqv, eqv_ints]; rfl
theorem notin2 {x a b : Int} : cmpD .notin (.int x) (.tuple [.int a, .int b]) = some (!(decide (x = a) || decide (x = b))) := by
  have := notin_intt (ns := [a, b]) (x := x)
  rw [show (PyData.tuple [.int a, .int b]) = .tuple ([a, b].map .int) from rfl, this]
  simp
/-- neither 0 nor 1 -/
def nb01 (c : Int) : Bool := !(decide (c = 0) || decide (c = 1))
theorem notin01 {c : Int} : cmpD .notin (.int c) (.tuple [.int 0, .int 1]) = some (nb01 c) := notin2
theorem nb01_any {row : List Int} : row.any nb01 = true ↔ ¬ ∀ c ∈ row, c = 0 ∨ c = 1 := by
  unfold nb01; simp
theorem shp_rows {t : List (List Int)} : shp (.list (t.map rD)) = true := by
  have lay : ∀ t : List (List Int), PyData.canLayAll0 (t.map rD) = true := by
    intro t
    induction t with
    | nil => rfl
    | cons r t ih => rw [List.map_cons, PyData.canLayAll0, PyData.canLay0, lay_ints, ih]; rfl
  unfold shp SeqAt.shaped
  rw [PyData.canLay0, lay, decide_eq_true (Nat.le_trans (dep_l (k := 1).mpr fun x hx => by
    obtain ⟨r, _, rfl⟩ := List.mem_map.mp hx
    rw [PyData.depth, dep_ints]
    exact Nat.le_refl _) (by decide))]
  rfl
theorem any_rows {t : List (List Int)} {r : List Int} : ((t.map rD).any fun z => PyData.eqv z (rD r)) = decide (r ∈ t) := by
  induction t with
  | nil => rfl
  | cons n ns ih =>
    rw [List.map_cons, List.any_cons, ih, PyData.eqv, eqv_ints, Bool.eq_iff_iff]
    simp only [Bool.or_eq_true, decide_eq_true_eq, List.mem_cons]
    exact or_congr eq_comm Iff.rfl
theorem in_rows {t : List (List Int)} {r : List Int} : cmpD .isin (rD r) (.list (t.map rD)) = some (decide (r ∈ t)) := by
  show (if shp (rD r) && shp (.list (t.map rD)) then some ((t.map rD).any fun z => PyData.eqv z (rD r)) else none) = _
  rw [shp_intt, shp_rows, any_rows]; rfl
/-- how a table of whole numbers is good data -/
theorem gs_ints {b : Nat} {r : List Int} (h : ∀ i ∈ r, i.natAbs ≤ b) : Gs b 0 r.length (r.map .int) := by
  refine ⟨fun x hx => ?_, fun x hx => ?_, ?_⟩
  · obtain ⟨i, hi, rfl⟩ := List.mem_map.mp hx; exact gd_i.mpr (h i hi)
  · obtain ⟨i, hi, rfl⟩ := List.mem_map.mp hx; simp
  · have : ∀ l : List Int, szs (l.map .int) = l.length := by
      intro l
      induction l with
      | nil => rfl
      | cons i l ih => rw [List.map_cons, szs_cons, sz_i, ih, List.length_cons]; omega
    rw [this]; exact Nat.le_refl _
theorem gs_map {α : Type} {b k w : Nat} {f : α → D} {xs : List α} (h : ∀ x ∈ xs, Gd b k w (f x)) : Gs b k (xs.length * w) (xs.map f) := by
  induction xs with
  | nil => exact ⟨by simp, by simp, by simp⟩
  | cons x xs ih =>
    have i := ih fun y hy => h y (by simp [hy])
    have := Gs.cons (h x (by simp)) i
    rw [List.map_cons, List.length_cons, Nat.succ_mul, Nat.add_comm]
    exact this
theorem gd_row {b n : Nat} {r : List Int} (h : ∀ i ∈ r, i.natAbs ≤ b) (hl : r.length ≤ n) : Gd b 1 (n + 1) (rD r) := (gs_ints h).t.mono (Nat.le_refl _) (Nat.le_refl _) (by omega)
theorem gd_tab {b n m : Nat} {t : List (List Int)} (h : ∀ r ∈ t, r.length ≤ n ∧ ∀ i ∈ r, i.natAbs ≤ b) (hl : t.length ≤ m) : Gd b 2 (m * (n + 1) + 1) (tD t) :=
  (gs_map (f := rD) fun r hr => gd_row (h r hr).2 (h r hr).1).t.mono (Nat.le_refl _) (Nat.le_refl _) (Nat.succ_le_succ (Nat.mul_le_mul_right _ hl))
theorem it_row (r : List Int) : it (rD r) := by
  rw [it_t]; intro x hx
  obtain ⟨i, _, rfl⟩ := List.mem_map.mp hx; simp
theorem it_tab (t : List (List Int)) : it (tD t) := by
  rw [it_t]; intro x hx
  obtain ⟨i, _, rfl⟩ := List.mem_map.mp hx; exact it_row i
mutual
theorem nn_it : ∀ {d : D}, it d → nn d
  | .int _, _ => by simp
  | .tuple xs, h => by rw [it] at h; rw [nn]; exact nns_its h
  | .none, h => by simp [it] at h
  | .bool _, h => by simp
  | .str _, h => by simp
  | .list _, h => by simp [it] at h
  | .dict _, h => by simp [it] at h
theorem nns_its : ∀ {xs : List D}, its xs → nns xs
  | [], _ => by rw [nns]; trivial
  | x :: xs, h => by rw [its] at h; rw [nns]; exact ⟨nn_it h.1, nns_its h.2⟩
end
theorem told_mk {s : Str} {ps : List D} {b k w : Nat} (hs : PyData.strOk s = true) (h : Gs b k w ps) (hi : its ps) (hb : b ≤ 10 ^ 30) (hk : k ≤ 8) (hw : w + s.length ≤ 498) : Told (.tuple (.str s :: ps)) :=
  ⟨(Gs.cons (Gd.str hs) (h.mono hb (Nat.le_refl _) (Nat.le_refl _))).t.mono (Nat.le_refl _) (by omega) (by omega), by rw [nn, nns]; exact ⟨by simp, nns_its hi⟩, _, _, rfl⟩
/-- draws one by one -/
theorem joinR_st {f : D → Env → R (List D)} {Pr : Env → Prop} {Q : D → Prop} : ∀ {xs : List D} {ρ : Env}, Pr ρ → (∀ x ∈ xs, ∀ ρ, Pr ρ → ∃ d ρ', f x ρ = .ok [d] ρ' ∧ Pr ρ' ∧ Q d) → ∃ ds ρ', joinR f xs ρ = .ok ds ρ' ∧ Pr ρ' ∧ ds.length = xs.length ∧ ∀ d ∈ ds, Q d
  | [], ρ, p, _ => ⟨[], ρ, rfl, p, rfl, by simp⟩
  | x :: xs, ρ, p, h => by
    obtain ⟨d, ρ1, e1, p1, q1⟩ := h x (by simp) ρ p
    obtain ⟨ds, ρ2, e2, p2, l2, q2⟩ := joinR_st (xs := xs) p1 fun y hy => h y (by simp [hy])
    refine ⟨d :: ds, ρ2, ?_, p2, by rw [List.length_cons, List.length_cons, l2], fun z hz => ?_⟩
    · rw [joinRc, e1, R.bind_ok, e2]; rfl
    · rcases List.mem_cons.mp hz with rfl | hz
      · exact q1
      · exact q2 z hz
section
variable {P : Prog} {I : LI} (L : Lib P I)
include L
/-- a row near: a part left out, or one more or less -/
theorem near_row (n : Nat) {st : List D} (hst : DrOk st) {row : List Int} (hl : row.length ≤ 10000) {lo hi : Int} (h : ∀ i ∈ row, lo ≤ i ∧ i ≤ hi) : ∃ row' st', callN P (n + 3) I.neigh st [rD row] = .ok (rD row') st' ∧ DrOk st' ∧ (row ≠ [] → row' ≠ []) ∧ row'.length ≤ row.length ∧ ∀ i ∈ row', lo - 1 ≤ i ∧ i ≤ hi + 1 := by
  obtain ⟨ys, st', e, hst', q⟩ := neigh_tup L (n + 1) hst (row.map .int) (by simpa using hl) shp_intt (fun x hx => by obtain ⟨i, _, rfl⟩ := List.mem_map.mp hx; rfl) (Q := fun x y => ∃ i j : Int, x = .int i ∧ y = .int j ∧ (j = i + 1 ∨ j = i - 1)) (fun x hx st hst => by
    obtain ⟨i, _, rfl⟩ := List.mem_map.mp hx
    obtain ⟨j, st', e, h1, h2⟩ := neigh_int L n hst i
    exact ⟨.int j, st', e, h1, i, j, rfl, rfl, h2⟩)
  rcases q with ⟨q1, rfl⟩ | ⟨a, x, c, q1, q2, rfl⟩ | ⟨a, x, c, y, q1, rfl, i, j, rfl, rfl, hij⟩
  · exact ⟨[], st', e, hst', fun z => absurd (List.map_eq_nil_iff.mp q1) z, Nat.zero_le _, by simp⟩
  · obtain ⟨r1, rc, rfl, e1, e2⟩ := List.map_eq_append_iff.mp q1
    obtain ⟨ra, rx, rfl, e3, e4⟩ := List.map_eq_append_iff.mp e1
    refine ⟨ra ++ rc, st', by rw [e]; simp [rD, e3, e2], hst', fun _ z => q2 ?_, by simp, fun i hi => ?_⟩
    · rw [← e3, ← e2, ← List.map_append, z]; rfl
    · have := h i (by simp only [List.mem_append] at hi ⊢; rcases hi with hi | hi <;> simp [hi])
      omega
  · obtain ⟨r1, rc, rfl, e1, e2⟩ := List.map_eq_append_iff.mp q1
    obtain ⟨ra, rx, rfl, e3, e4⟩ := List.map_eq_append_iff.mp e1
    obtain ⟨x, rfl⟩ : ∃ x, rx = [x] := by
      cases rx with
      | nil => cases e4
      | cons x t => cases t with
        | nil => exact ⟨x, rfl⟩
        | cons _ _ => cases e4
    have hx : x = i := by simpa using e4
    refine ⟨ra ++ [j] ++ rc, st', by rw [e]; simp [rD, e3, e2], hst', fun _ => by simp, by simp, fun k hk => ?_⟩
    have hi := h x (by simp)
    simp only [List.mem_append, List.mem_singleton] at hk
    rcases hk with (hk | rfl) | hk
    · have := h k (by simp [hk]); omega
    · omega
    · have := h k (by simp [hk]); omega
end
theorem ints_of {ds : List D} {lo hi : Int} (h : ∀ d ∈ ds, ∃ i : Int, d = .int i ∧ lo ≤ i ∧ i ≤ hi) : ∃ ns : List Int, ds = ns.map .int ∧ ∀ i ∈ ns, lo ≤ i ∧ i ≤ hi := by
  induction ds with
  | nil => exact ⟨[], rfl, by simp⟩
  | cons d ds ih =>
    obtain ⟨i, rfl, h1, h2⟩ := h d (by simp)
    obtain ⟨ns, rfl, h3⟩ := ih fun x hx => h x (by simp [hx])
    exact ⟨i :: ns, rfl, fun j hj => by
      rcases List.mem_cons.mp hj with rfl | hj
      · exact ⟨h1, h2⟩
      · exact h3 j hj⟩
theorem rows_of {ds : List D} {Q : List Int → Prop} (h : ∀ d ∈ ds, ∃ r : List Int, d = rD r ∧ Q r) : ∃ t : List (List Int), ds = t.map rD ∧ ∀ r ∈ t, Q r := by
  induction ds with
  | nil => exact ⟨[], rfl, by simp⟩
  | cons d ds ih =>
    obtain ⟨i, rfl, h1⟩ := h d (by simp)
    obtain ⟨ns, rfl, h3⟩ := ih fun x hx => h x (by simp [hx])
    exact ⟨i :: ns, rfl, fun j hj => by
      rcases List.mem_cons.mp hj with rfl | hj
      · exact h1
      · exact h3 j hj⟩
end G

set_option Elab.async false
set_option linter.all false
set_option maxRecDepth 100000
set_option maxHeartbeats 4000000
set_option autoImplicit false
/-! H10: what was seen; draws; steps of the law's turn. -/
namespace G
open PySem
/-- what was seen -/
structure Seen (xs : List D) : Prop where
  l : xs.length ≤ 5
  a : ∀ x ∈ xs, Askd x
theorem seen_nil : Seen [] := ⟨by decide, by simp⟩
theorem cut3 {xs : List D} : (cutL xs (some (-3)) none).length ≤ 3 := by
  unfold cutL
  rw [HT.sIx_none, List.length_take, List.length_drop]
  unfold HT.sIx
  simp
  omega
theorem seen_next {xs : List D} (h : Seen xs) {a b : D} (ha : Askd a) (hb : Askd b) : Seen (cutL xs (some (-3)) none ++ [a, b]) := by
  refine ⟨by rw [List.length_append]; have := cut3 (xs := xs); show _ + 2 ≤ 5; omega, fun x hx => ?_⟩
  rcases List.mem_append.mp hx with hx | hx
  · exact h.a x ((cutL_sub _ _ _).subset hx)
  · simp only [List.mem_cons, List.not_mem_nil, or_false] at hx
    rcases hx with rfl | rfl <;> assumption
theorem seen_add {xs : List D} {a b : D} : binD .add (.list (cutL xs (some (-3)) none)) (.list [a, b]) = some (.list (cutL xs (some (-3)) none ++ [a, b])) := add_l (by have := cut3 (xs := xs); show _ + 2 ≤ 1000000; omega)
/-- a statement of a block that goes on -/
theorem step {cs : CS} {s : S} {ss : List S} {ρ : Env} {Q : Env → Prop} (h : ∃ ρ1, exS cs s ρ = .next ρ1 ∧ ∃ ρ', exB cs ss ρ1 = .next ρ' ∧ Q ρ') : ∃ ρ', exB cs (s :: ss) ρ = .next ρ' ∧ Q ρ' := by
  obtain ⟨ρ1, e, q⟩ := h
  rw [b_cons, e, Fl.bind_next]
  exact q
theorem last {cs : CS} {ρ : Env} {Q : Env → Prop} (h : Q ρ) : ∃ ρ', exB cs [] ρ = .next ρ' ∧ Q ρ' := ⟨ρ, by rw [b_nil], h⟩
/-- draws one by one -/
theorem evE_draws {cs : CS} {it : It} {elt : E} {v : Nat} {ρ ρ1 : Env} {xs : List D} (hI : evI cs it ρ = .ok xs ρ1) (hl : xs.length ≤ LIM) {Pr : Env → Prop} {Q : D → Prop} (h1 : Pr ρ1)
    (h : ∀ x ∈ xs, ∀ ρ, Pr ρ → ∃ ρa, wr (ρ.set v none) v x = some ρa ∧ ∃ d ρ', evE cs elt ρa = .ok d ρ' ∧ Pr ρ' ∧ Q d) :
    ∃ ds ρ2, evE cs (.lc elt [v] (.n v) it none) ρ = .ok (.list ds) (ρ2.set v (ρ1.getD v none)) ∧ Pr ρ2 ∧ ds.length = xs.length ∧ ∀ d ∈ ds, Q d := by
  obtain ⟨ds, ρ2, e, p2, l2, q2⟩ := joinR_st (f := fun x ρ => (R.opt ((Tg.n v).bind x (kill ρ [v])) ρ).bind fun ρa _ => (evC cs none ρa).nox.bind fun t ρ => thn t ((evE cs elt ρ).nox.bind fun d ρ => .ok [d] ρ) (.ok [] ρ)) (Q := Q) h1 (by
    intro x hx ρ p
    obtain ⟨ρa, e1, d, ρ', e2, p', q'⟩ := h x hx ρ p
    refine ⟨d, ρ', ?_, p', q'⟩
    have e1' : (Tg.n v).bind x (kill ρ [v]) = some ρa := by rw [tg_n]; exact e1
    simp only [e1', R.opt_some, R.bind_ok, c_none, R.nox_ok, thn_t, e2])
  refine ⟨ds, ρ2, ?_, p2, l2, q2⟩
  rw [e_lc, hI, R.bind_ok, e, limR_ok (by rw [l2]; exact hl), R.bind_ok]
  rfl
/-- tables -/
structure Rect (t : List (List Int)) (h w : Nat) : Prop where
  hl : t.length = h
  wl : ∀ r ∈ t, r.length = w
  hp : 1 ≤ h
  wp : 1 ≤ w
/-- numbers between two -/
def Btw (lo hi : Int) (t : List (List Int)) : Prop := ∀ r ∈ t, ∀ i ∈ r, lo ≤ i ∧ i ≤ hi
theorem drawn_spec {P : Prog} {I : LI} (L : Lib P I) {f : Nat} (hP : P f = some ⟨5, true, 8, sb__law_drawn_table I.next⟩) (n : Nat) {st : List D} (hst : DrOk st) {low high least most : Int} (h1 : 1 ≤ low) (h2 : low ≤ high) (h3 : high ≤ 64) (h4 : least ≤ most) (h5 : most - least < 1000) :
    ∃ (t : List (List Int)) (h w : Nat) (st' : List D), callN P (n + 2) f st [.int low, .int high, .int least, .int most] = .ok (tD t) st' ∧ DrOk st' ∧ Rect t h w ∧ Btw least most t ∧ low ≤ h ∧ h ≤ high ∧ low ≤ w ∧ w ≤ high := by
  rw [run_i hP _ (by rfl)]
  unfold sb__law_drawn_table
  have LL : LIM = 1000000 := rfl
  obtain ⟨r1, st1, e1, r10, r11, hst1⟩ := next_spec L n hst (lim := high - low + 1) (by omega) (by omega)
  obtain ⟨r2, st2, e2, r20, r21, hst2⟩ := next_spec L n hst1 (lim := high - low + 1) (by omega) (by omega)
  obtain ⟨w, hw⟩ : ∃ w : Nat, low + r1 = w := ⟨(low + r1).toNat, by omega⟩
  obtain ⟨h, hh⟩ : ∃ h : Nat, low + r2 = h := ⟨(low + r2).toNat, by omega⟩
  obtain ⟨ds, ρ2, e3, ⟨st3, o6, o7, hst3, rfl⟩, ld, qd⟩ := evE_draws (cs := callN P (n + 1)) (elt := .bi .tuple [(.lc (.bin .add (.var 3) (.callS I.next 0 [(.bin .add (.bin .sub (.var 4) (.var 3)) (.int 1))])) [7] (.n 7) (.r1 (.var 5)) none)]) (v := 6) (it := .r1 (.bin .add (.var 1) (.callS I.next 0 [(.bin .add (.bin .sub (.var 2) (.var 1)) (.int 1))])))
    (ρ := [some (.ol st1), some (.d (.int low)), some (.d (.int high)), some (.d (.int least)), some (.d (.int most)), some (.d (.int w)), none, none])
    (ρ1 := [some (.ol st2), some (.d (.int low)), some (.d (.int high)), some (.d (.int least)), some (.d (.int most)), some (.d (.int w)), none, none]) (xs := (rngZ 0 h).map .int)
    (Pr := fun ρ => ∃ st o6 o7, DrOk st ∧ ρ = [some (.ol st), some (.d (.int low)), some (.d (.int high)), some (.d (.int least)), some (.d (.int most)), some (.d (.int w)), o6, o7])
    (Q := fun d => ∃ r : List Int, d = rD r ∧ r.length = w ∧ ∀ i ∈ r, least ≤ i ∧ i ≤ most)
    (by simp -implicitDefEqProofs (disch := first | rfl | omega | (simp only [List.length_append, List.length_cons, List.length_nil, List.length_reverse, List.length_map]; omega) | (simp; done) | fail) [cq0, e2, hh]) (by rw [List.length_map, rngZ_len]; omega) ⟨st2, none, none, hst2, rfl⟩ (by
      rintro x hx ρ ⟨st, o6, o7, hst, rfl⟩
      refine ⟨[some (.ol st), some (.d (.int low)), some (.d (.int high)), some (.d (.int least)), some (.d (.int most)), some (.d (.int w)), some (.d x), o7], by simp -implicitDefEqProofs (disch := first | rfl | omega | (simp only [List.length_append, List.length_cons, List.length_nil, List.length_reverse, List.length_map]; omega) | (simp; done) | fail), ?_⟩
      obtain ⟨ds, ρ2, e3, ⟨st3, o7', hst3, rfl⟩, ld, qd⟩ := evE_draws (cs := callN P (n + 1)) (elt := .bin .add (.var 3) (.callS I.next 0 [(.bin .add (.bin .sub (.var 4) (.var 3)) (.int 1))])) (v := 7) (it := .r1 (.var 5))
        (ρ := [some (.ol st), some (.d (.int low)), some (.d (.int high)), some (.d (.int least)), some (.d (.int most)), some (.d (.int w)), some (.d x), o7])
        (ρ1 := [some (.ol st), some (.d (.int low)), some (.d (.int high)), some (.d (.int least)), some (.d (.int most)), some (.d (.int w)), some (.d x), o7]) (xs := (rngZ 0 w).map .int)
        (Pr := fun ρ => ∃ st o7, DrOk st ∧ ρ = [some (.ol st), some (.d (.int low)), some (.d (.int high)), some (.d (.int least)), some (.d (.int most)), some (.d (.int w)), some (.d x), o7])
        (Q := fun d => ∃ i : Int, d = .int i ∧ least ≤ i ∧ i ≤ most)
        (by simp -implicitDefEqProofs (disch := first | rfl | omega | (simp only [List.length_append, List.length_cons, List.length_nil, List.length_reverse, List.length_map]; omega) | (simp; done) | fail)) (by rw [List.length_map, rngZ_len]; omega) ⟨st, o7, hst, rfl⟩ (by
          rintro y hy ρ ⟨st, o7, hst, rfl⟩
          refine ⟨[some (.ol st), some (.d (.int low)), some (.d (.int high)), some (.d (.int least)), some (.d (.int most)), some (.d (.int w)), some (.d x), some (.d y)], by simp -implicitDefEqProofs (disch := first | rfl | omega | (simp only [List.length_append, List.length_cons, List.length_nil, List.length_reverse, List.length_map]; omega) | (simp; done) | fail), ?_⟩
          obtain ⟨r3, st3, e3, r30, r31, hst3⟩ := next_spec L n hst (lim := most - least + 1) (by omega) (by omega)
          exact ⟨.int (least + r3), [some (.ol st3), some (.d (.int low)), some (.d (.int high)), some (.d (.int least)), some (.d (.int most)), some (.d (.int w)), some (.d x), some (.d y)], by simp -implicitDefEqProofs (disch := first | rfl | omega | (simp only [List.length_append, List.length_cons, List.length_nil, List.length_reverse, List.length_map]; omega) | (simp; done) | fail) [cq0, e3], ⟨_, _, hst3, rfl⟩, _, rfl, by omega, by omega⟩)
      obtain ⟨r, rfl, hr⟩ := ints_of qd
      rw [List.length_map, List.length_map, rngZ_len] at ld
      refine ⟨rD r, [some (.ol st3), some (.d (.int low)), some (.d (.int high)), some (.d (.int least)), some (.d (.int most)), some (.d (.int w)), some (.d x), o7], ?_, ⟨_, _, _, hst3, rfl⟩, r, rfl, by omega, hr⟩
      rw [e_bi, es_cons, e3]
      simp -implicitDefEqProofs (disch := first | rfl | omega | (simp only [List.length_append, List.length_cons, List.length_nil, List.length_reverse, List.length_map]; omega) | (simp; done) | fail))
  obtain ⟨t, rfl, ht⟩ := rows_of qd
  rw [List.length_map, List.length_map, rngZ_len] at ld
  refine ⟨t, h, w, st3, ?_, hst3, ⟨by omega, fun r hr => (ht r hr).1, by omega, by omega⟩, fun r hr => (ht r hr).2, by omega, by omega, by omega, by omega⟩
  rw [b_cons]
  have q1 : exS (callN P (n + 1)) (.setv (.n 5) (.bin .add (.var 1) (.callS I.next 0 [(.bin .add (.bin .sub (.var 2) (.var 1)) (.int 1))]))) [some (.ol st), some (.d (.int low)), some (.d (.int high)), some (.d (.int least)), some (.d (.int most)), none, none, none] = .next [some (.ol st1), some (.d (.int low)), some (.d (.int high)), some (.d (.int least)), some (.d (.int most)), some (.d (.int w)), none, none] := by
    simp -implicitDefEqProofs (disch := first | rfl | omega | (simp only [List.length_append, List.length_cons, List.length_nil, List.length_reverse, List.length_map]; omega) | (simp; done) | fail) [cq0, e1, hw]
  refine (congrArg (fun x => outI (Fl.bind x _)) q1).trans ?_
  rw [Fl.bind_next, b_cons, s_ret, e_bi, es_cons, e3]
  simp -implicitDefEqProofs (disch := first | rfl | omega | (simp only [List.length_append, List.length_cons, List.length_nil, List.length_reverse, List.length_map]; omega) | (simp; done) | fail)
end G

set_option Elab.async false
set_option linter.all false
set_option maxRecDepth 100000
set_option maxHeartbeats 4000000
set_option autoImplicit false
/-! H11: tables and cells: what most laws' small defs give. -/
namespace G
open PySem
theorem depth_cD (a b : Int) : PyData.depth (.tuple [.int a, .int b]) = 1 := by simp [PyData.depth, PyData.depthAll]
theorem lay_cD (a b : Int) : PyData.canLay0 (.tuple [.int a, .int b]) = true := by simp [PyData.canLay0, PyData.canLayAll0]
theorem shp_cell {a b : Int} : shp (.tuple [.int a, .int b]) = true := by
  unfold shp SeqAt.shaped
  rw [lay_cD, depth_cD]; rfl
theorem eqv_cell {a b c d : Int} : PyData.eqv (.tuple [.int a, .int b]) (.tuple [.int c, .int d]) = decide (a = c ∧ b = d) := by
  rw [PyData.eqv, PyData.eqvAll, PyData.eqvAll, PyData.eqvAll, PyData.eqv, PyData.eqv, Bool.eq_iff_iff]
  simp
theorem eq_cell {a b c d : Int} : cmpD .eq (.tuple [.int a, .int b]) (.tuple [.int c, .int d]) = some (decide (a = c ∧ b = d)) := by
  show (if shp (.tuple [.int a, .int b]) && shp (.tuple [.int c, .int d]) then some (PyData.eqv (.tuple [.int a, .int b]) (.tuple [.int c, .int d])) else none) = _
  rw [shp_cell, shp_cell, eqv_cell]; rfl
theorem ne_cell {a b c d : Int} : cmpD .ne (.tuple [.int a, .int b]) (.tuple [.int c, .int d]) = some (!decide (a = c ∧ b = d)) := by
  show (if shp (.tuple [.int a, .int b]) && shp (.tuple [.int c, .int d]) then some (!PyData.eqv (.tuple [.int a, .int b]) (.tuple [.int c, .int d])) else none) = _
  rw [shp_cell, shp_cell, eqv_cell]; rfl
theorem lay_cells : ∀ cs : List (Int × Int), PyData.canLayAll0 (cs.map cD) = true
  | [] => rfl
  | c :: cs => by rw [List.map_cons, PyData.canLayAll0, lay_cD, lay_cells cs]; rfl
theorem dep_cells : ∀ cs : List (Int × Int), PyData.depthAll (cs.map cD) ≤ 1
  | [] => by rw [List.map_nil, PyData.depthAll]; decide
  | c :: cs => by
    rw [List.map_cons, PyData.depthAll, depth_cD]
    exact Nat.max_le.mpr ⟨Nat.le_refl _, dep_cells cs⟩
theorem shp_cells {cs : List (Int × Int)} : shp (.list (cs.map cD)) = true := by
  unfold shp SeqAt.shaped
  rw [PyData.canLay0, PyData.depth, lay_cells, decide_eq_true (show PyData.depthAll (cs.map cD) + 1 ≤ 64 by have := dep_cells cs; omega)]; rfl
theorem shp_cellt {cs : List (Int × Int)} : shp (.tuple (cs.map cD)) = true := by
  unfold shp SeqAt.shaped
  rw [PyData.canLay0, PyData.depth, lay_cells, decide_eq_true (show PyData.depthAll (cs.map cD) + 1 ≤ 64 by have := dep_cells cs; omega)]; rfl
theorem any_cells {cs : List (Int × Int)} {a b : Int} : ((cs.map cD).any fun z => PyData.eqv z (.tuple [.int a, .int b])) = decide ((a, b) ∈ cs) := by
  induction cs with
  | nil => rfl
  | cons c cs ih =>
    rw [List.map_cons, List.any_cons, ih, eqv_cell, Bool.eq_iff_iff]
    simp only [Bool.or_eq_true, decide_eq_true_eq, List.mem_cons, Prod.ext_iff]
    exact or_congr ⟨fun ⟨x, y⟩ => ⟨x.symm, y.symm⟩, fun ⟨x, y⟩ => ⟨x.symm, y.symm⟩⟩ Iff.rfl
theorem in_cells {cs : List (Int × Int)} {a b : Int} : cmpD .isin (.tuple [.int a, .int b]) (.list (cs.map cD)) = some (decide ((a, b) ∈ cs)) := by
  show (if shp (.tuple [.int a, .int b]) && shp (.list (cs.map cD)) then some ((cs.map cD).any fun z => PyData.eqv z (.tuple [.int a, .int b])) else none) = _
  rw [shp_cell, shp_cells, any_cells]; rfl
theorem notin_cells {cs : List (Int × Int)} {a b : Int} : cmpD .notin (.tuple [.int a, .int b]) (.list (cs.map cD)) = some (!decide ((a, b) ∈ cs)) := by
  show (cmpD .isin (.tuple [.int a, .int b]) (.list (cs.map cD))).map (!·) = _
  rw [in_cells]; rfl
theorem in_cellst {cs : List (Int × Int)} {a b : Int} : cmpD .isin (.tuple [.int a, .int b]) (.tuple (cs.map cD)) = some (decide ((a, b) ∈ cs)) := by
  show (if shp (.tuple [.int a, .int b]) && shp (.tuple (cs.map cD)) then some ((cs.map cD).any fun z => PyData.eqv z (.tuple [.int a, .int b])) else none) = _
  rw [shp_cell, shp_cellt, any_cells]; rfl
@[simp] theorem isKey_cell {a b : Int} : isKey (.tuple [.int a, .int b]) = true := by
  show (keyDs [.int a, .int b] && decide (PyData.depth (.tuple [.int a, .int b]) ≤ 8)) = true
  rw [depth_cD]
  simp [keyDs, keyD]
/-! dicts by cells -/
abbrev kvC (cs : List (Int × Int)) (f : Int × Int → D) : List (D × D) := cs.map fun c => (cD c, f c)
theorem look_cell {cs : List (Int × Int)} {f : Int × Int → D} {a b : Int} (h : (a, b) ∈ cs) : lookD (kvC cs f) (.tuple [.int a, .int b]) = some (f (a, b)) := by
  unfold lookD
  induction cs with
  | nil => cases h
  | cons c cs ih =>
    show (((cD c, f c) :: kvC cs f).find? _).map _ = _
    rw [List.find?_cons]
    by_cases q : c = (a, b)
    · subst q
      rw [show PyData.eqv (cD (a, b)) (.tuple [.int a, .int b]) = true by rw [eqv_cell]; simp]
      rfl
    · have e : PyData.eqv (cD c) (.tuple [.int a, .int b]) = false := by
        rw [eqv_cell, decide_eq_false]
        rintro ⟨h1, h2⟩
        exact q (Prod.ext h1 h2)
      show (match PyData.eqv (cD c) (.tuple [.int a, .int b]) with | true => _ | false => _ : Option (D × D)).map _ = _
      rw [e]
      exact ih ((List.mem_cons.mp h).resolve_left fun z => q z.symm)
theorem idx_cell {cs : List (Int × Int)} {f : Int × Int → D} {a b : Int} (h : (a, b) ∈ cs) : idxD (.dict (kvC cs f)) (.tuple [.int a, .int b]) = some (f (a, b)) := by
  show (if isKey (.tuple [.int a, .int b]) then lookD (kvC cs f) (.tuple [.int a, .int b]) else none) = _
  rw [isKey_cell, look_cell h]; rfl
theorem any_kvC {cs : List (Int × Int)} {f : Int × Int → D} {a b : Int} : (kvC cs f).any (fun p => PyData.eqv p.1 (.tuple [.int a, .int b])) = decide ((a, b) ∈ cs) := by
  rw [List.any_map, ← any_cells (cs := cs), List.any_map]; rfl
theorem in_dict {cs : List (Int × Int)} {f : Int × Int → D} {a b : Int} : cmpD .isin (.tuple [.int a, .int b]) (.dict (kvC cs f)) = some (decide ((a, b) ∈ cs)) := by
  show (if isKey (.tuple [.int a, .int b]) then some ((kvC cs f).any fun p => PyData.eqv p.1 (.tuple [.int a, .int b])) else none) = _
  rw [isKey_cell, any_kvC]; rfl
theorem notin_dict {cs : List (Int × Int)} {f : Int × Int → D} {a b : Int} : cmpD .notin (.tuple [.int a, .int b]) (.dict (kvC cs f)) = some (!decide ((a, b) ∈ cs)) := by
  show (cmpD .isin (.tuple [.int a, .int b]) (.dict (kvC cs f))).map (!·) = _
  rw [in_dict]; rfl
theorem put_new {cs : List (Int × Int)} {f : Int × Int → D} {a b : Int} {v : D} (h : (a, b) ∉ cs) (hv : f (a, b) = v) : putD (kvC cs f) (.tuple [.int a, .int b]) v = kvC (cs ++ [(a, b)]) f := by
  unfold putD
  rw [any_kvC, decide_eq_false h]
  show kvC cs f ++ [(cD (a, b), v)] = _
  rw [← hv]
  unfold kvC
  rw [List.map_append]; rfl
theorem put_old {cs : List (Int × Int)} {f : Int × Int → D} {a b : Int} {v : D} (h : (a, b) ∈ cs) : putD (kvC cs f) (.tuple [.int a, .int b]) v = kvC cs fun c => if c = (a, b) then v else f c := by
  unfold putD
  rw [any_kvC, decide_eq_true h]
  show (kvC cs f).map _ = _
  rw [List.map_map]
  refine List.map_congr_left fun c _ => ?_
  show (if PyData.eqv (cD c) (.tuple [.int a, .int b]) = true then (cD c, v) else (cD c, f c)) = (cD c, if c = (a, b) then v else f c)
  rw [eqv_cell]
  by_cases q : c = (a, b)
  · subst q; simp
  · rw [if_neg q, if_neg]
    intro z
    rw [decide_eq_true_eq] at z
    exact q (Prod.ext z.1 z.2)
/-! cells of a table -/
def cellsZ (h w : Nat) : List (Int × Int) := (rngZ 0 h).flatMap fun r => (rngZ 0 w).map fun c => (r, c)
theorem mem_cellsZ {h w : Nat} {r c : Int} : (r, c) ∈ cellsZ h w ↔ 0 ≤ r ∧ r < h ∧ 0 ≤ c ∧ c < w := by
  unfold cellsZ
  simp only [List.mem_flatMap, List.mem_map, mem_rngZ, Prod.mk.injEq]
  constructor
  · rintro ⟨a, ⟨h1, h2⟩, b, ⟨h3, h4⟩, rfl, rfl⟩; exact ⟨h1, h2, h3, h4⟩
  · rintro ⟨h1, h2, h3, h4⟩; exact ⟨r, ⟨h1, h2⟩, c, ⟨h3, h4⟩, rfl, rfl⟩
theorem cellsZ_len (h w : Nat) : (cellsZ h w).length = h * w := by
  unfold cellsZ
  rw [List.length_flatMap]
  have : ∀ l : List Int, (l.map fun r => ((rngZ 0 w).map fun c => (r, c)).length).sum = l.length * w := by
    intro l
    induction l with
    | nil => simp
    | cons a l ih => rw [List.map_cons, List.sum_cons, ih, List.length_map, rngZ_len, List.length_cons, Nat.succ_mul]; omega
  rw [this, rngZ_len]
  congr 1
theorem rngZ_nodup (a b : Int) : (rngZ a b).Nodup := by
  unfold rngZ
  refine List.Pairwise.map _ ?_ List.nodup_range
  intro x y h; omega
theorem cellsZ_nodup (h w : Nat) : (cellsZ h w).Nodup := by
  unfold cellsZ
  have key : ∀ l : List Int, l.Nodup → (l.flatMap fun r => (rngZ 0 w).map fun c => (r, c)).Nodup := by
    intro l
    induction l with
    | nil => intro _; exact List.nodup_nil
    | cons a l ih =>
      intro hn
      rw [List.nodup_cons] at hn
      rw [List.flatMap_cons]
      refine List.nodup_append.mpr ⟨List.Pairwise.map _ (fun x y h e => h (Prod.mk.inj e).2) (rngZ_nodup 0 w), ih hn.2, ?_⟩
      intro x hx y hy e
      subst e
      obtain ⟨c, _, rfl⟩ := List.mem_map.mp hx
      obtain ⟨r, hr, hy⟩ := List.mem_flatMap.mp hy
      obtain ⟨c', _, e⟩ := List.mem_map.mp hy
      exact hn.1 ((Prod.mk.inj e).1 ▸ hr)
  exact key _ (rngZ_nodup 0 h)
/-- a row, a cell of a table -/
def rowT (t : List (List Int)) (r : Int) : List Int := t.getD r.toNat []
def atT (t : List (List Int)) (r c : Int) : Int := pyAt (rowT t r) c
theorem rowT_mem {t : List (List Int)} {r : Int} (h0 : 0 ≤ r) (h1 : r < t.length) : rowT t r ∈ t ∧ L2.atI (t.map rD) r = some (rD (rowT t r)) := by
  have hr : r.toNat < t.length := by omega
  have e : rowT t r = t[r.toNat] := by unfold rowT; rw [List.getD_eq_getElem?_getD, List.getElem?_eq_getElem hr]; rfl
  refine ⟨by rw [e]; exact List.getElem_mem _, ?_⟩
  rw [atI_map, atI_nn h0, List.getElem?_eq_getElem hr, e]; rfl
section
variable {t : List (List Int)} {h w : Nat}
theorem Rect.row (R : Rect t h w) {r : Int} (h0 : 0 ≤ r) (h1 : r < h) : L2.atI (t.map rD) r = some (rD (rowT t r)) := (rowT_mem h0 (by rw [R.hl]; exact h1)).2
theorem Rect.wid (R : Rect t h w) {r : Int} (h0 : 0 ≤ r) (h1 : r < h) : (rowT t r).length = w := R.wl _ (rowT_mem h0 (by rw [R.hl]; exact h1)).1
theorem Rect.row0 (R : Rect t h w) : L2.atI (t.map rD) 0 = some (rD (rowT t 0)) := R.row (by omega) (by have := R.hp; omega)
theorem Rect.row0' (R : Rect t h w) : t[0]? = some (rowT t 0) := by
  have hp := R.hp
  have hl : 0 < t.length := by rw [R.hl]; omega
  unfold rowT
  rw [show (0 : Int).toNat = 0 from rfl, List.getD_eq_getElem?_getD, List.getElem?_eq_getElem hl]; rfl
theorem Rect.wid0 (R : Rect t h w) : (rowT t 0).length = w := R.wid (by omega) (by have := R.hp; omega)
theorem Rect.cell (R : Rect t h w) {r c : Int} (h0 : 0 ≤ r) (h1 : r < h) (h2 : 0 ≤ c) (h3 : c < w) : L2.atI ((rowT t r).map PyData.int) c = some (.int (atT t r c)) := (at_int (by omega) (by rw [R.wid h0 h1]; exact h3)).1
theorem Rect.cell_mem (R : Rect t h w) {r c : Int} (h0 : 0 ≤ r) (h1 : r < h) (h2 : 0 ≤ c) (h3 : c < w) : atT t r c ∈ rowT t r ∧ rowT t r ∈ t := ⟨(at_int (by omega) (by rw [R.wid h0 h1]; exact h3)).2, (rowT_mem h0 (by rw [R.hl]; exact h1)).1⟩
/-- a table by its cells -/
theorem Rect.eq_map (R : Rect t h w) : t = (rngZ 0 h).map fun r => (rngZ 0 w).map fun c => atT t r c := by
  refine List.ext_getElem (by rw [List.length_map, rngZ_len, R.hl]; omega) fun i h1 h2 => ?_
  rw [List.getElem_map]
  have hi : (rngZ 0 h)[i]'(by rw [rngZ_len]; rw [R.hl] at h1; omega) = (i : Int) := by simp [rngZ]
  rw [hi]
  have er : rowT t (i : Int) = t[i] := by unfold rowT; rw [show (i : Int).toNat = i from rfl, List.getD_eq_getElem?_getD, List.getElem?_eq_getElem h1]; rfl
  refine List.ext_getElem (by rw [List.length_map, rngZ_len, R.wl _ (List.getElem_mem h1)]; omega) fun j h3 h4 => ?_
  rw [List.getElem_map]
  have hj : (rngZ 0 w)[j]'(by rw [rngZ_len]; rw [R.wl _ (List.getElem_mem h1)] at h3; omega) = (j : Int) := by simp [rngZ]
  rw [hj]
  unfold atT
  rw [er]
  unfold pyAt
  rw [atI_nn (by omega), show (j : Int).toNat = j from rfl, List.getElem?_eq_getElem h3]; rfl
end
section
variable {P : Prog} {f f2 : Nat} {t : List (List Int)} {h w : Nat}
theorem cells_of_spec (hP : P f = some ⟨1, false, 3, sb_cells_of⟩) (n : Nat) (R : Rect t h w) (hs : h * w ≤ 1000) (hh : h ≤ 1000) (hw : w ≤ 1000) : callN P (n + 1) f [] [tD t] = .ok (.list ((cellsZ h w).map cD)) [] := by
  rw [run_p hP _ (by rfl)]
  unfold sb_cells_of
  have LL : LIM = 1000000 := rfl
  have hl := R.hl
  have r0' := R.row0'
  have w0 := R.wid0
  simp -implicitDefEqProofs (disch := first | rfl | omega | (simp only [List.length_append, List.length_cons, List.length_nil, List.length_reverse, List.length_map]; omega) | (simp; done) | fail) [hl]
  have e : ((rngZ 0 h).flatMap fun r => (rngZ 0 w).map fun c => cD (r, c)) = (cellsZ h w).map cD := by unfold cellsZ; rw [List.map_flatMap]; congr 1; funext r; rw [List.map_map]; rfl
  rw [lcO_flat (ys := rngZ 0 h) (enc := .int) (g := fun r => (rngZ 0 w).map fun c => cD (r, c)) (by rw [e, List.length_map, cellsZ_len]; omega) (by
    intro r hr
    simp -implicitDefEqProofs (disch := first | rfl | omega | (simp only [List.length_append, List.length_cons, List.length_nil, List.length_reverse, List.length_map]; omega) | (simp; done) | fail) [r0', w0]
    exact joinO_map (ys := rngZ 0 w) (enc := .int) (g := fun c => cD (r, c)) fun c _ => rfl), e]
  simp -implicitDefEqProofs (disch := first | rfl | omega | (simp only [List.length_append, List.length_cons, List.length_nil, List.length_reverse, List.length_map]; omega) | (simp; done) | fail)
theorem lcells_spec (hP : P f = some ⟨1, false, 4, sb__law_cells⟩) (n : Nat) (R : Rect t h w) (hs : h * w ≤ 1000) (hh : h ≤ 1000) (hw : w ≤ 1000) : callN P (n + 1) f [] [tD t] = .ok (.list ((cellsZ h w).map cD)) [] := by
  rw [run_p hP _ (by rfl)]
  unfold sb__law_cells
  have LL : LIM = 1000000 := rfl
  have hl := R.hl
  have r0 := R.row0
  have w0 := R.wid0
  obtain ⟨ρ', ⟨o2, rfl⟩, e⟩ := forL_pre (bd := (Tg.n 2).bind) (body := fun ρ => exB (callN P n) sl0__law_cells ρ) (enc := PyData.int) (ys := rngZ 0 h) (ρ := [some (.d (tD t)), some (.d (.list [])), none, none])
      (Rep := fun us ρ => ∃ (o2 : Option AV), ρ = [some (.d (tD t)), some (.d (.list (us.flatMap fun r => (rngZ 0 w).map fun c => cD (r, c)))), o2, none])
      ⟨none, rfl⟩ (by
        rintro us z zs ρ h1 ⟨o2, rfl⟩
        have ul : us.length + 1 ≤ h := by
          have := congrArg List.length h1
          rw [rngZ_len, List.length_append, List.length_cons] at this
          omega
        have fl : (us.flatMap fun r => (rngZ 0 w).map fun c => cD (r, c)).length ≤ 1000 := by
          rw [List.length_flatMap]
          have : ∀ l : List Int, (l.map fun r => ((rngZ 0 w).map fun c => cD (r, c)).length).sum = l.length * w := by
            intro l
            induction l with
            | nil => simp
            | cons a l ih => rw [List.map_cons, List.sum_cons, ih, List.length_map, rngZ_len, List.length_cons, Nat.succ_mul]; omega
          rw [this]
          exact Nat.le_trans (Nat.mul_le_mul_right w (show us.length ≤ h by omega)) hs
        unfold sl0__law_cells
        generalize hF : (us.flatMap fun r => (rngZ 0 w).map fun c => cD (r, c)) = F at *
        simp -implicitDefEqProofs (disch := first | rfl | omega | (simp only [List.length_append, List.length_cons, List.length_nil, List.length_reverse, List.length_map]; omega) | (simp; done) | fail) [-atI_nn, r0, w0]
        rw [lcO_map (ys := rngZ 0 w) (enc := .int) (g := fun c => cD (z, c)) (by rw [rngZ_len]; omega) (by intro c _; simp -implicitDefEqProofs (disch := first | rfl | omega | (simp only [List.length_append, List.length_cons, List.length_nil, List.length_reverse, List.length_map]; omega) | (simp; done) | fail))]
        have e2 : (rngZ 0 w).length = w := by rw [rngZ_len]; omega
        simp -implicitDefEqProofs (disch := first | rfl | omega | (simp only [List.length_append, List.length_cons, List.length_nil, List.length_reverse, List.length_map]; omega) | (simp; done) | fail) [add_l, e2, hF])
  have e2 : ((rngZ 0 h).flatMap fun r => (rngZ 0 w).map fun c => cD (r, c)) = (cellsZ h w).map cD := by unfold cellsZ; rw [List.map_flatMap]; congr 1; funext r; rw [List.map_map]; rfl
  rw [e2] at e
  simp -implicitDefEqProofs (disch := first | rfl | omega | (simp only [List.length_append, List.length_cons, List.length_nil, List.length_reverse, List.length_map]; omega) | (simp; done) | fail) [hl, e]
theorem at_spec (hP : P f = some ⟨2, false, 2, sb__law_at⟩) (n : Nat) (R : Rect t h w) {r c : Int} (h0 : 0 ≤ r) (h1 : r < h) (h2 : 0 ≤ c) (h3 : c < w) : callN P (n + 1) f [] [tD t, .tuple [.int r, .int c]] = .ok (.int (atT t r c)) [] := by
  rw [run_p hP _ (by rfl)]
  unfold sb__law_at
  have e1 := R.row h0 h1
  have e2 := R.cell h0 h1 h2 h3
  simp -implicitDefEqProofs (disch := first | rfl | omega | (simp only [List.length_append, List.length_cons, List.length_nil, List.length_reverse, List.length_map]; omega) | (simp; done) | fail) [-atI_nn, e1, e2]
/-- inside a table -/
def inZ (h w : Nat) (c : Int × Int) : Bool := decide (0 ≤ c.1) && decide (c.1 < h) && decide (0 ≤ c.2) && decide (c.2 < w)
theorem inZ_iff {h w : Nat} {c : Int × Int} : inZ h w c = true ↔ c ∈ cellsZ h w := by
  unfold inZ
  rw [show c = (c.1, c.2) from rfl, mem_cellsZ]
  simp [and_assoc]
theorem inside_spec (hP : P f = some ⟨2, false, 2, sb__law_inside⟩) (n : Nat) (R : Rect t h w) (r c : Int) : callN P (n + 1) f [] [tD t, .tuple [.int r, .int c]] = .ok (.bool (inZ h w (r, c))) [] := by
  rw [run_p hP _ (by rfl)]
  unfold sb__law_inside inZ
  have e1 := R.row0
  have e2 := R.wid0
  have hl := R.hl
  by_cases c1 : 0 ≤ r
  · by_cases c2 : r < h
    · by_cases c3 : 0 ≤ c
      · simp -implicitDefEqProofs (disch := first | rfl | omega | (simp only [List.length_append, List.length_cons, List.length_nil, List.length_reverse, List.length_map]; omega) | (simp; done) | fail) [-atI_nn, e1, e2, hl, c1, c2, c3]
      · simp -implicitDefEqProofs (disch := first | rfl | omega | (simp only [List.length_append, List.length_cons, List.length_nil, List.length_reverse, List.length_map]; omega) | (simp; done) | fail) [-atI_nn, e1, e2, hl, c1, c2, c3]
    · simp -implicitDefEqProofs (disch := first | rfl | omega | (simp only [List.length_append, List.length_cons, List.length_nil, List.length_reverse, List.length_map]; omega) | (simp; done) | fail) [-atI_nn, e1, e2, hl, c1, c2]
  · simp -implicitDefEqProofs (disch := first | rfl | omega | (simp only [List.length_append, List.length_cons, List.length_nil, List.length_reverse, List.length_map]; omega) | (simp; done) | fail) [-atI_nn, e1, e2, hl, c1]
/-- the cells beside one -/
def near4 (c : Int × Int) : List (Int × Int) := [(c.1 - 1, c.2), (c.1, c.2 - 1), (c.1, c.2 + 1), (c.1 + 1, c.2)]
def besideZ (h w : Nat) (c : Int × Int) : List (Int × Int) := (near4 c).filter (inZ h w)
theorem lbeside_spec (hP : P f = some ⟨2, false, 4, sb__law_beside f2⟩) (hP2 : P f2 = some ⟨2, false, 2, sb__law_inside⟩) (n : Nat) (R : Rect t h w) (r c : Int) : callN P (n + 2) f [] [tD t, .tuple [.int r, .int c]] = .ok (.list ((besideZ h w (r, c)).map cD)) [] := by
  rw [run_p hP _ (by rfl)]
  unfold sb__law_beside
  have LL : LIM = 1000000 := rfl
  simp -implicitDefEqProofs (disch := first | rfl | omega | (simp only [List.length_append, List.length_cons, List.length_nil, List.length_reverse, List.length_map]; omega) | (simp; done) | fail)
  have := lcO_filter (f := fun x => itO ((callO (callN P (n + 1) f2 [] [tD t, x])).bind fun d => O.opt (truD d)) (O.ok x)) (near4 (r, c)) cD (inZ h w) cD (by show 4 ≤ _; omega) (by
    intro y _
    rw [show cD y = .tuple [.int y.1, .int y.2] from rfl, inside_spec hP2 n R]
    cases q : inZ h w (y.1, y.2) <;> simp -implicitDefEqProofs (disch := first | rfl | omega | (simp only [List.length_append, List.length_cons, List.length_nil, List.length_reverse, List.length_map]; omega) | (simp; done) | fail) [q])
  have e : (near4 (r, c)).map cD = [.tuple [.int (r - 1), .int c], .tuple [.int r, .int (c - 1)], .tuple [.int r, .int (c + 1)], .tuple [.int (r + 1), .int c]] := rfl
  rw [e] at this
  rw [this]
  simp -implicitDefEqProofs (disch := first | rfl | omega | (simp only [List.length_append, List.length_cons, List.length_nil, List.length_reverse, List.length_map]; omega) | (simp; done) | fail) [besideZ]
theorem beside_spec (hP : P f = some ⟨3, false, 8, sb_beside⟩) (n : Nat) (h w : Nat) (r c : Int) : callN P (n + 1) f [] [.tuple [.int r, .int c], .int h, .int w] = .ok (.list ((besideZ h w (r, c)).map cD)) [] := by
  rw [run_p hP _ (by rfl)]
  unfold sb_beside
  have LL : LIM = 1000000 := rfl
  simp -implicitDefEqProofs (disch := first | rfl | omega | (simp only [List.length_append, List.length_cons, List.length_nil, List.length_reverse, List.length_map]; omega) | (simp; done) | fail)
  have e : (near4 (r, c)).map cD = [.tuple [.int (r - 1), .int c], .tuple [.int r, .int (c - 1)], .tuple [.int r, .int (c + 1)], .tuple [.int (r + 1), .int c]] := rfl
  rw [← e]
  rw [lcO_filter (near4 (r, c)) cD (inZ h w) cD (by show 4 ≤ _; omega) (by
    intro y _
    unfold inZ
    by_cases c1 : 0 ≤ y.1
    · by_cases c2 : y.1 < h
      · by_cases c3 : 0 ≤ y.2
        · by_cases c4 : y.2 < w
          · simp -implicitDefEqProofs (disch := first | rfl | omega | (simp only [List.length_append, List.length_cons, List.length_nil, List.length_reverse, List.length_map]; omega) | (simp; done) | fail) [c1, c2, c3, c4]
          · simp -implicitDefEqProofs (disch := first | rfl | omega | (simp only [List.length_append, List.length_cons, List.length_nil, List.length_reverse, List.length_map]; omega) | (simp; done) | fail) [c1, c2, c3, c4]
        · simp -implicitDefEqProofs (disch := first | rfl | omega | (simp only [List.length_append, List.length_cons, List.length_nil, List.length_reverse, List.length_map]; omega) | (simp; done) | fail) [c1, c2, c3]
      · simp -implicitDefEqProofs (disch := first | rfl | omega | (simp only [List.length_append, List.length_cons, List.length_nil, List.length_reverse, List.length_map]; omega) | (simp; done) | fail) [c1, c2]
    · simp -implicitDefEqProofs (disch := first | rfl | omega | (simp only [List.length_append, List.length_cons, List.length_nil, List.length_reverse, List.length_map]; omega) | (simp; done) | fail) [c1])]
  simp -implicitDefEqProofs (disch := first | rfl | omega | (simp only [List.length_append, List.length_cons, List.length_nil, List.length_reverse, List.length_map]; omega) | (simp; done) | fail) [besideZ]
theorem tabF_spec {v : Int × Int → D} {kvs : D} (hk : ∀ r c : Int, (r, c) ∈ cellsZ h w → idxD kvs (.tuple [.int r, .int c]) = some (v (r, c))) (hP : P f = some ⟨2, false, 4, sb__law_as_table⟩) (n : Nat) (R : Rect t h w) (hh : h ≤ 1000) (hw : w ≤ 1000) :
    callN P (n + 1) f [] [tD t, kvs] = .ok (.tuple ((rngZ 0 h).map fun r => .tuple ((rngZ 0 w).map fun c => v (r, c)))) [] := by
  rw [run_p hP _ (by rfl)]
  unfold sb__law_as_table
  have LL : LIM = 1000000 := rfl
  have e1 := R.row0'
  have e2 := R.wid0
  have hl := R.hl
  simp -implicitDefEqProofs (disch := first | rfl | omega | (simp only [List.length_append, List.length_cons, List.length_nil, List.length_reverse, List.length_map]; omega) | (simp; done) | fail) [hl]
  rw [lcO_map (ys := rngZ 0 h) (enc := .int) (g := fun r => .tuple ((rngZ 0 w).map fun c => v (r, c))) (by rw [rngZ_len]; omega) (by
    intro r hr
    simp -implicitDefEqProofs (disch := first | rfl | omega | (simp only [List.length_append, List.length_cons, List.length_nil, List.length_reverse, List.length_map]; omega) | (simp; done) | fail) [e1, e2]
    rw [lcO_map (ys := rngZ 0 w) (enc := .int) (g := fun c => v (r, c)) (by rw [rngZ_len]; omega) (by
      intro c hc
      rw [mem_rngZ] at hr hc
      have := hk r c (mem_cellsZ.mpr ⟨hr.1, hr.2, hc.1, hc.2⟩)
      simp -implicitDefEqProofs (disch := first | rfl | omega | (simp only [List.length_append, List.length_cons, List.length_nil, List.length_reverse, List.length_map]; omega) | (simp; done) | fail) [this])]
    simp -implicitDefEqProofs (disch := first | rfl | omega | (simp only [List.length_append, List.length_cons, List.length_nil, List.length_reverse, List.length_map]; omega) | (simp; done) | fail))]
  simp -implicitDefEqProofs (disch := first | rfl | omega | (simp only [List.length_append, List.length_cons, List.length_nil, List.length_reverse, List.length_map]; omega) | (simp; done) | fail)
end
end G

set_option Elab.async false
set_option linter.all false
set_option maxRecDepth 100000
set_option maxHeartbeats 4000000
set_option autoImplicit false
/-! H12: check_table, cells around, columns, near tables, least and greatest. -/
namespace G
open PySem
def sb_around : List S := [.setv (.t [(.n 3), (.n 4)]) (.var 0), .setv (.n 5) (.lc2 (.tup [(.bin .add (.var 3) (.var 6)), (.bin .add (.var 4) (.var 7))]) [6, 7] (.n 6) (.e (.tup [(.neg (.int 1)), (.int 0), (.int 1)])) [7] (.n 7) (.e (.tup [(.neg (.int 1)), (.int 0), (.int 1)])) (some (.cmp .ne (.tup [(.var 6), (.var 7)]) (.tup [(.int 0), (.int 0)])))), .ret (.lc (.tup [(.var 8), (.var 9)]) [8, 9] (.t [(.n 8), (.n 9)]) (.e (.var 5)) (some (.and (.chain .le .lt (.int 0) (.var 8) (.var 1)) (.chain .le .lt (.int 0) (.var 9) (.var 2)))))]
def sb__law_around (f__law_cells : Nat) : List S := [.ret (.lc (.var 2) [2] (.n 2) (.e (.call f__law_cells [(.var 0)])) (some (.and (.cmp .ne (.var 2) (.var 1)) (.cmp .eq (.bi .max4 [(.bin .sub (.idx (.var 2) (.int 0)) (.idx (.var 1) (.int 0))), (.bin .sub (.idx (.var 1) (.int 0)) (.idx (.var 2) (.int 0))), (.bin .sub (.idx (.var 2) (.int 1)) (.idx (.var 1) (.int 1))), (.bin .sub (.idx (.var 1) (.int 1)) (.idx (.var 2) (.int 1)))]) (.int 1)))))]

/-! check_table -/
theorem shp_tab {t : List (List Int)} : shp (.tuple (t.map rD)) = true := by
  have := shp_rows (t := t)
  unfold shp SeqAt.shaped at *
  rw [PyData.canLay0, PyData.depth] at *
  exact this
section
variable {P : Prog} {f f2 : Nat} {t : List (List Int)} {h w : Nat}
def outN (lo hi i : Int) : Bool := !(decide (lo ≤ i) && decide (i ≤ hi))
def longN (w : Nat) (r : List Int) : Bool := !decide ((r.length : Int) = w)
def unfitT (lo hi : Int) (t : List (List Int)) : Bool := decide (((rowT t 0).length : Int) = 0) || t.any (longN (rowT t 0).length) || (t.flatMap id).any (outN lo hi)
theorem unfitT_f {lo hi : Int} (ht : t ≠ []) : unfitT lo hi t = false ↔ Rect t t.length (rowT t 0).length ∧ Btw lo hi t := by
  unfold unfitT longN outN
  have hl : 1 ≤ t.length := by cases t <;> simp_all
  simp only [Bool.or_eq_false_iff, decide_eq_false_iff_not, List.any_eq_false, Bool.not_eq_true', Bool.not_eq_false', Bool.not_eq_eq_eq_not, Bool.not_true, Bool.not_false, decide_eq_true_eq, Bool.and_eq_true, List.mem_flatMap, id]
  constructor
  · rintro ⟨⟨h1, h2⟩, h3⟩
    refine ⟨⟨rfl, fun r hr => ?_, hl, by omega⟩, fun r hr i hi => ?_⟩
    · have := h2 r hr; simp at this; omega
    · have := h3 i ⟨r, hr, hi⟩; simp at this; omega
  · rintro ⟨⟨_, h2, _, h4⟩, h5⟩
    refine ⟨⟨by omega, fun r hr => by have := h2 r hr; simp [this]⟩, ?_⟩
    rintro i ⟨r, hr, hi⟩
    have := h5 r hr i hi
    simp [this]
theorem Rect.fit (R : Rect t h w) {lo hi : Int} (B : Btw lo hi t) : unfitT lo hi t = false := by
  have ht : t ≠ [] := by rintro rfl; have := R.hl; have := R.hp; simp at *; omega
  rw [unfitT_f ht]
  refine ⟨⟨rfl, fun r hr => ?_, by rw [R.hl]; exact R.hp, by rw [R.wid0]; exact R.wp⟩, B⟩
  rw [R.wid0, R.wl r hr]
theorem row_zero (ht : t ≠ []) : t[0]? = some (rowT t 0) := by
  cases t with
  | nil => exact absurd rfl ht
  | cons r t => rfl
theorem len_bools (hl : t.length ≤ 1000) (hr : ∀ r ∈ t, r.length ≤ 1000) : (t.flatMap id).length ≤ 1000000 := by
  rw [List.length_flatMap]
  have key : ∀ l : List (List Int), (∀ r ∈ l, r.length ≤ 1000) → (l.map fun r => (id r).length).sum ≤ l.length * 1000 := by
    intro l
    induction l with
    | nil => intro _; simp
    | cons a l ih =>
      intro hh
      rw [List.map_cons, List.sum_cons, List.length_cons]
      have h1 := hh a (by simp)
      have h2 := ih fun r hr => hh r (by simp [hr])
      simp only [id] at *
      omega
  have := key t hr
  omega
theorem check_spec (hP : P f = some ⟨3, false, 6, sb_check_table⟩) (n : Nat) (ht : t ≠ []) (hl : t.length ≤ 1000) (hr : ∀ r ∈ t, r.length ≤ 1000) (lo hi : Int) :
    callN P (n + 1) f [] [tD t, .int lo, .int hi] = if unfitT lo hi t then .exc .unfit else if 64 < t.length * (rowT t 0).length then .exc .wide else .ok (.tuple [.int t.length, .int (rowT t 0).length]) [] := by
  rw [run_p hP _ (by rfl)]
  unfold sb_check_table
  have LL : LIM = 1000000 := rfl
  have e1 := row_zero ht
  have fl := len_bools hl hr
  have ll1 : ∀ g : D → O (List D), (∀ r ∈ t, g (rD r) = .ok [.bool (longN (rowT t 0).length r)]) → lcO g (t.map rD) = .ok (.list (t.map fun r => .bool (longN (rowT t 0).length r))) := fun g hg => lcO_bools t rD _ (by omega) hg
  have ll2 : ∀ g : D → O (List D), (∀ r ∈ t, g (rD r) = .ok (r.map fun i => .bool (outN lo hi i))) → lcO g (t.map rD) = .ok (.list ((t.flatMap id).map fun i => .bool (outN lo hi i))) := fun g hg => by
    have q : (t.flatMap fun r => r.map fun i => PyData.bool (outN lo hi i)) = (t.flatMap id).map fun i => .bool (outN lo hi i) := by rw [List.map_flatMap]; rfl
    rw [lcO_flat t rD (fun r => r.map fun i => .bool (outN lo hi i)) (by rw [q, List.length_map]; omega) hg, q]
  unfold unfitT
  generalize t.flatMap id = F at *
  by_cases c1 : ((rowT t 0).length : Int) = 0
  · have c1' : rowT t 0 = [] := List.length_eq_zero_iff.mp (by omega)
    simp -implicitDefEqProofs (disch := first | rfl | omega | (simp only [List.length_append, List.length_cons, List.length_nil, List.length_reverse, List.length_map]; omega) | (simp; done) | fail) [e1, c1']
  have c1' : ¬ rowT t 0 = [] := fun z => c1 (by rw [z]; rfl)
  rw [decide_eq_false c1, Bool.false_or]
  have g2 : exS (callN P n) (.ift (.or (.cmp .eq (.var 3) (.int 0)) (.cmp .isin (.bl true) (.lc (.cmp .ne (.bi .len [(.var 4)]) (.var 3)) [4] (.n 4) (.e (.var 0)) none))) [.raise .unfit] []) [some (.d (tD t)), some (.d (.int lo)), some (.d (.int hi)), some (.d (.int (rowT t 0).length)), none, none] = thn (t.any (longN (rowT t 0).length)) (.exc .unfit [some (.d (tD t)), some (.d (.int lo)), some (.d (.int hi)), some (.d (.int (rowT t 0).length)), none, none]) (.next [some (.d (tD t)), some (.d (.int lo)), some (.d (.int hi)), some (.d (.int (rowT t 0).length)), none, none]) := by
    simp -implicitDefEqProofs (disch := first | rfl | omega | (simp only [List.length_append, List.length_cons, List.length_nil, List.length_reverse, List.length_map]; omega) | (simp; done) | fail) [c1']
    rw [ll1 _ (by
      intro r hr'
      have := hr r hr'
      simp -implicitDefEqProofs (disch := first | rfl | omega | (simp only [List.length_append, List.length_cons, List.length_nil, List.length_reverse, List.length_map]; omega) | (simp; done) | fail) [longN])]
    simp -implicitDefEqProofs (disch := first | rfl | omega | (simp only [List.length_append, List.length_cons, List.length_nil, List.length_reverse, List.length_map]; omega) | (simp; done) | fail) [in_boolm]
  have g3 : exS (callN P n) (.ift (.cmp .isin (.bl true) (.lc2 (.nt (.chain .le .le (.var 1) (.var 5) (.var 2))) [4, 5] (.n 4) (.e (.var 0)) [5] (.n 5) (.e (.var 4)) none)) [.raise .unfit] []) [some (.d (tD t)), some (.d (.int lo)), some (.d (.int hi)), some (.d (.int (rowT t 0).length)), none, none] = thn (F.any (outN lo hi)) (.exc .unfit [some (.d (tD t)), some (.d (.int lo)), some (.d (.int hi)), some (.d (.int (rowT t 0).length)), none, none]) (.next [some (.d (tD t)), some (.d (.int lo)), some (.d (.int hi)), some (.d (.int (rowT t 0).length)), none, none]) := by
    simp -implicitDefEqProofs (disch := first | rfl | omega | (simp only [List.length_append, List.length_cons, List.length_nil, List.length_reverse, List.length_map]; omega) | (simp; done) | fail)
    rw [ll2 _ (by
      intro r hr'
      simp -implicitDefEqProofs (disch := first | rfl | omega | (simp only [List.length_append, List.length_cons, List.length_nil, List.length_reverse, List.length_map]; omega) | (simp; done) | fail)
      exact joinO_map (ys := r) (enc := .int) (g := fun i => .bool (outN lo hi i)) fun i hi' => by
        unfold outN
        by_cases q1 : lo ≤ i
        · simp -implicitDefEqProofs (disch := first | rfl | omega | (simp only [List.length_append, List.length_cons, List.length_nil, List.length_reverse, List.length_map]; omega) | (simp; done) | fail) [q1]
        · simp -implicitDefEqProofs (disch := first | rfl | omega | (simp only [List.length_append, List.length_cons, List.length_nil, List.length_reverse, List.length_map]; omega) | (simp; done) | fail) [q1])]
    simp -implicitDefEqProofs (disch := first | rfl | omega | (simp only [List.length_append, List.length_cons, List.length_nil, List.length_reverse, List.length_map]; omega) | (simp; done) | fail) [in_boolm]
  have em : binD .mul (.int t.length) (.int (rowT t 0).length) = some (.int (t.length * (rowT t 0).length)) := mul_i (mulOk_l (by omega) (by omega))
  have g1 : exS (callN P n) (.setv (.n 3) (.bi .len [(.idx (.var 0) (.int 0))])) [some (.d (tD t)), some (.d (.int lo)), some (.d (.int hi)), none, none, none] = .next [some (.d (tD t)), some (.d (.int lo)), some (.d (.int hi)), some (.d (.int (rowT t 0).length)), none, none] := by
    simp -implicitDefEqProofs (disch := first | rfl | omega | (simp only [List.length_append, List.length_cons, List.length_nil, List.length_reverse, List.length_map]; omega) | (simp; done) | fail) [e1]
  show outB (exB (callN P n) (_ :: _ :: _ :: _) [some (.d (tD t)), some (.d (.int lo)), some (.d (.int hi)), none, none, none]) = _
  rw [b_cons, g1, Fl.bind_next, b_cons, g2]
  cases c2 : t.any (longN (rowT t 0).length)
  · rw [thn_f, Fl.bind_next, b_cons, g3]
    cases c3 : F.any (outN lo hi)
    · rw [thn_f, Fl.bind_next]
      by_cases c4 : 64 < t.length * (rowT t 0).length
      · have c4' : (64 : Int) < t.length * (rowT t 0).length := by exact_mod_cast c4
        simp -implicitDefEqProofs (disch := first | rfl | omega | (simp only [List.length_append, List.length_cons, List.length_nil, List.length_reverse, List.length_map]; omega) | (simp; done) | fail) [c4, c4', em]
      · have c4' : ¬ (64 : Int) < t.length * (rowT t 0).length := by exact_mod_cast c4
        simp -implicitDefEqProofs (disch := first | rfl | omega | (simp only [List.length_append, List.length_cons, List.length_nil, List.length_reverse, List.length_map]; omega) | (simp; done) | fail) [c4, c4', em]
    · simp -implicitDefEqProofs (disch := first | rfl | omega | (simp only [List.length_append, List.length_cons, List.length_nil, List.length_reverse, List.length_map]; omega) | (simp; done) | fail)
  · simp -implicitDefEqProofs (disch := first | rfl | omega | (simp only [List.length_append, List.length_cons, List.length_nil, List.length_reverse, List.length_map]; omega) | (simp; done) | fail)

theorem Rect.ne (R : Rect t h w) : t ≠ [] := by rintro rfl; have := R.hl; have := R.hp; simp at *; omega
theorem check_ok (hP : P f = some ⟨3, false, 6, sb_check_table⟩) (n : Nat) (R : Rect t h w) {lo hi : Int} (B : Btw lo hi t) (hs : h * w ≤ 64) : callN P (n + 1) f [] [tD t, .int lo, .int hi] = .ok (.tuple [.int h, .int w]) [] := by
  have a1 := Nat.mul_le_mul_left h R.wp
  have a2 := Nat.mul_le_mul_right w R.hp
  rw [check_spec hP n R.ne (by rw [R.hl]; omega) (fun r hr => by rw [R.wl r hr]; omega), R.fit B, R.hl, R.wid0, if_neg Bool.false_ne_true, if_neg (show ¬ 64 < h * w by omega)]
theorem check_bad (hP : P f = some ⟨3, false, 6, sb_check_table⟩) (n : Nat) (ht : t ≠ []) (hl : t.length ≤ 1000) (hr : ∀ r ∈ t, r.length ≤ 1000) {lo hi : Int} (hb : unfitT lo hi t = true) : callN P (n + 1) f [] [tD t, .int lo, .int hi] = .exc .unfit := by
  rw [check_spec hP n ht hl hr, hb]; rfl
/-- a row that's longer than the first -/
theorem Rect.long (R : Rect t h w) (r : List Int) (hr : r.length ≠ w) {lo hi : Int} : unfitT lo hi (t ++ [r]) = true := by
  rw [← Bool.not_eq_false]
  intro z
  have q := ((unfitT_f (by simp)).mp z).1.wl
  have a1 := q r (by simp)
  obtain ⟨x, hx⟩ : ∃ x, x ∈ t := by
    cases t with
    | nil => exact absurd rfl R.ne
    | cons x t => exact ⟨x, by simp⟩
  have a2 := q x (by simp [hx])
  have a3 := R.wl x hx
  omega
/-- a table near to one -/
structure NearT (h w : Nat) (lo hi : Int) (t : List (List Int)) : Prop where
  ne : t ≠ []
  l : t.length ≤ h
  r : ∀ r ∈ t, r ≠ [] ∧ r.length ≤ w
  b : Btw lo hi t
theorem check_near (hP : P f = some ⟨3, false, 6, sb_check_table⟩) (n : Nat) {lo' hi' : Int} (N : NearT h w lo' hi' t) (hh : h ≤ 64) (hw : w ≤ 64) {lo hi : Int} :
    (∃ h' w', Rect t h' w' ∧ Btw lo hi t ∧ h' ≤ h ∧ w' ≤ w ∧ h' * w' ≤ 64) ∨ callN P (n + 1) f [] [tD t, .int lo, .int hi] = .exc .unfit ∨ callN P (n + 1) f [] [tD t, .int lo, .int hi] = .exc .wide := by
  rw [check_spec hP n N.ne (by have := N.l; omega) (fun r hr => by have := (N.r r hr).2; omega)]
  cases q : unfitT lo hi t
  · by_cases c : 64 < t.length * (rowT t 0).length
    · exact .inr (.inr (by rw [if_pos c]; rfl))
    · obtain ⟨R, B⟩ := (unfitT_f N.ne).mp q
      have m : rowT t 0 ∈ t := (rowT_mem (by omega) (by have := R.hp; omega)).1
      exact .inl ⟨_, _, R, B, N.l, (N.r _ m).2, by omega⟩
  · exact .inr (.inl rfl)
theorem near_tab {I : LI} (L : Lib P I) (n : Nat) {st : List D} (hst : DrOk st) (R : Rect t h w) (hh : h ≤ 64) (hw : w ≤ 64) {lo hi : Int} (B : Btw lo hi t) : ∃ t' st', callN P (n + 4) I.neigh st [tD t] = .ok (tD t') st' ∧ DrOk st' ∧ NearT h w (lo - 1) (hi + 1) t' := by
  obtain ⟨ys, st', e, hst', q⟩ := neigh_tup L (n + 2) hst (t.map rD) (by rw [List.length_map, R.hl]; omega) shp_tab (fun x hx => by obtain ⟨i, _, rfl⟩ := List.mem_map.mp hx; rfl) (Q := fun x y => ∃ r r' : List Int, r ∈ t ∧ x = rD r ∧ y = rD r' ∧ r' ≠ [] ∧ r'.length ≤ w ∧ ∀ i ∈ r', lo - 1 ≤ i ∧ i ≤ hi + 1) (fun x hx st hst => by
    obtain ⟨r, hr, rfl⟩ := List.mem_map.mp hx
    have := R.wl r hr
    have := R.wp
    obtain ⟨r', st', e, h1, h2, h3, h4⟩ := near_row L n hst (row := r) (by omega) (B r hr)
    exact ⟨rD r', st', e, h1, r, r', hr, rfl, rfl, h2 (by rintro rfl; simp at *; omega), by omega, h4⟩)
  have hl := R.hl
  have own : ∀ r ∈ t, r ≠ [] ∧ r.length ≤ w ∧ ∀ i ∈ r, lo - 1 ≤ i ∧ i ≤ hi + 1 := fun r hr => by
    have a := R.wl r hr
    have b := R.wp
    exact ⟨by rintro rfl; simp at *; omega, by omega, fun i hi' => by have := B r hr i hi'; omega⟩
  rcases q with ⟨q1, rfl⟩ | ⟨a, x, c, q1, q2, rfl⟩ | ⟨a, x, c, y, q1, rfl, r, r', hr, rfl, rfl, g1, g2, g3⟩
  · exact absurd (List.map_eq_nil_iff.mp q1) R.ne
  · obtain ⟨r1, rc, e0, e1, e2⟩ := List.map_eq_append_iff.mp q1
    obtain ⟨ra, rx, e9, e3, e4⟩ := List.map_eq_append_iff.mp e1
    have sub : ∀ r ∈ ra ++ rc, r ∈ t := fun r hr => by
      rw [e0, e9]
      rcases List.mem_append.mp hr with hr | hr
      · exact List.mem_append.mpr (.inl (List.mem_append.mpr (.inl hr)))
      · exact List.mem_append.mpr (.inr hr)
    refine ⟨ra ++ rc, st', by rw [e]; simp [tD, e3, e2], hst', ?_, ?_, fun r hr => ⟨(own r (sub r hr)).1, (own r (sub r hr)).2.1⟩, fun r hr => (own r (sub r hr)).2.2⟩
    · intro z
      apply q2
      rw [← e3, ← e2, ← List.map_append, z]; rfl
    · have := congrArg List.length e0
      rw [e9] at this
      simp only [List.length_append] at *
      omega
  · obtain ⟨r1, rc, e0, e1, e2⟩ := List.map_eq_append_iff.mp q1
    obtain ⟨ra, rx, e9, e3, e4⟩ := List.map_eq_append_iff.mp e1
    have sub : ∀ r ∈ ra ++ rc, r ∈ t := fun r hr => by
      rw [e0, e9]
      rcases List.mem_append.mp hr with hr | hr
      · exact List.mem_append.mpr (.inl (List.mem_append.mpr (.inl hr)))
      · exact List.mem_append.mpr (.inr hr)
    have all : ∀ s ∈ ra ++ [r'] ++ rc, s ≠ [] ∧ s.length ≤ w ∧ ∀ i ∈ s, lo - 1 ≤ i ∧ i ≤ hi + 1 := fun s hs => by
      simp only [List.mem_append, List.mem_singleton] at hs
      rcases hs with (hs | rfl) | hs
      · exact own s (sub s (by simp [hs]))
      · exact ⟨g1, g2, g3⟩
      · exact own s (sub s (by simp [hs]))
    refine ⟨ra ++ [r'] ++ rc, st', by rw [e]; simp [tD, e3, e2], hst', by simp, ?_, fun s hs => ⟨(all s hs).1, (all s hs).2.1⟩, fun s hs => (all s hs).2.2⟩
    have h1 := congrArg List.length e0
    have h2 := congrArg List.length e4
    rw [e9] at h1
    simp only [List.length_append, List.length_map, List.length_singleton, List.length_cons, List.length_nil] at *
    omega
end
end G

set_option Elab.async false
set_option linter.all false
set_option maxRecDepth 100000
set_option maxHeartbeats 4000000
set_option autoImplicit false
/-! H13: cells around, columns, least and greatest, parts of lines. -/
namespace G
open PySem

/-! least and greatest -/
theorem alB_ints (xs : List Int) : alB (xs.map PyData.int) = true := by
  unfold alB
  have h1 : PyData.hasDictAll (xs.map PyData.int) = false := by
    induction xs with
    | nil => rfl
    | cons a xs ih => rw [List.map_cons, PyData.hasDictAll, ih]; rfl
  have h2 : PyData.depthAll (xs.map PyData.int) ≤ 60 := by
    have : PyData.depthAll (xs.map PyData.int) = 0 := by
      clear h1
      induction xs with
      | nil => rfl
      | cons a xs ih => rw [List.map_cons, PyData.depthAll, ih]; rfl
    omega
  rw [h1, decide_eq_true h2]
  simp only [Bool.not_false, Bool.and_true, Bool.and_eq_true, List.all_eq_true, List.mem_map]
  exact ⟨fun x ⟨i, _, e⟩ y ⟨j, _, e'⟩ => by subst e; subst e'; rfl, fun x ⟨i, _, e⟩ => by subst e; rfl⟩
def minZ : List Int → Int
  | [] => 0
  | i :: r => r.foldl min i
def maxZ : List Int → Int
  | [] => 0
  | i :: r => r.foldl max i
theorem minD_z {xs : List Int} (h : xs ≠ []) : minD (xs.map PyData.int) = some (.int (minZ xs)) := by
  cases xs with
  | nil => exact absurd rfl h
  | cons i r =>
    show (if alB ((i :: r).map PyData.int) then some (PySem.W.minD (.int i) (r.map .int)) else none) = _
    rw [alB_ints, PySem.W.minD_ints]; rfl
theorem maxD_z {xs : List Int} (h : xs ≠ []) : maxD (xs.map PyData.int) = some (.int (maxZ xs)) := by
  cases xs with
  | nil => exact absurd rfl h
  | cons i r =>
    show (if alB ((i :: r).map PyData.int) then some (PySem.W.maxD (.int i) (r.map .int)) else none) = _
    rw [alB_ints, PySem.W.maxD_ints]; rfl
theorem min1_t {xs : List Int} (h : xs ≠ []) : biD .min1 [.tuple (xs.map .int)] = some (.int (minZ xs)) := minD_z h
theorem min1_l {xs : List Int} (h : xs ≠ []) : biD .min1 [.list (xs.map .int)] = some (.int (minZ xs)) := minD_z h
theorem max1_t {xs : List Int} (h : xs ≠ []) : biD .max1 [.tuple (xs.map .int)] = some (.int (maxZ xs)) := maxD_z h
theorem max1_l {xs : List Int} (h : xs ≠ []) : biD .max1 [.list (xs.map .int)] = some (.int (maxZ xs)) := maxD_z h
theorem max4_i {a b c d : Int} : biD .max4 [.int a, .int b, .int c, .int d] = some (.int (max (max (max a b) c) d)) := maxD_z (xs := [a, b, c, d]) (by simp)
/-! cells around -/
def dirs3 : List Int := [-1, 0, 1]
def nz (d e : Int) : Bool := !decide (d = 0 ∧ e = 0)
def near8 (c : Int × Int) : List (Int × Int) := dirs3.flatMap fun d => (dirs3.filter (nz d)).map fun e => (c.1 + d, c.2 + e)
def aroundZ (h w : Nat) (c : Int × Int) : List (Int × Int) := (near8 c).filter (inZ h w)
theorem mem_dirs3 {d : Int} : d ∈ dirs3 ↔ -1 ≤ d ∧ d ≤ 1 := by
  simp only [dirs3, List.mem_cons, List.not_mem_nil, or_false]; omega
theorem mem_around {h w : Nat} {c p : Int × Int} : p ∈ aroundZ h w c ↔ p ∈ cellsZ h w ∧ p ≠ c ∧ -1 ≤ p.1 - c.1 ∧ p.1 - c.1 ≤ 1 ∧ -1 ≤ p.2 - c.2 ∧ p.2 - c.2 ≤ 1 := by
  unfold aroundZ near8
  simp only [List.mem_filter, List.mem_flatMap, List.mem_map, mem_dirs3, inZ_iff]
  constructor
  · rintro ⟨⟨d, hd, e, ⟨he, hn⟩, rfl⟩, hi⟩
    refine ⟨hi, ?_, by simp only; omega, by simp only; omega, by simp only; omega, by simp only; omega⟩
    intro z
    have z1 := congrArg Prod.fst z
    have z2 := congrArg Prod.snd z
    simp only at z1 z2
    simp only [nz, Bool.not_eq_true', decide_eq_false_iff_not] at hn
    omega
  · rintro ⟨hi, hn, h1, h2, h3, h4⟩
    refine ⟨⟨p.1 - c.1, ⟨h1, h2⟩, p.2 - c.2, ⟨⟨h3, h4⟩, ?_⟩, Prod.ext (by simp only; omega) (by simp only; omega)⟩, hi⟩
    simp only [nz, Bool.not_eq_true', decide_eq_false_iff_not]
    intro z
    exact hn (Prod.ext (by omega) (by omega))
def touchZ (c p : Int × Int) : Bool := !decide (p.1 = c.1 ∧ p.2 = c.2) && decide (max (max (max (p.1 - c.1) (c.1 - p.1)) (p.2 - c.2)) (c.2 - p.2) = 1)
def laroundZ (h w : Nat) (c : Int × Int) : List (Int × Int) := (cellsZ h w).filter (touchZ c)
theorem mem_laround {h w : Nat} {c p : Int × Int} : p ∈ laroundZ h w c ↔ p ∈ aroundZ h w c := by
  rw [mem_around]
  unfold laroundZ touchZ
  rw [List.mem_filter, Bool.and_eq_true, Bool.not_eq_true', decide_eq_false_iff_not, decide_eq_true_eq]
  constructor
  · rintro ⟨h1, h2, h3⟩
    refine ⟨h1, fun z => h2 ⟨congrArg Prod.fst z, congrArg Prod.snd z⟩, ?_⟩
    omega
  · rintro ⟨h1, h2, h3, h4, h5, h6⟩
    have : ¬(p.1 = c.1 ∧ p.2 = c.2) := fun z => h2 (Prod.ext z.1 z.2)
    exact ⟨h1, this, by omega⟩
theorem near8_len (c : Int × Int) : (near8 c).length = 8 := by rfl
section
variable {P : Prog} {f f2 : Nat} {t : List (List Int)} {h w : Nat}
theorem around_spec (hP : P f = some ⟨3, false, 10, sb_around⟩) (n : Nat) (h w : Nat) (r c : Int) : callN P (n + 1) f [] [.tuple [.int r, .int c], .int h, .int w] = .ok (.list ((aroundZ h w (r, c)).map cD)) [] := by
  rw [run_p hP _ (by rfl)]
  unfold sb_around
  have LL : LIM = 1000000 := rfl
  simp -implicitDefEqProofs (disch := first | rfl | omega | (simp only [List.length_append, List.length_cons, List.length_nil, List.length_reverse, List.length_map]; omega) | (simp; done) | fail)
  have e : ([PyData.int (-1), .int 0, .int 1] : List D) = dirs3.map .int := rfl
  have e8 : (dirs3.flatMap fun d => (dirs3.filter (nz d)).map fun e => cD (r + d, c + e)) = (near8 (r, c)).map cD := rfl
  rw [e]
  rw [lcO_flat dirs3 PyData.int (fun d => (dirs3.filter (nz d)).map fun e => cD (r + d, c + e)) (by rw [e8, List.length_map, near8_len]; omega) (by
    intro d hd
    simp -implicitDefEqProofs (disch := first | rfl | omega | (simp only [List.length_append, List.length_cons, List.length_nil, List.length_reverse, List.length_map]; omega) | (simp; done) | fail)
    exact joinO_filter dirs3 PyData.int (nz d) (fun e => cD (r + d, c + e)) fun e he => by
      have q : cmpD .ne (.tuple [.int d, .int e]) (.tuple [.int 0, .int 0]) = some (nz d e) := ne_cell
      cases q2 : nz d e <;> simp -implicitDefEqProofs (disch := first | rfl | omega | (simp only [List.length_append, List.length_cons, List.length_nil, List.length_reverse, List.length_map]; omega) | (simp; done) | fail) [q, q2])]
  rw [e8]
  simp -implicitDefEqProofs (disch := first | rfl | omega | (simp only [List.length_append, List.length_cons, List.length_nil, List.length_reverse, List.length_map]; omega) | (simp; done) | fail)
  rw [lcO_filter (near8 (r, c)) cD (inZ h w) cD (by rw [near8_len]; omega) (by
    intro y _
    unfold inZ
    by_cases c1 : 0 ≤ y.1
    · by_cases c2 : y.1 < h
      · by_cases c3 : 0 ≤ y.2
        · by_cases c4 : y.2 < w
          · simp -implicitDefEqProofs (disch := first | rfl | omega | (simp only [List.length_append, List.length_cons, List.length_nil, List.length_reverse, List.length_map]; omega) | (simp; done) | fail) [c1, c2, c3, c4]
          · simp -implicitDefEqProofs (disch := first | rfl | omega | (simp only [List.length_append, List.length_cons, List.length_nil, List.length_reverse, List.length_map]; omega) | (simp; done) | fail) [c1, c2, c3, c4]
        · simp -implicitDefEqProofs (disch := first | rfl | omega | (simp only [List.length_append, List.length_cons, List.length_nil, List.length_reverse, List.length_map]; omega) | (simp; done) | fail) [c1, c2, c3]
      · simp -implicitDefEqProofs (disch := first | rfl | omega | (simp only [List.length_append, List.length_cons, List.length_nil, List.length_reverse, List.length_map]; omega) | (simp; done) | fail) [c1, c2]
    · simp -implicitDefEqProofs (disch := first | rfl | omega | (simp only [List.length_append, List.length_cons, List.length_nil, List.length_reverse, List.length_map]; omega) | (simp; done) | fail) [c1])]
  simp -implicitDefEqProofs (disch := first | rfl | omega | (simp only [List.length_append, List.length_cons, List.length_nil, List.length_reverse, List.length_map]; omega) | (simp; done) | fail) [aroundZ]
theorem laround_spec (hP : P f = some ⟨2, false, 3, sb__law_around f2⟩) (hP2 : P f2 = some ⟨1, false, 4, sb__law_cells⟩) (n : Nat) (R : Rect t h w) (hs : h * w ≤ 1000) (hh : h ≤ 1000) (hw : w ≤ 1000) (r c : Int) : callN P (n + 2) f [] [tD t, .tuple [.int r, .int c]] = .ok (.list ((laroundZ h w (r, c)).map cD)) [] := by
  rw [run_p hP _ (by rfl)]
  unfold sb__law_around
  have LL : LIM = 1000000 := rfl
  have e := lcells_spec hP2 n R hs hh hw
  simp -implicitDefEqProofs (disch := first | rfl | omega | (simp only [List.length_append, List.length_cons, List.length_nil, List.length_reverse, List.length_map]; omega) | (simp; done) | fail) [e]
  rw [lcO_filter (cellsZ h w) cD (touchZ (r, c)) cD (by rw [cellsZ_len]; omega) (by
    intro y _
    unfold touchZ
    rw [show cD y = .tuple [.int y.1, .int y.2] from rfl]
    by_cases q : y.1 = r ∧ y.2 = c
    · simp -implicitDefEqProofs (disch := first | rfl | omega | (simp only [List.length_append, List.length_cons, List.length_nil, List.length_reverse, List.length_map]; omega) | (simp; done) | fail) [ne_cell, q]
    · simp -implicitDefEqProofs (disch := first | rfl | omega | (simp only [List.length_append, List.length_cons, List.length_nil, List.length_reverse, List.length_map]; omega) | (simp; done) | fail) [ne_cell, q, max4_i]
      by_cases q2 : max (y.1 - r) (max (r - y.1) (max (y.2 - c) (c - y.2))) = 1 <;> simp [q2])]
  simp -implicitDefEqProofs (disch := first | rfl | omega | (simp only [List.length_append, List.length_cons, List.length_nil, List.length_reverse, List.length_map]; omega) | (simp; done) | fail) [laroundZ]
/-- a column -/
def colZ (t : List (List Int)) (c : Int) : List Int := t.map fun r => pyAt r c
theorem lcolumns_spec (hP : P f = some ⟨1, false, 3, sb__law_columns⟩) (n : Nat) (R : Rect t h w) (hh : h ≤ 1000) (hw : w ≤ 1000) : callN P (n + 1) f [] [tD t] = .ok (.list ((rngZ 0 w).map fun c => rD (colZ t c))) [] := by
  rw [run_p hP _ (by rfl)]
  unfold sb__law_columns
  have LL : LIM = 1000000 := rfl
  have hl := R.hl
  have e1 := R.row0'
  have e2 := R.wid0
  simp -implicitDefEqProofs (disch := first | rfl | omega | (simp only [List.length_append, List.length_cons, List.length_nil, List.length_reverse, List.length_map]; omega) | (simp; done) | fail) [e1, e2]
  rw [lcO_map (ys := rngZ 0 w) (enc := .int) (g := fun c => rD (colZ t c)) (by rw [rngZ_len]; omega) (by
    intro c hc
    rw [mem_rngZ] at hc
    rw [lcO_map (ys := t) (enc := rD) (g := fun r => .int (pyAt r c)) (by omega) (by
      intro r hr
      obtain ⟨e3, _⟩ := at_int (xs := r) (i := c) (by omega) (by rw [R.wl r hr]; omega)
      simp -implicitDefEqProofs (disch := first | rfl | omega | (simp only [List.length_append, List.length_cons, List.length_nil, List.length_reverse, List.length_map]; omega) | (simp; done) | fail) [-atI_nn, e3])]
    simp -implicitDefEqProofs (disch := first | rfl | omega | (simp only [List.length_append, List.length_cons, List.length_nil, List.length_reverse, List.length_map]; omega) | (simp; done) | fail) [colZ])]
  simp -implicitDefEqProofs (disch := first | rfl | omega | (simp only [List.length_append, List.length_cons, List.length_nil, List.length_reverse, List.length_map]; omega) | (simp; done) | fail)
theorem Rect.col (R : Rect t h w) (c : Int) : colZ t c = (rngZ 0 h).map fun r => atT t r c := by
  unfold colZ
  refine List.ext_getElem (by rw [List.length_map, List.length_map, rngZ_len, R.hl]; omega) fun i h1 h2 => ?_
  rw [List.length_map] at h1
  rw [List.getElem_map, List.getElem_map]
  have hi : (rngZ 0 h)[i]'(by rw [rngZ_len]; rw [R.hl] at h1; omega) = (i : Int) := by simp [rngZ]
  rw [hi]
  have er : rowT t (i : Int) = t[i] := by unfold rowT; rw [show (i : Int).toNat = i from rfl, List.getD_eq_getElem?_getD, List.getElem?_eq_getElem h1]; rfl
  unfold atT
  rw [er]
theorem Rect.rowL (R : Rect t h w) {r : Int} (h0 : 0 ≤ r) (h1 : r < h) : rowT t r = (rngZ 0 w).map fun c => atT t r c := by
  refine List.ext_getElem (by rw [List.length_map, rngZ_len, R.wid h0 h1]; omega) fun j h3 h4 => ?_
  rw [List.getElem_map]
  have hj : (rngZ 0 w)[j]'(by rw [rngZ_len]; rw [R.wid h0 h1] at h3; omega) = (j : Int) := by simp [rngZ]
  rw [hj]
  unfold atT pyAt
  rw [atI_nn (by omega), show (j : Int).toNat = j from rfl, List.getElem?_eq_getElem h3]; rfl
theorem rngZ_take {a b c : Int} (h1 : a ≤ c) (h2 : c ≤ b) : (rngZ a b).take (c - a).toNat = rngZ a c := by
  unfold rngZ
  rw [← List.map_take, List.take_range]
  congr 2
  omega
theorem rngZ_drop {a b c : Int} (h1 : a ≤ c) (h2 : c ≤ b) : (rngZ a b).drop (c - a).toNat = rngZ c b := by
  unfold rngZ
  rw [← List.map_drop]
  refine List.ext_getElem (by simp; omega) fun i h3 h4 => ?_
  simp
  omega
theorem Rect.cell' (R : Rect t h w) {r c : Int} (h0 : 0 ≤ r) (h1 : r < h) (h2 : 0 ≤ c) (h3 : c < w) : (rowT t r)[c.toNat]? = some (atT t r c) := by
  unfold atT pyAt
  rw [atI_nn h2, List.getElem?_eq_getElem (by rw [R.wid h0 h1]; omega)]; rfl
theorem Rect.row' (R : Rect t h w) {r : Int} (h0 : 0 ≤ r) (h1 : r < h) : t[r.toNat]? = some (rowT t r) := by
  have hr : r.toNat < t.length := by rw [R.hl]; omega
  unfold rowT
  rw [List.getD_eq_getElem?_getD, List.getElem?_eq_getElem hr]; rfl
theorem cut_lo {f : Int → D} {b k : Int} (h1 : 0 ≤ k) (h2 : k ≤ b) : cutL ((rngZ 0 b).map f) none (some k) = (rngZ 0 k).map f := by
  rw [cutL_take h1, ← List.map_take]
  have := rngZ_take h1 h2
  rw [show k - 0 = k by omega] at this
  rw [this]
theorem cut_hi {f : Int → D} {b k : Int} (h1 : 0 ≤ k) (h2 : k ≤ b) : cutL ((rngZ 0 b).map f) (some k) none = (rngZ k b).map f := by
  rw [cutL_drop h1, ← List.map_drop]
  have := rngZ_drop h1 h2
  rw [show k - 0 = k by omega] at this
  rw [this]
end
theorem eq_nil_cells {cs : List (Int × Int)} : cmpD .eq (.list (cs.map cD)) (.list []) = some cs.isEmpty := by
  show (if shp (.list (cs.map cD)) && shp (.list []) then some (PyData.eqv (.list (cs.map cD)) (.list [])) else none) = _
  rw [shp_cells]
  cases cs <;> rfl
@[simp] theorem setQ_d1 {kvs : List (D × D)} {k v : D} {a : Option AV} {ρ : Env} (h1 : isKey k = true) (h2 : kvs.length ≤ LIM) : setQ 1 k v (a :: some (.od kvs) :: ρ) = some (a :: some (.od (putD kvs k v)) :: ρ) := by
  show (if (isKey k && okLen kvs.length) = true then some ((a :: some (AV.od kvs) :: ρ).set 1 (some (.od (putD kvs k v)))) else none) = _
  rw [h1, okLen_t h2]; rfl
@[simp] theorem setQ_d2 {kvs : List (D × D)} {k v : D} {a b : Option AV} {ρ : Env} (h1 : isKey k = true) (h2 : kvs.length ≤ LIM) : setQ 2 k v (a :: b :: some (.od kvs) :: ρ) = some (a :: b :: some (.od (putD kvs k v)) :: ρ) := by
  show (if (isKey k && okLen kvs.length) = true then some ((a :: b :: some (AV.od kvs) :: ρ).set 2 (some (.od (putD kvs k v)))) else none) = _
  rw [h1, okLen_t h2]; rfl
@[simp] theorem frz1 {kvs : List (D × D)} {a : Option AV} {ρ : Env} : frz (a :: some (.od kvs) :: ρ) 1 = a :: some (.d (.dict kvs)) :: ρ := rfl
@[simp] theorem frz2 {kvs : List (D × D)} {a b : Option AV} {ρ : Env} : frz (a :: b :: some (.od kvs) :: ρ) 2 = a :: b :: some (.d (.dict kvs)) :: ρ := rfl
theorem tab_map {h w : Int} {g : Int × Int → Int} : tD ((rngZ 0 h).map fun r => (rngZ 0 w).map fun c => g (r, c)) = .tuple ((rngZ 0 h).map fun r => .tuple ((rngZ 0 w).map fun c => .int (g (r, c)))) := by
  show PyData.tuple (((rngZ 0 h).map fun r => (rngZ 0 w).map fun c => g (r, c)).map rD) = _
  rw [List.map_map]
  congr 1
  refine List.map_congr_left fun r _ => ?_
  show PyData.tuple (((rngZ 0 w).map fun c => g (r, c)).map .int) = _
  rw [List.map_map]; rfl
theorem kvC_len {cs : List (Int × Int)} {f : Int × Int → D} : (kvC cs f).length = cs.length := List.length_map _
/-- a cell of cells is new -/
theorem cells_new {h w : Nat} {us zs : List (Int × Int)} {z : Int × Int} (e : cellsZ h w = us ++ z :: zs) : z ∉ us ∧ us.length + 1 ≤ h * w := by
  have n := cellsZ_nodup h w
  have l := cellsZ_len h w
  rw [e] at n l
  rw [List.nodup_append] at n
  refine ⟨fun hz => n.2.2 z hz z (by simp) rfl, ?_⟩
  rw [List.length_append, List.length_cons] at l
  omega
end G

set_option Elab.async false
set_option linter.all false
set_option maxRecDepth 100000
set_option maxHeartbeats 4000000
set_option autoImplicit false
/-! H14: sorted rows, then sorted columns. -/
namespace G
open PySem
def leZ (a b : Int) : Bool := decide (a ≤ b)
def sortZ (xs : List Int) : List Int := xs.mergeSort leZ
theorem sortD_z {xs : List Int} (hl : xs.length ≤ LIM) : sortD (xs.map PyData.int) = some ((sortZ xs).map .int) := by
  have hs : soB (xs.map PyData.int) = true := by
    unfold soB
    rw [Bool.or_eq_true]
    right
    rw [List.all_eq_true]
    intro x hx
    obtain ⟨i, _, rfl⟩ := List.mem_map.mp hx
    rfl
  unfold sortD
  rw [alB_ints, hs, okLen_t (by rw [List.length_map]; exact hl)]
  show some _ = some _
  congr 1
  unfold sortZ
  refine (List.map_mergeSort fun a _ b _ => ?_).symm
  rw [PySem.W.dataLe_eq]
  show decide (a ≤ b) = !PySem.W.dataLt (.int b) (.int a)
  rw [PySem.W.dataLt_int, Bool.eq_iff_iff]
  simp
theorem sorted_t {xs : List Int} (hl : xs.length ≤ LIM) : biD .sorted [.tuple (xs.map .int)] = some (.list ((sortZ xs).map .int)) := by
  show ((sortD (xs.map PyData.int)).map PyData.list) = _
  rw [sortD_z hl]; rfl
theorem sorted_l {xs : List Int} (hl : xs.length ≤ LIM) : biD .sorted [.list (xs.map .int)] = some (.list ((sortZ xs).map .int)) := by
  show ((sortD (xs.map PyData.int)).map PyData.list) = _
  rw [sortD_z hl]; rfl
def Srt (xs : List Int) : Prop := xs.Pairwise (· ≤ ·)
theorem sort_len (xs : List Int) : (sortZ xs).length = xs.length := List.length_mergeSort _
theorem sort_perm (xs : List Int) : (sortZ xs).Perm xs := List.mergeSort_perm _ _
theorem sort_srt (xs : List Int) : Srt (sortZ xs) := by
  refine (List.pairwise_mergeSort (le := leZ) ?_ ?_ xs).imp fun {a b} h => by simpa [leZ] using h
  · intro a b c h1 h2; simp only [leZ, decide_eq_true_eq] at *; omega
  · intro a b; simp only [leZ, Bool.or_eq_true, decide_eq_true_eq]; omega
theorem srt_eq {xs ys : List Int} (h1 : Srt xs) (h2 : Srt ys) (p : xs.Perm ys) : xs = ys := p.eq_of_pairwise (fun _ _ _ _ a b => Int.le_antisymm a b) h1 h2
theorem sort_of {xs : List Int} (h : Srt xs) : sortZ xs = xs := srt_eq (sort_srt xs) h (sort_perm xs)
theorem sort_sort (xs : List Int) : sortZ (sortZ xs) = sortZ xs := sort_of (sort_srt xs)
/-! pointwise -/
inductive Ple : List Int → List Int → Prop
  | nil : Ple [] []
  | cons {a b : Int} {as bs : List Int} : a ≤ b → Ple as bs → Ple (a :: as) (b :: bs)
def insZ (x : Int) : List Int → List Int
  | [] => [x]
  | a :: as => if x ≤ a then x :: a :: as else a :: insZ x as
theorem ins_perm (x : Int) : ∀ l : List Int, (insZ x l).Perm (x :: l)
  | [] => .refl _
  | a :: as => by
    unfold insZ
    split
    · exact .refl _
    · exact ((ins_perm x as).cons a).trans (.swap x a as)
theorem ins_srt {x : Int} : ∀ {l : List Int}, Srt l → Srt (insZ x l)
  | [], _ => List.pairwise_singleton _ _
  | a :: as, h => by
    have h' := List.pairwise_cons.mp h
    unfold insZ
    split
    · rename_i c
      refine List.pairwise_cons.mpr ⟨fun y hy => ?_, h⟩
      rcases List.mem_cons.mp hy with rfl | hy
      · exact c
      · have := h'.1 y hy; omega
    · rename_i c
      refine List.pairwise_cons.mpr ⟨fun y hy => ?_, ins_srt h'.2⟩
      rcases List.mem_cons.mp ((ins_perm x as).mem_iff.mp hy) with rfl | hy
      · omega
      · exact h'.1 y hy
def isortZ : List Int → List Int
  | [] => []
  | a :: as => insZ a (isortZ as)
theorem isort_perm : ∀ l : List Int, (isortZ l).Perm l
  | [] => .refl _
  | a :: as => (ins_perm a _).trans ((isort_perm as).cons a)
theorem isort_srt : ∀ l : List Int, Srt (isortZ l)
  | [] => List.Pairwise.nil
  | a :: as => ins_srt (isort_srt as)
theorem sort_isort (l : List Int) : sortZ l = isortZ l := srt_eq (sort_srt l) (isort_srt l) ((sort_perm l).trans (isort_perm l).symm)
theorem ple_r {y : Int} : ∀ {as bs : List Int} {a : Int}, Ple as bs → Srt (a :: as) → a ≤ y → Ple (a :: as) (insZ y bs)
  | _, _, a, .nil, _, hy => .cons hy .nil
  | _, _, a, .cons (a := a1) (b := b1) h1 h2, hs, hy => by
    have hs' := List.pairwise_cons.mp hs
    unfold insZ
    split
    · exact .cons hy (.cons h1 h2)
    · have := hs'.1 a1 (by simp)
      exact .cons (by omega) (ple_r h2 hs'.2 (by omega))
theorem ple_l {x : Int} : ∀ {as bs : List Int} {b : Int}, Ple as bs → Srt (b :: bs) → x ≤ b → Ple (insZ x as) (b :: bs)
  | _, _, b, .nil, _, hy => .cons hy .nil
  | _, _, b, .cons (a := a1) (b := b1) h1 h2, hs, hy => by
    have hs' := List.pairwise_cons.mp hs
    unfold insZ
    split
    · exact .cons hy (.cons h1 h2)
    · have := hs'.1 b1 (by simp)
      exact .cons (by omega) (ple_l h2 hs'.2 (by omega))
theorem ple_ins {x y : Int} (h : x ≤ y) : ∀ {as bs : List Int}, Ple as bs → Srt as → Srt bs → Ple (insZ x as) (insZ y bs)
  | _, _, .nil, _, _ => .cons h .nil
  | _, _, .cons (a := a1) (b := b1) h1 h2, ha, hb => by
    unfold insZ
    split
    · split
      · exact .cons h (.cons h1 h2)
      · exact .cons (by omega) (ple_r h2 ha (by omega))
    · split
      · exact .cons (by omega) (ple_l h2 hb (by omega))
      · exact .cons h1 (ple_ins h h2 (List.pairwise_cons.mp ha).2 (List.pairwise_cons.mp hb).2)
theorem ple_isort : ∀ {as bs : List Int}, Ple as bs → Ple (isortZ as) (isortZ bs)
  | _, _, .nil => .nil
  | _, _, .cons h1 h2 => ple_ins h1 (ple_isort h2) (isort_srt _) (isort_srt _)
theorem ple_get : ∀ {as bs : List Int}, Ple as bs → ∀ n : Nat, (as[n]?).getD 0 ≤ (bs[n]?).getD 0
  | _, _, .nil, n => by simp
  | _, _, .cons h1 h2, 0 => by simpa using h1
  | _, _, .cons h1 h2, n + 1 => by simpa using ple_get h2 n
theorem ple_map {α : Type} {f g : α → Int} : ∀ {l : List α}, (∀ x ∈ l, f x ≤ g x) → Ple (l.map f) (l.map g)
  | [], _ => .nil
  | x :: l, h => .cons (h x (by simp)) (ple_map fun y hy => h y (by simp [hy]))
/-! a table by rows, then by columns -/
theorem pyAt_nn {xs : List Int} {i : Int} (h : 0 ≤ i) : pyAt xs i = (xs[i.toNat]?).getD 0 := by unfold pyAt; rw [atI_nn h]
theorem list_at (xs : List Int) {n : Nat} (h : xs.length = n) : xs = (rngZ 0 n).map (pyAt xs) := by
  subst h
  refine List.ext_getElem (by rw [List.length_map, rngZ_len]; omega) fun j h3 h4 => ?_
  rw [List.getElem_map]
  have hj : (rngZ 0 xs.length)[j]'(by rw [rngZ_len]; omega) = (j : Int) := by simp [rngZ]
  rw [hj, pyAt_nn (by omega), show (j : Int).toNat = j from rfl, List.getElem?_eq_getElem h3]; rfl
def onceZ (t : List (List Int)) (h w : Nat) : List (List Int) := (rngZ 0 h).map fun r => (rngZ 0 w).map fun c => pyAt (sortZ (colZ (t.map sortZ) c)) r
theorem rng_rect {h w : Nat} (hp : 1 ≤ h) (wp : 1 ≤ w) (g : Int → Int → Int) : Rect ((rngZ 0 h).map fun r => (rngZ 0 w).map fun c => g r c) h w :=
  ⟨by rw [List.length_map, rngZ_len]; omega, fun r hr => by obtain ⟨k, _, rfl⟩ := List.mem_map.mp hr; rw [List.length_map, rngZ_len]; omega, hp, wp⟩
theorem rng_get {α : Type} {f : Int → α} {n : Nat} {i : Int} (h0 : 0 ≤ i) (h1 : i < n) : ((rngZ 0 n).map f)[i.toNat]? = some (f i) := by
  rw [rngZ_nat, List.getElem?_map, List.getElem?_map, List.getElem?_range (by omega)]
  show some (f (i.toNat : Int)) = _
  rw [show (i.toNat : Int) = i by omega]
theorem rng_at {h w : Nat} {g : Int → Int → Int} {r c : Int} (h0 : 0 ≤ r) (h1 : r < h) (h2 : 0 ≤ c) (h3 : c < w) : atT ((rngZ 0 h).map fun r => (rngZ 0 w).map fun c => g r c) r c = g r c := by
  unfold atT rowT
  rw [List.getD_eq_getElem?_getD, rng_get h0 h1, Option.getD_some, pyAt_nn h2, rng_get h2 h3]; rfl
section
variable {t : List (List Int)} {h w : Nat}
theorem Rect.sort (R : Rect t h w) : Rect (t.map sortZ) h w := ⟨by rw [List.length_map, R.hl], fun r hr => by obtain ⟨x, hx, rfl⟩ := List.mem_map.mp hr; rw [sort_len, R.wl x hx], R.hp, R.wp⟩
theorem Rect.once (R : Rect t h w) : Rect (onceZ t h w) h w := rng_rect R.hp R.wp _
theorem col_len (R : Rect t h w) (c : Int) : (colZ t c).length = h := by unfold colZ; rw [List.length_map, R.hl]
theorem once_col (R : Rect t h w) {c : Int} (h2 : 0 ≤ c) (h3 : c < w) : colZ (onceZ t h w) c = sortZ (colZ (t.map sortZ) c) := by
  rw [R.once.col, list_at (sortZ (colZ (t.map sortZ) c)) (by rw [sort_len, col_len R.sort])]
  refine List.map_congr_left fun r hr => ?_
  rw [mem_rngZ] at hr
  unfold onceZ
  rw [rng_at hr.1 hr.2 h2 h3]
theorem rngZ_lt (a b : Int) : (rngZ a b).Pairwise (· < ·) := by
  unfold rngZ
  refine List.Pairwise.map _ ?_ List.pairwise_lt_range
  intro x y h; omega
theorem once_rows (R : Rect t h w) : (onceZ t h w).map sortZ = onceZ t h w := by
  conv => rhs; rw [← List.map_id (onceZ t h w)]
  refine List.map_congr_left fun row hrow => ?_
  obtain ⟨r, hr, rfl⟩ := List.mem_map.mp hrow
  rw [mem_rngZ] at hr
  refine sort_of ?_
  unfold Srt
  rw [List.pairwise_map]
  refine (rngZ_lt 0 w).imp_of_mem fun {c c'} hc hc' hlt => ?_
  rw [mem_rngZ] at hc hc'
  rw [pyAt_nn hr.1, pyAt_nn hr.1, sort_isort, sort_isort]
  refine ple_get (ple_isort (ple_map fun row hrow => ?_)) _
  have lw := R.sort.wl row hrow
  obtain ⟨x, _, rfl⟩ := List.mem_map.mp hrow
  have := List.pairwise_iff_getElem.mp (sort_srt x) c.toNat c'.toNat (by omega) (by omega) (by omega)
  rw [pyAt_nn hc.1, pyAt_nn hc'.1, List.getElem?_eq_getElem (by omega), List.getElem?_eq_getElem (by omega)]
  exact this
theorem once_once (R : Rect t h w) : onceZ (onceZ t h w) h w = onceZ t h w := by
  show (rngZ 0 h).map _ = (rngZ 0 h).map _
  refine List.map_congr_left fun r hr => List.map_congr_left fun c hc => ?_
  rw [mem_rngZ] at hc
  rw [once_rows R, once_col R hc.1 hc.2, sort_sort]
end
theorem eqv_rows : ∀ a b : List (List Int), PyData.eqvAll (a.map rD) (b.map rD) = decide (a = b)
  | [], [] => by rw [List.map_nil, PyData.eqvAll]; rfl
  | [], y :: ys => by rw [List.map_nil, List.map_cons, PyData.eqvAll]; rfl; all_goals simp
  | x :: xs, [] => by rw [List.map_nil, List.map_cons, PyData.eqvAll]; rfl; all_goals simp
  | x :: xs, y :: ys => by
    rw [List.map_cons, List.map_cons, PyData.eqvAll, eqv_rows xs ys]
    have : PyData.eqv (rD x) (rD y) = decide (x = y) := by rw [rD, rD, PyData.eqv, eqv_ints]
    rw [this, Bool.eq_iff_iff]
    simp
theorem eq_tab {a b : List (List Int)} : cmpD .eq (tD a) (tD b) = some (decide (a = b)) := by
  show (if shp (tD a) && shp (tD b) then some (PyData.eqv (tD a) (tD b)) else none) = _
  rw [shp_tab, shp_tab, tD, tD, PyData.eqv, eqv_rows]; rfl
theorem ne_tab {a b : List (List Int)} : cmpD .ne (tD a) (tD b) = some (!decide (a = b)) := by
  show (if shp (tD a) && shp (tD b) then some (!PyData.eqv (tD a) (tD b)) else none) = _
  rw [shp_tab, shp_tab, tD, tD, PyData.eqv, eqv_rows]; rfl
end G

set_option Elab.async false
set_option linter.all false
set_option maxRecDepth 100000
set_option maxHeartbeats 0
set_option autoImplicit false
namespace G
namespace K68
open PySem PySem.Spec PyProof.Rows L2
abbrev top (i : Nat) : Stmt := PySem.Challenge.pw_gridwhole_k68_sorted_tables.main.body.getD i (.Pass ⟨0, 0, 0, 0⟩)
def b_is_whole : List S := [.ret (.and (.bi .isInt [(.var 0)]) (.nt (.bi .isBool [(.var 0)])))]
def d_is_whole : DT := ⟨"is_whole", top 5, ["value"], ["value"], ⟨[], []⟩, ⟨1, false, 1, b_is_whole⟩⟩
def b_is_told : List S := [.ift (.or (.nt (.bi .isTuple [(.var 0)])) (.cmp .ne (.bi .len [(.var 0)]) (.var 2))) [.ret (.bl false)] [], .ret (.and (.bi .isStr [(.idx (.var 0) (.int 0))]) (.cmp .eq (.idx (.var 0) (.int 0)) (.var 1)))]
def d_is_told : DT := ⟨"is_told", top 6, ["told", "word", "count"], ["told", "word", "count"], ⟨[], []⟩, ⟨3, false, 3, b_is_told⟩⟩
def b_check_table : List S := [
  .setv (.n 3) (.bi .len [(.idx (.var 0) (.int 0))]),
  .ift (.or (.cmp .eq (.var 3) (.int 0)) (.cmp .isin (.bl true) (.lc (.cmp .ne (.bi .len [(.var 4)]) (.var 3)) [4] (.n 4) (.e (.var 0)) none))) [.raise .unfit] [],
  .ift (.cmp .isin (.bl true) (.lc2 (.nt (.chain .le .le (.var 1) (.var 5) (.var 2))) [4, 5] (.n 4) (.e (.var 0)) [5] (.n 5) (.e (.var 4)) none)) [.raise .unfit] [],
  .ift (.cmp .gt (.bin .mul (.bi .len [(.var 0)]) (.var 3)) (.int 64)) [.raise .wide] [],
  .ret (.tup [(.bi .len [(.var 0)]), (.var 3)])]
def d_check_table : DT := ⟨"check_table", top 8, ["rows", "low", "high", "width", "row", "number"], ["rows", "low", "high"], ⟨[], []⟩, ⟨3, false, 6, b_check_table⟩⟩
def l0_sorted_table : List S := [.setv (.n 3) (.bi .tuple [(.lc (.bi .tuple [(.bi .sorted [(.var 5)])]) [5] (.n 5) (.e (.var 1)) none)]), .setv (.n 4) (.lc (.bi .sorted [(.lc (.idx (.var 5) (.var 6)) [5] (.n 5) (.e (.var 3)) none)]) [6] (.n 6) (.r1 (.bi .len [(.idx (.var 1) (.int 0))])) none), .setv (.n 3) (.bi .tuple [(.lc (.bi .tuple [(.lc (.idx (.var 7) (.var 5)) [7] (.n 7) (.e (.var 4)) none)]) [5] (.n 5) (.r1 (.bi .len [(.var 1)])) none)]), .ift (.cmp .eq (.var 3) (.var 1)) [.ret (.tup [(.str (Str.ofString "rows")), (.var 1), (.var 2)])] [], .setv (.n 1) (.var 3), .aug 2 .add (.int 1)]
def b_sorted_table : List S := [.expr (.call 2 [(.var 0), (.neg (.int 1000)), (.int 1000)]), .setv (.n 1) (.bi .tuple [(.lc (.bi .tuple [(.var 5)]) [5] (.n 5) (.e (.var 0)) none)]), .setv (.n 2) (.int 0), .whl (.bl true) l0_sorted_table]
def d_sorted_table : DT := ⟨"sorted_table", top 10, ["rows", "now", "steps", "later", "columns", "row", "at", "column"], ["rows"], ⟨[], []⟩, ⟨1, false, 8, b_sorted_table⟩⟩
def b_judge_sorted_table : List S := [.setv (.n 2) (.call 3 [(.var 0)]), .ift (.or (.nt (.call 1 [(.var 1), (.str (Str.ofString "rows")), (.int 3)])) (.or (.nt (.bi .isTuple [(.idx (.var 1) (.int 1))])) (.nt (.call 0 [(.idx (.var 1) (.int 2))])))) [.ret (.bl false)] [], .ret (.cmp .eq (.bi .repr [(.var 1)]) (.bi .repr [(.var 2)]))]
def d_judge_sorted_table : DT := ⟨"judge_sorted_table", top 11, ["rows", "told", "due"], ["rows", "told"], ⟨[], []⟩, ⟨2, false, 3, b_judge_sorted_table⟩⟩
def l0_found_in : List S := [.setv (.n 5) (.ife (.cmp .gt (.var 4) (.int 0)) (.idx (.var 0) (.bin .sub (.var 4) (.int 1))) (.idx (.var 0) (.var 4))), .ift (.or (.cmp .ne (.bi .list [(.idx (.var 0) (.var 4))]) (.bi .sorted [(.idx (.var 0) (.var 4))])) (.cmp .isin (.bl true) (.lc (.cmp .gt (.var 11) (.var 12)) [11, 12] (.t [(.n 11), (.n 12)]) (.zip (.var 5) (.idx (.var 0) (.var 4))) none))) [.raise .unfit] []]
def l1_found_in : List S := [.app 6 (.tup [(.var 4), (.var 7)]), .ift (.cmp .eq (.idx (.idx (.var 0) (.var 4)) (.var 7)) (.var 1)) [.brk] [], .ift (.cmp .lt (.idx (.idx (.var 0) (.var 4)) (.var 7)) (.var 1)) [.aug 4 .add (.int 1)] [.aug 7 .sub (.int 1)]]
def b_found_in : List S := [
  .setv (.t [(.n 2), (.n 3)]) (.call 2 [(.var 0), (.neg (.int 1000)), (.int 1000)]),
  .fr (.n 4) (.r1 (.var 2)) l0_found_in,
  .seto 6 (.lst []),
  .par [(4, false), (7, false)] [(.int 0), (.bin .sub (.var 3) (.int 1))],
  .whl (.and (.cmp .lt (.var 4) (.var 2)) (.cmp .ge (.var 7) (.int 0))) l1_found_in,
  .setv (.n 8) (.lc2 (.tup [(.var 9), (.var 10)]) [9, 10] (.n 9) (.r1 (.var 2)) [10] (.n 10) (.r1 (.var 3)) (some (.cmp .eq (.idx (.idx (.var 0) (.var 9)) (.var 10)) (.var 1)))),
  .ret (.tup [(.str (Str.ofString "cells")), (.bi .tuple [(.var 8)]), (.bi .tuple [(.bor 6)])])]
def d_found_in : DT := ⟨"found_in", top 12, ["rows", "number", "height", "width", "row", "above", "steps", "column", "cells", "line", "at", "one", "other"], ["rows", "number"], ⟨[], [6]⟩, ⟨2, false, 13, b_found_in⟩⟩
def b_judge_found_in : List S := [.setv (.n 3) (.call 5 [(.var 0), (.var 1)]), .ret (.and (.call 1 [(.var 2), (.str (Str.ofString "cells")), (.int 3)]) (.and (.bi .isTuple [(.idx (.var 2) (.int 1))]) (.cmp .eq (.bi .repr [(.var 2)]) (.bi .repr [(.var 3)]))))]
def d_judge_found_in : DT := ⟨"judge_found_in", top 13, ["rows", "number", "told", "due"], ["rows", "number", "told"], ⟨[], []⟩, ⟨3, false, 4, b_judge_found_in⟩⟩
def b__law_next : List S := [
  .ift (.and (.cmp .eq (.idx (.bor 0) (.int 2)) (.int 0)) (.cmp .lt (.idx (.bor 0) (.int 1)) (.bi .len [(.idx (.bor 0) (.int 0))]))) [.setv (.n 2) (.idx (.idx (.bor 0) (.int 0)) (.idx (.bor 0) (.int 1))), .augx 0 (.int 1) .add (.int 1), .ift (.cmp .ge (.var 2) (.bin .pow (.int 10) (.int 18))) [.setx 0 (.int 2) (.var 2)] [.setx 0 (.int 3) (.bin .mod (.bi .int [(.bin .add (.bin .add (.bin .mul (.idx (.bor 0) (.int 3)) (.int 48271)) (.bin .mod (.bi .int [(.var 2)]) (.int 2147483647))) (.int 7))]) (.int 2147483647))]] [],
  .ift (.cmp .gt (.idx (.bor 0) (.int 2)) (.int 0)) [.setv (.n 3) (.bin .mod (.bi .int [(.idx (.bor 0) (.int 2))]) (.var 1)), .setx 0 (.int 2) (.bin .fdiv (.idx (.bor 0) (.int 2)) (.var 1)), .ret (.var 3)] [],
  .setx 0 (.int 3) (.bin .mod (.bi .int [(.bin .add (.bin .mul (.idx (.bor 0) (.int 3)) (.int 69621)) (.int 12345))]) (.int 2147483647)),
  .ret (.bin .mod (.bi .int [(.bin .fdiv (.idx (.bor 0) (.int 3)) (.int 7))]) (.var 1))]
def d__law_next : DT := ⟨"_law_next", top 15, ["state", "limit", "cell", "value"], ["state", "limit"], ⟨[0], [0]⟩, ⟨2, true, 4, b__law_next⟩⟩
def l0__law_same : List S := [.ift (.nt (.call 8 [(.idx (.var 0) (.var 2)), (.idx (.var 1) (.var 2))])) [.ret (.bl false)] []]
def b__law_same : List S := [
  .ift (.isNon false (.var 1)) [.ret (.isNon false (.var 0))] [],
  .ift (.bi .isBool [(.var 1)]) [.ret (.and (.bi .isBool [(.var 0)]) (.cmp .eq (.var 0) (.var 1)))] [],
  .ift (.bi .isInt [(.var 1)]) [.ret (.and (.bi .isInt [(.var 0)]) (.and (.nt (.bi .isBool [(.var 0)])) (.cmp .eq (.var 0) (.var 1))))] [],
  .ift (.bi .isStr [(.var 1)]) [.ret (.and (.bi .isStr [(.var 0)]) (.cmp .eq (.var 0) (.var 1)))] [],
  .ift (.and (.bi .isTuple [(.var 1)]) (.nt (.bi .isTuple [(.var 0)]))) [.ret (.bl false)] [],
  .ift (.and (.bi .isList [(.var 1)]) (.nt (.bi .isList [(.var 0)]))) [.ret (.bl false)] [],
  .ift (.cmp .ne (.bi .len [(.var 0)]) (.bi .len [(.var 1)])) [.ret (.bl false)] [],
  .fr (.n 2) (.r1 (.bi .len [(.var 1)])) l0__law_same,
  .ret (.bl true)]
def d__law_same : DT := ⟨"_law_same", top 16, ["actual", "expected", "k"], ["actual", "expected"], ⟨[], []⟩, ⟨2, false, 3, b__law_same⟩⟩
def b__law_changed : List S := [
  .ift (.bi .isBool [(.var 1)]) [.ret (.idx (.lst [(.nt (.var 1)), (.bi .int [(.var 1)])]) (.callS 7 0 [(.int 2)]))] [],
  .ift (.or (.isNon false (.var 1)) (.bi .isInt [(.var 1)])) [.ret (.idx (.lst [(.bin .add (.or (.var 1) (.int 0)) (.int 1)), (.bin .sub (.or (.var 1) (.int 0)) (.int 1)), (.int 0), (.non), (.cmp .eq (.var 1) (.int 1)), (.bi .str [(.var 1)]), (.bin .mul (.int 2) (.or (.var 1) (.int 1)))]) (.callS 7 0 [(.int 7)]))] [],
  .ift (.bi .isStr [(.var 1)]) [.setv (.n 2) (.lst [(.slc (.var 1) (some (.int 1)) none), (.bin .add (.var 1) (.str (Str.ofString "a"))), (.rev (.var 1)), (.bin .add (.str (Str.ofString "b")) (.var 1)), (.str (Str.ofString "")), (.slc (.var 1) none (some (.neg (.int 1)))), (.str (Str.ofString "left")), (.int 3), (.str (Str.ofString "in"))]), .ret (.idx (.var 2) (.callS 7 0 [(.bi .len [(.var 2)])]))] [],
  .ift (.and (.bi .isTuple [(.var 1)]) (.and (.cmp .ne (.var 1) (.tup [])) (.cmp .gt (.callS 7 0 [(.int 4)]) (.int 0)))) [.setv (.n 3) (.callS 7 0 [(.bi .len [(.var 1)])]), .ret (.bin .add (.bin .add (.slc (.var 1) none (some (.var 3))) (.tup [(.callS 9 0 [(.idx (.var 1) (.var 3))])])) (.slc (.var 1) (some (.bin .add (.var 3) (.int 1))) none))] [],
  .ift (.nt (.bi .isTuple [(.var 1)])) [.ret (.tup [])] [],
  .setv (.n 3) (.callS 7 0 [(.bin .add (.bi .len [(.var 1)]) (.int 1))]),
  .setv (.n 4) (.callS 7 0 [(.bin .add (.bi .len [(.var 1)]) (.int 1))]),
  .setv (.n 5) (.lst [(.bin .add (.slc (.var 1) none (some (.var 3))) (.slc (.var 1) (some (.bin .add (.var 3) (.int 1))) none)), (.bin .add (.var 1) (.slc (.var 1) none (some (.int 1)))), (.rev (.var 1)), (.bin .add (.slc (.var 1) (some (.var 3)) none) (.slc (.var 1) none (some (.var 3)))), (.bi .list [(.var 1)]), (.slc (.var 1) none (some (.var 3))), (.tup []), (.bin .add (.var 1) (.tup [(.int 0)]))]),
  .ift (.chain .lt .lt (.var 3) (.var 4) (.bi .len [(.var 1)])) [.setv (.n 5) (.bin .add (.var 5) (.lc (.bin .add (.bin .add (.bin .add (.bin .add (.slc (.var 1) none (some (.var 3))) (.slc (.var 1) (some (.var 4)) (some (.bin .add (.var 4) (.int 1))))) (.slc (.var 1) (some (.bin .add (.var 3) (.int 1))) (some (.var 4)))) (.slc (.var 1) (some (.var 3)) (some (.bin .add (.var 3) (.int 1))))) (.slc (.var 1) (some (.bin .add (.var 4) (.int 1))) none)) [6] (.n 6) (.r1 (.int 3)) none))] [],
  .ret (.idx (.var 5) (.callS 7 0 [(.bi .len [(.var 5)])]))]
def d__law_changed : DT := ⟨"_law_changed", top 17, ["state", "value", "others", "k", "j", "more", "turn"], ["state", "value"], ⟨[0], [0]⟩, ⟨2, true, 7, b__law_changed⟩⟩
def l0__law_ints : List S := [.setv (.n 1) (.bin .add (.var 1) (.lc (.var 3) [3] (.n 3) (.e (.call 10 [(.var 2)])) (some (.cmp .notin (.var 3) (.var 1)))))]
def b__law_ints : List S := [.ift (.or (.bi .isBool [(.var 0)]) (.nt (.bi .isIntTup [(.var 0)]))) [.ret (.lst [])] [], .ift (.bi .isInt [(.var 0)]) [.ret (.lst [(.var 0)])] [], .setv (.n 1) (.lst []), .fr (.n 2) (.e (.var 0)) l0__law_ints, .ret (.var 1)]
def d__law_ints : DT := ⟨"_law_ints", top 18, ["value", "found", "part", "number"], ["value"], ⟨[], []⟩, ⟨1, false, 4, b__law_ints⟩⟩
def b__law_exchanged : List S := [.ift (.or (.bi .isBool [(.var 0)]) (.nt (.bi .isIntTup [(.var 0)]))) [.ret (.var 0)] [], .ift (.bi .isInt [(.var 0)]) [.ret (.ife (.cmp .eq (.var 0) (.var 1)) (.var 2) (.ife (.cmp .eq (.var 0) (.var 2)) (.var 1) (.var 0)))] [], .ret (.bi .tuple [(.lc (.call 11 [(.var 3), (.var 1), (.var 2)]) [3] (.n 3) (.e (.var 0)) none)])]
def d__law_exchanged : DT := ⟨"_law_exchanged", top 19, ["value", "one", "other", "part"], ["value", "one", "other"], ⟨[], []⟩, ⟨3, false, 4, b__law_exchanged⟩⟩
def b__law_cut : List S := [
  .ift (.or (.nt (.bi .isTuple [(.var 1)])) (.cmp .eq (.var 1) (.tup []))) [.ret (.var 1)] [],
  .ift (.cmp .ne (.lc (.var 5) [5] (.n 5) (.e (.var 1)) (some (.nt (.bi .isStr [(.var 5)])))) (.lst [])) [.setv (.n 2) (.callS 7 0 [(.bi .len [(.var 1)])]), .ret (.bin .add (.bin .add (.slc (.var 1) none (some (.var 2))) (.tup [(.callS 12 0 [(.idx (.var 1) (.var 2))])])) (.slc (.var 1) (some (.bin .add (.var 2) (.int 1))) none))] [],
  .setv (.n 2) (.callS 7 0 [(.bi .len [(.var 1)])]),
  .setv (.n 3) (.callS 7 0 [(.bin .add (.bi .len [(.idx (.var 1) (.var 2))]) (.int 1))]),
  .setv (.n 4) (.lst [(.bin .add (.bin .add (.slc (.var 1) none (some (.var 2))) (.tup [(.slc (.idx (.var 1) (.var 2)) none (some (.var 3))), (.slc (.idx (.var 1) (.var 2)) (some (.var 3)) none)])) (.slc (.var 1) (some (.bin .add (.var 2) (.int 1))) none)), (.bin .add (.bin .add (.slc (.var 1) none (some (.var 2))) (.tup [(.bi .join [(.slc (.var 1) (some (.var 2)) (some (.bin .add (.var 2) (.int 2))))])])) (.slc (.var 1) (some (.bin .add (.var 2) (.int 2))) none))]),
  .setv (.n 4) (.bin .add (.var 4) (.lst [(.tup [(.bi .join [(.var 1)])]), (.bi .tuple [(.bi .join [(.var 1)])]), (.bin .add (.bin .add (.slc (.var 1) none (some (.var 2))) (.tup [(.str (Str.ofString ""))])) (.slc (.var 1) (some (.var 2)) none)), (.bin .add (.bin .add (.slc (.var 1) none (some (.var 2))) (.rev (.slc (.var 1) (some (.var 2)) (some (.bin .add (.var 2) (.int 2)))))) (.slc (.var 1) (some (.bin .add (.var 2) (.int 2))) none))])),
  .ret (.idx (.var 4) (.callS 7 0 [(.bi .len [(.var 4)])]))]
def d__law_cut : DT := ⟨"_law_cut", top 20, ["state", "value", "k", "at", "ways", "part"], ["state", "value"], ⟨[0], [0]⟩, ⟨2, true, 6, b__law_cut⟩⟩
def b__law_turned_about : List S := [
  .setv (.n 2) (.call 10 [(.var 1)]),
  .setv (.n 3) (.callS 7 0 [(.int 5)]),
  .ift (.and (.cmp .lt (.var 3) (.int 3)) (.cmp .ne (.var 2) (.lst []))) [.setv (.n 4) (.idx (.var 2) (.callS 7 0 [(.bi .len [(.var 2)])])), .setv (.n 5) (.ife (.cmp .eq (.var 3) (.int 0)) (.bin .add (.var 4) (.int 1)) (.idx (.var 2) (.callS 7 0 [(.bi .len [(.var 2)])]))), .ret (.call 11 [(.var 1), (.var 4), (.var 5)])] [],
  .ift (.cmp .eq (.var 3) (.int 3)) [.ret (.bin .add (.slc (.var 1) none (some (.int 1))) (.ife (.cmp .gt (.bi .len [(.var 1)]) (.int 2)) (.callS 12 0 [(.slc (.var 1) (some (.int 1)) none)]) (.bi .tuple [(.lc (.callS 12 0 [(.var 8)]) [8] (.n 8) (.e (.slc (.var 1) (some (.int 1)) none)) none)])))] [],
  .par [(6, false), (7, false)] [(.callS 7 0 [(.bi .len [(.var 1)])]), (.callS 7 0 [(.bi .len [(.var 1)])])],
  .ift (.and (.cmp .eq (.bi .len [(.var 1)]) (.int 2)) (.and (.bi .isTuple [(.idx (.var 1) (.int 1))]) (.cmp .ne (.idx (.var 1) (.int 1)) (.tup [])))) [.par [(6, false), (7, false)] [(.callS 7 0 [(.bi .len [(.idx (.var 1) (.int 1))])]), (.callS 7 0 [(.bi .len [(.idx (.var 1) (.int 1))])])], .ret (.tup [(.idx (.var 1) (.int 0)), (.bin .add (.bin .add (.slc (.idx (.var 1) (.int 1)) none (some (.var 6))) (.slc (.idx (.var 1) (.int 1)) (some (.var 7)) (some (.bin .add (.var 7) (.int 1))))) (.slc (.idx (.var 1) (.int 1)) (some (.bin .add (.var 6) (.int 1))) none))])] [],
  .ret (.ife (.and (.cmp .gt (.var 6) (.int 0)) (.cmp .gt (.var 7) (.int 0))) (.bin .add (.bin .add (.slc (.var 1) none (some (.var 6))) (.slc (.var 1) (some (.var 7)) (some (.bin .add (.var 7) (.int 1))))) (.slc (.var 1) (some (.bin .add (.var 6) (.int 1))) none)) (.var 1))]
def d__law_turned_about : DT := ⟨"_law_turned_about", top 21, ["state", "told", "numbers", "pick", "one", "other", "k", "j", "part"], ["state", "told"], ⟨[0], [0]⟩, ⟨2, true, 9, b__law_turned_about⟩⟩
def b__law_odd : List S := [
  .setv (.n 2) (.lst [(.non), (.str (Str.ofString "")), (.str (Str.ofString "yes")), (.dict0), (.tup []), (.slc (.var 1) none (some (.int 1))), (.bi .list [(.var 1)]), (.bin .add (.var 1) (.tup [(.int 0)])), (.bin .add (.tup [(.lst [(.idx (.var 1) (.int 0))])]) (.slc (.var 1) (some (.int 1)) none)), (.bin .add (.tup [(.str (Str.ofString "none such"))]) (.slc (.var 1) (some (.int 1)) none)), (.int 7)]),
  .setv (.n 3) (.callS 7 0 [(.int 9)]),
  .ift (.cmp .gt (.var 3) (.int 4)) [.ret (.callS 13 0 [(.var 1)])] [],
  .ret (.ife (.cmp .eq (.var 3) (.int 0)) (.idx (.var 2) (.callS 7 0 [(.bi .len [(.var 2)])])) (.callS 9 0 [(.var 1)]))]
def d__law_odd : DT := ⟨"_law_odd", top 22, ["state", "told", "odd", "pick"], ["state", "told"], ⟨[0], [0]⟩, ⟨2, true, 4, b__law_odd⟩⟩
def b__law_drawn_table : List S := [.setv (.n 5) (.bin .add (.var 1) (.callS 7 0 [(.bin .add (.bin .sub (.var 2) (.var 1)) (.int 1))])), .ret (.bi .tuple [(.lc (.bi .tuple [(.lc (.bin .add (.var 3) (.callS 7 0 [(.bin .add (.bin .sub (.var 4) (.var 3)) (.int 1))])) [7] (.n 7) (.r1 (.var 5)) none)]) [6] (.n 6) (.r1 (.bin .add (.var 1) (.callS 7 0 [(.bin .add (.bin .sub (.var 2) (.var 1)) (.int 1))]))) none)])]
def d__law_drawn_table : DT := ⟨"_law_drawn_table", top 23, ["state", "low", "high", "least", "most", "wide", "j", "k"], ["state", "low", "high", "least", "most"], ⟨[0], [0]⟩, ⟨5, true, 8, b__law_drawn_table⟩⟩
def l0__law_cells : List S := [.setv (.n 1) (.bin .add (.var 1) (.lc (.tup [(.var 2), (.var 3)]) [3] (.n 3) (.r1 (.bi .len [(.idx (.var 0) (.int 0))])) none))]
def b__law_cells : List S := [.setv (.n 1) (.lst []), .fr (.n 2) (.r1 (.bi .len [(.var 0)])) l0__law_cells, .ret (.var 1)]
def d__law_cells : DT := ⟨"_law_cells", top 24, ["rows", "found", "row", "column"], ["rows"], ⟨[], []⟩, ⟨1, false, 4, b__law_cells⟩⟩
def b__law_at : List S := [.ret (.idx (.idx (.var 0) (.idx (.var 1) (.int 0))) (.idx (.var 1) (.int 1)))]
def d__law_at : DT := ⟨"_law_at", top 25, ["rows", "cell"], ["rows", "cell"], ⟨[], []⟩, ⟨2, false, 2, b__law_at⟩⟩
def b__law_inside : List S := [.ret (.and (.chain .le .lt (.int 0) (.idx (.var 1) (.int 0)) (.bi .len [(.var 0)])) (.chain .le .lt (.int 0) (.idx (.var 1) (.int 1)) (.bi .len [(.idx (.var 0) (.int 0))])))]
def d__law_inside : DT := ⟨"_law_inside", top 26, ["rows", "cell"], ["rows", "cell"], ⟨[], []⟩, ⟨2, false, 2, b__law_inside⟩⟩
def b__law_columns : List S := [.ret (.lc (.bi .tuple [(.lc (.idx (.var 2) (.var 1)) [2] (.n 2) (.e (.var 0)) none)]) [1] (.n 1) (.r1 (.bi .len [(.idx (.var 0) (.int 0))])) none)]
def d__law_columns : DT := ⟨"_law_columns", top 27, ["rows", "k", "row"], ["rows"], ⟨[], []⟩, ⟨1, false, 3, b__law_columns⟩⟩
def b__law_neighbour : List S := [
  .setv (.n 2) (.idx (.lst [(.int 1), (.neg (.int 1))]) (.callS 7 0 [(.int 2)])),
  .ift (.bi .isStr [(.var 1)]) [.ret (.var 1)] [],
  .ift (.bi .isInt [(.var 1)]) [.ret (.bin .add (.var 1) (.var 2))] [],
  .ift (.cmp .eq (.var 1) (.tup [])) [.ret (.var 1)] [],
  .ift (.bi .isStr [(.idx (.var 1) (.int 0))]) [.ret (.tup [(.idx (.var 1) (.int 0)), (.bin .add (.idx (.var 1) (.int 1)) (.var 2))])] [],
  .setv (.n 3) (.callS 7 0 [(.bi .len [(.var 1)])]),
  .ift (.and (.cmp .eq (.callS 7 0 [(.int 3)]) (.int 0)) (.cmp .gt (.bi .len [(.var 1)]) (.int 1))) [.ret (.bin .add (.slc (.var 1) none (some (.var 3))) (.slc (.var 1) (some (.bin .add (.var 3) (.int 1))) none))] [],
  .ret (.bin .add (.bin .add (.slc (.var 1) none (some (.var 3))) (.tup [(.callS 20 0 [(.idx (.var 1) (.var 3))])])) (.slc (.var 1) (some (.bin .add (.var 3) (.int 1))) none))]
def d__law_neighbour : DT := ⟨"_law_neighbour", top 28, ["state", "value", "step", "k"], ["state", "value"], ⟨[0], [0]⟩, ⟨2, true, 4, b__law_neighbour⟩⟩
def b__law_once : List S := [.setv (.n 1) (.lc (.bi .sorted [(.var 2)]) [2] (.n 2) (.e (.call 19 [(.lc (.bi .tuple [(.bi .sorted [(.var 4)])]) [4] (.n 4) (.e (.var 0)) none)])) none), .ret (.bi .tuple [(.lc (.bi .tuple [(.lc (.idx (.var 2) (.var 3)) [2] (.n 2) (.e (.var 1)) none)]) [3] (.n 3) (.r1 (.bi .len [(.var 0)])) none)])]
def d__law_once : DT := ⟨"_law_once", top 29, ["rows", "lines", "line", "j", "row"], ["rows"], ⟨[], []⟩, ⟨1, false, 5, b__law_once⟩⟩
def b__law_accepts : List S := [.setv (.n 2) (.call 21 [(.var 0)]), .ret (.and (.cmp .eq (.call 21 [(.var 2)]) (.var 2)) (.call 8 [(.var 1), (.tup [(.str (Str.ofString "rows")), (.var 2), (.bi .int [(.cmp .ne (.var 2) (.var 0))])])]))]
def d__law_accepts : DT := ⟨"_law_accepts", top 30, ["rows", "told", "due"], ["rows", "told"], ⟨[], []⟩, ⟨2, false, 3, b__law_accepts⟩⟩
def b__law_told_near : List S := [.seto 2 (.lst [(.var 1)]), .setv (.n 3) (.callS 7 0 [(.int 1)]), .setx 2 (.var 3) (.callS 20 0 [(.idx (.bor 2) (.var 3))]), .tr [.ret (.call 3 [(.idx (.bor 2) (.int 0))])] [(.unfit, 4, true), (.wide, 4, true)]]
def d__law_told_near : DT := ⟨"_law_told_near", top 31, ["state", "rows", "things", "pick", "error"], ["state", "rows"], ⟨[0], [0, 2]⟩, ⟨2, true, 5, b__law_told_near⟩⟩
def l0__law_unfit : List S := [.tr [.ift (.var 1) [.expr (.call 4 [(.var 0), (.non)])] [.expr (.call 3 [(.var 0)])], .ret (.bl false)] [(.unfit, 2, false)]]
def b__law_unfit : List S := [.fr (.n 1) (.e (.lst [(.bl false), (.bl true)])) l0__law_unfit, .ret (.bl true)]
def d__law_unfit : DT := ⟨"_law_unfit", top 32, ["rows", "judged", "error"], ["rows"], ⟨[], []⟩, ⟨1, false, 3, b__law_unfit⟩⟩
def l0__law_accepts_too : List S := [.app 4 (.var 5), .setv (.n 5) (.ife (.cmp .lt (.call 17 [(.var 0), (.var 5)]) (.var 1)) (.tup [(.bin .add (.idx (.var 5) (.int 0)) (.int 1)), (.idx (.var 5) (.int 1))]) (.tup [(.idx (.var 5) (.int 0)), (.bin .sub (.idx (.var 5) (.int 1)) (.int 1))]))]
def b__law_accepts_too : List S := [
  .setv (.n 3) (.bi .tuple [(.lc (.var 5) [5] (.n 5) (.e (.call 16 [(.var 0)])) (some (.cmp .eq (.call 17 [(.var 0), (.var 5)]) (.var 1))))]),
  .par [(4, true), (5, false)] [(.lst []), (.tup [(.int 0), (.bin .sub (.bi .len [(.idx (.var 0) (.int 0))]) (.int 1))])],
  .whl (.and (.call 18 [(.var 0), (.var 5)]) (.or (.cmp .eq (.bor 4) (.lst [])) (.cmp .ne (.call 17 [(.var 0), (.idx (.bor 4) (.neg (.int 1)))]) (.var 1)))) l0__law_accepts_too,
  .ret (.call 8 [(.var 2), (.tup [(.str (Str.ofString "cells")), (.var 3), (.bi .tuple [(.bor 4)])])])]
def d__law_accepts_too : DT := ⟨"_law_accepts_too", top 33, ["table", "number", "told", "cells", "met", "cell"], ["table", "number", "told"], ⟨[], [4]⟩, ⟨3, false, 6, b__law_accepts_too⟩⟩
def b__law_told_near_too : List S := [.seto 3 (.lst [(.var 1), (.var 2)]), .setv (.n 4) (.callS 7 0 [(.int 2)]), .setx 3 (.var 4) (.callS 20 0 [(.idx (.bor 3) (.var 4))]), .tr [.ret (.call 5 [(.idx (.bor 3) (.int 0)), (.idx (.bor 3) (.int 1))])] [(.unfit, 5, true), (.wide, 5, true)]]
def d__law_told_near_too : DT := ⟨"_law_told_near_too", top 34, ["state", "table", "number", "things", "pick", "error"], ["state", "table", "number"], ⟨[0], [0, 3]⟩, ⟨3, true, 6, b__law_told_near_too⟩⟩
def l0__law_unfit_too : List S := [.tr [.ift (.var 2) [.expr (.call 6 [(.var 0), (.var 1), (.non)])] [.expr (.call 5 [(.var 0), (.var 1)])], .ret (.bl false)] [(.unfit, 3, false)]]
def b__law_unfit_too : List S := [.fr (.n 2) (.e (.lst [(.bl false), (.bl true)])) l0__law_unfit_too, .ret (.bl true)]
def d__law_unfit_too : DT := ⟨"_law_unfit_too", top 35, ["table", "number", "judged", "error"], ["table", "number"], ⟨[], []⟩, ⟨2, false, 4, b__law_unfit_too⟩⟩
def l0_law : List S := [.setv (.n 9) (.ife (.cmp .lt (.var 8) (.int 8)) (.callS 14 1 [(.var 6)]) (.idx (.var 2) (.bin .sub (.var 8) (.int 8)))), .ift (.nt (.call 8 [(.call 4 [(.var 5), (.var 9)]), (.call 22 [(.var 5), (.var 9)])])) [.ret (.bl false)] []]
def l1_law : List S := [.setv (.n 9) (.ife (.cmp .lt (.var 8) (.int 8)) (.callS 14 1 [(.var 6)]) (.idx (.var 3) (.bin .sub (.var 8) (.int 8)))), .ift (.nt (.call 8 [(.call 6 [(.var 10), (.var 11), (.var 9)]), (.call 25 [(.var 10), (.var 11), (.var 9)])])) [.ret (.bl false)] []]
def l2_law : List S := [.setv (.n 5) (.callS 15 1 [(.int 1), (.int 4), (.neg (.int 3)), (.int 9)]), .setv (.n 6) (.call 3 [(.var 5)]), .setv (.n 7) (.callS 23 1 [(.var 5)]), .ift (.or (.nt (.call 22 [(.var 5), (.var 6)])) (.isTru true (.call 4 [(.var 5), (.var 6)]))) [.ret (.bl false)] [], .ift (.nt (.call 24 [(.bin .add (.var 5) (.tup [(.bin .mul (.tup [(.int 0)]) (.bin .add (.bi .len [(.idx (.var 5) (.int 0))]) (.int 1)))]))])) [.ret (.bl false)] [], .setv (.n 2) (.bin .add (.slc (.var 2) (some (.neg (.int 3))) none) (.lst [(.var 6), (.var 7)])), .fr (.n 8) (.r1 (.bin .add (.int 8) (.bi .len [(.var 2)]))) l0_law, .setv (.n 10) (.call 21 [(.var 5)]), .setv (.n 11) (.bin .sub (.callS 7 1 [(.int 14)]) (.int 4)), .setv (.n 6) (.call 5 [(.var 10), (.var 11)]), .setv (.n 7) (.callS 26 1 [(.var 10), (.var 11)]), .ift (.or (.nt (.call 25 [(.var 10), (.var 11), (.var 6)])) (.isTru true (.call 6 [(.var 10), (.var 11), (.var 6)]))) [.ret (.bl false)] [], .ift (.or (.nt (.call 27 [(.tup [(.tup [(.int 2), (.int 1)])]), (.var 11)])) (.nt (.call 27 [(.tup [(.tup [(.int 2)]), (.tup [(.int 1)])]), (.var 11)]))) [.ret (.bl false)] [], .setv (.n 3) (.bin .add (.slc (.var 3) (some (.neg (.int 3))) none) (.lst [(.var 6), (.var 7)])), .fr (.n 8) (.r1 (.bin .add (.int 8) (.bi .len [(.var 3)]))) l1_law]
def b_law : List S := [.seto 1 (.lst [(.scr 0), (.int 0), (.int 0), (.int 1)]), .setv (.n 2) (.lst []), .setv (.n 3) (.lst []), .fr (.n 4) (.r1 (.int 3)) l2_law, .ret (.bl true)]
def d_law : DT := ⟨"law", top 36, ["script", "state", "seen", "seen_too", "turn", "rows", "told", "near_told", "k", "asked", "table", "number"], ["script"], ⟨[], [1]⟩, ⟨1, false, 12, b_law⟩⟩
abbrev f_is_whole : Nat := 0
abbrev f_is_told : Nat := 1
abbrev f_check_table : Nat := 2
abbrev f_sorted_table : Nat := 3
abbrev f_judge_sorted_table : Nat := 4
abbrev f_found_in : Nat := 5
abbrev f_judge_found_in : Nat := 6
abbrev f__law_next : Nat := 7
abbrev f__law_same : Nat := 8
abbrev f__law_changed : Nat := 9
abbrev f__law_ints : Nat := 10
abbrev f__law_exchanged : Nat := 11
abbrev f__law_cut : Nat := 12
abbrev f__law_turned_about : Nat := 13
abbrev f__law_odd : Nat := 14
abbrev f__law_drawn_table : Nat := 15
abbrev f__law_cells : Nat := 16
abbrev f__law_at : Nat := 17
abbrev f__law_inside : Nat := 18
abbrev f__law_columns : Nat := 19
abbrev f__law_neighbour : Nat := 20
abbrev f__law_once : Nat := 21
abbrev f__law_accepts : Nat := 22
abbrev f__law_told_near : Nat := 23
abbrev f__law_unfit : Nat := 24
abbrev f__law_accepts_too : Nat := 25
abbrev f__law_told_near_too : Nat := 26
abbrev f__law_unfit_too : Nat := 27
def tab : List DT := [d_is_whole, d_is_told, d_check_table, d_sorted_table, d_judge_sorted_table, d_found_in, d_judge_found_in, d__law_next, d__law_same, d__law_changed, d__law_ints, d__law_exchanged, d__law_cut, d__law_turned_about, d__law_odd, d__law_drawn_table, d__law_cells, d__law_at, d__law_inside, d__law_columns, d__law_neighbour, d__law_once, d__law_accepts, d__law_told_near, d__law_unfit, d__law_accepts_too, d__law_told_near_too, d__law_unfit_too]
def gi : GI := ⟨[("is_whole", 1, false), ("is_told", 3, false), ("check_table", 3, false), ("sorted_table", 1, false), ("judge_sorted_table", 2, false), ("found_in", 2, false), ("judge_found_in", 3, false), ("_law_next", 2, true), ("_law_same", 2, false), ("_law_changed", 2, true), ("_law_ints", 1, false), ("_law_exchanged", 3, false), ("_law_cut", 2, true), ("_law_turned_about", 2, true), ("_law_odd", 2, true), ("_law_drawn_table", 5, true), ("_law_cells", 1, false), ("_law_at", 2, false), ("_law_inside", 2, false), ("_law_columns", 1, false), ("_law_neighbour", 2, true), ("_law_once", 1, false), ("_law_accepts", 2, false), ("_law_told_near", 2, true), ("_law_unfit", 1, false), ("_law_accepts_too", 3, false), ("_law_told_near_too", 3, true), ("_law_unfit_too", 2, false)], [], ["ValueError", "bool", "int", "isinstance", "len", "list", "range", "repr", "sorted", "str", "tuple", "zip"]⟩
end K68
end G


set_option Elab.async false
set_option linter.all false
set_option maxRecDepth 100000
set_option maxHeartbeats 4000000
set_option autoImplicit false
namespace G
namespace K68
open PySem

abbrev P : Prog := tabP tab
def LX : LI := ⟨f__law_next, f__law_same, f__law_changed, f__law_ints, f__law_exchanged, f__law_cut, f__law_turned_about, f__law_odd, f__law_neighbour⟩
theorem lib : Lib P LX := ⟨rfl, rfl, rfl, rfl, rfl, rfl, rfl, rfl, rfl⟩
theorem h_whole : P f_is_whole = some ⟨1, false, 1, sb_is_whole⟩ := rfl
theorem h_told : P f_is_told = some ⟨3, false, 3, sb_is_told⟩ := rfl
theorem h_check : P f_check_table = some ⟨3, false, 6, sb_check_table⟩ := rfl
theorem h_sorted : P f_sorted_table = some ⟨1, false, 8, b_sorted_table⟩ := rfl
theorem h_jsorted : P f_judge_sorted_table = some ⟨2, false, 3, b_judge_sorted_table⟩ := rfl
theorem h_found : P f_found_in = some ⟨2, false, 13, b_found_in⟩ := rfl
theorem h_jfound : P f_judge_found_in = some ⟨3, false, 4, b_judge_found_in⟩ := rfl
theorem h_drawn : P f__law_drawn_table = some ⟨5, true, 8, sb__law_drawn_table f__law_next⟩ := rfl
theorem h_lcells : P f__law_cells = some ⟨1, false, 4, sb__law_cells⟩ := rfl
theorem h_lat : P f__law_at = some ⟨2, false, 2, sb__law_at⟩ := rfl
theorem h_linside : P f__law_inside = some ⟨2, false, 2, sb__law_inside⟩ := rfl
theorem h_lcolumns : P f__law_columns = some ⟨1, false, 3, sb__law_columns⟩ := rfl
theorem h_once : P f__law_once = some ⟨1, false, 5, b__law_once⟩ := rfl
theorem h_acc : P f__law_accepts = some ⟨2, false, 3, b__law_accepts⟩ := rfl
theorem h_near : P f__law_told_near = some ⟨2, true, 5, b__law_told_near⟩ := rfl
theorem h_unfit : P f__law_unfit = some ⟨1, false, 3, b__law_unfit⟩ := rfl
theorem h_acc2 : P f__law_accepts_too = some ⟨3, false, 6, b__law_accepts_too⟩ := rfl
theorem h_near2 : P f__law_told_near_too = some ⟨3, true, 6, b__law_told_near_too⟩ := rfl
theorem h_unfit2 : P f__law_unfit_too = some ⟨2, false, 4, b__law_unfit_too⟩ := rfl
abbrev wRows : Str := Str.ofString "rows"
def timesZ (t : List (List Int)) (h w : Nat) : Int := if onceZ t h w = t then 0 else 1
def toldS (t : List (List Int)) (h w : Nat) : D := .tuple [.str wRows, tD (onceZ t h w), .int (timesZ t h w)]
section
variable {t : List (List Int)} {h w : Nat}
theorem once_eq (t : List (List Int)) (h w : Nat) : tD (onceZ t h w) = .tuple ((rngZ 0 h).map fun r => .tuple ((rngZ 0 w).map fun c => .int (pyAt (sortZ (colZ (t.map sortZ) c)) r))) := by
  exact tab_map (g := fun p => pyAt (sortZ (colZ (t.map sortZ) p.2)) p.1)
theorem sorted_turn (n : Nat) (R : Rect t h w) (hh : h ≤ 64) (hw : w ≤ 64) (rows : D) (k : Int) (o3 o4 o5 o6 o7 : Option AV) : ∃ p3 p4 p5 p6 p7,
    exB (callN P n) l0_sorted_table [some (.d rows), some (.d (tD t)), some (.d (.int k)), o3, o4, o5, o6, o7] = if onceZ t h w = t then .ret (.tuple [.str wRows, tD t, .int k]) [some (.d rows), some (.d (tD t)), some (.d (.int k)), p3, p4, p5, p6, p7] else .next [some (.d rows), some (.d (tD (onceZ t h w))), some (.d (.int (k + 1))), p3, p4, p5, p6, p7] := by
  have LL : LIM = 1000000 := rfl
  have hl := R.hl
  have hl' := R.sort.hl
  have r0 := R.row0'
  have w0 := R.wid0
  have ll : ∀ g : D → O (List D), (∀ r ∈ t, g (rD r) = .ok [rD (sortZ r)]) → lcO g (t.map rD) = .ok (.list ((t.map sortZ).map rD)) := fun g hg => by
    rw [lcO_map t rD (fun r => rD (sortZ r)) (by omega) hg, List.map_map]; rfl
  have g1 : exS (callN P n) (.setv (.n 3) (.bi .tuple [(.lc (.bi .tuple [(.bi .sorted [(.var 5)])]) [5] (.n 5) (.e (.var 1)) none)])) [some (.d rows), some (.d (tD t)), some (.d (.int k)), o3, o4, o5, o6, o7] = .next [some (.d rows), some (.d (tD t)), some (.d (.int k)), some (.d (tD (t.map sortZ))), o4, o5, o6, o7] := by
    simp -implicitDefEqProofs (disch := first | rfl | omega | (simp only [List.length_append, List.length_cons, List.length_nil, List.length_reverse, List.length_map]; omega) | (simp; done) | fail)
    rw [ll _ (by
      intro r hr
      have := R.wl r hr
      have := sort_len r
      simp -implicitDefEqProofs (disch := first | rfl | omega | (simp only [List.length_append, List.length_cons, List.length_nil, List.length_reverse, List.length_map]; omega) | (simp; done) | fail) [sorted_t])]
    simp -implicitDefEqProofs (disch := first | rfl | omega | (simp only [List.length_append, List.length_cons, List.length_nil, List.length_reverse, List.length_map]; omega) | (simp; done) | fail)
  have once := once_eq t h w
  generalize hu : t.map sortZ = u at *
  have R' : Rect u h w := hu ▸ R.sort
  have cl := fun c => col_len R' c
  have g2 : exS (callN P n) (.setv (.n 4) (.lc (.bi .sorted [(.lc (.idx (.var 5) (.var 6)) [5] (.n 5) (.e (.var 3)) none)]) [6] (.n 6) (.r1 (.bi .len [(.idx (.var 1) (.int 0))])) none)) [some (.d rows), some (.d (tD t)), some (.d (.int k)), some (.d (tD u)), o4, o5, o6, o7] = .next [some (.d rows), some (.d (tD t)), some (.d (.int k)), some (.d (tD u)), some (.d (.list ((rngZ 0 w).map fun c => .list ((sortZ (colZ u c)).map .int)))), o5, o6, o7] := by
    simp -implicitDefEqProofs (disch := first | rfl | omega | (simp only [List.length_append, List.length_cons, List.length_nil, List.length_reverse, List.length_map]; omega) | (simp; done) | fail) [r0, w0]
    rw [lcO_map (ys := rngZ 0 w) (enc := .int) (g := fun c => .list ((sortZ (colZ u c)).map .int)) (by rw [rngZ_len]; omega) (by
      intro c hc
      rw [mem_rngZ] at hc
      have ll1 : ∀ g : D → O (List D), (∀ row ∈ u, g (rD row) = .ok [.int (pyAt row c)]) → lcO g (u.map rD) = .ok (.list ((colZ u c).map .int)) := fun g hg => by
        rw [lcO_map u rD (fun row => .int (pyAt row c)) (by omega) hg]
        unfold colZ
        rw [List.map_map]; rfl
      have := cl c
      rw [ll1 _ (by
        intro row hr
        obtain ⟨e3, _⟩ := at_int (xs := row) (i := c) (by omega) (by rw [R'.wl row hr]; omega)
        simp -implicitDefEqProofs (disch := first | rfl | omega | (simp only [List.length_append, List.length_cons, List.length_nil, List.length_reverse, List.length_map]; omega) | (simp; done) | fail) [-atI_nn, e3])]
      simp -implicitDefEqProofs (disch := first | rfl | omega | (simp only [List.length_append, List.length_cons, List.length_nil, List.length_reverse, List.length_map]; omega) | (simp; done) | fail) [sorted_l])]
    simp -implicitDefEqProofs (disch := first | rfl | omega | (simp only [List.length_append, List.length_cons, List.length_nil, List.length_reverse, List.length_map]; omega) | (simp; done) | fail)
  have g3 : exS (callN P n) (.setv (.n 3) (.bi .tuple [(.lc (.bi .tuple [(.lc (.idx (.var 7) (.var 5)) [7] (.n 7) (.e (.var 4)) none)]) [5] (.n 5) (.r1 (.bi .len [(.var 1)])) none)])) [some (.d rows), some (.d (tD t)), some (.d (.int k)), some (.d (tD u)), some (.d (.list ((rngZ 0 w).map fun c => .list ((sortZ (colZ u c)).map .int)))), o5, o6, o7] = .next [some (.d rows), some (.d (tD t)), some (.d (.int k)), some (.d (tD (onceZ t h w))), some (.d (.list ((rngZ 0 w).map fun c => .list ((sortZ (colZ u c)).map .int)))), o5, o6, o7] := by
    rw [once]
    simp -implicitDefEqProofs (disch := first | rfl | omega | (simp only [List.length_append, List.length_cons, List.length_nil, List.length_reverse, List.length_map]; omega) | (simp; done) | fail) [hl]
    rw [lcO_map (ys := rngZ 0 h) (enc := .int) (g := fun r => .tuple ((rngZ 0 w).map fun c => .int (pyAt (sortZ (colZ u c)) r))) (by rw [rngZ_len]; omega) (by
      intro r hr
      rw [mem_rngZ] at hr
      rw [lcO_map (ys := rngZ 0 w) (enc := fun c => .list ((sortZ (colZ u c)).map .int)) (g := fun c => .int (pyAt (sortZ (colZ u c)) r)) (by rw [rngZ_len]; omega) (by
        intro c hc
        obtain ⟨e3, _⟩ := at_int (xs := sortZ (colZ u c)) (i := r) (by omega) (by rw [sort_len, cl]; omega)
        simp -implicitDefEqProofs (disch := first | rfl | omega | (simp only [List.length_append, List.length_cons, List.length_nil, List.length_reverse, List.length_map]; omega) | (simp; done) | fail) [-atI_nn, e3])]
      simp -implicitDefEqProofs (disch := first | rfl | omega | (simp only [List.length_append, List.length_cons, List.length_nil, List.length_reverse, List.length_map]; omega) | (simp; done) | fail))]
    simp -implicitDefEqProofs (disch := first | rfl | omega | (simp only [List.length_append, List.length_cons, List.length_nil, List.length_reverse, List.length_map]; omega) | (simp; done) | fail)
  refine ⟨some (.d (tD (onceZ t h w))), some (.d (.list ((rngZ 0 w).map fun c => .list ((sortZ (colZ u c)).map .int)))), o5, o6, o7, ?_⟩
  unfold l0_sorted_table
  rw [b_cons, g1, Fl.bind_next, b_cons, g2, Fl.bind_next, b_cons, g3, Fl.bind_next]
  by_cases q : onceZ t h w = t
  · rw [if_pos q]
    simp -implicitDefEqProofs (disch := first | rfl | omega | (simp only [List.length_append, List.length_cons, List.length_nil, List.length_reverse, List.length_map]; omega) | (simp; done) | fail) [eq_tab, q]
  · rw [if_neg q]
    simp -implicitDefEqProofs (disch := first | rfl | omega | (simp only [List.length_append, List.length_cons, List.length_nil, List.length_reverse, List.length_map]; omega) | (simp; done) | fail) [eq_tab, q]
theorem sorted_ok (n : Nat) (R : Rect t h w) (hh : h ≤ 64) (hw : w ≤ 64) (hs : h * w ≤ 64) (B : Btw (-1000) 1000 t) : callN P (n + 2) f_sorted_table [] [tD t] = .ok (toldS t h w) [] := by
  rw [run_p h_sorted _ (by rfl)]
  unfold b_sorted_table
  have LL : LIM = 1000000 := rfl
  have e1 := check_ok h_check n R B hs
  have hl := R.hl
  have ll : ∀ g : D → O (List D), (∀ r ∈ t, g (rD r) = .ok [rD r]) → lcO g (t.map rD) = .ok (.list (t.map rD)) := fun g hg => lcO_map t rD rD (by omega) hg
  have g1 : exS (callN P (n + 1)) (.setv (.n 1) (.bi .tuple [(.lc (.bi .tuple [(.var 5)]) [5] (.n 5) (.e (.var 0)) none)])) [some (.d (tD t)), none, none, none, none, none, none, none] = .next [some (.d (tD t)), some (.d (tD t)), none, none, none, none, none, none] := by
    simp -implicitDefEqProofs (disch := first | rfl | omega | (simp only [List.length_append, List.length_cons, List.length_nil, List.length_reverse, List.length_map]; omega) | (simp; done) | fail)
    rw [ll _ (by
      intro r hr
      have := R.wl r hr
      simp -implicitDefEqProofs (disch := first | rfl | omega | (simp only [List.length_append, List.length_cons, List.length_nil, List.length_reverse, List.length_map]; omega) | (simp; done) | fail))]
    simp -implicitDefEqProofs (disch := first | rfl | omega | (simp only [List.length_append, List.length_cons, List.length_nil, List.length_reverse, List.length_map]; omega) | (simp; done) | fail)
  have g2 : ∃ ρ', exS (callN P (n + 1)) (.whl (.bl true) l0_sorted_table) [some (.d (tD t)), some (.d (tD t)), some (.d (.int 0)), none, none, none, none, none] = .ret (toldS t h w) ρ' := by
    rw [s_whl]
    obtain ⟨p3, p4, p5, p6, p7, ea⟩ := sorted_turn (n + 1) R hh hw (tD t) 0 none none none none none
    obtain ⟨q3, q4, q5, q6, q7, eb⟩ := sorted_turn (n + 1) R.once hh hw (tD t) 1 p3 p4 p5 p6 p7
    rw [once_once R, if_pos rfl] at eb
    show ∃ ρ', whlL _ _ (99998 + 1 + 1) _ = _
    unfold toldS timesZ
    by_cases q : onceZ t h w = t
    · rw [if_pos q] at ea
      rw [whlL]
      simp -implicitDefEqProofs [ea, q]
    · rw [if_neg q] at ea
      rw [whlL]
      simp -implicitDefEqProofs [ea, q]
      rw [whlL]
      simp -implicitDefEqProofs [eb]
  obtain ⟨ρ', g2⟩ := g2
  rw [b_cons]
  have g0 : exS (callN P (n + 1)) (.expr (.call 2 [(.var 0), (.neg (.int 1000)), (.int 1000)])) [some (.d (tD t)), none, none, none, none, none, none, none] = .next [some (.d (tD t)), none, none, none, none, none, none, none] := by simp -implicitDefEqProofs (disch := first | rfl | omega | (simp only [List.length_append, List.length_cons, List.length_nil, List.length_reverse, List.length_map]; omega) | (simp; done) | fail) [e1]
  show outB (Fl.bind (exS (callN P (n + 1)) (.expr (.call 2 [(.var 0), (.neg (.int 1000)), (.int 1000)])) [some (.d (tD t)), none, none, none, none, none, none, none]) _) = _
  rw [g0, Fl.bind_next, b_cons, g1, Fl.bind_next]
  simp -implicitDefEqProofs (disch := first | rfl | omega | (simp only [List.length_append, List.length_cons, List.length_nil, List.length_reverse, List.length_map]; omega) | (simp; done) | fail) [g2, -s_whl]

theorem sorted_exc (n : Nat) {t : List (List Int)} {x : Ex} (e : callN P (n + 1) f_check_table [] [tD t, .int (-1000), .int 1000] = .exc x) : callN P (n + 2) f_sorted_table [] [tD t] = .exc x := by
  rw [run_p h_sorted _ (by rfl)]
  unfold b_sorted_table
  simp -implicitDefEqProofs (disch := first | rfl | omega | (simp only [List.length_append, List.length_cons, List.length_nil, List.length_reverse, List.length_map]; omega) | (simp; done) | fail) [e, -s_whl]
/-- numbers of the sorted one are numbers of the other -/
theorem once_btw (R : Rect t h w) {lo hi : Int} (B : Btw lo hi t) : Btw lo hi (onceZ t h w) := by
  intro row hrow0 i hi0
  obtain ⟨r, hr, rfl⟩ := List.mem_map.mp hrow0
  obtain ⟨c, hc, rfl⟩ := List.mem_map.mp hi0
  rw [mem_rngZ] at hr hc
  obtain ⟨_, m⟩ := at_int (xs := sortZ (colZ (t.map sortZ) c)) (i := r) (by omega) (by rw [sort_len, col_len R.sort]; omega)
  have m := (sort_perm _).mem_iff.mp m
  obtain ⟨row, hrow, e⟩ := List.mem_map.mp m
  have lw := R.sort.wl row hrow
  obtain ⟨x, hx, rfl⟩ := List.mem_map.mp hrow
  obtain ⟨_, m2⟩ := at_int (xs := sortZ x) (i := c) (by omega) (by rw [lw]; omega)
  rw [← e]
  exact B x hx _ ((sort_perm _).mem_iff.mp m2)
theorem toldS_gs (R : Rect t h w) (hh : h ≤ 4) (hw : w ≤ 4) (B : Btw (-1000) 1000 t) : Gs 1000 2 22 [tD (onceZ t h w), .int (timesZ t h w)] ∧ its [tD (onceZ t h w), .int (timesZ t h w)] := by
  have ht : 0 ≤ timesZ t h w ∧ timesZ t h w ≤ 1 := by unfold timesZ; split <;> omega
  refine ⟨Gs.cons ((gd_tab (b := 1000) (n := 4) (m := 4) (fun r hr => ⟨by rw [R.once.wl r hr]; omega, fun i hi => ?_⟩) (by rw [R.once.hl]; omega)).mono (Nat.le_refl _) (Nat.le_refl _) (by decide)) (Gs.one (b := 1000) (k := 2) (w := 1) ⟨by rw [gd_i]; omega, by simp, by simp⟩), by rw [its, its, its]; exact ⟨it_tab _, by simp, trivial⟩⟩
  have := once_btw R B r hr i hi
  omega
theorem toldS_told (R : Rect t h w) (hh : h ≤ 4) (hw : w ≤ 4) (B : Btw (-1000) 1000 t) : Told (toldS t h w) := by
  obtain ⟨g, i⟩ := toldS_gs R hh hw B
  exact told_mk (by decide +kernel) g i (by decide) (by decide) (by rw [show wRows.length = 4 by decide +kernel]; decide)
theorem judge_spec (n : Nat) (R : Rect t h w) (hh : h ≤ 4) (hw : w ≤ 4) (hs : h * w ≤ 64) (B : Btw (-1000) 1000 t) {a : D} (ha : Askd a) :
    ∃ b : Bool, callN P (n + 3) f_judge_sorted_table [] [tD t, a] = .ok (.bool b) [] ∧ (b = true ↔ a = toldS t h w) := by
  rw [run_p h_jsorted _ (by rfl)]
  unfold b_judge_sorted_table
  have e := sorted_ok n R (by omega) (by omega) hs B
  obtain ⟨g, i⟩ := toldS_gs R hh hw B
  have gt := (Gs.cons (Gd.str (b := 1000) (k := 2) (s := wRows) (by decide +kernel)) g).t
  have tl := told_spec h_told (n + 1) ha (s := wRows) (by decide +kernel) (m := 3) (by decide)
  replace tl : callN P (n + 2) f_is_told [] [a, .str wRows, .int 3] = .ok (.bool (isTold wRows 3 a)) [] := tl
  have c14 : wRows.length + 1 + 22 + 1 ≤ 14000 := by rw [show wRows.length = 4 by decide +kernel]; decide
  by_cases ht : isTold wRows 3 a = true
  · obtain ⟨ps, rfl, hl⟩ := isTold_iff.mp ht
    obtain ⟨p, q, rfl⟩ : ∃ p q, ps = [p, q] := by
      cases ps with
      | nil => simp at hl
      | cons p ps => cases ps with
        | nil => simp at hl
        | cons q ps => cases ps with
          | nil => exact ⟨p, q, rfl⟩
          | cons _ _ => simp at hl
    rw [ht] at tl
    have ww : callN P (n + 2) f_is_whole [] [q] = _ := whole_spec h_whole (n + 1) q
    have hA' : Gd (10 ^ 31) 11 12000 (.tuple [.str wRows, p, q]) := by
      rcases ha with h | h
      · cases h
      · exact h
    cases p with
    | tuple p =>
      cases hq : isWhole q
      · refine ⟨false, by rw [hq] at ww; simp -implicitDefEqProofs (disch := first | rfl | omega | (simp only [List.length_append, List.length_cons, List.length_nil, List.length_reverse, List.length_map]; omega) | (simp; done) | fail) [e, tl, ww], ?_⟩
        constructor
        · intro z; cases z
        · intro z
          unfold toldS at z
          simp only [PyData.tuple.injEq, List.cons.injEq] at z
          rw [z.2.2.1] at hq
          cases hq
      · rw [hq] at ww
        obtain ⟨r1, r2⟩ := repr_eq hA' gt i (by decide) (by decide) (by decide) (by decide) (by decide) c14
        have r3 := (repr_spec hA' (by decide) (by decide) (by decide)).1
        have r4 := (repr_spec gt (by decide) (by decide) c14).1
        refine ⟨_, ?_, r2⟩
        unfold toldS at e
        simp -implicitDefEqProofs (disch := first | rfl | omega | (simp only [List.length_append, List.length_cons, List.length_nil, List.length_reverse, List.length_map]; omega) | (simp; done) | fail) [e, tl, ww, r3, r4, r1]
    | _ =>
      refine ⟨false, by simp -implicitDefEqProofs (disch := first | rfl | omega | (simp only [List.length_append, List.length_cons, List.length_nil, List.length_reverse, List.length_map]; omega) | (simp; done) | fail) [e, tl], ?_⟩
      simp [toldS]
  · refine ⟨false, ?_, ?_⟩
    · rw [Bool.not_eq_true _ |>.mp ht] at tl
      simp -implicitDefEqProofs (disch := first | rfl | omega | (simp only [List.length_append, List.length_cons, List.length_nil, List.length_reverse, List.length_map]; omega) | (simp; done) | fail) [e, tl]
    · constructor
      · intro h; cases h
      · intro h
        exact absurd (isTold_iff.mpr ⟨_, h, by simp⟩) ht
theorem unfit_spec (n : Nat) {t : List (List Int)} (e : ∀ n, callN P (n + 1) f_check_table [] [tD t, .int (-1000), .int 1000] = .exc .unfit) : callN P (n + 4) f__law_unfit [] [tD t] = .ok (.bool true) [] := by
  rw [run_p h_unfit _ (by rfl)]
  unfold b__law_unfit
  have e1 := sorted_exc (n + 1) (e (n + 1))
  have e2 : callN P (n + 1 + 2) f_judge_sorted_table [] [tD t, .none] = .exc .unfit := by
    rw [run_p h_jsorted _ (by rfl)]
    unfold b_judge_sorted_table
    have e1 := sorted_exc n (e n)
    simp -implicitDefEqProofs (disch := first | rfl | omega | (simp only [List.length_append, List.length_cons, List.length_nil, List.length_reverse, List.length_map]; omega) | (simp; done) | fail) [e1]
  unfold l0__law_unfit
  simp -implicitDefEqProofs (disch := first | rfl | omega | (simp only [List.length_append, List.length_cons, List.length_nil, List.length_reverse, List.length_map]; omega) | (simp; done) | fail) [e1, e2, forL, hdl]
theorem near_spec (n : Nat) {st : List D} (hst : DrOk st) (R : Rect t h w) (hh : h ≤ 4) (hw : w ≤ 4) {lo hi : Int} (B : Btw lo hi t) : ∃ d st', callN P (n + 5) f__law_told_near st [tD t] = .ok d st' ∧ DrOk st' ∧ Askd d := by
  rw [run_i h_near _ (by rfl)]
  unfold b__law_told_near
  obtain ⟨p, st1, e1, p0, p1, hst1⟩ := next_spec lib (n + 3) hst (lim := 1) (by omega) (by omega)
  replace e1 : callN P (n + 3 + 1) f__law_next st [PyData.int 1] = CR.ok (PyData.int p) st1 := e1
  obtain rfl : p = 0 := by omega
  obtain ⟨t', st2, e2, hst2, N⟩ := near_tab lib n hst1 R (by omega) (by omega) B
  replace e2 : callN P (n + 4) f__law_neighbour st1 [tD t] = .ok (tD t') st2 := e2
  rcases check_near h_check (n + 2) N (by omega) (by omega) (lo := -1000) (hi := 1000) with ⟨h', w', R', B', h1, h2, h3⟩ | e3 | e3
  · have e3 := sorted_ok (n + 2) R' (by omega) (by omega) h3 B'
    exact ⟨_, st2, by simp -implicitDefEqProofs (disch := first | rfl | omega | (simp only [List.length_append, List.length_cons, List.length_nil, List.length_reverse, List.length_map]; omega) | (simp; done) | fail) [cq0, e1, e2, e3, hdl], hst2, (toldS_told R' (by omega) (by omega) B').askd⟩
  · have e3 := sorted_exc (n + 2) e3
    exact ⟨.tuple [], st2, by simp -implicitDefEqProofs (disch := first | rfl | omega | (simp only [List.length_append, List.length_cons, List.length_nil, List.length_reverse, List.length_map]; omega) | (simp; done) | fail) [cq0, e1, e2, e3, hdl], hst2, askd_nil⟩
  · have e3 := sorted_exc (n + 2) e3
    exact ⟨.tuple [], st2, by simp -implicitDefEqProofs (disch := first | rfl | omega | (simp only [List.length_append, List.length_cons, List.length_nil, List.length_reverse, List.length_map]; omega) | (simp; done) | fail) [cq0, e1, e2, e3, hdl], hst2, askd_nil⟩
theorem lcolumnsL {f : Nat} (hP : P f = some ⟨1, false, 3, sb__law_columns⟩) (n : Nat) (R : Rect t h w) (hh : h ≤ 1000) (hw : w ≤ 1000) : callN P (n + 1) f [] [.list (t.map rD)] = .ok (.list ((rngZ 0 w).map fun c => rD (colZ t c))) [] := by
  rw [run_p hP _ (by rfl)]
  unfold sb__law_columns
  have LL : LIM = 1000000 := rfl
  have hl := R.hl
  have e1 := R.row0'
  have e2 := R.wid0
  simp -implicitDefEqProofs (disch := first | rfl | omega | (simp only [List.length_append, List.length_cons, List.length_nil, List.length_reverse, List.length_map]; omega) | (simp; done) | fail) [e1, e2]
  rw [lcO_map (ys := rngZ 0 w) (enc := .int) (g := fun c => rD (colZ t c)) (by rw [rngZ_len]; omega) (by
    intro c hc
    rw [mem_rngZ] at hc
    rw [lcO_map (ys := t) (enc := rD) (g := fun r => .int (pyAt r c)) (by omega) (by
      intro r hr
      obtain ⟨e3, _⟩ := at_int (xs := r) (i := c) (by omega) (by rw [R.wl r hr]; omega)
      simp -implicitDefEqProofs (disch := first | rfl | omega | (simp only [List.length_append, List.length_cons, List.length_nil, List.length_reverse, List.length_map]; omega) | (simp; done) | fail) [-atI_nn, e3])]
    simp -implicitDefEqProofs (disch := first | rfl | omega | (simp only [List.length_append, List.length_cons, List.length_nil, List.length_reverse, List.length_map]; omega) | (simp; done) | fail) [colZ])]
  simp -implicitDefEqProofs (disch := first | rfl | omega | (simp only [List.length_append, List.length_cons, List.length_nil, List.length_reverse, List.length_map]; omega) | (simp; done) | fail)
theorem once_spec (n : Nat) (R : Rect t h w) (hh : h ≤ 64) (hw : w ≤ 64) : callN P (n + 2) f__law_once [] [tD t] = .ok (tD (onceZ t h w)) [] := by
  rw [run_p h_once _ (by rfl)]
  unfold b__law_once
  have LL : LIM = 1000000 := rfl
  have hl := R.hl
  have e1 := lcolumnsL h_lcolumns n R.sort (by omega) (by omega)
  have ll : ∀ g : D → O (List D), (∀ r ∈ t, g (rD r) = .ok [rD (sortZ r)]) → lcO g (t.map rD) = .ok (.list ((t.map sortZ).map rD)) := fun g hg => by
    rw [lcO_map t rD (fun r => rD (sortZ r)) (by omega) hg, List.map_map]; rfl
  have once := once_eq t h w
  have R' := R.sort
  rw [once]
  simp -implicitDefEqProofs (disch := first | rfl | omega | (simp only [List.length_append, List.length_cons, List.length_nil, List.length_reverse, List.length_map]; omega) | (simp; done) | fail)
  rw [ll _ (by
      intro r hr
      have := R.wl r hr
      have := sort_len r
      simp -implicitDefEqProofs (disch := first | rfl | omega | (simp only [List.length_append, List.length_cons, List.length_nil, List.length_reverse, List.length_map]; omega) | (simp; done) | fail) [sorted_t])]
  generalize hu : t.map sortZ = u at *
  have cl := fun c => col_len R' c
  simp -implicitDefEqProofs (disch := first | rfl | omega | (simp only [List.length_append, List.length_cons, List.length_nil, List.length_reverse, List.length_map]; omega) | (simp; done) | fail) [e1]
  rw [lcO_map (ys := rngZ 0 w) (enc := fun c => rD (colZ u c)) (g := fun c => .list ((sortZ (colZ u c)).map .int)) (by rw [rngZ_len]; omega) (by
    intro c hc
    have := cl c
    simp -implicitDefEqProofs (disch := first | rfl | omega | (simp only [List.length_append, List.length_cons, List.length_nil, List.length_reverse, List.length_map]; omega) | (simp; done) | fail) [sorted_t])]
  simp -implicitDefEqProofs (disch := first | rfl | omega | (simp only [List.length_append, List.length_cons, List.length_nil, List.length_reverse, List.length_map]; omega) | (simp; done) | fail) [hl]
  rw [lcO_map (ys := rngZ 0 h) (enc := .int) (g := fun r => .tuple ((rngZ 0 w).map fun c => .int (pyAt (sortZ (colZ u c)) r))) (by rw [rngZ_len]; omega) (by
    intro r hr
    rw [mem_rngZ] at hr
    rw [lcO_map (ys := rngZ 0 w) (enc := fun c => .list ((sortZ (colZ u c)).map .int)) (g := fun c => .int (pyAt (sortZ (colZ u c)) r)) (by rw [rngZ_len]; omega) (by
      intro c hc
      obtain ⟨e3, _⟩ := at_int (xs := sortZ (colZ u c)) (i := r) (by omega) (by rw [sort_len, cl]; omega)
      simp -implicitDefEqProofs (disch := first | rfl | omega | (simp only [List.length_append, List.length_cons, List.length_nil, List.length_reverse, List.length_map]; omega) | (simp; done) | fail) [-atI_nn, e3])]
    simp -implicitDefEqProofs (disch := first | rfl | omega | (simp only [List.length_append, List.length_cons, List.length_nil, List.length_reverse, List.length_map]; omega) | (simp; done) | fail))]
  simp -implicitDefEqProofs (disch := first | rfl | omega | (simp only [List.length_append, List.length_cons, List.length_nil, List.length_reverse, List.length_map]; omega) | (simp; done) | fail)
theorem acc_spec (n : Nat) (R : Rect t h w) (hh : h ≤ 4) (hw : w ≤ 4) (B : Btw (-1000) 1000 t) {a : D} (ha : Askd a) :
    ∃ b : Bool, callN P (n + 11) f__law_accepts [] [tD t, a] = .ok (.bool b) [] ∧ (b = true ↔ a = toldS t h w) := by
  rw [run_p h_acc _ (by rfl)]
  unfold b__law_accepts
  have LL : LIM = 1000000 := rfl
  obtain ⟨g, i⟩ := toldS_gs R hh hw B
  have gt := (Gs.cons (Gd.str (b := 1000) (k := 2) (s := wRows) (by decide +kernel)) g).t
  obtain ⟨b, et, hb⟩ := same_asked lib n ha gt (by decide) (by rw [show wRows.length = 4 by decide +kernel]; decide)
  replace et : callN P (n + 10) f__law_same [] [a, .tuple [.str wRows, tD (onceZ t h w), .int (timesZ t h w)]] = .ok (.bool b) [] := et
  refine ⟨b, ?_, hb⟩
  have e1 := once_spec (n + 8) R (by omega) (by omega)
  have e2 := once_spec (n + 8) R.once (by omega) (by omega)
  rw [once_once R] at e2
  unfold timesZ at et
  by_cases q : onceZ t h w = t
  · rw [if_pos q] at et
    simp -implicitDefEqProofs (disch := first | rfl | omega | (simp only [List.length_append, List.length_cons, List.length_nil, List.length_reverse, List.length_map]; omega) | (simp; done) | fail) [e1, e2, eq_tab, ne_tab, q]
    rw [q] at et
    simp -implicitDefEqProofs (disch := first | rfl | omega | (simp only [List.length_append, List.length_cons, List.length_nil, List.length_reverse, List.length_map]; omega) | (simp; done) | fail) [et]
  · rw [if_neg q] at et
    simp -implicitDefEqProofs (disch := first | rfl | omega | (simp only [List.length_append, List.length_cons, List.length_nil, List.length_reverse, List.length_map]; omega) | (simp; done) | fail) [e1, e2, eq_tab, ne_tab, q, et]
end

/-! found_in -/
theorem ne_il {a b : List Int} : cmpD .ne (.list (a.map PyData.int)) (.list (b.map .int)) = some (!decide (a = b)) := by
  have sh : ∀ xs : List Int, shp (.list (xs.map PyData.int)) = true := fun xs => by
    have := shp_intt (ns := xs)
    unfold shp SeqAt.shaped at *
    rw [PyData.canLay0, PyData.depth] at *
    exact this
  show (if shp (.list (a.map PyData.int)) && shp (.list (b.map PyData.int)) then some (!PyData.eqv (.list (a.map PyData.int)) (.list (b.map PyData.int))) else none) = _
  rw [sh, sh, PyData.eqv, eqv_ints]; rfl
theorem zip_ints : ∀ a b : List Int, zipL (a.map PyData.int) (b.map .int) = (a.zip b).map cD
  | [], _ => by cases ‹List Int› <;> rfl
  | _ :: _, [] => rfl
  | x :: a, y :: b => by
    rw [List.map_cons, List.map_cons, zipL, zip_ints a b]; rfl
def aboveT (t : List (List Int)) (r : Int) : List Int := if 0 < r then rowT t (r - 1) else rowT t r
def gtP (p : Int × Int) : Bool := decide (p.2 < p.1)
def badR (t : List (List Int)) (r : Int) : Bool := !decide (rowT t r = sortZ (rowT t r)) || ((aboveT t r).zip (rowT t r)).any gtP
section
variable {t : List (List Int)} {h w : Nat}
theorem bad_body (n : Nat) (R : Rect t h w) (hh : h ≤ 64) (hw : w ≤ 64) (x1 x2 x3 : Option AV) {r : Int} (h0 : 0 ≤ r) (h1 : r < h) (o5 o6 o7 o8 o9 o10 o11 o12 : Option AV) : ∃ ρ1 ρ2,
    exB (callN P n) l0_found_in [some (.d (tD t)), x1, x2, x3, some (.d (.int r)), o5, o6, o7, o8, o9, o10, o11, o12] = thn (badR t r) (.exc .unfit ρ1) (.next [some (.d (tD t)), x1, x2, x3, some (.d (.int r)), ρ2, o6, o7, o8, o9, o10, o11, o12]) := by
  have LL : LIM = 1000000 := rfl
  have e1 := R.row h0 h1
  have w1 := R.wid h0 h1
  have hl := R.hl
  have ha : (aboveT t r).length = w := by
    unfold aboveT
    split
    · exact R.wid (by omega) (by omega)
    · exact w1
  have g1 : exS (callN P n) (.setv (.n 5) (.ife (.cmp .gt (.var 4) (.int 0)) (.idx (.var 0) (.bin .sub (.var 4) (.int 1))) (.idx (.var 0) (.var 4)))) [some (.d (tD t)), x1, x2, x3, some (.d (.int r)), o5, o6, o7, o8, o9, o10, o11, o12] = .next [some (.d (tD t)), x1, x2, x3, some (.d (.int r)), some (.d (rD (aboveT t r))), o6, o7, o8, o9, o10, o11, o12] := by
    unfold aboveT
    by_cases c : 0 < r
    · have e2 := R.row (r := r - 1) (by omega) (by omega)
      simp -implicitDefEqProofs (disch := first | rfl | omega | (simp only [List.length_append, List.length_cons, List.length_nil, List.length_reverse, List.length_map]; omega) | (simp; done) | fail) [-atI_nn, c, e2]
    · simp -implicitDefEqProofs (disch := first | rfl | omega | (simp only [List.length_append, List.length_cons, List.length_nil, List.length_reverse, List.length_map]; omega) | (simp; done) | fail) [-atI_nn, c, e1]
  have lz : ((aboveT t r).zip (rowT t r)).length ≤ 64 := by rw [List.length_zip]; omega
  have zz := zip_ints (aboveT t r) (rowT t r)
  have sl := sort_len (rowT t r)
  refine ⟨[some (.d (tD t)), x1, x2, x3, some (.d (.int r)), some (.d (rD (aboveT t r))), o6, o7, o8, o9, o10, o11, o12], some (.d (rD (aboveT t r))), ?_⟩
  unfold l0_found_in badR
  rw [b_cons, g1, Fl.bind_next]
  generalize hz : (aboveT t r).zip (rowT t r) = zs at *
  by_cases q : rowT t r = sortZ (rowT t r)
  · have ll : ∀ g : D → O (List D), (∀ p ∈ zs, g (cD p) = .ok [.bool (gtP p)]) → lcO g (zs.map cD) = .ok (.list (zs.map fun p => .bool (gtP p))) := fun g hg => lcO_bools zs cD _ (by omega) hg
    have s1 := sorted_t (xs := rowT t r) (by omega)
    rw [← q] at s1
    simp -implicitDefEqProofs (disch := first | rfl | omega | (simp only [List.length_append, List.length_cons, List.length_nil, List.length_reverse, List.length_map]; omega) | (simp; done) | fail) [-atI_nn, e1, s1, ne_il, zz]
    rw [ll _ (by
      intro p _
      unfold gtP
      simp -implicitDefEqProofs (disch := first | rfl | omega | (simp only [List.length_append, List.length_cons, List.length_nil, List.length_reverse, List.length_map]; omega) | (simp; done) | fail))]
    rw [decide_eq_true q]
    simp -implicitDefEqProofs (disch := first | rfl | omega | (simp only [List.length_append, List.length_cons, List.length_nil, List.length_reverse, List.length_map]; omega) | (simp; done) | fail) [in_boolm]
    show Fl.bind (thn (zs.any gtP) _ _) _ = _
    cases zs.any gtP <;> rfl
  · have s1 := sorted_t (xs := rowT t r) (by omega)
    simp -implicitDefEqProofs (disch := first | rfl | omega | (simp only [List.length_append, List.length_cons, List.length_nil, List.length_reverse, List.length_map]; omega) | (simp; done) | fail) [-atI_nn, e1, s1, ne_il, q]
theorem bad_loop (n : Nat) (R : Rect t h w) (hh : h ≤ 64) (hw : w ≤ 64) (x1 x2 x3 : Option AV) (o6 o7 o8 o9 o10 o11 o12 : Option AV) : ∀ (rs : List Int) (o4 o5 : Option AV), (∀ r ∈ rs, 0 ≤ r ∧ r < h) →
    (rs.any (badR t) = false ∧ ∃ p4 p5, forL (Tg.n 4).bind (fun ρ => exB (callN P n) l0_found_in ρ) (rs.map .int) [some (.d (tD t)), x1, x2, x3, o4, o5, o6, o7, o8, o9, o10, o11, o12] = .next [some (.d (tD t)), x1, x2, x3, p4, p5, o6, o7, o8, o9, o10, o11, o12]) ∨
    (rs.any (badR t) = true ∧ ∃ ρ', forL (Tg.n 4).bind (fun ρ => exB (callN P n) l0_found_in ρ) (rs.map .int) [some (.d (tD t)), x1, x2, x3, o4, o5, o6, o7, o8, o9, o10, o11, o12] = .exc .unfit ρ')
  | [], o4, o5, _ => .inl ⟨rfl, _, _, rfl⟩
  | r :: rs, o4, o5, hr => by
    obtain ⟨ρ1, p5, e⟩ := bad_body n R hh hw x1 x2 x3 (hr r (by simp)).1 (hr r (by simp)).2 o5 o6 o7 o8 o9 o10 o11 o12
    have eb : (Tg.n 4).bind (.int r) [some (.d (tD t)), x1, x2, x3, o4, o5, o6, o7, o8, o9, o10, o11, o12] = some [some (.d (tD t)), x1, x2, x3, some (.d (.int r)), o5, o6, o7, o8, o9, o10, o11, o12] := by simp -implicitDefEqProofs (disch := first | rfl | omega | (simp only [List.length_append, List.length_cons, List.length_nil, List.length_reverse, List.length_map]; omega) | (simp; done) | fail)
    rw [List.any_cons, List.map_cons, forL, eb]
    cases hb : badR t r
    · rw [hb] at e
      rcases bad_loop n R hh hw x1 x2 x3 o6 o7 o8 o9 o10 o11 o12 rs (some (.d (.int r))) p5 (fun x hx => hr x (by simp [hx])) with ⟨q, p4, p5', e2⟩ | ⟨q, ρ', e2⟩
      · refine .inl ⟨by rw [q]; rfl, p4, p5', ?_⟩
        simp -implicitDefEqProofs (disch := first | rfl | omega | (simp only [List.length_append, List.length_cons, List.length_nil, List.length_reverse, List.length_map]; omega) | (simp; done) | fail) [e, e2]
      · refine .inr ⟨by rw [q]; rfl, ρ', ?_⟩
        simp -implicitDefEqProofs (disch := first | rfl | omega | (simp only [List.length_append, List.length_cons, List.length_nil, List.length_reverse, List.length_map]; omega) | (simp; done) | fail) [e, e2]
    · rw [hb] at e
      refine .inr ⟨rfl, ρ1, ?_⟩
      simp -implicitDefEqProofs (disch := first | rfl | omega | (simp only [List.length_append, List.length_cons, List.length_nil, List.length_reverse, List.length_map]; omega) | (simp; done) | fail) [e]
/-- the walk from the upper right corner -/
def walkZ (t : List (List Int)) (h : Nat) (x : Int) : Nat → Int → Int → List (Int × Int)
  | 0, _, _ => []
  | k + 1, r, c => if r < h ∧ 0 ≤ c then (r, c) :: (if atT t r c = x then [] else if atT t r c < x then walkZ t h x k (r + 1) c else walkZ t h x k r (c - 1)) else []
theorem walk_len (t : List (List Int)) (h : Nat) (x : Int) : ∀ k r c, (walkZ t h x k r c).length ≤ k
  | 0, _, _ => by simp [walkZ]
  | k + 1, r, c => by
    unfold walkZ
    have a1 := walk_len t h x k (r + 1) c
    have a2 := walk_len t h x k r (c - 1)
    split
    · rw [List.length_cons]
      split
      · simp
      · split <;> omega
    · simp
theorem walk_in (t : List (List Int)) (h w : Nat) (x : Int) : ∀ (k : Nat) (r c : Int), 0 ≤ r → c < w → ∀ p ∈ walkZ t h x k r c, p ∈ cellsZ h w
  | 0, _, _, _, _, p, hp => by simp [walkZ] at hp
  | k + 1, r, c, h0, h1, p, hp => by
    unfold walkZ at hp
    split at hp
    · rename_i q
      rcases List.mem_cons.mp hp with rfl | hp
      · exact mem_cellsZ.mpr ⟨h0, q.1, q.2, h1⟩
      · split at hp
        · cases hp
        · split at hp
          · exact walk_in t h w x k (r + 1) c (by omega) h1 p hp
          · exact walk_in t h w x k r (c - 1) h0 (by omega) p hp
    · cases hp
theorem walk_loop (n : Nat) (R : Rect t h w) (hh : h ≤ 64) (hw : w ≤ 64) (x : Int) (x3 o5 o8 o9 o10 o11 o12 : Option AV) : ∀ (k fuel : Nat) (ms : List (Int × Int)) (r c : Int), k < fuel → 0 ≤ r → r ≤ h → -1 ≤ c → c < w → ((h : Int) - r) + (c + 1) ≤ k → ms.length + k ≤ 1000 → ∃ p4 p7,
    whlL (fun ρ => truR (evE (callN P n) (.and (.cmp .lt (.var 4) (.var 2)) (.cmp .ge (.var 7) (.int 0))) ρ)) (fun ρ => exB (callN P n) l1_found_in ρ) fuel [some (.d (tD t)), some (.d (.int x)), some (.d (.int h)), x3, some (.d (.int r)), o5, some (.ol (ms.map cD)), some (.d (.int c)), o8, o9, o10, o11, o12] =
      .next [some (.d (tD t)), some (.d (.int x)), some (.d (.int h)), x3, p4, o5, some (.ol ((ms ++ walkZ t h x k r c).map cD)), p7, o8, o9, o10, o11, o12]
  | k, 0, _, _, _, hf, _, _, _, _, _, _ => absurd hf (Nat.not_lt_zero _)
  | 0, fuel + 1, ms, r, c, hf, h0, h1, h2, h3, hm, hk => by
    refine ⟨some (.d (.int r)), some (.d (.int c)), ?_⟩
    have q : ¬ r < h := by omega
    rw [whlL]
    simp -implicitDefEqProofs (disch := first | rfl | omega | (simp only [List.length_append, List.length_cons, List.length_nil, List.length_reverse, List.length_map]; omega) | (simp; done) | fail) [q, walkZ]
  | k + 1, fuel + 1, ms, r, c, hf, h0, h1, h2, h3, hm, hk => by
    have LL : LIM = 1000000 := rfl
    by_cases q : r < h
    · by_cases q2 : 0 ≤ c
      · have e1 := R.row h0 q
        have e2 := R.cell h0 q q2 h3
        have wk : walkZ t h x (k + 1) r c = (r, c) :: (if atT t r c = x then [] else if atT t r c < x then walkZ t h x k (r + 1) c else walkZ t h x k r (c - 1)) := by rw [walkZ, if_pos ⟨q, q2⟩]
        have cond : truR (evE (callN P n) (.and (.cmp .lt (.var 4) (.var 2)) (.cmp .ge (.var 7) (.int 0))) [some (.d (tD t)), some (.d (.int x)), some (.d (.int h)), x3, some (.d (.int r)), o5, some (.ol (ms.map cD)), some (.d (.int c)), o8, o9, o10, o11, o12]) = .ok true [some (.d (tD t)), some (.d (.int x)), some (.d (.int h)), x3, some (.d (.int r)), o5, some (.ol (ms.map cD)), some (.d (.int c)), o8, o9, o10, o11, o12] := by simp -implicitDefEqProofs (disch := first | rfl | omega | (simp only [List.length_append, List.length_cons, List.length_nil, List.length_reverse, List.length_map]; omega) | (simp; done) | fail) [q, q2]
        have ap : (ms ++ [(r, c)]).map cD = ms.map cD ++ [.tuple [.int r, .int c]] := by rw [List.map_append]; rfl
        rw [wk, whlL, cond]
        by_cases q3 : atT t r c = x
        · refine ⟨some (.d (.int r)), some (.d (.int c)), ?_⟩
          rw [if_pos q3, ap]
          have bd : exB (callN P n) l1_found_in [some (.d (tD t)), some (.d (.int x)), some (.d (.int h)), x3, some (.d (.int r)), o5, some (.ol (ms.map cD)), some (.d (.int c)), o8, o9, o10, o11, o12] = .brk [some (.d (tD t)), some (.d (.int x)), some (.d (.int h)), x3, some (.d (.int r)), o5, some (.ol (ms.map cD ++ [.tuple [.int r, .int c]])), some (.d (.int c)), o8, o9, o10, o11, o12] := by
            unfold l1_found_in
            simp -implicitDefEqProofs (disch := first | rfl | omega | (simp only [List.length_append, List.length_cons, List.length_nil, List.length_reverse, List.length_map]; omega) | (simp; done) | fail) [-atI_nn, e1, e2, q3]
          show Fl.turn _ _ = _
          rw [bd, Fl.turn_brk]
        · rw [if_neg q3]
          by_cases q4 : atT t r c < x
          · rw [if_pos q4]
            obtain ⟨p4, p7, e⟩ := walk_loop n R hh hw x x3 o5 o8 o9 o10 o11 o12 k fuel (ms ++ [(r, c)]) (r + 1) c (by omega) (by omega) (by omega) (by omega) (by omega) (by omega) (by rw [List.length_append]; show ms.length + 1 + k ≤ 1000; omega)
            refine ⟨p4, p7, ?_⟩
            have bd : exB (callN P n) l1_found_in [some (.d (tD t)), some (.d (.int x)), some (.d (.int h)), x3, some (.d (.int r)), o5, some (.ol (ms.map cD)), some (.d (.int c)), o8, o9, o10, o11, o12] = .next [some (.d (tD t)), some (.d (.int x)), some (.d (.int h)), x3, some (.d (.int (r + 1))), o5, some (.ol (ms.map cD ++ [.tuple [.int r, .int c]])), some (.d (.int c)), o8, o9, o10, o11, o12] := by
              unfold l1_found_in
              simp -implicitDefEqProofs (disch := first | rfl | omega | (simp only [List.length_append, List.length_cons, List.length_nil, List.length_reverse, List.length_map]; omega) | (simp; done) | fail) [-atI_nn, e1, e2, q3, q4]
            show Fl.turn _ _ = _
            rw [bd, Fl.turn_next, ← ap, e, List.append_assoc]; rfl
          · rw [if_neg q4]
            obtain ⟨p4, p7, e⟩ := walk_loop n R hh hw x x3 o5 o8 o9 o10 o11 o12 k fuel (ms ++ [(r, c)]) r (c - 1) (by omega) (by omega) (by omega) (by omega) (by omega) (by omega) (by rw [List.length_append]; show ms.length + 1 + k ≤ 1000; omega)
            refine ⟨p4, p7, ?_⟩
            have bd : exB (callN P n) l1_found_in [some (.d (tD t)), some (.d (.int x)), some (.d (.int h)), x3, some (.d (.int r)), o5, some (.ol (ms.map cD)), some (.d (.int c)), o8, o9, o10, o11, o12] = .next [some (.d (tD t)), some (.d (.int x)), some (.d (.int h)), x3, some (.d (.int r)), o5, some (.ol (ms.map cD ++ [.tuple [.int r, .int c]])), some (.d (.int (c - 1))), o8, o9, o10, o11, o12] := by
              unfold l1_found_in
              simp -implicitDefEqProofs (disch := first | rfl | omega | (simp only [List.length_append, List.length_cons, List.length_nil, List.length_reverse, List.length_map]; omega) | (simp; done) | fail) [-atI_nn, e1, e2, q3, q4]
            show Fl.turn _ _ = _
            rw [bd, Fl.turn_next, ← ap, e, List.append_assoc]; rfl
      · refine ⟨some (.d (.int r)), some (.d (.int c)), ?_⟩
        rw [whlL]
        simp -implicitDefEqProofs (disch := first | rfl | omega | (simp only [List.length_append, List.length_cons, List.length_nil, List.length_reverse, List.length_map]; omega) | (simp; done) | fail) [q, q2, walkZ]
    · refine ⟨some (.d (.int r)), some (.d (.int c)), ?_⟩
      rw [whlL]
      simp -implicitDefEqProofs (disch := first | rfl | omega | (simp only [List.length_append, List.length_cons, List.length_nil, List.length_reverse, List.length_map]; omega) | (simp; done) | fail) [q, walkZ]
end

abbrev wCells : Str := Str.ofString "cells"
def eqP (t : List (List Int)) (x : Int) (p : Int × Int) : Bool := decide (atT t p.1 p.2 = x)
def toldF (t : List (List Int)) (h w : Nat) (x : Int) : D := .tuple [.str wCells, .tuple (((cellsZ h w).filter (eqP t x)).map cD), .tuple ((walkZ t h x (h + w) 0 (w - 1)).map cD)]
def badT (t : List (List Int)) (h : Nat) : Bool := (rngZ 0 h).any (badR t)
section
variable {t : List (List Int)} {h w : Nat}
theorem found_all (n : Nat) (R : Rect t h w) (hh : h ≤ 64) (hw : w ≤ 64) (hs : h * w ≤ 64) (B : Btw (-1000) 1000 t) (x : Int) : callN P (n + 2) f_found_in [] [tD t, .int x] = if badT t h then .exc .unfit else .ok (toldF t h w x) [] := by
  rw [run_p h_found _ (by rfl)]
  unfold b_found_in
  have LL : LIM = 1000000 := rfl
  have e1 := check_ok h_check n R B hs
  have wp := R.wp
  have g1 : exS (callN P (n + 1)) (.setv (.t [(.n 2), (.n 3)]) (.call 2 [(.var 0), (.neg (.int 1000)), (.int 1000)])) [some (.d (tD t)), some (.d (.int x)), none, none, none, none, none, none, none, none, none, none, none] = .next [some (.d (tD t)), some (.d (.int x)), some (.d (.int h)), some (.d (.int w)), none, none, none, none, none, none, none, none, none] := by simp -implicitDefEqProofs (disch := first | rfl | omega | (simp only [List.length_append, List.length_cons, List.length_nil, List.length_reverse, List.length_map]; omega) | (simp; done) | fail) [e1]
  show outB (exB (callN P (n + 1)) (.setv (.t [(.n 2), (.n 3)]) (.call 2 [(.var 0), (.neg (.int 1000)), (.int 1000)]) :: _) [some (.d (tD t)), some (.d (.int x)), none, none, none, none, none, none, none, none, none, none, none]) = _
  rw [b_cons, g1, Fl.bind_next]
  have eI : ∀ (fl : Fl), forL (Tg.n 4).bind (fun ρ => exB (callN P (n + 1)) l0_found_in ρ) ((rngZ 0 h).map .int) [some (.d (tD t)), some (.d (.int x)), some (.d (.int h)), some (.d (.int w)), none, none, none, none, none, none, none, none, none] = fl → exS (callN P (n + 1)) (.fr (.n 4) (.r1 (.var 2)) l0_found_in) [some (.d (tD t)), some (.d (.int x)), some (.d (.int h)), some (.d (.int w)), none, none, none, none, none, none, none, none, none] = fl := by
    intro fl e
    simp -implicitDefEqProofs (disch := first | rfl | omega | (simp only [List.length_append, List.length_cons, List.length_nil, List.length_reverse, List.length_map]; omega) | (simp; done) | fail) [e]
  unfold badT
  rcases bad_loop (n + 1) R hh hw (some (.d (.int x))) (some (.d (.int h))) (some (.d (.int w))) none none none none none none none (rngZ 0 h) none none (fun r hr => mem_rngZ.mp hr) with ⟨q, p4, p5, e2⟩ | ⟨q, ρ', e2⟩
  · rw [q, b_cons, eI _ e2, Fl.bind_next]
    unfold toldF
    obtain ⟨p4', p7, e3⟩ := walk_loop (n + 1) R hh hw x (some (.d (.int w))) p5 none none none none none (h + w) WF [] 0 (w - 1) (by show h + w < 100000; omega) (by omega) (by omega) (by omega) (by omega) (by omega) (by simp; omega)
    rw [List.nil_append] at e3
    have e3' : exS (callN P (n + 1)) (.whl (.and (.cmp .lt (.var 4) (.var 2)) (.cmp .ge (.var 7) (.int 0))) l1_found_in) [some (.d (tD t)), some (.d (.int x)), some (.d (.int h)), some (.d (.int w)), some (.d (.int 0)), p5, some (.ol []), some (.d (.int (w - 1))), none, none, none, none, none] = .next [some (.d (tD t)), some (.d (.int x)), some (.d (.int h)), some (.d (.int w)), p4', p5, some (.ol ((walkZ t h x (h + w) 0 (w - 1)).map cD)), p7, none, none, none, none, none] := by
      rw [s_whl]; exact e3
    have wl := walk_len t h x (h + w) 0 (w - 1)
    have cl : (cellsZ h w).length ≤ 64 := by rw [cellsZ_len]; omega
    have fl : ((cellsZ h w).filter (eqP t x)).length ≤ 64 := Nat.le_trans (List.length_filter_le _ _) cl
    generalize walkZ t h x (h + w) 0 (w - 1) = wk at *
    have ec : ((rngZ 0 h).flatMap fun r => ((rngZ 0 w).filter fun c => eqP t x (r, c)).map fun c => cD (r, c)) = ((cellsZ h w).filter (eqP t x)).map cD := by
      unfold cellsZ
      rw [List.filter_flatMap, List.map_flatMap]
      congr 1
      funext r
      rw [List.filter_map, List.map_map]; rfl
    have ll : ∀ g : D → O (List D), (∀ r ∈ rngZ 0 h, g (.int r) = .ok (((rngZ 0 w).filter fun c => eqP t x (r, c)).map fun c => cD (r, c))) → lcO g ((rngZ 0 h).map .int) = .ok (.list (((cellsZ h w).filter (eqP t x)).map cD)) := fun g hg => by
      rw [lcO_flat (rngZ 0 h) PyData.int (fun r => ((rngZ 0 w).filter fun c => eqP t x (r, c)).map fun c => cD (r, c)) (by rw [ec, List.length_map]; omega) hg, ec]
    simp -implicitDefEqProofs (disch := first | rfl | omega | (simp only [List.length_append, List.length_cons, List.length_nil, List.length_reverse, List.length_map]; omega) | (simp; done) | fail) [e3', -s_whl]
    rw [ll _ (by
      intro r hr
      rw [mem_rngZ] at hr
      simp -implicitDefEqProofs (disch := first | rfl | omega | (simp only [List.length_append, List.length_cons, List.length_nil, List.length_reverse, List.length_map]; omega) | (simp; done) | fail)
      exact joinO_filter (rngZ 0 w) PyData.int (fun c => eqP t x (r, c)) (fun c => cD (r, c)) fun c hc => by
        rw [mem_rngZ] at hc
        have f1 := R.row' hr.1 hr.2
        have f2 := R.cell hr.1 hr.2 hc.1 hc.2
        unfold eqP
        by_cases q : atT t r c = x
        · simp -implicitDefEqProofs (disch := first | rfl | omega | (simp only [List.length_append, List.length_cons, List.length_nil, List.length_reverse, List.length_map]; omega) | (simp; done) | fail) [-atI_nn, f1, f2, q]
        · simp -implicitDefEqProofs (disch := first | rfl | omega | (simp only [List.length_append, List.length_cons, List.length_nil, List.length_reverse, List.length_map]; omega) | (simp; done) | fail) [-atI_nn, f1, f2, q])]
    simp -implicitDefEqProofs (disch := first | rfl | omega | (simp only [List.length_append, List.length_cons, List.length_nil, List.length_reverse, List.length_map]; omega) | (simp; done) | fail)
  · rw [q, b_cons, eI _ e2]
    rfl
theorem found_exc (n : Nat) {t : List (List Int)} {e' : Ex} (x : Int) (e : callN P (n + 1) f_check_table [] [tD t, .int (-1000), .int 1000] = .exc e') : callN P (n + 2) f_found_in [] [tD t, .int x] = .exc e' := by
  rw [run_p h_found _ (by rfl)]
  unfold b_found_in
  simp -implicitDefEqProofs (disch := first | rfl | omega | (simp only [List.length_append, List.length_cons, List.length_nil, List.length_reverse, List.length_map]; omega) | (simp; done) | fail) [e, -s_whl]
def cRows (cs : List (Int × Int)) : List (List Int) := cs.map fun c => [c.1, c.2]
theorem cRows_eq (cs : List (Int × Int)) : PyData.tuple (cs.map cD) = tD (cRows cs) := by
  unfold cRows tD
  rw [List.map_map]; rfl
theorem cs_gd {cs : List (Int × Int)} (hc : ∀ c ∈ cs, c ∈ cellsZ h w) (hh : h ≤ 4) (hw : w ≤ 4) (hl : cs.length ≤ 16) : Gd 4 2 49 (.tuple (cs.map cD)) ∧ it (.tuple (cs.map cD)) := by
  rw [cRows_eq]
  refine ⟨gd_tab (b := 4) (n := 2) (m := 16) (fun r hr => ?_) (by unfold cRows; rw [List.length_map]; omega), it_tab _⟩
  obtain ⟨c, hm, rfl⟩ := List.mem_map.mp hr
  obtain ⟨k1, k2, k3, k4⟩ := mem_cellsZ.mp (show (c.1, c.2) ∈ cellsZ h w from hc c hm)
  refine ⟨by simp, fun i hi => ?_⟩
  simp only [List.mem_cons, List.not_mem_nil, or_false] at hi
  rcases hi with rfl | rfl <;> omega
theorem toldF_gs (hh : h ≤ 4) (hw : w ≤ 4) (t : List (List Int)) (x : Int) : Gs 4 2 98 [.tuple (((cellsZ h w).filter (eqP t x)).map cD), .tuple ((walkZ t h x (h + w) 0 (w - 1)).map cD)] ∧ its [.tuple (((cellsZ h w).filter (eqP t x)).map cD), .tuple ((walkZ t h x (h + w) 0 (w - 1)).map cD)] := by
  have cl : (cellsZ h w).length ≤ 16 := by rw [cellsZ_len]; exact Nat.mul_le_mul hh hw
  have o1 := cs_gd (h := h) (w := w) (cs := (cellsZ h w).filter (eqP t x)) (fun c hc => (List.mem_filter.mp hc).1) hh hw (Nat.le_trans (List.length_filter_le _ _) cl)
  have o2 := cs_gd (h := h) (w := w) (cs := walkZ t h x (h + w) 0 (w - 1)) (walk_in t h w x _ _ _ (by omega) (by omega)) hh hw (Nat.le_trans (walk_len _ _ _ _ _ _) (by omega))
  exact ⟨Gs.cons o1.1 (Gs.one o2.1), by rw [its, its, its]; exact ⟨o1.2, o2.2, trivial⟩⟩
theorem toldF_told (hh : h ≤ 4) (hw : w ≤ 4) (t : List (List Int)) (x : Int) : Told (toldF t h w x) := by
  obtain ⟨g, i⟩ := toldF_gs hh hw t x
  exact told_mk (by decide +kernel) g i (by decide) (by decide) (by rw [show wCells.length = 5 by decide +kernel]; decide)
theorem judge2_spec (n : Nat) (R : Rect t h w) (hh : h ≤ 4) (hw : w ≤ 4) (hs : h * w ≤ 64) (B : Btw (-1000) 1000 t) (hb : badT t h = false) (x : Int) {a : D} (ha : Askd a) :
    ∃ b : Bool, callN P (n + 3) f_judge_found_in [] [tD t, .int x, a] = .ok (.bool b) [] ∧ (b = true ↔ a = toldF t h w x) := by
  rw [run_p h_jfound _ (by rfl)]
  unfold b_judge_found_in
  have e := found_all n R (by omega) (by omega) hs B x
  rw [hb, if_neg (by decide)] at e
  obtain ⟨g, i⟩ := toldF_gs hh hw t x
  have gt := (Gs.cons (Gd.str (b := 4) (k := 2) (s := wCells) (by decide +kernel)) g).t
  obtain ⟨b, et, hb⟩ := judge_rep h_told (n + 1) (ρ := [some (.d (tD t)), some (.d (.int x)), some (.d a), some (.d (toldF t h w x))]) (a := .var 2) (e := .var 3) (asked := a) (w := wCells) (q := ((cellsZ h w).filter (eqP t x)).map cD) (qs := [.tuple ((walkZ t h x (h + w) 0 (w - 1)).map cD)]) (by simp -implicitDefEqProofs) (by simp -implicitDefEqProofs [toldF]) ha gt i (by decide) (by decide) (by rw [show wCells.length = 5 by decide +kernel]; decide) (m := 3) rfl
  refine ⟨b, ?_, hb⟩
  simp -implicitDefEqProofs (disch := first | rfl | omega | (simp only [List.length_append, List.length_cons, List.length_nil, List.length_reverse, List.length_map]; omega) | (simp; done) | fail) [e, et, -p_and]
theorem unfit2_spec (n : Nat) {t : List (List Int)} (x : Int) (e : ∀ n, callN P (n + 2) f_found_in [] [tD t, .int x] = .exc .unfit) : callN P (n + 4) f__law_unfit_too [] [tD t, .int x] = .ok (.bool true) [] := by
  rw [run_p h_unfit2 _ (by rfl)]
  unfold b__law_unfit_too
  have e1 := e (n + 1)
  have e2 : callN P (n + 1 + 2) f_judge_found_in [] [tD t, .int x, .none] = .exc .unfit := by
    rw [run_p h_jfound _ (by rfl)]
    unfold b_judge_found_in
    have e1 := e n
    simp -implicitDefEqProofs (disch := first | rfl | omega | (simp only [List.length_append, List.length_cons, List.length_nil, List.length_reverse, List.length_map]; omega) | (simp; done) | fail) [e1]
  unfold l0__law_unfit_too
  simp -implicitDefEqProofs (disch := first | rfl | omega | (simp only [List.length_append, List.length_cons, List.length_nil, List.length_reverse, List.length_map]; omega) | (simp; done) | fail) [e1, e2, forL, hdl]
theorem near2_spec (n : Nat) {st : List D} (hst : DrOk st) (R : Rect t h w) (hh : h ≤ 4) (hw : w ≤ 4) (hs : h * w ≤ 64) {lo hi : Int} (B : Btw lo hi t) (B' : Btw (-1000) 1000 t) (x : Int) : ∃ d st', callN P (n + 5) f__law_told_near_too st [tD t, .int x] = .ok d st' ∧ DrOk st' ∧ Askd d := by
  rw [run_i h_near2 _ (by rfl)]
  unfold b__law_told_near_too
  obtain ⟨p, st1, e1, p0, p1, hst1⟩ := next_spec lib (n + 3) hst (lim := 2) (by omega) (by omega)
  replace e1 : callN P (n + 3 + 1) f__law_next st [PyData.int 2] = CR.ok (PyData.int p) st1 := e1
  have call : ∀ (t' : List (List Int)) (h' w' : Nat) (x' : Int), Rect t' h' w' → Btw (-1000) 1000 t' → h' ≤ 4 → w' ≤ 4 → h' * w' ≤ 64 → (∃ d, callN P (n + 4) f_found_in [] [tD t', .int x'] = .ok d [] ∧ Askd d) ∨ callN P (n + 4) f_found_in [] [tD t', .int x'] = .exc .unfit := by
    intro t' h' w' x' R' B' q1 q2 q3
    have e := found_all (n + 2) R' (by omega) (by omega) q3 B' x'
    cases q : badT t' h'
    · rw [q, if_neg (by decide)] at e
      exact .inl ⟨_, e, (toldF_told (h := h') (w := w') (by omega) (by omega) t' x').askd⟩
    · rw [q, if_pos rfl] at e
      exact .inr e
  have p3 : p = 0 ∨ p = 1 := by omega
  rcases p3 with rfl | rfl
  · obtain ⟨t', st2, e2, hst2, N⟩ := near_tab lib n hst1 R (by omega) (by omega) B
    replace e2 : callN P (n + 4) f__law_neighbour st1 [tD t] = .ok (tD t') st2 := e2
    rcases check_near h_check (n + 2) N (by omega) (by omega) (lo := -1000) (hi := 1000) with ⟨h', w', R', B', h1, h2, h3⟩ | e3 | e3
    · rcases call t' h' w' x R' B' (by omega) (by omega) h3 with ⟨d, e3, hd⟩ | e3
      · exact ⟨d, st2, by simp -implicitDefEqProofs (disch := first | rfl | omega | (simp only [List.length_append, List.length_cons, List.length_nil, List.length_reverse, List.length_map]; omega) | (simp; done) | fail) [cq0, e1, e2, e3, hdl], hst2, hd⟩
      · exact ⟨.tuple [], st2, by simp -implicitDefEqProofs (disch := first | rfl | omega | (simp only [List.length_append, List.length_cons, List.length_nil, List.length_reverse, List.length_map]; omega) | (simp; done) | fail) [cq0, e1, e2, e3, hdl], hst2, askd_nil⟩
    · have e3 := found_exc (n + 2) x e3
      exact ⟨.tuple [], st2, by simp -implicitDefEqProofs (disch := first | rfl | omega | (simp only [List.length_append, List.length_cons, List.length_nil, List.length_reverse, List.length_map]; omega) | (simp; done) | fail) [cq0, e1, e2, e3, hdl], hst2, askd_nil⟩
    · have e3 := found_exc (n + 2) x e3
      exact ⟨.tuple [], st2, by simp -implicitDefEqProofs (disch := first | rfl | omega | (simp only [List.length_append, List.length_cons, List.length_nil, List.length_reverse, List.length_map]; omega) | (simp; done) | fail) [cq0, e1, e2, e3, hdl], hst2, askd_nil⟩
  · obtain ⟨j, st2, e2, hst2, g1⟩ := neigh_int lib (n + 2) hst1 x
    replace e2 : callN P (n + 2 + 2) f__law_neighbour st1 [.int x] = .ok (.int j) st2 := e2
    rcases call t h w j R B' hh hw hs with ⟨d, e3, hd⟩ | e3
    · exact ⟨d, st2, by simp -implicitDefEqProofs (disch := first | rfl | omega | (simp only [List.length_append, List.length_cons, List.length_nil, List.length_reverse, List.length_map]; omega) | (simp; done) | fail) [cq0, e1, e2, e3, hdl], hst2, hd⟩
    · exact ⟨.tuple [], st2, by simp -implicitDefEqProofs (disch := first | rfl | omega | (simp only [List.length_append, List.length_cons, List.length_nil, List.length_reverse, List.length_map]; omega) | (simp; done) | fail) [cq0, e1, e2, e3, hdl], hst2, askd_nil⟩
/-! the law's own walk -/
theorem law_walk (n : Nat) (R : Rect t h w) (hh : h ≤ 64) (hw : w ≤ 64) (x : Int) (x2 x3 : Option AV) : ∀ (k fuel : Nat) (ms : List (Int × Int)) (r c : Int), k + 1 < fuel → 0 ≤ r → r ≤ h → -1 ≤ c → c < w → ((h : Int) - r) + (c + 1) ≤ k → ms.length + k ≤ 1000 → (ms = [] ∨ ∃ ms' p, ms = ms' ++ [p] ∧ p ∈ cellsZ h w ∧ atT t p.1 p.2 ≠ x) → ∃ p5,
    whlL (fun ρ => truR (evE (callN P (n + 1)) (.and (.call 18 [(.var 0), (.var 5)]) (.or (.cmp .eq (.bor 4) (.lst [])) (.cmp .ne (.call 17 [(.var 0), (.idx (.bor 4) (.neg (.int 1)))]) (.var 1)))) ρ)) (fun ρ => exB (callN P (n + 1)) l0__law_accepts_too ρ) fuel [some (.d (tD t)), some (.d (.int x)), x2, x3, some (.ol (ms.map cD)), some (.d (.tuple [.int r, .int c]))] =
      .next [some (.d (tD t)), some (.d (.int x)), x2, x3, some (.ol ((ms ++ walkZ t h x k r c).map cD)), p5]
  | k, 0, _, _, _, hf, _, _, _, _, _, _, _ => absurd hf (Nat.not_lt_zero _)
  | 0, fuel + 1, ms, r, c, hf, h0, h1, h2, h3, hm, hk, hms => by
    refine ⟨some (.d (.tuple [.int r, .int c])), ?_⟩
    have e0 := inside_spec h_linside n R r c
    rw [show inZ h w (r, c) = false by unfold inZ; rw [decide_eq_false (show ¬ r < (h : Int) by omega)]; simp] at e0
    rw [whlL]
    simp -implicitDefEqProofs (disch := first | rfl | omega | (simp only [List.length_append, List.length_cons, List.length_nil, List.length_reverse, List.length_map]; omega) | (simp; done) | fail) [e0, walkZ]
  | k + 1, fuel + 1, ms, r, c, hf, h0, h1, h2, h3, hm, hk, hms => by
    have LL : LIM = 1000000 := rfl
    have e0 := inside_spec h_linside n R r c
    by_cases q : r < h ∧ 0 ≤ c
    · have hin : (r, c) ∈ cellsZ h w := mem_cellsZ.mpr ⟨h0, q.1, q.2, h3⟩
      rw [inZ_iff.mpr hin] at e0
      have ea := at_spec h_lat n R h0 q.1 q.2 h3
      have wk : walkZ t h x (k + 1) r c = (r, c) :: (if atT t r c = x then [] else if atT t r c < x then walkZ t h x k (r + 1) c else walkZ t h x k r (c - 1)) := by rw [walkZ, if_pos q]
      have cond : truR (evE (callN P (n + 1)) (.and (.call 18 [(.var 0), (.var 5)]) (.or (.cmp .eq (.bor 4) (.lst [])) (.cmp .ne (.call 17 [(.var 0), (.idx (.bor 4) (.neg (.int 1)))]) (.var 1)))) [some (.d (tD t)), some (.d (.int x)), x2, x3, some (.ol (ms.map cD)), some (.d (.tuple [.int r, .int c]))]) = .ok true [some (.d (tD t)), some (.d (.int x)), x2, x3, some (.ol (ms.map cD)), some (.d (.tuple [.int r, .int c]))] := by
        rcases hms with rfl | ⟨ms', p, rfl, hp, hx⟩
        · have nn : cmpD .eq (.list []) (.list []) = some true := eq_nil_cells (cs := [])
          simp -implicitDefEqProofs (disch := first | rfl | omega | (simp only [List.length_append, List.length_cons, List.length_nil, List.length_reverse, List.length_map]; omega) | (simp; done) | fail) [e0, nn]
        · obtain ⟨k1, k2, k3, k4⟩ := mem_cellsZ.mp (show (p.1, p.2) ∈ cellsZ h w from hp)
          have eb := at_spec h_lat n R k1 k2 k3 k4
          have la : L2.atI ((ms' ++ [p]).map cD) (-1) = some (.tuple [.int p.1, .int p.2]) := by rw [List.map_append]; exact atI_last
          have ne := eq_nil_cells (cs := ms' ++ [p])
          rw [show (ms' ++ [p]).isEmpty = false by cases ms' <;> rfl] at ne
          generalize (ms' ++ [p]).map cD = mm at *
          simp -implicitDefEqProofs (disch := first | rfl | omega | (simp only [List.length_append, List.length_cons, List.length_nil, List.length_reverse, List.length_map]; omega) | (simp; done) | fail) [e0, ne, la, eb, hx, -atI_ng]
      have ap : (ms ++ [(r, c)]).map cD = ms.map cD ++ [.tuple [.int r, .int c]] := by rw [List.map_append]; rfl
      rw [wk, whlL, cond]
      by_cases q4 : atT t r c < x
      · have q3 : ¬ atT t r c = x := by omega
        rw [if_neg q3, if_pos q4]
        obtain ⟨p5, e⟩ := law_walk n R hh hw x x2 x3 k fuel (ms ++ [(r, c)]) (r + 1) c (by omega) (by omega) (by omega) (by omega) (by omega) (by omega) (by rw [List.length_append]; show ms.length + 1 + k ≤ 1000; omega) (.inr ⟨ms, (r, c), rfl, hin, q3⟩)
        refine ⟨p5, ?_⟩
        have bd : exB (callN P (n + 1)) l0__law_accepts_too [some (.d (tD t)), some (.d (.int x)), x2, x3, some (.ol (ms.map cD)), some (.d (.tuple [.int r, .int c]))] = .next [some (.d (tD t)), some (.d (.int x)), x2, x3, some (.ol (ms.map cD ++ [.tuple [.int r, .int c]])), some (.d (.tuple [.int (r + 1), .int c]))] := by
          unfold l0__law_accepts_too
          simp -implicitDefEqProofs (disch := first | rfl | omega | (simp only [List.length_append, List.length_cons, List.length_nil, List.length_reverse, List.length_map]; omega) | (simp; done) | fail) [ea, q4]
        show Fl.turn _ _ = _
        rw [bd, Fl.turn_next, ← ap, e, List.append_assoc]; rfl
      · have bd : exB (callN P (n + 1)) l0__law_accepts_too [some (.d (tD t)), some (.d (.int x)), x2, x3, some (.ol (ms.map cD)), some (.d (.tuple [.int r, .int c]))] = .next [some (.d (tD t)), some (.d (.int x)), x2, x3, some (.ol (ms.map cD ++ [.tuple [.int r, .int c]])), some (.d (.tuple [.int r, .int (c - 1)]))] := by
          unfold l0__law_accepts_too
          simp -implicitDefEqProofs (disch := first | rfl | omega | (simp only [List.length_append, List.length_cons, List.length_nil, List.length_reverse, List.length_map]; omega) | (simp; done) | fail) [ea, q4]
        by_cases q3 : atT t r c = x
        · rw [if_pos q3]
          obtain ⟨fuel, rfl⟩ : ∃ f, fuel = f + 1 := ⟨fuel - 1, by omega⟩
          refine ⟨some (.d (.tuple [.int r, .int (c - 1)])), ?_⟩
          have e9 := inside_spec h_linside n R r (c - 1)
          have la : L2.atI ((ms ++ [(r, c)]).map cD) (-1) = some (.tuple [.int r, .int c]) := by rw [List.map_append]; exact atI_last
          have ne := eq_nil_cells (cs := ms ++ [(r, c)])
          rw [show (ms ++ [(r, c)]).isEmpty = false by cases ms <;> rfl] at ne
          show Fl.turn _ _ = _
          rw [bd, Fl.turn_next, ← ap, whlL]
          generalize (ms ++ [(r, c)]).map cD = mm at *
          cases q9 : inZ h w (r, c - 1)
          · rw [q9] at e9
            simp -implicitDefEqProofs (disch := first | rfl | omega | (simp only [List.length_append, List.length_cons, List.length_nil, List.length_reverse, List.length_map]; omega) | (simp; done) | fail) [e9]
          · rw [q9] at e9
            simp -implicitDefEqProofs (disch := first | rfl | omega | (simp only [List.length_append, List.length_cons, List.length_nil, List.length_reverse, List.length_map]; omega) | (simp; done) | fail) [e9, ne, la, ea, q3, -atI_ng]
        · rw [if_neg q3, if_neg q4]
          obtain ⟨p5, e⟩ := law_walk n R hh hw x x2 x3 k fuel (ms ++ [(r, c)]) r (c - 1) (by omega) (by omega) (by omega) (by omega) (by omega) (by omega) (by rw [List.length_append]; show ms.length + 1 + k ≤ 1000; omega) (.inr ⟨ms, (r, c), rfl, hin, q3⟩)
          refine ⟨p5, ?_⟩
          show Fl.turn _ _ = _
          rw [bd, Fl.turn_next, ← ap, e, List.append_assoc]; rfl
    · refine ⟨some (.d (.tuple [.int r, .int c])), ?_⟩
      rw [show inZ h w (r, c) = false by
        rw [← Bool.not_eq_true]
        intro z
        obtain ⟨a1, a2, a3, a4⟩ := mem_cellsZ.mp (inZ_iff.mp z)
        exact q ⟨a2, a3⟩] at e0
      rw [walkZ, if_neg q, whlL]
      simp -implicitDefEqProofs (disch := first | rfl | omega | (simp only [List.length_append, List.length_cons, List.length_nil, List.length_reverse, List.length_map]; omega) | (simp; done) | fail) [e0]
theorem acc2_spec (n : Nat) (R : Rect t h w) (hh : h ≤ 4) (hw : w ≤ 4) (hs : h * w ≤ 64) (x : Int) {a : D} (ha : Askd a) :
    ∃ b : Bool, callN P (n + 11) f__law_accepts_too [] [tD t, .int x, a] = .ok (.bool b) [] ∧ (b = true ↔ a = toldF t h w x) := by
  rw [run_p h_acc2 _ (by rfl)]
  unfold b__law_accepts_too
  have LL : LIM = 1000000 := rfl
  obtain ⟨g, i⟩ := toldF_gs hh hw t x
  have gt := (Gs.cons (Gd.str (b := 4) (k := 2) (s := wCells) (by decide +kernel)) g).t
  obtain ⟨b, et, hb⟩ := same_asked lib n ha gt (by decide) (by rw [show wCells.length = 5 by decide +kernel]; decide)
  replace et : callN P (n + 10) f__law_same [] [a, .tuple [.str wCells, .tuple (((cellsZ h w).filter (eqP t x)).map cD), .tuple ((walkZ t h x (h + w) 0 (w - 1)).map cD)]] = .ok (.bool b) [] := et
  refine ⟨b, ?_, hb⟩
  have e1 := lcells_spec h_lcells (n + 9) R (by omega) (by omega) (by omega)
  have cl : (cellsZ h w).length ≤ 64 := by rw [cellsZ_len]; omega
  have fl : ((cellsZ h w).filter (eqP t x)).length ≤ 64 := Nat.le_trans (List.length_filter_le _ _) cl
  have wl := walk_len t h x (h + w) 0 (w - 1)
  have wp := R.wp
  have r0 := R.row0
  have w0 := R.wid0
  have ll : ∀ g : D → O (List D), (∀ p ∈ cellsZ h w, g (cD p) = .ok (if eqP t x p then [cD p] else [])) → lcO g ((cellsZ h w).map cD) = .ok (.list (((cellsZ h w).filter (eqP t x)).map cD)) := fun g hg => lcO_filter _ cD _ cD (by omega) hg
  have g1 : exS (callN P (n + 10)) (.setv (.n 3) (.bi .tuple [(.lc (.var 5) [5] (.n 5) (.e (.call 16 [(.var 0)])) (some (.cmp .eq (.call 17 [(.var 0), (.var 5)]) (.var 1))))])) [some (.d (tD t)), some (.d (.int x)), some (.d a), none, none, none] = .next [some (.d (tD t)), some (.d (.int x)), some (.d a), some (.d (.tuple (((cellsZ h w).filter (eqP t x)).map cD))), none, none] := by
    simp -implicitDefEqProofs (disch := first | rfl | omega | (simp only [List.length_append, List.length_cons, List.length_nil, List.length_reverse, List.length_map]; omega) | (simp; done) | fail) [e1]
    rw [ll _ (by
      intro p hp
      obtain ⟨k1, k2, k3, k4⟩ := mem_cellsZ.mp (show (p.1, p.2) ∈ cellsZ h w from hp)
      have e5 := at_spec h_lat (n + 9) R k1 k2 k3 k4
      rw [show cD p = .tuple [.int p.1, .int p.2] from rfl]
      unfold eqP
      by_cases q : atT t p.1 p.2 = x <;> simp -implicitDefEqProofs (disch := first | rfl | omega | (simp only [List.length_append, List.length_cons, List.length_nil, List.length_reverse, List.length_map]; omega) | (simp; done) | fail) [e5, q])]
    simp -implicitDefEqProofs (disch := first | rfl | omega | (simp only [List.length_append, List.length_cons, List.length_nil, List.length_reverse, List.length_map]; omega) | (simp; done) | fail)
  obtain ⟨p5, e3⟩ := law_walk (n + 9) R (by omega) (by omega) x (some (.d a)) (some (.d (.tuple (((cellsZ h w).filter (eqP t x)).map cD)))) (h + w) WF [] 0 (w - 1) (by show h + w + 1 < 100000; omega) (by omega) (by omega) (by omega) (by omega) (by omega) (by simp; omega) (.inl rfl)
  rw [List.nil_append] at e3
  have e3' : exS (callN P (n + 10)) (.whl (.and (.call 18 [(.var 0), (.var 5)]) (.or (.cmp .eq (.bor 4) (.lst [])) (.cmp .ne (.call 17 [(.var 0), (.idx (.bor 4) (.neg (.int 1)))]) (.var 1)))) l0__law_accepts_too) [some (.d (tD t)), some (.d (.int x)), some (.d a), some (.d (.tuple (((cellsZ h w).filter (eqP t x)).map cD))), some (.ol []), some (.d (.tuple [.int 0, .int (w - 1)]))] = .next [some (.d (tD t)), some (.d (.int x)), some (.d a), some (.d (.tuple (((cellsZ h w).filter (eqP t x)).map cD))), some (.ol ((walkZ t h x (h + w) 0 (w - 1)).map cD)), p5] := by
    rw [s_whl]; exact e3
  generalize walkZ t h x (h + w) 0 (w - 1) = wk at *
  show outB (exB (callN P (n + 10)) (_ :: _ :: _) [some (.d (tD t)), some (.d (.int x)), some (.d a), none, none, none]) = _
  rw [b_cons, g1, Fl.bind_next]
  simp -implicitDefEqProofs (disch := first | rfl | omega | (simp only [List.length_append, List.length_cons, List.length_nil, List.length_reverse, List.length_map]; omega) | (simp; done) | fail) [-atI_nn, r0, w0, e3', -s_whl, et]
/-! the tables that are given -/
theorem once_at {r c : Int} (h0 : 0 ≤ r) (h1 : r < h) (h2 : 0 ≤ c) (h3 : c < w) : atT (onceZ t h w) r c = pyAt (sortZ (colZ (t.map sortZ) c)) r := rng_at (g := fun r c => pyAt (sortZ (colZ (t.map sortZ) c)) r) h0 h1 h2 h3
theorem once_fit (R : Rect t h w) : badT (onceZ t h w) h = false := by
  unfold badT
  rw [List.any_eq_false]
  intro r hr
  rw [mem_rngZ] at hr
  have ro := R.once
  have m := (rowT_mem (t := onceZ t h w) (r := r) hr.1 (by rw [ro.hl]; exact hr.2)).1
  have s1 : sortZ (rowT (onceZ t h w) r) = rowT (onceZ t h w) r := by
    have := once_rows R
    conv at this => rhs; rw [← List.map_id (onceZ t h w)]
    exact List.map_inj_left.mp this _ m
  unfold badR
  rw [s1, decide_eq_true rfl, Bool.not_true, Bool.false_or, List.any_eq_true]
  rintro ⟨p, hp, hg⟩
  unfold aboveT at hp
  simp only [gtP, decide_eq_true_eq] at hg
  by_cases c0 : 0 < r
  · rw [if_pos c0, ro.rowL (r := r - 1) (by omega) (by omega), ro.rowL hr.1 hr.2, List.zip_map'] at hp
    obtain ⟨c, hc, rfl⟩ := List.mem_map.mp hp
    rw [mem_rngZ] at hc
    simp only at hg
    rw [once_at hr.1 hr.2 hc.1 hc.2, once_at (r := r - 1) (by omega) (by omega) hc.1 hc.2] at hg
    have ls : (sortZ (colZ (t.map sortZ) c)).length = h := by rw [sort_len, col_len R.sort]
    have := List.pairwise_iff_getElem.mp (sort_srt (colZ (t.map sortZ) c)) (r - 1).toNat r.toNat (by omega) (by omega) (by omega)
    rw [pyAt_nn hr.1, pyAt_nn (i := r - 1) (by omega), List.getElem?_eq_getElem (by omega), List.getElem?_eq_getElem (by omega)] at hg
    simp only [Option.getD_some] at hg
    omega
  · rw [if_neg c0, ro.rowL hr.1 hr.2, List.zip_map'] at hp
    obtain ⟨c, hc, rfl⟩ := List.mem_map.mp hp
    simp only at hg
    omega
theorem bad1 (n : Nat) (x : Int) : callN P (n + 2) f_found_in [] [tD [[2, 1]], .int x] = .exc .unfit := by
  have R : Rect [[2, 1]] 1 2 := ⟨rfl, by simp, by decide, by decide⟩
  rw [found_all n R (by decide) (by decide) (by decide) (fun r hr i hi => by
    rw [List.mem_singleton] at hr; subst hr
    simp only [List.mem_cons, List.not_mem_nil, or_false] at hi; omega) x, if_pos]
  unfold badT
  rw [List.any_eq_true]
  refine ⟨0, by rw [mem_rngZ]; omega, ?_⟩
  unfold badR
  rw [Bool.or_eq_true]
  left
  rw [Bool.not_eq_true', decide_eq_false_iff_not]
  intro z
  have : rowT [[2, 1]] 0 = [2, 1] := rfl
  rw [this] at z
  have s := sort_srt [2, 1]
  rw [← z] at s
  have := List.pairwise_cons.mp s
  have := this.1 1 (by simp)
  omega
theorem bad2 (n : Nat) (x : Int) : callN P (n + 2) f_found_in [] [tD [[2], [1]], .int x] = .exc .unfit := by
  have R : Rect [[2], [1]] 2 1 := ⟨rfl, by simp, by decide, by decide⟩
  rw [found_all n R (by decide) (by decide) (by decide) (fun r hr i hi => by
    simp only [List.mem_cons, List.not_mem_nil, or_false] at hr
    rcases hr with rfl | rfl <;> (rw [List.mem_singleton] at hi; omega)) x, if_pos]
  unfold badT
  rw [List.any_eq_true]
  refine ⟨1, by rw [mem_rngZ]; omega, ?_⟩
  unfold badR
  rw [Bool.or_eq_true]
  right
  rfl
end
end K68
end G

set_option Elab.async false
set_option linter.all false
set_option maxRecDepth 100000
set_option maxHeartbeats 4000000
set_option autoImplicit false
namespace G
namespace K68
open PySem

theorem h_odd' (n : Nat) {d : D} (h : Told d) {st : List D} (hst : DrOk st) : ∃ r st', callN P (n + 13) f__law_odd st [d] = .ok r st' ∧ DrOk st' ∧ Askd r := odd_told lib n h hst
theorem h_same' (n : Nat) (a : Bool) : callN P (n + 1) f__law_same [] [.bool a, .bool a] = .ok (.bool true) [] := by
  have := same_bool lib n a a
  rwa [beq_self_eq_true] at this
theorem next' (n : Nat) {st : List D} (h : DrOk st) {lim : Int} (h1 : 1 ≤ lim) (h2 : lim < 1000000000) : ∃ r st', callN P (n + 1) f__law_next st [.int lim] = .ok (.int r) st' ∧ 0 ≤ r ∧ r < lim ∧ DrOk st' := next_spec lib n h h1 h2
theorem h_drawn' (n : Nat) {st : List D} (hst : DrOk st) {low high least most : Int} (h1 : 1 ≤ low) (h2 : low ≤ high) (h3 : high ≤ 64) (h4 : least ≤ most) (h5 : most - least < 1000) :
    ∃ (t : List (List Int)) (h w : Nat) (st' : List D), callN P (n + 2) f__law_drawn_table st [.int low, .int high, .int least, .int most] = .ok (tD t) st' ∧ DrOk st' ∧ Rect t h w ∧ Btw least most t ∧ low ≤ h ∧ h ≤ high ∧ low ≤ w ∧ w ≤ high := drawn_spec lib h_drawn n hst h1 h2 h3 h4 h5
theorem mul_rep {k : Int} (h1 : 1 ≤ k) (h2 : k ≤ 1000) : binD .mul (.tuple [.int 0]) (.int k) = some (rD (List.replicate k.toNat 0)) := by
  show (if decide (1 ≤ k) && decide (k ≤ 1000) then some (PyData.tuple (List.replicate k.toNat (PyData.int 0))) else none) = _
  rw [decide_eq_true h1, decide_eq_true h2, rD, List.map_replicate]; rfl
section
variable {ns : List Int} {t : List (List Int)} {h w : Nat}

theorem ask1 (R : Rect t h w) (hh : h ≤ 4) (hw : w ≤ 4) (hs : h * w ≤ 64) (B : Btw (-1000) 1000 t) {told : D} (ht : Told told) {seen : List D} (hse : Seen seen) (x3 x4 x7 x10 x11 o8 o9 : Option AV) {st : List D} (hst : DrOk st) :
    ∃ ρ', (∃ st' o8 o9, DrOk st' ∧ ρ' = [some (.sc ns), some (.ol st'), some (.d (.list seen)), x3, x4, some (.d (tD t)), some (.d told), x7, o8, o9, x10, x11]) ∧
      forL (Tg.n 8).bind (fun ρ => exB (callN P 30) l0_law ρ) ((rngZ 0 (8 + seen.length)).map .int) [some (.sc ns), some (.ol st), some (.d (.list seen)), x3, x4, some (.d (tD t)), some (.d told), x7, o8, o9, x10, x11] = .next ρ' := by
  refine forL_pre (Rep := fun _ ρ' => ∃ st' o8 o9, DrOk st' ∧ ρ' = [some (.sc ns), some (.ol st'), some (.d (.list seen)), x3, x4, some (.d (tD t)), some (.d told), x7, o8, o9, x10, x11]) ⟨st, o8, o9, hst, rfl⟩ ?_
  rintro us z zs ρ h1 ⟨st, o8, o9, hst, rfl⟩
  have hz : z ∈ rngZ 0 (8 + seen.length) := by rw [h1]; simp
  rw [mem_rngZ] at hz
  unfold l0_law
  by_cases c : z < 8
  · obtain ⟨a, st', e, hst', ha⟩ := h_odd' 17 ht hst
    obtain ⟨b, e1, q1⟩ := judge_spec 27 R hh hw hs B ha
    obtain ⟨b', e2, q2⟩ := acc_spec 19 R hh hw B ha
    have : b' = b := by rw [Bool.eq_iff_iff, q1, q2]
    subst this
    have e3 := h_same' 29 b'
    simp -implicitDefEqProofs (disch := first | rfl | omega | (simp only [List.length_append, List.length_cons, List.length_nil, List.length_reverse, List.length_map]; omega) | (simp; done) | fail) [cq1, c, e, e1, e2, e3, hst']
  · obtain ⟨a, ha, e⟩ := pick_at (xs := seen) (r := z - 8) (by omega) (by omega)
    have ha := hse.a a ha
    obtain ⟨b, e1, q1⟩ := judge_spec 27 R hh hw hs B ha
    obtain ⟨b', e2, q2⟩ := acc_spec 19 R hh hw B ha
    have : b' = b := by rw [Bool.eq_iff_iff, q1, q2]
    subst this
    have e3 := h_same' 29 b'
    simp -implicitDefEqProofs (disch := first | rfl | omega | (simp only [List.length_append, List.length_cons, List.length_nil, List.length_reverse, List.length_map]; omega) | (simp; done) | fail) [cq1, c, e, e1, e2, e3, hst, -atI_nn]

theorem ask2 (R : Rect t h w) (hh : h ≤ 4) (hw : w ≤ 4) (hs : h * w ≤ 64) (B : Btw (-1000) 1000 t) (hb : badT t h = false) (x : Int) {told : D} (ht : Told told) {seen : List D} (hse : Seen seen) (x2 x4 x5 x7 o8 o9 : Option AV) {st : List D} (hst : DrOk st) :
    ∃ ρ', (∃ st' o8 o9, DrOk st' ∧ ρ' = [some (.sc ns), some (.ol st'), x2, some (.d (.list seen)), x4, x5, some (.d told), x7, o8, o9, some (.d (tD t)), some (.d (.int x))]) ∧
      forL (Tg.n 8).bind (fun ρ => exB (callN P 30) l1_law ρ) ((rngZ 0 (8 + seen.length)).map .int) [some (.sc ns), some (.ol st), x2, some (.d (.list seen)), x4, x5, some (.d told), x7, o8, o9, some (.d (tD t)), some (.d (.int x))] = .next ρ' := by
  refine forL_pre (Rep := fun _ ρ' => ∃ st' o8 o9, DrOk st' ∧ ρ' = [some (.sc ns), some (.ol st'), x2, some (.d (.list seen)), x4, x5, some (.d told), x7, o8, o9, some (.d (tD t)), some (.d (.int x))]) ⟨st, o8, o9, hst, rfl⟩ ?_
  rintro us z zs ρ h1 ⟨st, o8, o9, hst, rfl⟩
  have hz : z ∈ rngZ 0 (8 + seen.length) := by rw [h1]; simp
  rw [mem_rngZ] at hz
  unfold l1_law
  by_cases c : z < 8
  · obtain ⟨a, st', e, hst', ha⟩ := h_odd' 17 ht hst
    obtain ⟨b, e1, q1⟩ := judge2_spec 27 R hh hw hs B hb x ha
    obtain ⟨b', e2, q2⟩ := acc2_spec 19 R hh hw hs x ha
    have : b' = b := by rw [Bool.eq_iff_iff, q1, q2]
    subst this
    have e3 := h_same' 29 b'
    simp -implicitDefEqProofs (disch := first | rfl | omega | (simp only [List.length_append, List.length_cons, List.length_nil, List.length_reverse, List.length_map]; omega) | (simp; done) | fail) [cq1, c, e, e1, e2, e3, hst']
  · obtain ⟨a, ha, e⟩ := pick_at (xs := seen) (r := z - 8) (by omega) (by omega)
    have ha := hse.a a ha
    obtain ⟨b, e1, q1⟩ := judge2_spec 27 R hh hw hs B hb x ha
    obtain ⟨b', e2, q2⟩ := acc2_spec 19 R hh hw hs x ha
    have : b' = b := by rw [Bool.eq_iff_iff, q1, q2]
    subst this
    have e3 := h_same' 29 b'
    simp -implicitDefEqProofs (disch := first | rfl | omega | (simp only [List.length_append, List.length_cons, List.length_nil, List.length_reverse, List.length_map]; omega) | (simp; done) | fail) [cq1, c, e, e1, e2, e3, hst, -atI_nn]

def Inv (ns : List Int) (ρ : Env) : Prop := ∃ st seen seen2 o4 o5 o6 o7 o8 o9 o10 o11, DrOk st ∧ Seen seen ∧ Seen seen2 ∧ ρ = [some (.sc ns), some (.ol st), some (.d (.list seen)), some (.d (.list seen2)), o4, o5, o6, o7, o8, o9, o10, o11]
theorem unf1 (y : Int) : callN P 30 f__law_unfit_too [] [tD [[2, 1]], .int y] = .ok (.bool true) [] := unfit2_spec (t := [[2, 1]]) 26 y fun n => bad1 n y
theorem unf2 (y : Int) : callN P 30 f__law_unfit_too [] [tD [[2], [1]], .int y] = .ok (.bool true) [] := unfit2_spec (t := [[2], [1]]) 26 y fun n => bad2 n y
theorem turn_ok (ns : List Int) (z : Int) (ρ : Env) (hI : Inv ns ρ) : ∃ ρ1, (Tg.n 4).bind (.int z) ρ = some ρ1 ∧ ∃ ρ', exB (callN P 30) l2_law ρ1 = .next ρ' ∧ Inv ns ρ' := by
  obtain ⟨st, seen, seen2, o4, o5, o6, o7, o8, o9, o10, o11, hst, hs, hs2, rfl⟩ := hI
  refine ⟨[some (.sc ns), some (.ol st), some (.d (.list seen)), some (.d (.list seen2)), some (.d (.int z)), o5, o6, o7, o8, o9, o10, o11], by simp -implicitDefEqProofs (disch := first | rfl | omega | (simp only [List.length_append, List.length_cons, List.length_nil, List.length_reverse, List.length_map]; omega) | (simp; done) | fail), ?_⟩
  unfold l2_law
  have LL : LIM = 1000000 := rfl
  obtain ⟨t, h, w, st1, e1, hst1, R, B, a1, a2, a3, a4⟩ := h_drawn' 28 hst (low := 1) (high := 4) (least := -3) (most := 9) (by omega) (by omega) (by omega) (by omega) (by omega)
  have hh : h ≤ 4 := by omega
  have hw : w ≤ 4 := by omega
  have hm : h * w ≤ 64 := Nat.le_trans (Nat.mul_le_mul hh hw) (by decide)
  have B' : Btw (-1000) 1000 t := fun r hr i hi => by have := B r hr i hi; omega
  have r0 := R.row0'
  have w0 := R.wid0
  have hl := R.hl
  refine step ?_
  simp -implicitDefEqProofs (disch := first | rfl | omega | (simp only [List.length_append, List.length_cons, List.length_nil, List.length_reverse, List.length_map]; omega) | (simp; done) | fail) [-b_cons, cq1, e1]
  have e2 := sorted_ok 28 R (by omega) (by omega) hm B'
  refine step ?_
  simp -implicitDefEqProofs (disch := first | rfl | omega | (simp only [List.length_append, List.length_cons, List.length_nil, List.length_reverse, List.length_map]; omega) | (simp; done) | fail) [-b_cons, e2]
  obtain ⟨nt, st2, e3, hst2, hnt⟩ := near_spec 25 hst1 R hh hw B
  refine step ?_
  simp -implicitDefEqProofs (disch := first | rfl | omega | (simp only [List.length_append, List.length_cons, List.length_nil, List.length_reverse, List.length_map]; omega) | (simp; done) | fail) [-b_cons, cq1, e3]
  have ht := toldS_told R hh hw B'
  obtain ⟨b, e4, q1⟩ := judge_spec 27 R hh hw hm B' ht.askd
  obtain ⟨b', e5, q2⟩ := acc_spec 19 R hh hw B' ht.askd
  obtain rfl : b = true := q1.mpr rfl
  obtain rfl : b' = true := q2.mpr rfl
  refine step ?_
  simp -implicitDefEqProofs (disch := first | rfl | omega | (simp only [List.length_append, List.length_cons, List.length_nil, List.length_reverse, List.length_map]; omega) | (simp; done) | fail) [-b_cons, e4, e5]
  -- unfit
  have em := mul_rep (k := (w : Int) + 1) (by omega) (by omega)
  have bad : ∀ n, callN P (n + 1) f_check_table [] [tD (t ++ [List.replicate ((w : Int) + 1).toNat 0]), .int (-1000), .int 1000] = .exc .unfit := fun n => check_bad h_check n (by simp) (by rw [List.length_append, hl]; show h + 1 ≤ 1000; omega) (fun r hr => by
    rcases List.mem_append.mp hr with hr | hr
    · rw [R.wl r hr]; omega
    · rw [List.mem_singleton.mp hr, List.length_replicate]; omega) (R.long _ (by rw [List.length_replicate]; omega))
  have u1 := unfit_spec 26 bad
  have ea : binD .add (tD t) (.tuple [rD (List.replicate ((w : Int) + 1).toNat 0)]) = some (tD (t ++ [List.replicate ((w : Int) + 1).toNat 0])) := by
    show addD (.tuple (t.map rD)) (.tuple [rD (List.replicate ((w : Int) + 1).toNat 0)]) = some (.tuple ((t ++ [List.replicate ((w : Int) + 1).toNat 0]).map rD))
    rw [List.map_append]
    exact add_t (by rw [List.length_map, hl]; show h + 1 ≤ LIM; omega)
  generalize hbig : t ++ [List.replicate ((w : Int) + 1).toNat 0] = big at *
  generalize hrow : rD (List.replicate ((w : Int) + 1).toNat 0) = brow at *
  refine step ?_
  simp -implicitDefEqProofs (disch := first | rfl | omega | (simp only [List.length_append, List.length_cons, List.length_nil, List.length_reverse, List.length_map]; omega) | (simp; done) | fail) [-b_cons, -atI_nn, R.row0, w0, em, ea, u1]
  refine step ?_
  simp -implicitDefEqProofs (disch := first | rfl | omega | (simp only [List.length_append, List.length_cons, List.length_nil, List.length_reverse, List.length_map]; omega) | (simp; done) | fail) [-b_cons, seen_add]
  have hs' := seen_next hs ht.askd hnt
  generalize hse : cutL seen (some (-3)) none ++ [toldS t h w, nt] = seen' at *
  obtain ⟨ρ', ⟨st6, o8', o9', hst6, rfl⟩, e9⟩ := ask1 (ns := ns) R hh hw hm B' ht hs' (some (.d (.list seen2))) (some (.d (.int z))) (some (.d nt)) o10 o11 o8 o9 hst2
  have hsl := hs'.l
  refine step ?_
  simp -implicitDefEqProofs (disch := first | rfl | omega | (simp only [List.length_append, List.length_cons, List.length_nil, List.length_reverse, List.length_map]; omega) | (simp; done) | fail) [-b_cons, e9]
  -- the sorted one
  have e10 := once_spec 28 R (by omega) (by omega)
  refine step ?_
  simp -implicitDefEqProofs (disch := first | rfl | omega | (simp only [List.length_append, List.length_cons, List.length_nil, List.length_reverse, List.length_map]; omega) | (simp; done) | fail) [-b_cons, e10]
  have R2 := R.once
  have B2 := once_btw R B
  have B2' := once_btw R B'
  have fit := once_fit R
  generalize onceZ t h w = u at *
  obtain ⟨x, st7, e11, x0, x1, hst7⟩ := next' 29 hst6 (lim := 14) (by omega) (by omega)
  refine step ?_
  simp -implicitDefEqProofs (disch := first | rfl | omega | (simp only [List.length_append, List.length_cons, List.length_nil, List.length_reverse, List.length_map]; omega) | (simp; done) | fail) [-b_cons, cq1, e11]
  generalize x - 4 = y at *
  have e12 := found_all 28 R2 (by omega) (by omega) hm B2' y
  rw [fit, if_neg (by decide)] at e12
  refine step ?_
  simp -implicitDefEqProofs (disch := first | rfl | omega | (simp only [List.length_append, List.length_cons, List.length_nil, List.length_reverse, List.length_map]; omega) | (simp; done) | fail) [-b_cons, e12]
  obtain ⟨nt2, st8, e13, hst8, hnt2⟩ := near2_spec 25 hst7 R2 hh hw hm B2 B2' y
  refine step ?_
  simp -implicitDefEqProofs (disch := first | rfl | omega | (simp only [List.length_append, List.length_cons, List.length_nil, List.length_reverse, List.length_map]; omega) | (simp; done) | fail) [-b_cons, cq1, e13]
  have ht2 := toldF_told hh hw u y
  obtain ⟨b, e14, q1⟩ := judge2_spec 27 R2 hh hw hm B2' fit y ht2.askd
  obtain ⟨b', e15, q2⟩ := acc2_spec 19 R2 hh hw hm y ht2.askd
  obtain rfl : b = true := q1.mpr rfl
  obtain rfl : b' = true := q2.mpr rfl
  refine step ?_
  simp -implicitDefEqProofs (disch := first | rfl | omega | (simp only [List.length_append, List.length_cons, List.length_nil, List.length_reverse, List.length_map]; omega) | (simp; done) | fail) [-b_cons, e14, e15]
  have v1 : callN P 30 f__law_unfit_too [] [.tuple [.tuple [.int 2, .int 1]], .int y] = .ok (.bool true) [] := unf1 y
  have v2 : callN P 30 f__law_unfit_too [] [.tuple [.tuple [.int 2], .tuple [.int 1]], .int y] = .ok (.bool true) [] := unf2 y
  refine step ?_
  simp -implicitDefEqProofs (disch := first | rfl | omega | (simp only [List.length_append, List.length_cons, List.length_nil, List.length_reverse, List.length_map]; omega) | (simp; done) | fail) [-b_cons, v1, v2]
  refine step ?_
  simp -implicitDefEqProofs (disch := first | rfl | omega | (simp only [List.length_append, List.length_cons, List.length_nil, List.length_reverse, List.length_map]; omega) | (simp; done) | fail) [-b_cons, seen_add]
  have hs2' := seen_next hs2 ht2.askd hnt2
  generalize hse2 : cutL seen2 (some (-3)) none ++ [toldF u h w y, nt2] = seen2' at *
  obtain ⟨ρ', ⟨st9, o8'', o9'', hst9, rfl⟩, e16⟩ := ask2 (ns := ns) R2 hh hw hm B2' fit y ht2 hs2' (some (.d (.list seen'))) (some (.d (.int z))) (some (.d (tD t))) (some (.d nt2)) o8' o9' hst8
  have hsl2 := hs2'.l
  refine step ?_
  simp -implicitDefEqProofs (disch := first | rfl | omega | (simp only [List.length_append, List.length_cons, List.length_nil, List.length_reverse, List.length_map]; omega) | (simp; done) | fail) [-b_cons, e16]
  unfold Inv
  exact ⟨_, _, _, _, _, _, _, _, _, _, _, hst9, hs', hs2', rfl⟩
theorem law_true : ∀ ns : List Int, ns.length ≤ 63 → (∀ z ∈ ns, Builtin.Int.intBits z ≤ 1048576) → ∃ ρ, lawR (callN (tabP tab) 30) d_law ns = .ret (.bool true) ρ := by
  intro ns _ _
  unfold lawR lawE d_law b_law
  obtain ⟨ρ', h, e⟩ := forL_pre (bd := (Tg.n 4).bind) (body := fun ρ => exB (callN P 30) l2_law ρ) (enc := PyData.int) (ys := rngZ 0 3) (ρ := [some (.sc ns), some (.ol [.list (ns.map .int), .int 0, .int 0, .int 1]), some (.d (.list [])), some (.d (.list [])), none, none, none, none, none, none, none, none])
    (Rep := fun _ ρ => Inv ns ρ) (by unfold Inv; exact ⟨_, _, _, _, _, _, _, _, _, _, _, ⟨ns, 0, 0, 1, rfl, by omega, by omega, by omega, by omega⟩, seen_nil, seen_nil, rfl⟩) (by
      intro us z zs ρ _ h
      obtain ⟨ρ1, e1, ρ', e2, h'⟩ := turn_ok ns z ρ h
      exact ⟨ρ1, e1, ρ', .inl e2, h'⟩)
  obtain ⟨_, _, _, _, _, _, _, _, _, _, _, _, _, _, rfl⟩ := h
  have e0 : rngZ 0 3 = [0, 1, 2] := by decide
  rw [e0] at e
  simp only [List.map_cons, List.map_nil] at e
  simp -implicitDefEqProofs (disch := first | rfl | omega | (simp only [List.length_append, List.length_cons, List.length_nil, List.length_reverse, List.length_map]; omega) | (simp; done) | fail) [e0, e]
end
end K68
end G

set_option Elab.async false
set_option linter.all false
set_option maxRecDepth 100000
set_option maxHeartbeats 0
set_option autoImplicit false
namespace G
namespace K68
open PySem PySem.Spec PyProof.Rows L2
theorem ok_tab : okTab gi tab = true := by decide +kernel
theorem ok_law : okLaw gi d_law = true := by decide +kernel
theorem facts {l : PySem.W.OpenLaw} {wd : World} {K : PySem.W.Frag} {h : Heap} {mg : Str → Option Value} {fa u w f0 f1 f2 f3 f4 f5 f6 f7 f8 f9 f10 f11 f12 f13 f14 f15 f16 f17 f18 f19 f20 f21 f22 f23 f24 f25 f26 f27 f28 : Addr} (X : K.In h) (G : h.Ns mainGlobals mg) (hfa : mg "law" = some (.ref fa))
    {od0 od1 od2 od3 od4 od5 od6 od7 od8 od9 od10 od11 od12 od13 od14 od15 od16 od17 od18 od19 od20 od21 od22 od23 od24 od25 od26 od27 od28 an0 an1 an2 an3 an4 an5 an6 an7 an8 an9 an10 an11 an12 an13 an14 an15 an16 an17 an18 an19 an20 an21 an22 an23 an24 an25 an26 an27 an28 : Option Addr} {sl0 sl1 sl2 sl3 sl4 sl5 sl6 sl7 sl8 sl9 sl10 sl11 sl12 sl13 sl14 sl15 sl16 sl17 sl18 sl19 sl20 sl21 sl22 sl23 sl24 sl25 sl26 sl27 sl28 : Array (Option Value)} {oc0 oc1 oc2 oc3 oc4 oc5 oc6 oc7 oc8 oc9 oc10 oc11 oc12 oc13 oc14 oc15 oc16 oc17 oc18 oc19 oc20 oc21 oc22 oc23 oc24 oc25 oc26 oc27 oc28 kV0 kV1 kV2 kV3 kV4 kV5 kV6 kV7 kV8 kV9 kV10 kV11 kV12 kV13 kV14 kV15 kV16 kV17 kV18 kV19 kV20 kV21 kV22 kV23 kV24 kV25 kV26 kV27 kV28 dc0 dc1 dc2 dc3 dc4 dc5 dc6 dc7 dc8 dc9 dc10 dc11 dc12 dc13 dc14 dc15 dc16 dc17 dc18 dc19 dc20 dc21 dc22 dc23 dc24 dc25 dc26 dc27 dc28 pm0 pm1 pm2 pm3 pm4 pm5 pm6 pm7 pm8 pm9 pm10 pm11 pm12 pm13 pm14 pm15 pm16 pm17 pm18 pm19 pm20 pm21 pm22 pm23 pm24 pm25 pm26 pm27 pm28 cd0 cd1 cd2 cd3 cd4 cd5 cd6 cd7 cd8 cd9 cd10 cd11 cd12 cd13 cd14 cd15 cd16 cd17 cd18 cd19 cd20 cd21 cd22 cd23 cd24 cd25 cd26 cd27 cd28 ct0 ct1 ct2 ct3 ct4 ct5 ct6 ct7 ct8 ct9 ct10 ct11 ct12 ct13 ct14 ct15 ct16 ct17 ct18 ct19 ct20 ct21 ct22 ct23 ct24 ct25 ct26 ct27 ct28 : Value}
    (au : PySem.W.nsIn K mainGlobals "UnfitGrid" = some (some (.ref u)))
    (xiu : PySem.W.excIn K u [.type "ValueError", .type "Exception", .type "BaseException", .type "object"] "ValueError.__new__" = true)
    (kpu : PySem.W.keepIn K (.ref u) = true)
    (sbu : PySem.W.subIn K (.ref u) (.type "BaseException") = some true)
    (tyu : PySem.W.typeIn K (.ref u) = some (.type "type"))
    (hdu : PySem.W.hasDictIn K u = true)
    (veu : PySem.W.subIn K (.ref u) (.type "ValueError") = some true)
    (hgu : PySem.W.findIn K (.ref u) "__getattribute__" = some (some (.builtin "BaseException.__getattribute__")))
    (hku : PySem.W.findIn K (.ref u) "__getattr__" = some none)
    (hau : PySem.W.findIn K (.ref u) "__class__" = some (some (.builtin "object.__class__")))
    (hmu : PySem.W.mroIn K u (.type "object") = some true)
    (aw : PySem.W.nsIn K mainGlobals "TooWide" = some (some (.ref w)))
    (xiw : PySem.W.excIn K w [.type "ValueError", .type "Exception", .type "BaseException", .type "object"] "ValueError.__new__" = true)
    (kpw : PySem.W.keepIn K (.ref w) = true)
    (sbw : PySem.W.subIn K (.ref w) (.type "BaseException") = some true)
    (tyw : PySem.W.typeIn K (.ref w) = some (.type "type"))
    (hdw : PySem.W.hasDictIn K w = true)
    (vew : PySem.W.subIn K (.ref w) (.type "ValueError") = some true)
    (hgw : PySem.W.findIn K (.ref w) "__getattribute__" = some (some (.builtin "BaseException.__getattribute__")))
    (hkw : PySem.W.findIn K (.ref w) "__getattr__" = some none)
    (haw : PySem.W.findIn K (.ref w) "__class__" = some (some (.builtin "object.__class__")))
    (hmw : PySem.W.mroIn K w (.type "object") = some true)
    (suu : PySem.W.subIn K (.ref u) (.ref u) = some true)
    (suw : PySem.W.subIn K (.ref u) (.ref w) = some false)
    (swu : PySem.W.subIn K (.ref w) (.ref u) = some false)
    (sww : PySem.W.subIn K (.ref w) (.ref w) = some true)
    (gs : PySem.W.specialIn K (.builtin "object.__class__") "__get__" = some (some (.builtin "getset_descriptor.__get__")))
    (ts : PySem.W.takesIn K (.builtin "object.__class__") = some true)
    (a0 : PySem.W.nsIn K mainGlobals "is_whole" = some (some (.ref f0)))
    (l0 : K.lookup f0 = some ⟨oc0, od0, .func (PySem.W.fnOf "is_whole" "is_whole" (defArgs (top 5)) (defBody (top 5)) (defScope (top 5)) .none kV0 dc0 pm0 an0 cd0 ct0), sl0⟩)
    (c0 : PySem.W.codeIn K cd0 "is_whole" = true)
    (k0 : PySem.W.keepIn K (.ref f0) = true)
    (a1 : PySem.W.nsIn K mainGlobals "is_told" = some (some (.ref f1)))
    (l1 : K.lookup f1 = some ⟨oc1, od1, .func (PySem.W.fnOf "is_told" "is_told" (defArgs (top 6)) (defBody (top 6)) (defScope (top 6)) .none kV1 dc1 pm1 an1 cd1 ct1), sl1⟩)
    (c1 : PySem.W.codeIn K cd1 "is_told" = true)
    (k1 : PySem.W.keepIn K (.ref f1) = true)
    (a2 : PySem.W.nsIn K mainGlobals "check_table" = some (some (.ref f2)))
    (l2 : K.lookup f2 = some ⟨oc2, od2, .func (PySem.W.fnOf "check_table" "check_table" (defArgs (top 8)) (defBody (top 8)) (defScope (top 8)) .none kV2 dc2 pm2 an2 cd2 ct2), sl2⟩)
    (c2 : PySem.W.codeIn K cd2 "check_table" = true)
    (k2 : PySem.W.keepIn K (.ref f2) = true)
    (a3 : PySem.W.nsIn K mainGlobals "sorted_table" = some (some (.ref f3)))
    (l3 : K.lookup f3 = some ⟨oc3, od3, .func (PySem.W.fnOf "sorted_table" "sorted_table" (defArgs (top 10)) (defBody (top 10)) (defScope (top 10)) .none kV3 dc3 pm3 an3 cd3 ct3), sl3⟩)
    (c3 : PySem.W.codeIn K cd3 "sorted_table" = true)
    (k3 : PySem.W.keepIn K (.ref f3) = true)
    (a4 : PySem.W.nsIn K mainGlobals "judge_sorted_table" = some (some (.ref f4)))
    (l4 : K.lookup f4 = some ⟨oc4, od4, .func (PySem.W.fnOf "judge_sorted_table" "judge_sorted_table" (defArgs (top 11)) (defBody (top 11)) (defScope (top 11)) .none kV4 dc4 pm4 an4 cd4 ct4), sl4⟩)
    (c4 : PySem.W.codeIn K cd4 "judge_sorted_table" = true)
    (k4 : PySem.W.keepIn K (.ref f4) = true)
    (a5 : PySem.W.nsIn K mainGlobals "found_in" = some (some (.ref f5)))
    (l5 : K.lookup f5 = some ⟨oc5, od5, .func (PySem.W.fnOf "found_in" "found_in" (defArgs (top 12)) (defBody (top 12)) (defScope (top 12)) .none kV5 dc5 pm5 an5 cd5 ct5), sl5⟩)
    (c5 : PySem.W.codeIn K cd5 "found_in" = true)
    (k5 : PySem.W.keepIn K (.ref f5) = true)
    (a6 : PySem.W.nsIn K mainGlobals "judge_found_in" = some (some (.ref f6)))
    (l6 : K.lookup f6 = some ⟨oc6, od6, .func (PySem.W.fnOf "judge_found_in" "judge_found_in" (defArgs (top 13)) (defBody (top 13)) (defScope (top 13)) .none kV6 dc6 pm6 an6 cd6 ct6), sl6⟩)
    (c6 : PySem.W.codeIn K cd6 "judge_found_in" = true)
    (k6 : PySem.W.keepIn K (.ref f6) = true)
    (a7 : PySem.W.nsIn K mainGlobals "_law_next" = some (some (.ref f7)))
    (l7 : K.lookup f7 = some ⟨oc7, od7, .func (PySem.W.fnOf "_law_next" "_law_next" (defArgs (top 15)) (defBody (top 15)) (defScope (top 15)) .none kV7 dc7 pm7 an7 cd7 ct7), sl7⟩)
    (c7 : PySem.W.codeIn K cd7 "_law_next" = true)
    (k7 : PySem.W.keepIn K (.ref f7) = true)
    (a8 : PySem.W.nsIn K mainGlobals "_law_same" = some (some (.ref f8)))
    (l8 : K.lookup f8 = some ⟨oc8, od8, .func (PySem.W.fnOf "_law_same" "_law_same" (defArgs (top 16)) (defBody (top 16)) (defScope (top 16)) .none kV8 dc8 pm8 an8 cd8 ct8), sl8⟩)
    (c8 : PySem.W.codeIn K cd8 "_law_same" = true)
    (k8 : PySem.W.keepIn K (.ref f8) = true)
    (a9 : PySem.W.nsIn K mainGlobals "_law_changed" = some (some (.ref f9)))
    (l9 : K.lookup f9 = some ⟨oc9, od9, .func (PySem.W.fnOf "_law_changed" "_law_changed" (defArgs (top 17)) (defBody (top 17)) (defScope (top 17)) .none kV9 dc9 pm9 an9 cd9 ct9), sl9⟩)
    (c9 : PySem.W.codeIn K cd9 "_law_changed" = true)
    (k9 : PySem.W.keepIn K (.ref f9) = true)
    (a10 : PySem.W.nsIn K mainGlobals "_law_ints" = some (some (.ref f10)))
    (l10 : K.lookup f10 = some ⟨oc10, od10, .func (PySem.W.fnOf "_law_ints" "_law_ints" (defArgs (top 18)) (defBody (top 18)) (defScope (top 18)) .none kV10 dc10 pm10 an10 cd10 ct10), sl10⟩)
    (c10 : PySem.W.codeIn K cd10 "_law_ints" = true)
    (k10 : PySem.W.keepIn K (.ref f10) = true)
    (a11 : PySem.W.nsIn K mainGlobals "_law_exchanged" = some (some (.ref f11)))
    (l11 : K.lookup f11 = some ⟨oc11, od11, .func (PySem.W.fnOf "_law_exchanged" "_law_exchanged" (defArgs (top 19)) (defBody (top 19)) (defScope (top 19)) .none kV11 dc11 pm11 an11 cd11 ct11), sl11⟩)
    (c11 : PySem.W.codeIn K cd11 "_law_exchanged" = true)
    (k11 : PySem.W.keepIn K (.ref f11) = true)
    (a12 : PySem.W.nsIn K mainGlobals "_law_cut" = some (some (.ref f12)))
    (l12 : K.lookup f12 = some ⟨oc12, od12, .func (PySem.W.fnOf "_law_cut" "_law_cut" (defArgs (top 20)) (defBody (top 20)) (defScope (top 20)) .none kV12 dc12 pm12 an12 cd12 ct12), sl12⟩)
    (c12 : PySem.W.codeIn K cd12 "_law_cut" = true)
    (k12 : PySem.W.keepIn K (.ref f12) = true)
    (a13 : PySem.W.nsIn K mainGlobals "_law_turned_about" = some (some (.ref f13)))
    (l13 : K.lookup f13 = some ⟨oc13, od13, .func (PySem.W.fnOf "_law_turned_about" "_law_turned_about" (defArgs (top 21)) (defBody (top 21)) (defScope (top 21)) .none kV13 dc13 pm13 an13 cd13 ct13), sl13⟩)
    (c13 : PySem.W.codeIn K cd13 "_law_turned_about" = true)
    (k13 : PySem.W.keepIn K (.ref f13) = true)
    (a14 : PySem.W.nsIn K mainGlobals "_law_odd" = some (some (.ref f14)))
    (l14 : K.lookup f14 = some ⟨oc14, od14, .func (PySem.W.fnOf "_law_odd" "_law_odd" (defArgs (top 22)) (defBody (top 22)) (defScope (top 22)) .none kV14 dc14 pm14 an14 cd14 ct14), sl14⟩)
    (c14 : PySem.W.codeIn K cd14 "_law_odd" = true)
    (k14 : PySem.W.keepIn K (.ref f14) = true)
    (a15 : PySem.W.nsIn K mainGlobals "_law_drawn_table" = some (some (.ref f15)))
    (l15 : K.lookup f15 = some ⟨oc15, od15, .func (PySem.W.fnOf "_law_drawn_table" "_law_drawn_table" (defArgs (top 23)) (defBody (top 23)) (defScope (top 23)) .none kV15 dc15 pm15 an15 cd15 ct15), sl15⟩)
    (c15 : PySem.W.codeIn K cd15 "_law_drawn_table" = true)
    (k15 : PySem.W.keepIn K (.ref f15) = true)
    (a16 : PySem.W.nsIn K mainGlobals "_law_cells" = some (some (.ref f16)))
    (l16 : K.lookup f16 = some ⟨oc16, od16, .func (PySem.W.fnOf "_law_cells" "_law_cells" (defArgs (top 24)) (defBody (top 24)) (defScope (top 24)) .none kV16 dc16 pm16 an16 cd16 ct16), sl16⟩)
    (c16 : PySem.W.codeIn K cd16 "_law_cells" = true)
    (k16 : PySem.W.keepIn K (.ref f16) = true)
    (a17 : PySem.W.nsIn K mainGlobals "_law_at" = some (some (.ref f17)))
    (l17 : K.lookup f17 = some ⟨oc17, od17, .func (PySem.W.fnOf "_law_at" "_law_at" (defArgs (top 25)) (defBody (top 25)) (defScope (top 25)) .none kV17 dc17 pm17 an17 cd17 ct17), sl17⟩)
    (c17 : PySem.W.codeIn K cd17 "_law_at" = true)
    (k17 : PySem.W.keepIn K (.ref f17) = true)
    (a18 : PySem.W.nsIn K mainGlobals "_law_inside" = some (some (.ref f18)))
    (l18 : K.lookup f18 = some ⟨oc18, od18, .func (PySem.W.fnOf "_law_inside" "_law_inside" (defArgs (top 26)) (defBody (top 26)) (defScope (top 26)) .none kV18 dc18 pm18 an18 cd18 ct18), sl18⟩)
    (c18 : PySem.W.codeIn K cd18 "_law_inside" = true)
    (k18 : PySem.W.keepIn K (.ref f18) = true)
    (a19 : PySem.W.nsIn K mainGlobals "_law_columns" = some (some (.ref f19)))
    (l19 : K.lookup f19 = some ⟨oc19, od19, .func (PySem.W.fnOf "_law_columns" "_law_columns" (defArgs (top 27)) (defBody (top 27)) (defScope (top 27)) .none kV19 dc19 pm19 an19 cd19 ct19), sl19⟩)
    (c19 : PySem.W.codeIn K cd19 "_law_columns" = true)
    (k19 : PySem.W.keepIn K (.ref f19) = true)
    (a20 : PySem.W.nsIn K mainGlobals "_law_neighbour" = some (some (.ref f20)))
    (l20 : K.lookup f20 = some ⟨oc20, od20, .func (PySem.W.fnOf "_law_neighbour" "_law_neighbour" (defArgs (top 28)) (defBody (top 28)) (defScope (top 28)) .none kV20 dc20 pm20 an20 cd20 ct20), sl20⟩)
    (c20 : PySem.W.codeIn K cd20 "_law_neighbour" = true)
    (k20 : PySem.W.keepIn K (.ref f20) = true)
    (a21 : PySem.W.nsIn K mainGlobals "_law_once" = some (some (.ref f21)))
    (l21 : K.lookup f21 = some ⟨oc21, od21, .func (PySem.W.fnOf "_law_once" "_law_once" (defArgs (top 29)) (defBody (top 29)) (defScope (top 29)) .none kV21 dc21 pm21 an21 cd21 ct21), sl21⟩)
    (c21 : PySem.W.codeIn K cd21 "_law_once" = true)
    (k21 : PySem.W.keepIn K (.ref f21) = true)
    (a22 : PySem.W.nsIn K mainGlobals "_law_accepts" = some (some (.ref f22)))
    (l22 : K.lookup f22 = some ⟨oc22, od22, .func (PySem.W.fnOf "_law_accepts" "_law_accepts" (defArgs (top 30)) (defBody (top 30)) (defScope (top 30)) .none kV22 dc22 pm22 an22 cd22 ct22), sl22⟩)
    (c22 : PySem.W.codeIn K cd22 "_law_accepts" = true)
    (k22 : PySem.W.keepIn K (.ref f22) = true)
    (a23 : PySem.W.nsIn K mainGlobals "_law_told_near" = some (some (.ref f23)))
    (l23 : K.lookup f23 = some ⟨oc23, od23, .func (PySem.W.fnOf "_law_told_near" "_law_told_near" (defArgs (top 31)) (defBody (top 31)) (defScope (top 31)) .none kV23 dc23 pm23 an23 cd23 ct23), sl23⟩)
    (c23 : PySem.W.codeIn K cd23 "_law_told_near" = true)
    (k23 : PySem.W.keepIn K (.ref f23) = true)
    (a24 : PySem.W.nsIn K mainGlobals "_law_unfit" = some (some (.ref f24)))
    (l24 : K.lookup f24 = some ⟨oc24, od24, .func (PySem.W.fnOf "_law_unfit" "_law_unfit" (defArgs (top 32)) (defBody (top 32)) (defScope (top 32)) .none kV24 dc24 pm24 an24 cd24 ct24), sl24⟩)
    (c24 : PySem.W.codeIn K cd24 "_law_unfit" = true)
    (k24 : PySem.W.keepIn K (.ref f24) = true)
    (a25 : PySem.W.nsIn K mainGlobals "_law_accepts_too" = some (some (.ref f25)))
    (l25 : K.lookup f25 = some ⟨oc25, od25, .func (PySem.W.fnOf "_law_accepts_too" "_law_accepts_too" (defArgs (top 33)) (defBody (top 33)) (defScope (top 33)) .none kV25 dc25 pm25 an25 cd25 ct25), sl25⟩)
    (c25 : PySem.W.codeIn K cd25 "_law_accepts_too" = true)
    (k25 : PySem.W.keepIn K (.ref f25) = true)
    (a26 : PySem.W.nsIn K mainGlobals "_law_told_near_too" = some (some (.ref f26)))
    (l26 : K.lookup f26 = some ⟨oc26, od26, .func (PySem.W.fnOf "_law_told_near_too" "_law_told_near_too" (defArgs (top 34)) (defBody (top 34)) (defScope (top 34)) .none kV26 dc26 pm26 an26 cd26 ct26), sl26⟩)
    (c26 : PySem.W.codeIn K cd26 "_law_told_near_too" = true)
    (k26 : PySem.W.keepIn K (.ref f26) = true)
    (a27 : PySem.W.nsIn K mainGlobals "_law_unfit_too" = some (some (.ref f27)))
    (l27 : K.lookup f27 = some ⟨oc27, od27, .func (PySem.W.fnOf "_law_unfit_too" "_law_unfit_too" (defArgs (top 35)) (defBody (top 35)) (defScope (top 35)) .none kV27 dc27 pm27 an27 cd27 ct27), sl27⟩)
    (c27 : PySem.W.codeIn K cd27 "_law_unfit_too" = true)
    (k27 : PySem.W.keepIn K (.ref f27) = true)
    (a28 : PySem.W.nsIn K mainGlobals "law" = some (some (.ref f28)))
    (l28 : K.lookup f28 = some ⟨oc28, od28, .func (PySem.W.fnOf "law" "law" (defArgs (top 36)) (defBody (top 36)) (defScope (top 36)) .none kV28 dc28 pm28 an28 cd28 ct28), sl28⟩)
    (c28 : PySem.W.codeIn K cd28 "law" = true)
    (k28 : PySem.W.keepIn K (.ref f28) = true)
    (z0 : PySem.W.nsIn K mainGlobals "ValueError" = some none)
    (z1 : PySem.W.nsIn K mainGlobals "bool" = some none)
    (z2 : PySem.W.nsIn K mainGlobals "int" = some none)
    (z3 : PySem.W.nsIn K mainGlobals "isinstance" = some none)
    (z4 : PySem.W.nsIn K mainGlobals "len" = some none)
    (z5 : PySem.W.nsIn K mainGlobals "list" = some none)
    (z6 : PySem.W.nsIn K mainGlobals "range" = some none)
    (z7 : PySem.W.nsIn K mainGlobals "repr" = some none)
    (z8 : PySem.W.nsIn K mainGlobals "sorted" = some none)
    (z9 : PySem.W.nsIn K mainGlobals "str" = some none)
    (z10 : PySem.W.nsIn K mainGlobals "tuple" = some none)
    (z11 : PySem.W.nsIn K mainGlobals "zip" = some none)
    : ∃ fd : FuncData, (∀ (s : Shared) (v : Value), BindsTo s fd ⟨[v], []⟩ [("script", v)]) ∧ ∀ base : Heap, K.In base → base.Ns mainGlobals mg → FnG l.prog wd K mg base (30 + 1) fa fd ["script"] (spLaw K (callN (tabP tab) 30) d_law) := by
  have U : ExK K u := ⟨xiu, kpu, sbu, tyu, hdu, veu, hgu, hku, hau, hmu⟩
  have W : ExK K w := ⟨xiw, kpw, sbw, tyw, hdw, vew, hgw, hkw, haw, hmw⟩
  have e0 := def_mk (d := d_is_whole) X G a0 l0 c0 k0 fun _ _ _ _ _ _ us hl => match us, hl with | [_], _ => rfl
  have e1 := def_mk (d := d_is_told) X G a1 l1 c1 k1 fun _ _ _ _ _ _ us hl => match us, hl with | [_, _, _], _ => rfl
  have e2 := def_mk (d := d_check_table) X G a2 l2 c2 k2 fun _ _ _ _ _ _ us hl => match us, hl with | [_, _, _], _ => rfl
  have e3 := def_mk (d := d_sorted_table) X G a3 l3 c3 k3 fun _ _ _ _ _ _ us hl => match us, hl with | [_], _ => rfl
  have e4 := def_mk (d := d_judge_sorted_table) X G a4 l4 c4 k4 fun _ _ _ _ _ _ us hl => match us, hl with | [_, _], _ => rfl
  have e5 := def_mk (d := d_found_in) X G a5 l5 c5 k5 fun _ _ _ _ _ _ us hl => match us, hl with | [_, _], _ => rfl
  have e6 := def_mk (d := d_judge_found_in) X G a6 l6 c6 k6 fun _ _ _ _ _ _ us hl => match us, hl with | [_, _, _], _ => rfl
  have e7 := def_mk (d := d__law_next) X G a7 l7 c7 k7 fun _ _ _ _ _ _ us hl => match us, hl with | [_, _], _ => rfl
  have e8 := def_mk (d := d__law_same) X G a8 l8 c8 k8 fun _ _ _ _ _ _ us hl => match us, hl with | [_, _], _ => rfl
  have e9 := def_mk (d := d__law_changed) X G a9 l9 c9 k9 fun _ _ _ _ _ _ us hl => match us, hl with | [_, _], _ => rfl
  have e10 := def_mk (d := d__law_ints) X G a10 l10 c10 k10 fun _ _ _ _ _ _ us hl => match us, hl with | [_], _ => rfl
  have e11 := def_mk (d := d__law_exchanged) X G a11 l11 c11 k11 fun _ _ _ _ _ _ us hl => match us, hl with | [_, _, _], _ => rfl
  have e12 := def_mk (d := d__law_cut) X G a12 l12 c12 k12 fun _ _ _ _ _ _ us hl => match us, hl with | [_, _], _ => rfl
  have e13 := def_mk (d := d__law_turned_about) X G a13 l13 c13 k13 fun _ _ _ _ _ _ us hl => match us, hl with | [_, _], _ => rfl
  have e14 := def_mk (d := d__law_odd) X G a14 l14 c14 k14 fun _ _ _ _ _ _ us hl => match us, hl with | [_, _], _ => rfl
  have e15 := def_mk (d := d__law_drawn_table) X G a15 l15 c15 k15 fun _ _ _ _ _ _ us hl => match us, hl with | [_, _, _, _, _], _ => rfl
  have e16 := def_mk (d := d__law_cells) X G a16 l16 c16 k16 fun _ _ _ _ _ _ us hl => match us, hl with | [_], _ => rfl
  have e17 := def_mk (d := d__law_at) X G a17 l17 c17 k17 fun _ _ _ _ _ _ us hl => match us, hl with | [_, _], _ => rfl
  have e18 := def_mk (d := d__law_inside) X G a18 l18 c18 k18 fun _ _ _ _ _ _ us hl => match us, hl with | [_, _], _ => rfl
  have e19 := def_mk (d := d__law_columns) X G a19 l19 c19 k19 fun _ _ _ _ _ _ us hl => match us, hl with | [_], _ => rfl
  have e20 := def_mk (d := d__law_neighbour) X G a20 l20 c20 k20 fun _ _ _ _ _ _ us hl => match us, hl with | [_, _], _ => rfl
  have e21 := def_mk (d := d__law_once) X G a21 l21 c21 k21 fun _ _ _ _ _ _ us hl => match us, hl with | [_], _ => rfl
  have e22 := def_mk (d := d__law_accepts) X G a22 l22 c22 k22 fun _ _ _ _ _ _ us hl => match us, hl with | [_, _], _ => rfl
  have e23 := def_mk (d := d__law_told_near) X G a23 l23 c23 k23 fun _ _ _ _ _ _ us hl => match us, hl with | [_, _], _ => rfl
  have e24 := def_mk (d := d__law_unfit) X G a24 l24 c24 k24 fun _ _ _ _ _ _ us hl => match us, hl with | [_], _ => rfl
  have e25 := def_mk (d := d__law_accepts_too) X G a25 l25 c25 k25 fun _ _ _ _ _ _ us hl => match us, hl with | [_, _, _], _ => rfl
  have e26 := def_mk (d := d__law_told_near_too) X G a26 l26 c26 k26 fun _ _ _ _ _ _ us hl => match us, hl with | [_, _, _], _ => rfl
  have e27 := def_mk (d := d__law_unfit_too) X G a27 l27 c27 k27 fun _ _ _ _ _ _ us hl => match us, hl with | [_, _], _ => rfl
  have F : Facts l.prog wd K mg gi tab ⟨u, w⟩ := by
    refine ⟨?_, ?_, ?_, exf_mk X G au aw U W suu suw swu sww gs ts⟩
    · exact List.forall_mem_cons.mpr ⟨e0, List.forall_mem_cons.mpr ⟨e1, List.forall_mem_cons.mpr ⟨e2, List.forall_mem_cons.mpr ⟨e3, List.forall_mem_cons.mpr ⟨e4, List.forall_mem_cons.mpr ⟨e5, List.forall_mem_cons.mpr ⟨e6, List.forall_mem_cons.mpr ⟨e7, List.forall_mem_cons.mpr ⟨e8, List.forall_mem_cons.mpr ⟨e9, List.forall_mem_cons.mpr ⟨e10, List.forall_mem_cons.mpr ⟨e11, List.forall_mem_cons.mpr ⟨e12, List.forall_mem_cons.mpr ⟨e13, List.forall_mem_cons.mpr ⟨e14, List.forall_mem_cons.mpr ⟨e15, List.forall_mem_cons.mpr ⟨e16, List.forall_mem_cons.mpr ⟨e17, List.forall_mem_cons.mpr ⟨e18, List.forall_mem_cons.mpr ⟨e19, List.forall_mem_cons.mpr ⟨e20, List.forall_mem_cons.mpr ⟨e21, List.forall_mem_cons.mpr ⟨e22, List.forall_mem_cons.mpr ⟨e23, List.forall_mem_cons.mpr ⟨e24, List.forall_mem_cons.mpr ⟨e25, List.forall_mem_cons.mpr ⟨e26, List.forall_mem_cons.mpr ⟨e27, fun _ q => absurd q (by simp)⟩⟩⟩⟩⟩⟩⟩⟩⟩⟩⟩⟩⟩⟩⟩⟩⟩⟩⟩⟩⟩⟩⟩⟩⟩⟩⟩⟩
    · exact fun _ q => absurd q (by simp [gi])
    · exact List.forall_mem_cons.mpr ⟨PySem.W.mg_none_of X G z0, List.forall_mem_cons.mpr ⟨PySem.W.mg_none_of X G z1, List.forall_mem_cons.mpr ⟨PySem.W.mg_none_of X G z2, List.forall_mem_cons.mpr ⟨PySem.W.mg_none_of X G z3, List.forall_mem_cons.mpr ⟨PySem.W.mg_none_of X G z4, List.forall_mem_cons.mpr ⟨PySem.W.mg_none_of X G z5, List.forall_mem_cons.mpr ⟨PySem.W.mg_none_of X G z6, List.forall_mem_cons.mpr ⟨PySem.W.mg_none_of X G z7, List.forall_mem_cons.mpr ⟨PySem.W.mg_none_of X G z8, List.forall_mem_cons.mpr ⟨PySem.W.mg_none_of X G z9, List.forall_mem_cons.mpr ⟨PySem.W.mg_none_of X G z10, List.forall_mem_cons.mpr ⟨PySem.W.mg_none_of X G z11, fun _ q => absurd q (by simp)⟩⟩⟩⟩⟩⟩⟩⟩⟩⟩⟩⟩
  exact law_mk (d := d_law) X G F ok_tab ok_law hfa a28 l28 c28 k28 rfl fun s v => .of_eq rfl
end K68
end G


set_option Elab.async false
set_option linter.all false
set_option maxRecDepth 100000
set_option maxHeartbeats 0
set_option autoImplicit false
namespace G
namespace K68
open PySem PySem.Spec PyProof.Rows L2
end K68
end G
open PySem PySem.W PyProof.Rows G G.K68 in
theorem PySem.Challenge.cw_gridwhole_k68_sorted_tables_holds : PySem.Challenge.rw_gridwhole_k68_sorted_tables.Holds := by
  w_on; o_law; k_head; (case hw => w_witness2)
  k_fill
  refine leave (l := PySem.Challenge.rw_gridwhole_k68_sorted_tables) (n := 63) (k := 30 + 1) (x := "script") (cs := callN (tabP tab) 30) (d := d_law) rfl (by decide) rfl ⟨rfl, by decide, by decide⟩ (fun w h Y => PySem.W.kIn_of Y) ?F G.K68.law_true
  case F =>
    intro w mg fa h KX G hmg
    refine' facts KX G hmg ?au ?xiu ?kpu ?sbu ?tyu ?hdu ?veu ?hgu ?hku ?hau ?hmu ?aw ?xiw ?kpw ?sbw ?tyw ?hdw ?vew ?hgw ?hkw ?haw ?hmw ?suu ?suw ?swu ?sww ?gs ?ts ?a0 ?l0 ?c0 ?k0 ?a1 ?l1 ?c1 ?k1 ?a2 ?l2 ?c2 ?k2 ?a3 ?l3 ?c3 ?k3 ?a4 ?l4 ?c4 ?k4 ?a5 ?l5 ?c5 ?k5 ?a6 ?l6 ?c6 ?k6 ?a7 ?l7 ?c7 ?k7 ?a8 ?l8 ?c8 ?k8 ?a9 ?l9 ?c9 ?k9 ?a10 ?l10 ?c10 ?k10 ?a11 ?l11 ?c11 ?k11 ?a12 ?l12 ?c12 ?k12 ?a13 ?l13 ?c13 ?k13 ?a14 ?l14 ?c14 ?k14 ?a15 ?l15 ?c15 ?k15 ?a16 ?l16 ?c16 ?k16 ?a17 ?l17 ?c17 ?k17 ?a18 ?l18 ?c18 ?k18 ?a19 ?l19 ?c19 ?k19 ?a20 ?l20 ?c20 ?k20 ?a21 ?l21 ?c21 ?k21 ?a22 ?l22 ?c22 ?k22 ?a23 ?l23 ?c23 ?k23 ?a24 ?l24 ?c24 ?k24 ?a25 ?l25 ?c25 ?k25 ?a26 ?l26 ?c26 ?k26 ?a27 ?l27 ?c27 ?k27 ?a28 ?l28 ?c28 ?k28 ?z0 ?z1 ?z2 ?z3 ?z4 ?z5 ?z6 ?z7 ?z8 ?z9 ?z10 ?z11
    (case au => k_is)
    (case xiu => k_exc)
    (case kpu => k_is)
    (case sbu => k_is)
    (case tyu => k_is)
    (case hdu => k_is)
    (case veu => k_is)
    (case hgu => k_is)
    (case hku => k_is)
    (case hau => k_is)
    (case hmu => k_is)
    (case aw => k_is)
    (case xiw => k_exc)
    (case kpw => k_is)
    (case sbw => k_is)
    (case tyw => k_is)
    (case hdw => k_is)
    (case vew => k_is)
    (case hgw => k_is)
    (case hkw => k_is)
    (case haw => k_is)
    (case hmw => k_is)
    (case suu => first | rfl | k_is)
    (case suw => k_is)
    (case swu => k_is)
    (case sww => first | rfl | k_is)
    (case gs => k_is)
    (case ts => k_is)
    (case a0 => k_is)
    (case l0 => k_is)
    (case c0 => k_is)
    (case k0 => k_is)
    (case a1 => k_is)
    (case l1 => k_is)
    (case c1 => k_is)
    (case k1 => k_is)
    (case a2 => k_is)
    (case l2 => k_is)
    (case c2 => k_is)
    (case k2 => k_is)
    (case a3 => k_is)
    (case l3 => k_is)
    (case c3 => k_is)
    (case k3 => k_is)
    (case a4 => k_is)
    (case l4 => k_is)
    (case c4 => k_is)
    (case k4 => k_is)
    (case a5 => k_is)
    (case l5 => k_is)
    (case c5 => k_is)
    (case k5 => k_is)
    (case a6 => k_is)
    (case l6 => k_is)
    (case c6 => k_is)
    (case k6 => k_is)
    (case a7 => k_is)
    (case l7 => k_is)
    (case c7 => k_is)
    (case k7 => k_is)
    (case a8 => k_is)
    (case l8 => k_is)
    (case c8 => k_is)
    (case k8 => k_is)
    (case a9 => k_is)
    (case l9 => k_is)
    (case c9 => k_is)
    (case k9 => k_is)
    (case a10 => k_is)
    (case l10 => k_is)
    (case c10 => k_is)
    (case k10 => k_is)
    (case a11 => k_is)
    (case l11 => k_is)
    (case c11 => k_is)
    (case k11 => k_is)
    (case a12 => k_is)
    (case l12 => k_is)
    (case c12 => k_is)
    (case k12 => k_is)
    (case a13 => k_is)
    (case l13 => k_is)
    (case c13 => k_is)
    (case k13 => k_is)
    (case a14 => k_is)
    (case l14 => k_is)
    (case c14 => k_is)
    (case k14 => k_is)
    (case a15 => k_is)
    (case l15 => k_is)
    (case c15 => k_is)
    (case k15 => k_is)
    (case a16 => k_is)
    (case l16 => k_is)
    (case c16 => k_is)
    (case k16 => k_is)
    (case a17 => k_is)
    (case l17 => k_is)
    (case c17 => k_is)
    (case k17 => k_is)
    (case a18 => k_is)
    (case l18 => k_is)
    (case c18 => k_is)
    (case k18 => k_is)
    (case a19 => k_is)
    (case l19 => k_is)
    (case c19 => k_is)
    (case k19 => k_is)
    (case a20 => k_is)
    (case l20 => k_is)
    (case c20 => k_is)
    (case k20 => k_is)
    (case a21 => k_is)
    (case l21 => k_is)
    (case c21 => k_is)
    (case k21 => k_is)
    (case a22 => k_is)
    (case l22 => k_is)
    (case c22 => k_is)
    (case k22 => k_is)
    (case a23 => k_is)
    (case l23 => k_is)
    (case c23 => k_is)
    (case k23 => k_is)
    (case a24 => k_is)
    (case l24 => k_is)
    (case c24 => k_is)
    (case k24 => k_is)
    (case a25 => k_is)
    (case l25 => k_is)
    (case c25 => k_is)
    (case k25 => k_is)
    (case a26 => k_is)
    (case l26 => k_is)
    (case c26 => k_is)
    (case k26 => k_is)
    (case a27 => k_is)
    (case l27 => k_is)
    (case c27 => k_is)
    (case k27 => k_is)
    (case a28 => k_is)
    (case l28 => k_is)
    (case c28 => k_is)
    (case k28 => k_is)
    (case z0 => k_is)
    (case z1 => k_is)
    (case z2 => k_is)
    (case z3 => k_is)
    (case z4 => k_is)
    (case z5 => k_is)
    (case z6 => k_is)
    (case z7 => k_is)
    (case z8 => k_is)
    (case z9 => k_is)
    (case z10 => k_is)
    (case z11 => k_is)

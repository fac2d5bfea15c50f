import PyProof.Rows.All
import HandS.ForMost
import HandS.Wide
import KE.DataEq
import KE.DataCmp
import KE.DataMinMax
import KE.DataAny
import KE.DataFind
import KE.SortData
import PyProof.ReprRoads
import KE.KDictKeyed
import KE.KDictSum
import KE.KDictLaw
import HandS.Exc
import HandS.TryOnly
import HandS.ExcField
import HandS.Comp
import HandS.NoneIn
import HandS.Walk
import HandS.Zip
import HandS.Words
import HandS.Ends
import HandS.Dict
import HandS.Iter
import HandS.TupAny
import HandS.TupMul
import HandS.Gcd
import HandS.More
import PyProof.ListMulRoad
import PyProof.FactsAll.tuple_2
import HandS.IsInst
import PyProof.Rows.ReprR
import HandS.Style
import KE.GoesMore
import KE.GoesEnum
import PyProof.ReprLen
import HandS.Flow
import HandS.Text
import KE.KDictWalk
import KE.KExcSuper
import KE.KSuper
import HandS.ExcOwn
import HandS.SetKeys
import HandS.Deep
import HandS.Star
import KE.KTabLook
import KE.KDictCopyH
import KE.RegKSuper
import HandS.WordsExc
import PyProof.StrBlock2
import PySem.Challenge.RW_touchingtiles_k48_pieces_counted
set_option Elab.async false
set_option linter.all false
set_option maxRecDepth 100000
set_option maxHeartbeats 0
set_option autoImplicit false
set_option exponentiation.threshold 5000
set_option Elab.async false
set_option linter.all false
set_option maxRecDepth 100000
/-! # Z1: plain data, outcomes, the operations that the mirrors name -/
namespace Z
open PySem

abbrev D := PyData

/-- an outcome: a value; an exception, its class's name and what it was made of; nothing is said -/
inductive R (α : Type) where
  | ok (a : α) | exc (cls : Str) (args : List D) | stuck

namespace R
def bind {α β : Type} (m : R α) (f : α → R β) : R β :=
  match m with
  | ok a => f a
  | exc _ _ => stuck
  | stuck => stuck
/-- an exception goes on -/
def bindX {α β : Type} (m : R α) (f : α → R β) : R β :=
  match m with
  | ok a => f a
  | exc c a => exc c a
  | stuck => stuck
@[simp] theorem bindX_ok {α β : Type} (a : α) (f : α → R β) : (ok a).bindX f = f a := rfl
@[simp] theorem bindX_exc {α β : Type} (c : Str) (a : List D) (f : α → R β) : (exc c a : R α).bindX f = exc c a := rfl
@[simp] theorem bind_ok {α β : Type} (a : α) (f : α → R β) : (ok a).bind f = f a := rfl
@[simp] theorem bind_stuck {α β : Type} (f : α → R β) : (stuck : R α).bind f = stuck := rfl
@[simp] theorem bind_exc {α β : Type} (c : Str) (a : List D) (f : α → R β) : (exc c a : R α).bind f = stuck := rfl
theorem bind_assoc {α β γ : Type} (m : R α) (f : α → R β) (g : β → R γ) : (m.bind f).bind g = m.bind fun a => (f a).bind g := by
  cases m <;> rfl
theorem bind_eq_ok {α β : Type} {m : R α} {f : α → R β} {b : β} (h : m.bind f = ok b) : ∃ a, m = ok a ∧ f a = ok b := by
  cases m with
  | ok a => exact ⟨a, rfl, h⟩
  | exc c a => cases h
  | stuck => cases h
end R

/-- how a loop's turn, a block ends -/
inductive Fl (τ : Type) where
  | nx (st : τ) | bk (st : τ) | rt (d : D) (st : τ)

def forT {τ : Type} : List D → τ → (D → τ → R (Fl τ)) → R (Fl τ)
  | [], st, _ => .ok (.nx st)
  | x :: xs, st, f => (f x st).bind fun
    | .nx s => forT xs s f
    | .bk s => .ok (.nx s)
    | .rt d s => .ok (.rt d s)

/-- a loop without break and return -/
def forS {τ : Type} : List D → τ → (D → τ → R τ) → R τ
  | [], st, _ => .ok st
  | x :: xs, st, f => (f x st).bind fun s => forS xs s f

inductive Wl (τ : Type) where
  | go (st : τ) | done (st : τ) | rt (d : D) (st : τ)

def whileT {τ : Type} : Nat → τ → (τ → R (Wl τ)) → R (Fl τ)
  | 0, _, _ => .stuck
  | n + 1, st, f => (f st).bind fun
    | .go s => whileT n s f
    | .done s => .ok (.nx s)
    | .rt d s => .ok (.rt d s)

/-- a comprehension's list; the state is what its element changes -/
def compT {τ : Type} : List D → τ → (D → τ → R (Option D × τ)) → R (List D × τ)
  | [], st, _ => .ok ([], st)
  | x :: xs, st, f => (f x st).bind fun p => (compT xs p.2 f).bind fun q =>
    match p.1 with
    | some y => .ok (y :: q.1, q.2)
    | none => .ok (q.1, q.2)
/-- without a state -/
def compP : List D → (D → R (Option D)) → R (List D)
  | [], _ => .ok []
  | x :: xs, f => (f x).bind fun p => (compP xs f).bind fun q =>
    match p with
    | some y => .ok (y :: q)
    | none => .ok q

/-- .. of not too many items -/
def compL (xs : List D) (f : D → R (Option D)) : R (List D) := if decide (xs.length < 16777216) then compP xs f else .stuck
def compS {τ : Type} (xs : List D) (st : τ) (f : D → τ → R (Option D × τ)) : R (List D × τ) := if decide (xs.length < 16777216) then compT xs st f else .stuck

/-! ### operations -/
def okD (d : D) : Bool := d.plain && decide (d.depth ≤ 40)
def bigM (i j : Int) : Bool := decide (i.natAbs < 2 ^ 64) || decide (j.natAbs < 2 ^ 64) || decide (i.natAbs.log2 + j.natAbs.log2 < 1000000)
def bigD (j : Int) : Bool := decide (j.natAbs.log2 < 9000)
def szOk (n : Nat) : Bool := decide (n ≤ 16777216)

def add : D → D → R D
  | .int i, .int j => .ok (.int (i + j))
  | .str a, .str b => if szOk (a.length + b.length) then .ok (.str (a ++ b)) else .stuck
  | .list a, .list b => if szOk (a.length + b.length) then .ok (.list (a ++ b)) else .stuck
  | .tuple a, .tuple b => if szOk (a.length + b.length) then .ok (.tuple (a ++ b)) else .stuck
  | _, _ => .stuck
def sub : D → D → R D
  | .int i, .int j => .ok (.int (i - j))
  | _, _ => .stuck
def repl (xs : List D) (k : Int) : List D := (List.replicate k.toNat xs).flatten
def mul : D → D → R D
  | .int i, .int j => if bigM i j then .ok (.int (i * j)) else .stuck
  | .list a, .int k => if decide (-(2 ^ 63) ≤ k) && decide (k < 2 ^ 63) && szOk (a.length * k.toNat) then .ok (.list (repl a k)) else .stuck
  | .tuple a, .int k => if decide (k = 1) then .ok (.tuple a) else if decide (2 ≤ k) && !a.isEmpty && decide ((a.length : Int) * k ≤ 1000000) then .ok (.tuple (repl a k)) else if decide (k = 0) && !a.isEmpty then .ok (.tuple []) else .stuck
  | _, _ => .stuck
def fdiv : D → D → R D
  | .int i, .int j => if decide (j ≠ 0) && bigD j then .ok (.int (i.fdiv j)) else .stuck
  | _, _ => .stuck
def fmod : D → D → R D
  | .int i, .int j => if decide (j ≠ 0) then .ok (.int (i.fmod j)) else .stuck
  | _, _ => .stuck
def pow : D → D → R D
  | .int i, .int j => if decide (0 ≤ j) && decide (j ≤ 1000000) && decide (i.natAbs < 2 ^ 64) then .ok (.int (i ^ j.toNat)) else .stuck
  | _, _ => .stuck
def neg : D → R D
  | .int i => .ok (.int (-i))
  | _ => .stuck

def eqD (a b : D) : R Bool := if okD a && okD b then .ok (PyData.eqv a b) else .stuck
def isNone : D → Bool
  | .none => true
  | _ => false
/-- a < b -/
def ltD : D → D → R Bool
  | .int i, .int j => .ok (decide (i < j))
  | a, b => if W.alike a b && !isNone a && okD a && okD b then .ok (W.dataLt a b) else .stuck
def neD (a b : D) : R Bool := (eqD a b).bind fun t => .ok (!t)
/-- a <= b -/
def leD : D → D → R Bool
  | .int i, .int j => .ok (decide (i ≤ j))
  | a, b => if W.alike a b && !isNone a && okD a && okD b then .ok (!W.dataLt b a) else .stuck
def gtD (a b : D) : R Bool := ltD b a
def geD (a b : D) : R Bool := leD b a
mutual
/-- the library's name of such a key -/
def nk : D → Option NestedKey
  | .int i => some (.num i)
  | .tuple xs => (nkAll xs).map .tup
  | _ => none
def nkAll : List D → Option (List NestedKey)
  | [] => some []
  | x :: xs => (nk x).bind fun k => (nkAll xs).map (k :: ·)
end
/-- a key of a dict -/
def keyN : D → Option NestedKey
  | .tuple xs => (nk (.tuple xs)).bind fun k => if decide (k.depth ≤ 8) then some k else none
  | _ => none
/-- all keys are tuples; all are whole numbers, texts -/
def isTupK : D → Bool
  | .tuple _ => true
  | _ => false
def keyF : D → Option L2.Key
  | .int i => some (.inl i)
  | .str x => some (.inr x)
  | _ => none
def keyD : L2.Key → D
  | .inl i => .int i
  | .inr x => .str x
def nestK (kvs : List (D × D)) : Bool := kvs.all fun p => isTupK p.1
def flatK (kvs : List (D × D)) : Bool := kvs.all fun p => (keyF p.1).isSome
def fGet (kvs : List (D × D)) (k : L2.Key) : Option D := (kvs.find? fun p => decide (keyF p.1 = some k)).map (·.2)
def fSet (kvs : List (D × D)) (kd : D) (k : L2.Key) (v : D) : List (D × D) :=
  if (fGet kvs k).isSome then kvs.map fun p => if keyF p.1 = some k then (p.1, v) else p else kvs ++ [(kd, v)]
def fMerge : List (D × D) → List (D × L2.Key × D) → List (D × D)
  | acc, [] => acc
  | acc, (kd, k, v) :: r => fMerge (fSet acc kd k v) r
def pairsF : List D → Option (List (D × L2.Key × D))
  | [] => some []
  | .tuple [kd, v] :: r => (keyF kd).bind fun k => (pairsF r).map ((kd, k, v) :: ·)
  | _ => none
def dGet (kvs : List (D × D)) (k : NestedKey) : Option D := (kvs.find? fun p => decide (nk p.1 = some k)).map (·.2)
def dSet (kvs : List (D × D)) (kd : D) (k : NestedKey) (v : D) : List (D × D) :=
  if (dGet kvs k).isSome then kvs.map fun p => if nk p.1 = some k then (p.1, v) else p else kvs ++ [(kd, v)]
def dMerge : List (D × D) → List (D × NestedKey × D) → List (D × D)
  | acc, [] => acc
  | acc, (kd, k, v) :: r => dMerge (dSet acc kd k v) r
def pairsK : List D → Option (List (D × NestedKey × D))
  | [] => some []
  | .tuple [kd, v] :: r => (keyN kd).bind fun k => (pairsK r).map ((kd, k, v) :: ·)
  | _ => none
/-- dict(pairs) -/
def dictL : D → R D
  | .list ps => match pairsK ps with
    | some qs => if szOk ps.length then .ok (.dict (dMerge [] qs)) else .stuck
    | none => match pairsF ps with
      | some qs => if szOk ps.length then .ok (.dict (fMerge [] qs)) else .stuck
      | none => .stuck
  | _ => .stuck
def inD (x : D) : D → R Bool
  | .list ys => if okD x && okD (.list ys) then .ok (ys.any fun y => PyData.eqv y x) else .stuck
  | .tuple ys => if okD x && okD (.tuple ys) then .ok (ys.any fun y => PyData.eqv y x) else .stuck
  | .str z => match x with
    | .str c => .ok (!(Builtin.Str.occurrences z c 0 z.length 1).isEmpty)
    | _ => .stuck
  | .dict kvs => match keyN x with
    | some k => if nestK kvs then .ok (dGet kvs k).isSome else .stuck
    | none => match keyF x with
      | some k => if flatK kvs then .ok (fGet kvs k).isSome else .stuck
      | none => .stuck
  | _ => .stuck

def notInD (x y : D) : R Bool := (inD x y).bind fun t => .ok (!t)

def truth : D → R Bool
  | .none => .ok false
  | .bool b => .ok b
  | .int i => .ok (i != 0)
  | .str x => if szOk x.length then .ok (x.length != 0) else .stuck
  | .list xs => .ok (!xs.isEmpty)
  | .tuple xs => .ok (!xs.isEmpty)
  | .dict _ => .stuck

/-- the item at a place, from the end below 0 -/
def atD (xs : List D) (i : Int) : R D :=
  match L2.atI xs i with
  | some x => .ok x
  | none => .stuck
def item : D → D → R D
  | .tuple xs, .int i => atD xs i
  | .list xs, .int i => atD xs i
  | .str s, .int i => if szOk s.length then match L2.atI s.cps.toList i with
    | some c => .ok (.str ⟨#[c]⟩)
    | none => .stuck
    else .stuck
  | .dict kvs, x => match keyN x with
    | some k => if nestK kvs then match dGet kvs k with
      | some v => .ok v
      | none => .stuck
      else .stuck
    | none => match keyF x with
      | some k => if flatK kvs then match fGet kvs k with
        | some v => .ok v
        | none => .stuck
        else .stuck
      | none => .stuck
  | _, _ => .stuck
/-- an end of a slice -/
def toI : D → R Int
  | .int i => .ok i
  | _ => .stuck
def cut {α : Type} (xs : List α) (lo hi : Option Int) : List α := (xs.drop (HT.sIx xs.length 0 lo)).take (HT.sIx xs.length xs.length hi - HT.sIx xs.length 0 lo)
def slice (a : D) (l u : Option Int) : R D := match a with
  | .tuple xs => .ok (.tuple (cut xs l u))
  | .list xs => .ok (.list (cut xs l u))
  | .str s => if szOk s.length then .ok (.str (L2.cutS s l u)) else .stuck
  | _ => .stuck
/-- xs[::-1] -/
def backwards : D → R D
  | .list xs => .ok (.list xs.reverse)
  | _ => .stuck
/-- the items that a loop, a star, list(..) walk -/
def iter : D → R (List D)
  | .tuple xs => .ok xs
  | .list xs => .ok xs
  | .str s => .ok (s.cps.toList.map fun c => .str ⟨#[c]⟩)
  | _ => .stuck
def rangeD (lo hi : Int) : List D := (List.range (hi - lo).toNat).map fun (k : Nat) => .int (lo + k)
def range2 : D → D → R (List D)
  | .int lo, .int hi => if decide (-(2 ^ 62) ≤ lo) && decide (lo < 2 ^ 62) && decide (-(2 ^ 62) ≤ hi) && decide (hi < 2 ^ 62) then .ok (rangeD lo hi) else .stuck
  | _, _ => .stuck
def range1 (a : D) : R (List D) := range2 (.int 0) a
def enumD (xs : List D) : List D := xs.zipIdx.map fun p => .tuple [.int (p.2 : Nat), p.1]
def zipD (xs ys : List D) : List D := (xs.zip ys).map fun p => .tuple [p.1, p.2]

def lenD : D → R D
  | .tuple xs => .ok (.int xs.length)
  | .list xs => .ok (.int xs.length)
  | .str s => if szOk s.length then .ok (.int s.length) else .stuck
  | .dict kvs => .ok (.int kvs.length)
  | _ => .stuck
def absD : D → R D
  | .int i => .ok (.int (if i < 0 then -i else i))
  | _ => .stuck
def maxD2 : D → D → R D
  | .int i, .int j => .ok (.int (if j > i then j else i))
  | _, _ => .stuck
def minD2 : D → D → R D
  | .int i, .int j => .ok (.int (if j < i then j else i))
  | _, _ => .stuck
def maxL : D → R D
  | .list (x :: xs) => if okD (.list (x :: xs)) && (x :: xs).all (fun a => !isNone a && (x :: xs).all fun b => W.alike a b) then .ok (W.maxD x xs) else .stuck
  | .tuple (x :: xs) => if okD (.list (x :: xs)) && (x :: xs).all (fun a => !isNone a && (x :: xs).all fun b => W.alike a b) then .ok (W.maxD x xs) else .stuck
  | _ => .stuck
def minL : D → R D
  | .list (x :: xs) => if okD (.list (x :: xs)) && (x :: xs).all (fun a => !isNone a && (x :: xs).all fun b => W.alike a b) then .ok (W.minD x xs) else .stuck
  | .tuple (x :: xs) => if okD (.list (x :: xs)) && (x :: xs).all (fun a => !isNone a && (x :: xs).all fun b => W.alike a b) then .ok (W.minD x xs) else .stuck
  | _ => .stuck
def isTup1 : D → Bool
  | .tuple (_ :: _) => true
  | _ => false
def isTup : D → Bool
  | .tuple _ => true
  | _ => false
/-- sorted(xs) -/
def sortL (xs : List D) : R D := if okD (.list xs) && xs.all (fun a => xs.all fun b => W.alike a b) && (xs.all isTup1 || xs.all fun a => !isNone a && !isTup a) && szOk xs.length then .ok (.list (xs.mergeSort (W.dataLe false id))) else .stuck
def sortedL : D → R D
  | .list xs => sortL xs
  | .dict kvs => sortL (kvs.map (·.1))
  | _ => .stuck
def intsD : List D → Option (List Int)
  | [] => some []
  | .int i :: r => (intsD r).map (i :: ·)
  | _ => none
def boolsD : List D → Option (List Bool)
  | [] => some []
  | .bool i :: r => (boolsD r).map (i :: ·)
  | _ => none
def sumL : D → R D
  | .list xs => match intsD xs with
    | some ns => .ok (.int ns.sum)
    | none => .stuck
  | _ => .stuck
def allL : D → R D
  | .list xs => match boolsD xs with
    | some bs => .ok (.bool (bs.all id))
    | none => .stuck
  | _ => .stuck
def anyL : D → R D
  | .list xs => match boolsD xs with
    | some bs => .ok (.bool (bs.any id))
    | none => .stuck
  | _ => .stuck
def tupleD : D → R D
  | .list xs => .ok (.tuple xs)
  | .tuple xs => .ok (.tuple xs)
  | _ => .stuck
def listD : D → R D
  | .list xs => .ok (.list xs)
  | .tuple xs => .ok (.list xs)
  | .dict kvs => .ok (.list (kvs.map (·.1)))
  | _ => .stuck
def fn1 (f : D → R D) : List D → R D
  | [a] => f a
  | _ => .stuck
def fn2 (f : D → D → R D) : List D → R D
  | [a, b] => f a b
  | _ => .stuck
def fn3 (f : D → D → D → R D) : List D → R D
  | [a, b, c] => f a b c
  | _ => .stuck
def fn4 (f : D → D → D → D → R D) : List D → R D
  | [a, b, c, d] => f a b c d
  | _ => .stuck
def intD : D → R D
  | .int i => .ok (.int i)
  | .bool b => .ok (.int (if b then 1 else 0))
  | _ => .stuck
def gcdD : D → D → R D
  | .int i, .int j => .ok (.int ((Nat.gcd i.natAbs j.natAbs : Nat) : Int))
  | _, _ => .stuck
/-- the parts of a row that is unpacked -/
def unpack (n : Nat) : D → R (List D)
  | .tuple xs => if xs.length = n then .ok xs else .stuck
  | .list xs => if xs.length = n then .ok xs else .stuck
  | _ => .stuck

def iterL : D → R (List D)
  | .tuple xs => .ok xs
  | .list xs => .ok xs
  | _ => .stuck
/-! what changes a list of one's own: the answer, the list -/
def pushM (xs : List D) : List D → R (D × List D)
  | [d] => if decide (xs.length < 16777216) then .ok (.none, xs ++ [d]) else .stuck
  | _ => .stuck
def extendM (xs : List D) : List D → R (D × List D)
  | [.list ys] => if szOk (xs.length + ys.length) then .ok (.none, xs ++ ys) else .stuck
  | _ => .stuck
def pop0M (xs : List D) : List D → R (D × List D)
  | [] => match xs.getLast? with
    | some d => .ok (d, xs.dropLast)
    | none => .stuck
  | _ => .stuck
def pop1M (xs : List D) : List D → R (D × List D)
  | [.int i] => match L2.ixN xs.length i with
    | some j => match xs[j]? with
      | some d => .ok (d, xs.eraseIdx j)
      | none => .stuck
    | none => .stuck
  | _ => .stuck
def setM (xs : List D) (j d : D) : R (List D) := match j with
  | .int i => match L2.ixN xs.length i with
    | some j => .ok (xs.set j d)
    | none => .stuck
  | _ => .stuck
def flatB : D → Bool
  | .none => true
  | .bool _ => true
  | .int _ => true
  | .str _ => true
  | _ => false
/-- a value that has no parts -/
def flatR (r : R D) : R D := r.bind fun d => if flatB d then .ok d else .stuck

/-- what is shown fits -/
def reprOk (d : D) : Bool := okD d && d.showable && !d.hasDict && decide (d.shown.length ≤ 16777216)
def reprD : D → R D
  | .list xs => if reprOk (.list xs) then .ok (.str (PyData.list xs).shown) else .stuck
  | .tuple xs => if reprOk (.tuple xs) then .ok (.str (PyData.tuple xs).shown) else .stuck
  | .none => .ok (.str "None")
  | .str x => if (PyData.str x).shown.length ≤ 16777216 then .ok (.str (PyData.str x).shown) else .stuck
  | .int i => if i.natAbs.log2 < 1920 then .ok (.str (toString i)) else .stuck
  | .bool b => .ok (.str (if b then "True" else "False"))
  | _ => .stuck
/-- the law's source of choices -/
structure Src where
  cells : List Int
  left : Int
  mixed : Int
  turn : Int

/-- the source's last cell -/
def popC (cs : List Int) : R (Int × List Int) := match cs.getLast? with
  | some n => .ok (n, cs.dropLast)
  | none => .stuck
def mkSrc (ds : List D) (l mx t : D) : R Src := match intsD ds with
  | some ns => if decide (ns.length ≤ 63) then (toI l).bind fun l => (toI mx).bind fun mx => (toI t).bind fun t => .ok ⟨ns, l, mx, t⟩ else .stuck
  | none => .stuck
def revL : D → R (List D)
  | .list xs => .ok xs.reverse
  | _ => .stuck

/-- what a slot holds: a value that nobody changes; a list of its own; the source -/
inductive Sl where
  | val (d : D)
  | own (xs : List D)
  | src (a : Addr) (s : Src)
  | scr (ns : List Int)
  /-- a dict of its own -/
  | dct (kvs : List (D × D))
  /-- .. its keys whole numbers, texts -/
  | dck (kvs : List (D × D))
  /-- a def -/
  | fn (a : Addr)
abbrev Env := List (Option Sl)
end Z

set_option Elab.async false
set_option linter.all false
set_option maxRecDepth 100000
set_option autoImplicit false
set_option maxHeartbeats 0
/-! # Z2: data in the heap, the state of a body, the judgements -/
namespace Z
open PySem L2

/-! ### dicts whose keys are nested tuples of whole numbers -/
abbrev DEnt := NestedKey × Addr × V
def EntOk (w : World) (x : DEnt) (e : DictEntry) : Prop := e.hash = x.1.hash w ∧ e.key = .ref x.2.1 ∧ RelV x.2.2 e.val
/-- the dict at a whose entries are xs -/
def dctP (a : Addr) (o : Obj) (xs : List DEnt) (h : Heap) : Prop := (a == sysModules) = false ∧ xs.length ≤ sizeLine ∧ (xs.map (·.1)).Nodup ∧ (∀ x ∈ xs, x.1.depth ≤ 8) ∧
  ∃ (w : World) (es : Array DictEntry) (ep : Nat), h.get? a = some o ∧ o.ExactDict ∧ o.data = .dict es ep ∧ Paired (EntOk w) xs es.toList
def dctO (a : Addr) (o : Obj) (xs : List DEnt) : HO := .ext (dctP a o xs)

/-- a pair of a lot and a whole number -/
def stD : D → Bool
  | .tuple [.tuple [.int _, .int _], .int _] => true
  | _ => false
def mkd (ds : List D) : Bool := !ds.isEmpty && ds.all stD
/-- a tuple that has no dict of its own -/
def PlT (F : Hp) (a : Addr) : Prop := ∃ o xs, F a = some (.frz o (.tup xs)) ∧ o.dict = none
theorem PlT.mono {F F' : Hp} {a : Addr} (e : Same F F') (h : PlT F a) : PlT F' a := let ⟨o, xs, x, y⟩ := h; ⟨o, xs, e _ _ x, y⟩
mutual
/-- v reads as the data d -/
inductive Rp (K : PySem.W.Frag) (F : Hp) : V → D → Prop
  | non : Rp K F .non .none
  | bl (b : Bool) : Rp K F (.bl b) (.bool b)
  | int (i : Int) : Rp K F (.int i) (.int i)
  | str (x : Str) : Rp K F (.str x) (.str x)
  | lst {a : Addr} {xs : List V} {ds : List D} : F a = some (.lst xs) → RpAll K F xs ds → Rp K F (.ref a) (.list ds)
  | tup {a : Addr} {xs : List V} {ds : List D} : SqT K F a xs → (mkd ds = true → PlT F a) → RpAll K F xs ds → Rp K F (.ref a) (.tuple ds)
  | dct {a : Addr} {o : Obj} {xs : List DEnt} {ks ds : List D} : F a = some (dctO a o xs) → RpAll K F (xs.map fun x => .ref x.2.1) ks → nkAll ks = some (xs.map (·.1)) → RpAll K F (xs.map fun x => x.2.2) ds → Rp K F (.ref a) (.dict (ks.zip ds))
  | dck {a : Addr} {o : Obj} {kv : List (L2.Key × V)} {kvs : List (D × D)} : F a = some (.frz o (.dK kv)) → kvs.map (·.1) = kv.map (fun k => keyD k.1) → RpAll K F (kv.map (·.2)) (kvs.map (·.2)) → Rp K F (.ref a) (.dict kvs)
inductive RpAll (K : PySem.W.Frag) (F : Hp) : List V → List D → Prop
  | nil : RpAll K F [] []
  | cons {v : V} {vs : List V} {d : D} {ds : List D} : Rp K F v d → RpAll K F vs ds → RpAll K F (v :: vs) (d :: ds)
end
theorem seqT {K : PySem.W.Frag} {H H' : Hp} {a : Addr} {xs : List V} (e : Same H H') (h : SqT K H a xs) : SqT K H' a xs := by
  rcases h with (h | ⟨o, h⟩) | h
  · exact .inl (.inl (e _ _ h))
  · exact .inl (.inr ⟨o, e _ _ h⟩)
  · exact .inr h
section
variable {K : PySem.W.Frag} {F F' : Hp}
mutual
theorem Rp.mono (e : Same F F') : ∀ {v : V} {d : D}, Rp K F v d → Rp K F' v d
  | _, _, .non => .non
  | _, _, .bl b => .bl b
  | _, _, .int i => .int i
  | _, _, .str x => .str x
  | _, _, .lst h r => .lst (e _ _ h) (RpAll.mono e r)
  | _, _, .tup h p r => .tup (seqT e h) (fun m => (p m).mono e) (RpAll.mono e r)
  | _, _, .dct h r i r' => .dct (e _ _ h) (RpAll.mono e r) i (RpAll.mono e r')
  | _, _, .dck h k r => .dck (e _ _ h) k (RpAll.mono e r)
theorem RpAll.mono (e : Same F F') : ∀ {vs : List V} {ds : List D}, RpAll K F vs ds → RpAll K F' vs ds
  | _, _, .nil => .nil
  | _, _, .cons h r => .cons (Rp.mono e h) (RpAll.mono e r)
end
theorem RpAll.length : ∀ {vs : List V} {ds : List D}, RpAll K F vs ds → vs.length = ds.length
  | _, _, .nil => rfl
  | _, _, .cons _ r => by simp [RpAll.length r]
theorem RpAll.isEmpty : ∀ {vs : List V} {ds : List D}, RpAll K F vs ds → vs.isEmpty = ds.isEmpty
  | _, _, .nil => rfl
  | _, _, .cons _ r => rfl
theorem RpAll.append : ∀ {vs ws : List V} {ds es : List D}, RpAll K F vs ds → RpAll K F ws es → RpAll K F (vs ++ ws) (ds ++ es)
  | _, _, _, _, .nil, r => r
  | _, _, _, _, .cons h t, r => .cons h (RpAll.append t r)
theorem RpAll.at : ∀ {vs : List V} {ds : List D}, RpAll K F vs ds → ∀ {i : Nat} {d : D}, ds[i]? = some d → ∃ v, vs[i]? = some v ∧ Rp K F v d
  | _, _, .nil, i, d, h => by simp at h
  | _, _, .cons h t, 0, d, e => by simp at e; subst e; exact ⟨_, by simp, h⟩
  | _, _, .cons h t, i + 1, d, e => by
    obtain ⟨v, h1, h2⟩ := RpAll.at t (i := i) (d := d) (by simpa using e)
    exact ⟨v, by simpa using h1, h2⟩
theorem RpAll.at' : ∀ {vs : List V} {ds : List D}, RpAll K F vs ds → ∀ {i : Nat} {v : V}, vs[i]? = some v → ∃ d, ds[i]? = some d ∧ Rp K F v d
  | _, _, .nil, i, d, h => by simp at h
  | _, _, .cons h t, 0, d, e => by simp at e; subst e; exact ⟨_, by simp, h⟩
  | _, _, .cons h t, i + 1, d, e => by
    obtain ⟨v, h1, h2⟩ := RpAll.at' t (i := i) (v := d) (by simpa using e)
    exact ⟨v, by simpa using h1, h2⟩
mutual
/-- without a dict it is the library's reading -/
theorem Rp.dp : ∀ {v : V} {d : D}, Rp K F v d → d.plain = true → Dp K F v d
  | _, _, .non, _ => .non
  | _, _, .bl b, _ => .bl b
  | _, _, .int i, _ => .int i
  | _, _, .str x, _ => .str x
  | _, _, .lst h r, p => .lst (SqL.of h) (RpAll.dp r (by simpa [PyData.plain] using p))
  | _, _, .tup h q r, p => .tup h (RpAll.dp r (by simpa [PyData.plain] using p))
  | _, _, .dct _ _ _ _, p => absurd p (by simp [PyData.plain])
  | _, _, .dck _ _ _, p => absurd p (by simp [PyData.plain])
theorem RpAll.dp : ∀ {vs : List V} {ds : List D}, RpAll K F vs ds → PyData.plainAll ds = true → DpAll K F vs ds
  | _, _, .nil, _ => .nil
  | _, _, .cons h r, p => by
    simp [PyData.plainAll] at p
    exact .cons (Rp.dp h p.1) (RpAll.dp r p.2)
end
end

theorem okD_plain {d : D} (h : okD d = true) : d.plain = true := by simp [okD] at h; exact h.1
theorem okD_depth {d : D} (h : okD d = true) : d.depth ≤ 40 := by simp [okD] at h; exact h.2
section
variable {X : Cx} {pins : List (Addr × Obj)} {σ : St} {H F : Hp} {s : Shared}
theorem Dp.up {K : PySem.W.Frag} {F H : Hp} (e : Same F H) : (∀ (v : V) (d : D), Rp K F v d → Rp K H v d) := fun v d h => h.mono e
/-- the reads of the library -/
theorem Rp.reads (I : Inv X pins σ H s) (e : Same F H) {v : V} {u : Value} {d : D} (h : Rp X.K F v d) (r : RelV v u) (p : d.plain = true) : ∃ as, Reads s.heap u d as :=
  L2.Dp.reads I d v u ((h.mono e).dp p) r
theorem RpAll.reads (I : Inv X pins σ H s) (e : Same F H) {vs : List V} {us : List Value} {ds : List D} (h : RpAll X.K F vs ds) (r : Vals vs us) (p : PyData.plainAll ds = true) : ∃ as, ReadsAll s.heap us ds as :=
  L2.Dp.readsAll I ds vs us ((h.mono e).dp p) r
end

/-! ### the state of a body -/
/-- the entries of a dict as data -/
structure DcR (K : PySem.W.Frag) (F : Hp) (xs : List DEnt) (kvs : List (D × D)) : Prop where
  ks : RpAll K F (xs.map fun x => .ref x.2.1) (kvs.map (·.1))
  nk : nkAll (kvs.map (·.1)) = some (xs.map (·.1))
  vs : RpAll K F (xs.map fun x => x.2.2) (kvs.map (·.2))
theorem DcR.mono {K : PySem.W.Frag} {F F' : Hp} (e : Same F F') {xs : List DEnt} {kvs : List (D × D)} (h : DcR K F xs kvs) : DcR K F' xs kvs := ⟨h.ks.mono e, h.nk, h.vs.mono e⟩
/-- the entries of a dict with flat keys as data -/
structure FcR (K : PySem.W.Frag) (F : Hp) (kv : List (L2.Key × V)) (kvs : List (D × D)) : Prop where
  ks : kvs.map (·.1) = kv.map (fun k => keyD k.1)
  vs : RpAll K F (kv.map (·.2)) (kvs.map (·.2))
theorem FcR.mono {K : PySem.W.Frag} {F F' : Hp} (e : Same F F') {kv : List (L2.Key × V)} {kvs : List (D × D)} (h : FcR K F kv kvs) : FcR K F' kv kvs := ⟨h.ks, h.vs.mono e⟩
/-- what a slot holds, the addresses that it alone has -/
def SlR (K : PySem.W.Frag) (F H : Hp) : Sl → V → List Addr → Prop
  | .val d, v, as => Rp K F v d ∧ as = []
  | .own xs, v, as => ∃ (p : Addr) (vs : List V), v = .ref p ∧ as = [p] ∧ H p = some (.lst vs) ∧ F p = none ∧ RpAll K F vs xs
  | .src a s, v, as => ∃ (c : Addr), v = .ref a ∧ as = [a, c] ∧ a ≠ c ∧ F a = none ∧ F c = none ∧
      H a = some (.dK [(.inr "cells", .ref c), (.inr "left", .int s.left), (.inr "mixed", .int s.mixed), (.inr "turn", .int s.turn)]) ∧ H c = some (.lst (s.cells.map V.int)) ∧ s.cells.length ≤ 63
  | .scr ns, v, as => ∃ a, v = .ref a ∧ SqL K F a (ns.map V.int) ∧ ns.length ≤ 63 ∧ as = []
  | .fn a, v, as => v = .ref a ∧ as = []
  | .dct kvs, v, as => ∃ (p : Addr) (o : Obj) (xs : List DEnt), v = .ref p ∧ as = [p] ∧ H p = some (dctO p o xs) ∧ F p = none ∧ DcR K F xs kvs
  | .dck kvs, v, as => ∃ (p : Addr) (kv : List (L2.Key × V)), v = .ref p ∧ as = [p] ∧ H p = some (.dK kv) ∧ F p = none ∧ FcR K F kv kvs

/-- what is handed out to its new owner -/
inductive Ow where
  | src (s : Src)
  | own (xs : List D)
def OwR (K : PySem.W.Frag) (F H : Hp) (ow : Ow) (v : V) (as : List Addr) : Prop := match ow with
  | .src s => ∃ a, SlR K F H (.src a s) v as
  | .own xs => SlR K F H (.own xs) v as

/-- the entry of a body: its heap, what nobody changes, the addresses that are handed in to be changed -/
structure Wd where
  K : PySem.W.Frag
  F0 : Hp
  H0 : Hp
  io : List Addr

structure Rel (W : Wd) (ρ : Env) (σ : St) (H F : Hp) : Prop where
  sub : Same F H
  sub0 : Same W.F0 F
  keep : ∀ b o, W.H0 b = some o → b ∉ W.io → H b = some o
  fresh : ∀ b o, F b = some o → W.F0 b = some o ∨ W.H0 b = none ∨ b ∈ W.io
  env : ∃ ad : Nat → List Addr, ∀ i sl, ρ[i]? = some (some sl) → ∃ v, σ[i]? = some (some v) ∧ SlR W.K F H sl v (ad i) ∧
    (∀ b ∈ ad i, b ∈ W.io ∨ W.H0 b = none) ∧ ∀ j sl', i ≠ j → ρ[j]? = some (some sl') → ∀ b ∈ ad i, b ∉ ad j
  len : ρ.length ≤ σ.length
  trk : ∀ b o, W.H0 b = some o → ∃ o', H b = some o'

/-- the text around: the program, its module, the names by slot, the scope, the room -/
structure Ct where
  P : Program
  w : World
  K : PySem.W.Frag
  mg : Str → Option Value
  base : Heap
  k : Nat
  N : List Str
  sc : Scope
  fn : Str → Bool

structure XOk (C : Ct) (X : Cx) : Prop where
  prog : X.prog = C.P
  w : X.w = C.w
  K : X.K = C.K
  mg : X.mg = C.mg
  base : X.base = C.base
  N : X.N = C.N
  nd : C.N.Nodup
  sc : X.env.scope = C.sc
  calm : X.calm = true
  room : Room C.k X.A
  grd : X.A.guards = some []
  own : PassesOwn (model X.prog X.w) X.A X.env X.xe
  /-- which names' cells are the body's own -/
  fnl : ∀ x, C.fn x = true → X.fn x = true

/-- what is known of a mirror: it tells a value -/
structure Cl {α : Type} (Z : R α → Prop) : Prop where
  st : ¬ Z .stuck
  ex : ∀ c a, ¬ Z (.exc c a)
theorem Cl.bind {α β : Type} {Z : R α → Prop} (c : Cl Z) {m : R β} {f : β → R α} (h : Z (m.bind f)) : ∃ b, m = .ok b ∧ Z (f b) := by
  cases m with
  | ok b => exact ⟨b, rfl, h⟩
  | exc x a => exact (c.st h).elim
  | stuck => exact (c.st h).elim

/-- an exception that a mirror tells: its class's name, its fields -/
def FldR (K : PySem.W.Frag) (F : Hp) : List (Str × V) → List D → Prop := Paired fun p e => ∃ dv, e = .tuple [.str p.1, dv] ∧ Rp K F p.2 dv
structure ExcIs (mg : Str → Option Value) (K : PySem.W.Frag) (F H : Hp) (cn : Str) (as : List D) (cls : Value) (d : Option Addr) : Prop where
  cls : mg cn = some cls
  fld : ∃ (dd : Addr) (fs : List (Str × V)), d = some dd ∧ H dd = some (.xd fs) ∧ F dd = none ∧ FldR K F fs as
/-- whoever stands around takes it -/
def Wished (X : Cx) (W : Wd) (cn : Str) (as : List D) : Prop := ∃ Wi : WX, Takes X Wi ∧ ∀ (σ : L2.St) (H F : Hp) (cls : Value) (d : Option Addr), X.N.length ≤ σ.length → Rel W [] σ H F → ExcIs X.mg W.K F H cn as cls d → Wi cls d σ H
/-- what is known of a mirror: it tells a value, or an exception that is taken -/
structure ClX {α : Type} (X : Cx) (W : Wd) (Z : R α → Prop) : Prop where
  st : ¬ Z .stuck
  ex : ∀ cn as, Z (.exc cn as) → Wished X W cn as
theorem ClX.bind {α β : Type} {X : Cx} {W : Wd} {Z : R α → Prop} (c : ClX X W Z) {m : R β} {f : β → R α} (h : Z (m.bind f)) : ∃ b, m = .ok b ∧ Z (f b) := by
  cases m with
  | ok b => exact ⟨b, rfl, h⟩
  | exc x a => exact (c.st h).elim
  | stuck => exact (c.st h).elim
theorem Cl.x {α : Type} {X : Cx} {W : Wd} {Z : R α → Prop} (c : Cl Z) : ClX X W Z := ⟨c.st, fun cn as z => (c.ex cn as z).elim⟩
instance {α : Type} {X : Cx} {W : Wd} {Z : R α → Prop} : Coe (Cl Z) (ClX X W Z) := ⟨Cl.x⟩

/-! ### judgements -/
/-- e in ρ: m is what is reckoned from here; κ d ρ' m': m' is what is reckoned behind e, its value d -/
def DE {α : Type} (C : Ct) (ρ : Env) (e : Expr) (m : R α) (κ : D → Env → R α → Prop) : Prop :=
  ∀ (X : Cx) (W : Wd) (Z : R α → Prop), XOk C X → W.K = C.K → ClX X W Z → Z m →
    PE X e fun σ H Q => ∃ F, Rel W ρ σ H F ∧ ∀ d ρ' m' v H' F', κ d ρ' m' → Z m' → Rel W ρ' σ H' F' → Same F F' → Rp W.K F' v d → Q v H'
/-- a test -/
def DT {α : Type} (C : Ct) (ρ : Env) (e : Expr) (m : R α) (κ : Bool → Env → R α → Prop) : Prop :=
  ∀ (X : Cx) (W : Wd) (Z : R α → Prop), XOk C X → W.K = C.K → ClX X W Z → Z m →
    PT X e fun σ H Q => ∃ F, Rel W ρ σ H F ∧ ∀ b ρ' m' H' F', κ b ρ' m' → Z m' → Rel W ρ' σ H' F' → Same F F' → Q b H'
def DW {α : Type} (C : Ct) (ρ : Env) (e : Expr) (m : R α) (κ : Bool → Env → R α → Prop) : Prop :=
  ∀ (X : Cx) (W : Wd) (Z : R α → Prop), XOk C X → W.K = C.K → ClX X W Z → Z m →
    PW X e fun σ H Q => ∃ F, Rel W ρ σ H F ∧ ∀ b ρ' m' H' F', κ b ρ' m' → Z m' → Rel W ρ' σ H' F' → Same F F' → Q b H'
/-- arguments -/
def DA {α : Type} (C : Ct) (ρ : Env) (es : List Expr) (m : R α) (κ : List D → Env → R α → Prop) : Prop :=
  ∀ (X : Cx) (W : Wd) (Z : R α → Prop), XOk C X → W.K = C.K → ClX X W Z → Z m →
    PA X es fun σ H Q => ∃ F, Rel W ρ σ H F ∧ ∀ ds ρ' m' vs H' F', κ ds ρ' m' → Z m' → Rel W ρ' σ H' F' → Same F F' → RpAll W.K F' vs ds → Q vs H'

/-- what the mirror must be at each way out of a block -/
structure Jd (α : Type) where
  nx : Env → R α → Prop
  rt : D → Env → R α → Prop
  bk : Env → R α → Prop
  ct : Env → R α → Prop
  rn : Ow → Env → R α → Prop := fun _ _ _ => False
structure Lk {α : Type} (W : Wd) (J : Jd α) (Z : R α → Prop) (D : Ends) : Prop where
  nx : ∀ ρ m σ H F, J.nx ρ m → Z m → Rel W ρ σ H F → D.nx σ H
  rt : ∀ d ρ m v σ H F, J.rt d ρ m → Z m → Rel W ρ σ H F → Rp W.K F v d → D.rt v H
  bk : ∀ ρ m σ H F, J.bk ρ m → Z m → Rel W ρ σ H F → D.bk σ H
  ct : ∀ ρ m σ H F, J.ct ρ m → Z m → Rel W ρ σ H F → D.ct σ H
  rn : ∀ (ow : Ow) (ρ : Env) (m : R α) (v : V) (as : List Addr) (H F : Hp), J.rn ow ρ m → Z m → Rel W [] [] H F → OwR W.K F H ow v as → (∀ b ∈ as, b ∈ W.io ∨ W.H0 b = none) → D.rt v H
def DSs {α : Type} (C : Ct) (ρ : Env) (sts : List Stmt) (m : R α) (J : Jd α) : Prop :=
  ∀ (X : Cx) (W : Wd) (Z : R α → Prop), XOk C X → W.K = C.K → ClX X W Z → Z m →
    PSs X sts fun D σ H => ∃ F, Rel W ρ σ H F ∧ Lk W J Z D

/-! ### readings weakened -/
theorem PE_imp {X : Cx} {e : Expr} {t t' : TE} (h : PE X e t) (i : ∀ σ H Q, t' σ H Q → t σ H Q) : PE X e t' := ⟨fun p s σ H Q I q => h.run p s σ H Q I (i σ H Q q)⟩
theorem PT_imp {X : Cx} {e : Expr} {t t' : TT} (h : PT X e t) (i : ∀ σ H Q, t' σ H Q → t σ H Q) : PT X e t' := ⟨fun p s σ H Q I q => h.run p s σ H Q I (i σ H Q q)⟩
theorem PW_imp {X : Cx} {e : Expr} {t t' : TT} (h : PW X e t) (i : ∀ σ H Q, t' σ H Q → t σ H Q) : PW X e t' := ⟨fun wh p s σ H Q I q => h.run wh p s σ H Q I (i σ H Q q)⟩
theorem PA_imp {X : Cx} {e : List Expr} {t t' : TA} (h : PA X e t) (i : ∀ σ H Q, t' σ H Q → t σ H Q) : PA X e t' := ⟨fun po p s σ H Q I q => h.run po p s σ H Q I (i σ H Q q)⟩
theorem PS_imp {X : Cx} {e : Stmt} {t t' : TS} (h : PS X e t) (i : ∀ D σ H, t' D σ H → t D σ H) : PS X e t' := ⟨fun p s σ H D I q => h.run p s σ H D I (i D σ H q)⟩
theorem PSs_imp {X : Cx} {e : List Stmt} {t t' : TS} (h : PSs X e t) (i : ∀ D σ H, t' D σ H → t D σ H) : PSs X e t' := ⟨fun p s σ H D I q => h.run p s σ H D I (i D σ H q)⟩
/-- by what is known: a reading for each -/
theorem PE_any {ι : Type 1} {X : Cx} {e : Expr} {t : ι → TE} (h : ∀ i, PE X e (t i)) : PE X e fun σ H Q => ∃ i, t i σ H Q := ⟨fun p s σ H Q I ⟨i, q⟩ => (h i).run p s σ H Q I q⟩
theorem PE_if {X : Cx} {e : Expr} {t : TE} {c : Prop} (h : c → PE X e t) : PE X e fun σ H Q => c ∧ t σ H Q := ⟨fun p s σ H Q I ⟨i, q⟩ => (h i).run p s σ H Q I q⟩
end Z

set_option Elab.async false
set_option linter.all false
set_option maxRecDepth 100000
set_option autoImplicit false
/-! # Z3: the rules: names, constants, operators, tests, joins, blocks -/
namespace Z
open PySem L2

/-- a step: what nobody changes grows by new objects alone -/
structure Fx (F H F' H' : Hp) : Prop where
  ff : Same F F'
  fh : Same F' H'
  hh : Same H H'
  new : ∀ b o, F' b = some o → F b = some o ∨ H b = none
theorem Fx.refl {F H : Hp} (e : Same F H) : Fx F H F H := ⟨Same.refl _, e, Same.refl _, fun _ _ h => .inl h⟩
theorem Fx.alloc {F H : Hp} {p : Addr} {u : HO} (e : Same F H) (hp : H p = none) : Fx F H (upd F p u) (upd H p u) := by
  have hf : F p = none := e.free hp
  refine ⟨fun b o h => ?_, fun b o h => ?_, fun b o h => ?_, fun b o h => ?_⟩
  · rw [upd_ne (ne_of_none h hf)]; exact h
  · by_cases hb : b = p
    · subst hb; rw [upd_same] at h ⊢; exact h
    · rw [upd_ne hb] at h ⊢; exact e b o h
  · rw [upd_ne (ne_of_none h hp)]; exact h
  · by_cases hb : b = p
    · subst hb; exact .inr hp
    · rw [upd_ne hb] at h; exact .inl h
theorem Fx.trans {F H F1 H1 F2 H2 : Hp} (a : Fx F H F1 H1) (b : Fx F1 H1 F2 H2) : Fx F H F2 H2 :=
  ⟨a.ff.trans b.ff, b.fh, a.hh.trans b.hh, fun c o h => (b.new c o h).elim (fun q => a.new c o q) fun q => .inr (a.hh.free q)⟩

theorem Fx.none {F H F' H' : Hp} (x : Fx F H F' H') {p : Addr} {u : HO} (hf : F p = none) (h : H p = some u) : F' p = none := by
  cases q : F' p with
  | none => rfl
  | some o =>
    rcases x.new p o q with z | z
    · rw [hf] at z; cases z
    · rw [h] at z; cases z
theorem SlR.step {K : PySem.W.Frag} {F H F' H' : Hp} (x : Fx F H F' H') : ∀ {sl : Sl} {v : V} {as : List Addr}, SlR K F H sl v as → SlR K F' H' sl v as
  | .val d, v, as, ⟨h, e⟩ => ⟨h.mono x.ff, e⟩
  | .own xs, v, as, ⟨p, vs, e1, e2, h, hf, r⟩ => ⟨p, vs, e1, e2, x.hh _ _ h, x.none hf h, r.mono x.ff⟩
  | .src a s, v, as, ⟨c, e1, e2, ne, ha, hc, h1, h2, l⟩ => ⟨c, e1, e2, ne, x.none ha h1, x.none hc h2, x.hh _ _ h1, x.hh _ _ h2, l⟩
  | .scr ns, v, as, ⟨a, e1, h, l, e2⟩ => ⟨a, e1, x.ff.seq h, l, e2⟩
  | .fn _, v, as, h => h
  | .dct kvs, v, as, ⟨p, o, xs, e1, e2, h, hf, r⟩ => ⟨p, o, xs, e1, e2, x.hh _ _ h, x.none hf h, r.mono x.ff⟩
  | .dck kvs, v, as, ⟨p, kv, e1, e2, h, hf, r⟩ => ⟨p, kv, e1, e2, x.hh _ _ h, x.none hf h, r.mono x.ff⟩

section
variable {W : Wd} {ρ : Env} {σ : L2.St} {H F F' H' : Hp}
theorem Rel.step (r : Rel W ρ σ H F) (x : Fx F H F' H') : Rel W ρ σ H' F' := by
  refine ⟨x.fh, r.sub0.trans x.ff, fun b o h n => x.hh _ _ (r.keep b o h n), fun b o h => ?_, ?_, r.len, fun b o h => ?_⟩
  · rcases x.new b o h with q | q
    · exact r.fresh b o q
    · refine .inr (.inl ?_)
      cases e : W.H0 b with
      | none => rfl
      | some u => obtain ⟨o', q'⟩ := r.trk b u e; rw [q] at q'; cases q'
  · obtain ⟨ad, h⟩ := r.env
    refine ⟨ad, fun i sl e => ?_⟩
    obtain ⟨v, h1, h2, h3, h4⟩ := h i sl e
    exact ⟨v, h1, h2.step x, h3, h4⟩
  · obtain ⟨o', q⟩ := r.trk b o h
    exact ⟨o', x.hh _ _ q⟩
theorem Rel.val (r : Rel W ρ σ H F) {i : Nat} {d : D} (e : ρ[i]? = some (some (.val d))) : ∃ v, σ[i]? = some (some v) ∧ Rp W.K F v d := by
  obtain ⟨ad, h⟩ := r.env
  obtain ⟨v, h1, ⟨h2, _⟩, _⟩ := h i _ e
  exact ⟨v, h1, h2⟩
theorem get_set {α : Type} {l : List α} {i j : Nat} {x y : α} (h : (l.set i x)[j]? = some y) : (i = j ∧ j < l.length ∧ y = x) ∨ (i ≠ j ∧ l[j]? = some y) := by
  rw [List.getElem?_set] at h
  split at h
  · rename_i e
    split at h
    · cases h; rename_i hl; exact .inl ⟨e, e ▸ hl, rfl⟩
    · cases h
  · rename_i e; exact .inr ⟨e, h⟩
theorem Rel.set (r : Rel W ρ σ H F) (i : Nat) {v : V} {d : D} (h : Rp W.K F v d) : Rel W (ρ.set i (some (.val d))) (σ.set i (some v)) H F := by
  refine ⟨r.sub, r.sub0, r.keep, r.fresh, ?_, by rw [List.length_set, List.length_set]; exact r.len, r.trk⟩
  obtain ⟨ad, k⟩ := r.env
  refine ⟨fun j => if j = i then [] else ad j, fun j sl e => ?_⟩
  rcases get_set e with ⟨e1, e2, e3⟩ | ⟨e1, e2⟩
  · subst e1
    cases e3
    refine ⟨v, by rw [List.getElem?_set_self (Nat.lt_of_lt_of_le e2 r.len)], ⟨h, by simp⟩, by simp, by simp⟩
  · obtain ⟨u, h1, h2, h3, h4⟩ := k j sl e2
    have ne : j ≠ i := fun z => e1 z.symm
    refine ⟨u, by rw [List.getElem?_set_ne e1]; exact h1, by simpa [ne] using h2, by simpa [ne] using h3, fun l sl' hl e' b hb => ?_⟩
    simp only [ne, if_false] at hb
    rcases get_set e' with ⟨z1, z2, z3⟩ | ⟨z1, z2⟩
    · subst z1; simp
    · have ne' : l ≠ i := fun z => z1 z.symm
      simp only [ne', if_false]
      exact h4 l sl' hl z2 b hb
/-- a slot is forgotten -/
theorem Rel.forget (r : Rel W ρ σ H F) (i : Nat) (x : Option V) : Rel W (ρ.set i none) (σ.set i x) H F := by
  refine ⟨r.sub, r.sub0, r.keep, r.fresh, ?_, by rw [List.length_set, List.length_set]; exact r.len, r.trk⟩
  obtain ⟨ad, k⟩ := r.env
  refine ⟨ad, fun j sl e => ?_⟩
  rcases get_set e with ⟨e1, e2, e3⟩ | ⟨e1, e2⟩
  · cases e3
  · obtain ⟨u, h1, h2, h3, h4⟩ := k j sl e2
    refine ⟨u, by rw [List.getElem?_set_ne e1]; exact h1, h2, h3, fun l sl' hl e' b hb => ?_⟩
    rcases get_set e' with ⟨z1, z2, z3⟩ | ⟨z1, z2⟩
    · cases z3
    · exact h4 l sl' hl z2 b hb
end

section
variable {α : Type} {C : Ct} {ρ : Env} {m : R α}

theorem XOk.vis {X : Cx} (x : XOk C X) {n : Str} (h : Vis C.sc n) : Vis X.env.scope n := by rw [x.sc]; exact h
theorem XOk.gl {X : Cx} (x : XOk C X) {n : Str} (h : C.sc.names.lookup n = some .globalImplicit) : Gl X n := by unfold Gl PySem.Env.kindOf; rw [x.sc]; exact h
theorem XOk.mg0 {X : Cx} (x : XOk C X) {n : Str} (h : C.mg n = none) : X.mg n = none := by rw [x.mg]; exact h

/-! ### names, constants -/
theorem de_var {κ : D → Env → R α → Prop} {n : Str} {pos : Pos} (i : Nat) {d : D} (hρ : ρ[i]? = some (some (.val d))) (k : κ d ρ m) (hN : C.N[i]? = some n := by rfl)
    (hv : Vis C.sc n := by first | exact Or.inl rfl | exact Or.inr (Or.inl rfl) | exact Or.inr (Or.inr rfl)) (hd : (n == ("__debug__" : Str)) = false := by decide) (hcd : (n == ("__classdict__" : Str)) = false := by decide) : DE C ρ (.Name n pos) m κ := by
  intro X W Z x hK c z
  refine PE_imp (pe_var (i := i) (by rw [x.N]; exact hN) (x.vis hv) hd hcd) fun σ H Q ⟨F, r, q⟩ => ?_
  obtain ⟨v, h1, h2⟩ := r.val hρ
  exact ⟨v, h1, q d ρ m v H F k z r (Same.refl _) h2⟩
theorem de_int {κ : D → Env → R α → Prop} {i : Int} {j : Nat} {pos : Pos} (k : κ (.int i) ρ m) : DE C ρ (.Constant (.int i) j pos) m κ := fun X W Z x hK c z =>
  PE_imp pe_int fun σ H Q ⟨F, r, q⟩ => q _ ρ m _ H F k z r (Same.refl _) (.int i)
theorem de_str {κ : D → Env → R α → Prop} {i : Str} {j : Nat} {pos : Pos} (k : κ (.str i) ρ m) : DE C ρ (.Constant (.str i) j pos) m κ := fun X W Z x hK c z =>
  PE_imp pe_str fun σ H Q ⟨F, r, q⟩ => q _ ρ m _ H F k z r (Same.refl _) (.str i)
theorem de_bool {κ : D → Env → R α → Prop} {i : Bool} {j : Nat} {pos : Pos} (k : κ (.bool i) ρ m) : DE C ρ (.Constant (.bool i) j pos) m κ := fun X W Z x hK c z =>
  PE_imp pe_bl fun σ H Q ⟨F, r, q⟩ => q _ ρ m _ H F k z r (Same.refl _) (.bl i)
theorem de_none {κ : D → Env → R α → Prop} {j : Nat} {pos : Pos} (k : κ .none ρ m) : DE C ρ (.Constant .none j pos) m κ := fun X W Z x hK c z =>
  PE_imp pe_non fun σ H Q ⟨F, r, q⟩ => q _ ρ m _ H F k z r (Same.refl _) .non
/-- a module's constant -/
structure ConD (C : Ct) (n : Str) (d : D) : Prop where
  ex : ∃ v u, C.mg n = some u ∧ RelV v u ∧ Rp C.K (fun _ => none) v d
theorem de_con {κ : D → Env → R α → Prop} {n : Str} {pos : Pos} {d : D} (h : ConD C n d) (k : κ d ρ m) (hg : C.sc.names.lookup n = some .globalImplicit := by rfl) (hd : (n == ("__debug__" : Str)) = false := by decide) : DE C ρ (.Name n pos) m κ := fun X W Z x hK c z => by
  obtain ⟨v, u, h1, h2, h3⟩ := h.ex
  refine PE_imp (pe_glob (x.gl hg) (by rw [x.mg]; exact h1) h2 hd) fun σ H Q ⟨F, r, q⟩ => ?_
  exact q _ ρ m _ H F k z r (Same.refl _) (by rw [hK]; exact h3.mono fun b o e => by cases e)

/-! ### operators -/
/-- what an operator of two values tells, by data -/
def r2D (K : PySem.W.Frag) (f : D → D → R D) : R2 := fun x y H Q => ∃ F a b c, Same F H ∧ Rp K F x a ∧ Rp K F y b ∧ f a b = .ok c ∧ ∀ v H' F', Fx F H F' H' → Rp K F' v c → Q v H'
def r2B (K : PySem.W.Frag) (f : D → D → R Bool) : R2 := fun x y H Q => ∃ F a b c, Same F H ∧ Rp K F x a ∧ Rp K F y b ∧ f a b = .ok c ∧ Q (.bl c) H
def r1D (K : PySem.W.Frag) (f : D → R D) : V → Hp → VK → Prop := fun x H Q => ∃ F a c, Same F H ∧ Rp K F x a ∧ f a = .ok c ∧ ∀ v H' F', Fx F H F' H' → Rp K F' v c → Q v H'
def BinS (op : Operator) (f : D → D → R D) : Prop := ∀ (X : Cx) (k : Nat), Room k X.A → OpR X (binaryOp op) (r2D X.K f)
def CmpS (op : CmpOp) (f : D → D → R Bool) : Prop := ∀ (X : Cx) (k : Nat), Room k X.A → OpR X (compareOp op) (r2B X.K f)
def UnS (op : UnaryOp) (f : D → R D) : Prop := ∀ (X : Cx) (k : Nat), Room k X.A → UnR X (unaryOp op) (r1D X.K f)

/-- two parts, then what is reckoned of both -/
theorem de_op {κ : D → Env → R α → Prop} {op : Operator} {f : D → D → R D} {a b : Expr} {pos : Pos} (ho : BinS op f)
    (h : DE C ρ a m fun x ρ1 m1 => DE C ρ1 b m1 fun y ρ2 m2 => ∃ g, m2 = (f x y).bind g ∧ ∀ z, κ z ρ2 (g z)) : DE C ρ (.BinOp a op b pos) m κ := by
  intro X W Z x hK c z
  refine ⟨fun pins s σ H Q I hq => ?_⟩
  obtain ⟨F, r, q⟩ := hq
  refine wpAny_BinOp (thn ((h X W Z x hK c z).run pins s σ H (fun vx H1 => ∃ F1 dx ρ1 m1, DE C ρ1 b m1 (fun y ρ2 m2 => ∃ g, m2 = (f dx y).bind g ∧ ∀ z, κ z ρ2 (g z)) ∧ Z m1 ∧ Rel W ρ1 σ H1 F1 ∧ Same F F1 ∧ Rp W.K F1 vx dx) I
    ⟨F, r, fun d ρ' m' v H' F' h1 h2 h3 h4 h5 => ⟨F', d, ρ', m', h1, h2, h3, h4, h5⟩⟩) fun v s1 ⟨vx, H1, I1, r1, F1, dx, ρ1, m1, h1, z1, rel1, s1', p1⟩ => ?_)
  refine thn ((h1 X W Z x hK c z1).run pins s1 σ H1 (fun vy H2 => ∃ F2 dy ρ2 m2, (∃ g, m2 = (f dx dy).bind g ∧ ∀ z, κ z ρ2 (g z)) ∧ Z m2 ∧ Rel W ρ2 σ H2 F2 ∧ Same F1 F2 ∧ Rp W.K F2 vy dy) I1
    ⟨F1, rel1, fun d ρ' m' v H' F' h1 h2 h3 h4 h5 => ⟨F', d, ρ', m', h1, h2, h3, h4, h5⟩⟩) fun u s2 ⟨vy, H2, I2, r2, F2, dy, ρ2, m2, ⟨g, e2, hg⟩, z2, rel2, s2', p2⟩ => ?_
  subst e2
  obtain ⟨w, ew, zw⟩ := c.bind z2
  refine ho X _ x.room pins s2 σ H2 vx vy v u Q I2 r1 r2 ⟨F2, dx, dy, w, rel2.sub, ?_, ?_, ew, fun v' H' F' fx p' => ?_⟩
  · rw [x.K, ← hK]; exact p1.mono s2'
  · rw [x.K, ← hK]; exact p2
  · exact q _ ρ2 _ v' H' F' (hg w) zw (rel2.step fx) ((s1'.trans s2').trans fx.ff) (by rw [hK, ← x.K]; exact p')

/-- a pair of parts in a test or a value, by the operator's reading -/
theorem cmp_run {X : Cx} {W : Wd} {Z : R α → Prop} (x : XOk C X) (hK : W.K = C.K) (c : ClX X W Z) (z : Z m) {op : CmpOp} {f : D → D → R Bool} {a b : Expr} (ho : CmpS op f) {κ : Bool → Env → R α → Prop}
    (h : DE C ρ a m fun x ρ1 m1 => DE C ρ1 b m1 fun y ρ2 m2 => ∃ g, m2 = (f x y).bind g ∧ ∀ t, κ t ρ2 (g t)) :
    PC X op a b fun σ H Q => ∃ F, Rel W ρ σ H F ∧ ∀ t ρ' m' H' F', κ t ρ' m' → Z m' → Rel W ρ' σ H' F' → Same F F' → Q (.bl t) H' := by
  refine ⟨fun pins s σ H Q I hq => ?_⟩
  obtain ⟨F, r, q⟩ := hq
  refine thn ((h X W Z x hK c z).run pins s σ H (fun vx H1 => ∃ F1 dx ρ1 m1, DE C ρ1 b m1 (fun y ρ2 m2 => ∃ g, m2 = (f dx y).bind g ∧ ∀ t, κ t ρ2 (g t)) ∧ Z m1 ∧ Rel W ρ1 σ H1 F1 ∧ Same F F1 ∧ Rp W.K F1 vx dx) I
    ⟨F, r, fun d ρ' m' v H' F' h1 h2 h3 h4 h5 => ⟨F', d, ρ', m', h1, h2, h3, h4, h5⟩⟩) fun v s1 ⟨vx, H1, I1, r1, F1, dx, ρ1, m1, h1, z1, rel1, s1', p1⟩ => ?_
  refine thn ((h1 X W Z x hK c z1).run pins s1 σ H1 (fun vy H2 => ∃ F2 dy ρ2 m2, (∃ g, m2 = (f dx dy).bind g ∧ ∀ t, κ t ρ2 (g t)) ∧ Z m2 ∧ Rel W ρ2 σ H2 F2 ∧ Same F1 F2 ∧ Rp W.K F2 vy dy) I1
    ⟨F1, rel1, fun d ρ' m' v H' F' h1 h2 h3 h4 h5 => ⟨F', d, ρ', m', h1, h2, h3, h4, h5⟩⟩) fun u s2 ⟨vy, H2, I2, r2, F2, dy, ρ2, m2, ⟨g, e2, hg⟩, z2, rel2, s2', p2⟩ => ?_
  subst e2
  obtain ⟨w, ew, zw⟩ := c.bind z2
  exact ho X _ x.room pins s2 σ H2 vx vy v u Q I2 r1 r2 ⟨F2, dx, dy, w, rel2.sub, by rw [x.K, ← hK]; exact p1.mono s2', by rw [x.K, ← hK]; exact p2, ew, q _ ρ2 _ H2 F2 (hg w) zw rel2 (s1'.trans s2')⟩
theorem de_cmp {κ : D → Env → R α → Prop} {op : CmpOp} {f : D → D → R Bool} {a b : Expr} {pos : Pos} (ho : CmpS op f)
    (h : DE C ρ a m fun x ρ1 m1 => DE C ρ1 b m1 fun y ρ2 m2 => ∃ g, m2 = (f x y).bind g ∧ ∀ t, κ (.bool t) ρ2 (g t)) (hm : behindInMarks op b = false := by first | exact nobehind _ (by decide) (by decide) | rfl) : DE C ρ (.Compare a [op] [b] pos) m κ := by
  intro X W Z x hK c z
  refine PE_imp (pe_cmp (cmp_run (κ := fun t => κ (.bool t)) x hK c z ho h) hm) fun σ H Q ⟨F, r, q⟩ => ⟨F, r, fun t ρ' m' H' F' h1 h2 h3 h4 => q _ ρ' m' _ H' F' h1 h2 h3 h4 (.bl t)⟩
theorem dt_cmp {κ : Bool → Env → R α → Prop} {op : CmpOp} {f : D → D → R Bool} {a b : Expr} {pos : Pos} (ho : CmpS op f)
    (h : DE C ρ a m fun x ρ1 m1 => DE C ρ1 b m1 fun y ρ2 m2 => ∃ g, m2 = (f x y).bind g ∧ ∀ t, κ t ρ2 (g t)) (hm : behindInMarks op b = false := by first | exact nobehind _ (by decide) (by decide) | rfl) : DT C ρ (.Compare a [op] [b] pos) m κ := by
  intro X W Z x hK c z
  refine PT_imp (pt_cmp (cmp_run x hK c z ho h) hm) fun σ H Q ⟨F, r, q⟩ => ⟨F, r, fun t ρ' m' H' F' h1 h2 h3 h4 => ⟨t, rfl, q t ρ' m' H' F' h1 h2 h3 h4⟩⟩
/-- is None, is not None -/
theorem dt_isN {κ : Bool → Env → R α → Prop} {a : Expr} {j : Nat} {p pos : Pos} (h : DE C ρ a m fun x ρ1 m1 => κ (isNone x) ρ1 m1) : DT C ρ (.Compare a [.Is] [.Constant .none j p] pos) m κ := by
  intro X W Z x hK c z
  refine PT_imp (pt_cmp (pc_isN (h X W Z x hK c z))) fun σ H Q ⟨F, r, q⟩ => ⟨F, r, fun d ρ' m' v H' F' h1 h2 h3 h4 h5 => ⟨_, rfl, ?_⟩⟩
  have e : decide (v = V.non) = isNone d := by cases h5 <;> rfl
  rw [e]; exact q _ ρ' m' H' F' h1 h2 h3 h4
theorem dt_notN {κ : Bool → Env → R α → Prop} {a : Expr} {j : Nat} {p pos : Pos} (h : DE C ρ a m fun x ρ1 m1 => κ (!isNone x) ρ1 m1) : DT C ρ (.Compare a [.IsNot] [.Constant .none j p] pos) m κ := by
  intro X W Z x hK c z
  refine PT_imp (pt_cmp (pc_notN (h X W Z x hK c z))) fun σ H Q ⟨F, r, q⟩ => ⟨F, r, fun d ρ' m' v H' F' h1 h2 h3 h4 h5 => ⟨_, rfl, ?_⟩⟩
  have e : decide (v = V.non) = isNone d := by cases h5 <;> rfl
  rw [e]; exact q _ ρ' m' H' F' h1 h2 h3 h4
theorem de_isN {κ : D → Env → R α → Prop} {a : Expr} {j : Nat} {p pos : Pos} (h : DE C ρ a m fun x ρ1 m1 => κ (.bool (isNone x)) ρ1 m1) : DE C ρ (.Compare a [.Is] [.Constant .none j p] pos) m κ := by
  intro X W Z x hK c z
  refine PE_imp (pe_cmp (pc_isN (h X W Z x hK c z))) fun σ H Q ⟨F, r, q⟩ => ⟨F, r, fun d ρ' m' v H' F' h1 h2 h3 h4 h5 => ?_⟩
  have e : decide (v = V.non) = isNone d := by cases h5 <;> rfl
  show Q (V.bl (decide (v = V.non))) H'
  rw [e]; exact q _ ρ' m' _ H' F' h1 h2 h3 h4 (.bl _)
theorem de_notN {κ : D → Env → R α → Prop} {a : Expr} {j : Nat} {p pos : Pos} (h : DE C ρ a m fun x ρ1 m1 => κ (.bool (!isNone x)) ρ1 m1) : DE C ρ (.Compare a [.IsNot] [.Constant .none j p] pos) m κ := by
  intro X W Z x hK c z
  refine PE_imp (pe_cmp (pc_notN (h X W Z x hK c z))) fun σ H Q ⟨F, r, q⟩ => ⟨F, r, fun d ρ' m' v H' F' h1 h2 h3 h4 h5 => ?_⟩
  have e : decide (v = V.non) = isNone d := by cases h5 <;> rfl
  show Q (V.bl (!decide (v = V.non))) H'
  rw [e]; exact q _ ρ' m' _ H' F' h1 h2 h3 h4 (.bl _)
theorem de_un {κ : D → Env → R α → Prop} {op : UnaryOp} {f : D → R D} {a : Expr} {pos : Pos} (ho : UnS op f)
    (h : DE C ρ a m fun x ρ1 m1 => ∃ g, m1 = (f x).bind g ∧ ∀ z, κ z ρ1 (g z)) : DE C ρ (.UnaryOp op a pos) m κ := by
  intro X W Z x hK c z
  refine PE_imp (pe_un (ho X _ x.room) (h X W Z x hK c z)) fun σ H Q ⟨F, r, q⟩ => ⟨F, r, fun d ρ' m' v H' F' ⟨g, e, hg⟩ h2 h3 h4 h5 => ?_⟩
  subst e
  obtain ⟨w, ew, zw⟩ := c.bind h2
  refine ⟨F', d, w, h3.sub, by rw [x.K, ← hK]; exact h5, ew, fun v' H2 F2 fx p' => ?_⟩
  exact q _ ρ' _ v' H2 F2 (hg w) zw (h3.step fx) (h4.trans fx.ff) (by rw [hK, ← x.K]; exact p')

/-! ### tests -/
/-- a value's truth, of a bool -/
theorem dt_bool {κ : Bool → Env → R α → Prop} {e : Expr} (h : DE C ρ e m fun d ρ1 m1 => ∃ t, d = .bool t ∧ κ t ρ1 m1)
    (he : ∀ (env : PySem.Env) (whole : Sem Value), isTrue e env whole = (do let v ← whole; standAt e.pos; holding [v] (truthy v)) := by intro _ _; rfl) : DT C ρ e m κ := by
  intro X W Z x hK c z
  refine PT_imp (pt_val (h X W Z x hK c z) (he _)) fun σ H Q ⟨F, r, q⟩ => ⟨F, r, fun d ρ' m' v H' F' ⟨t, e1, h1⟩ h2 h3 h4 h5 => ?_⟩
  subst e1
  cases h5
  exact ⟨t, rfl, q t ρ' m' H' F' h1 h2 h3 h4⟩
/-- any value's truth -/
theorem dt_truth {κ : Bool → Env → R α → Prop} {e : Expr} (h : DE C ρ e m fun d ρ1 m1 => ∃ g, m1 = (truth d).bind g ∧ ∀ t, κ t ρ1 (g t))
    (he : ∀ (env : PySem.Env) (whole : Sem Value), isTrue e env whole = (do let v ← whole; standAt e.pos; holding [v] (truthy v)) := by intro _ _; rfl) : DT C ρ e m κ := by
  intro X W Z x hK c z
  refine PT_imp (pt_truth (h X W Z x hK c z) (he _)) fun σ H Q ⟨F, r, q⟩ => ⟨F, r, fun d ρ' m' v H' F' ⟨g, e1, h1⟩ h2 h3 h4 h5 => ?_⟩
  subst e1
  obtain ⟨t, et, zt⟩ := c.bind h2
  refine ⟨t, ?_, q t ρ' _ H' F' (h1 t) zt h3 h4⟩
  have sub := h3.sub
  cases h5 with
  | non => cases et; rfl
  | bl b => cases et; rfl
  | int i => cases et; rfl
  | str y =>
    simp only [truth] at et
    split at et
    · rename_i hz
      cases et
      exact ⟨by rw [sizeLine_eq]; simpa [szOk] using hz, by cases hh : y.length <;> simp <;> omega⟩
    · cases et
  | lst a b =>
    have e0 := b.isEmpty
    cases et
    exact .inl ⟨_, .inl (.inl (sub _ _ a)), by rw [e0]⟩
  | tup a _ b =>
    have e0 := b.isEmpty
    cases et
    exact .inr (.inl ⟨_, by rw [x.K, ← hK]; exact seqT sub a, by rw [e0]⟩)
  | dct _ _ _ _ => cases et
  | dck _ _ _ => cases et
theorem dt_not {κ : Bool → Env → R α → Prop} {e : Expr} {pos : Pos} (h : DT C ρ e m fun t ρ1 m1 => κ (!t) ρ1 m1) : DT C ρ (.UnaryOp .Not e pos) m κ := by
  intro X W Z x hK c z
  refine PT_imp (pt_not (h X W Z x hK c z)) fun σ H Q ⟨F, r, q⟩ => ⟨F, r, fun t ρ' m' H' F' h1 h2 h3 h4 => q _ ρ' m' H' F' h1 h2 h3 h4⟩
theorem dt_w {κ : Bool → Env → R α → Prop} {e : Expr} (h : DW C ρ e m κ) : DT C ρ e m κ := fun X W Z x hK c z => (h X W Z x hK c z).pt
theorem dw_and1 {κ : Bool → Env → R α → Prop} {e : Expr} {pos : Pos} (h : DT C ρ e m κ) : DW C ρ (.BoolOp .And [e] pos) m κ := fun X W Z x hK c z => pw_and1 (h X W Z x hK c z)
theorem dw_or1 {κ : Bool → Env → R α → Prop} {e : Expr} {pos : Pos} (h : DT C ρ e m κ) : DW C ρ (.BoolOp .Or [e] pos) m κ := fun X W Z x hK c z => pw_or1 (h X W Z x hK c z)
/-- readings chosen by what came -/
theorem PW_all {ι : Type 1} {X : Cx} {e : Expr} {P : ι → Prop} {t : ι → TT} (h : ∀ i, P i → PW X e (t i)) : PW X e fun σ H Q => ∃ i, P i ∧ t i σ H Q := ⟨fun wh p s σ H Q I ⟨i, pi, q⟩ => (h i pi).run wh p s σ H Q I q⟩
theorem dw_and {κ : Bool → Env → R α → Prop} {a b : Expr} {rest : List Expr} {pos : Pos}
    (h : DT C ρ a m fun t ρ1 m1 => ∃ A B, m1 = (if t = true then A else B) ∧ DW C ρ1 (.BoolOp .And (b :: rest) pos) A κ ∧ κ false ρ1 B) : DW C ρ (.BoolOp .And (a :: b :: rest) pos) m κ := by
  intro X W Z x hK c z
  have hb : PW X (.BoolOp .And (b :: rest) pos) fun σ H Q => ∃ i : R α × Env, (DW C i.2 (.BoolOp .And (b :: rest) pos) i.1 κ ∧ Z i.1) ∧ ∃ F, Rel W i.2 σ H F ∧ ∀ b ρ' m' H' F', κ b ρ' m' → Z m' → Rel W ρ' σ H' F' → Same F F' → Q b H' :=
    ⟨fun wh p s σ H Q I ⟨i, pi, q⟩ => (pi.1 X W Z x hK c pi.2).run wh p s σ H Q I q⟩
  refine PW_imp (pw_and (h X W Z x hK c z) hb) fun σ H Q ⟨F, r, q⟩ => ⟨F, r, fun t ρ' m' H' F' ⟨A, B, e, hA, hB⟩ h2 h3 h4 => ?_⟩
  subst e
  cases t with
  | true => exact ⟨(A, ρ'), ⟨hA, h2⟩, F', h3, fun b ρ2 m2 H2 F2 k1 k2 k3 k4 => q b ρ2 m2 H2 F2 k1 k2 k3 (h4.trans k4)⟩
  | false => exact q _ ρ' _ H' F' hB h2 h3 h4
theorem dw_or {κ : Bool → Env → R α → Prop} {a b : Expr} {rest : List Expr} {pos : Pos}
    (h : DT C ρ a m fun t ρ1 m1 => ∃ A B, m1 = (if t = true then A else B) ∧ κ true ρ1 A ∧ DW C ρ1 (.BoolOp .Or (b :: rest) pos) B κ) : DW C ρ (.BoolOp .Or (a :: b :: rest) pos) m κ := by
  intro X W Z x hK c z
  have hb : PW X (.BoolOp .Or (b :: rest) pos) fun σ H Q => ∃ i : R α × Env, (DW C i.2 (.BoolOp .Or (b :: rest) pos) i.1 κ ∧ Z i.1) ∧ ∃ F, Rel W i.2 σ H F ∧ ∀ b ρ' m' H' F', κ b ρ' m' → Z m' → Rel W ρ' σ H' F' → Same F F' → Q b H' :=
    ⟨fun wh p s σ H Q I ⟨i, pi, q⟩ => (pi.1 X W Z x hK c pi.2).run wh p s σ H Q I q⟩
  refine PW_imp (pw_or (h X W Z x hK c z) hb) fun σ H Q ⟨F, r, q⟩ => ⟨F, r, fun t ρ' m' H' F' ⟨A, B, e, hA, hB⟩ h2 h3 h4 => ?_⟩
  subst e
  cases t with
  | true => exact q _ ρ' _ H' F' hA h2 h3 h4
  | false => exact ⟨(B, ρ'), ⟨hB, h2⟩, F', h3, fun b ρ2 m2 H2 F2 k1 k2 k3 k4 => q b ρ2 m2 H2 F2 k1 k2 k3 (h4.trans k4)⟩

/-! ### joins: a part reckoned by itself -/
theorem Cl.at {β : Type} {Z : R α → Prop} (c : Cl Z) (g : β → R α) : Cl fun r : R β => ∃ p, r = .ok p ∧ Z (g p) := ⟨(fun ⟨_, e, _⟩ => nomatch e), (fun _ _ ⟨_, e, _⟩ => nomatch e)⟩
theorem ClX.at {β : Type} {X : Cx} {W : Wd} {Z : R α → Prop} (c : ClX X W Z) (g : β → R α) : Cl fun r : R β => ∃ p, r = .ok p ∧ Z (g p) := ⟨(fun ⟨_, e, _⟩ => nomatch e), (fun _ _ ⟨_, e, _⟩ => nomatch e)⟩
theorem de_join {τ : Type} {κ : D → Env → R α → Prop} {e : Expr} (pack : τ → Env) {r : R (D × τ)} {g : D × τ → R α}
    (h : DE C ρ e r fun d ρ' m' => ∃ st, ρ' = pack st ∧ m' = .ok (d, st)) (k : ∀ d st, κ d (pack st) (g (d, st))) : DE C ρ e (r.bind g) κ := by
  intro X W Z x hK c z
  obtain ⟨p, e1, z1⟩ := c.bind z
  refine PE_imp (h X W _ x hK (c.at g).x ⟨p, e1, z1⟩) fun σ H Q ⟨F, rl, q⟩ => ⟨F, rl, fun d ρ' m' v H' F' ⟨st, e2, e3⟩ ⟨p', e4, z2⟩ h3 h4 h5 => ?_⟩
  subst e2 e3; cases e4
  exact q _ _ _ v H' F' (k _ _) z2 h3 h4 h5
/-- .. that changes nothing -/
theorem de_dir {κ : D → Env → R α → Prop} {e : Expr} {r : R D} {g : D → R α} (h : DE C ρ e r fun d ρ' m' => ρ' = ρ ∧ m' = .ok d) (k : ∀ d, κ d ρ (g d)) : DE C ρ e (r.bind g) κ := by
  intro X W Z x hK c z
  obtain ⟨p, e1, z1⟩ := c.bind z
  refine PE_imp (h X W _ x hK (c.at g).x ⟨p, e1, z1⟩) fun σ H Q ⟨F, rl, q⟩ => ⟨F, rl, fun d ρ' m' v H' F' ⟨e2, e3⟩ ⟨p', e4, z2⟩ h3 h4 h5 => ?_⟩
  subst e2 e3; cases e4
  exact q _ _ _ v H' F' (k _) z2 h3 h4 h5
theorem dt_join {τ : Type} {κ : Bool → Env → R α → Prop} {e : Expr} (pack : τ → Env) {r : R (Bool × τ)} {g : Bool × τ → R α}
    (h : DT C ρ e r fun d ρ' m' => ∃ st, ρ' = pack st ∧ m' = .ok (d, st)) (k : ∀ d st, κ d (pack st) (g (d, st))) : DT C ρ e (r.bind g) κ := by
  intro X W Z x hK c z
  obtain ⟨p, e1, z1⟩ := c.bind z
  refine PT_imp (h X W _ x hK (c.at g).x ⟨p, e1, z1⟩) fun σ H Q ⟨F, rl, q⟩ => ⟨F, rl, fun d ρ' m' H' F' ⟨st, e2, e3⟩ ⟨p', e4, z2⟩ h3 h4 => ?_⟩
  subst e2 e3; cases e4
  exact q _ _ _ H' F' (k _ _) z2 h3 h4
theorem dt_dir {κ : Bool → Env → R α → Prop} {e : Expr} {r : R Bool} {g : Bool → R α} (h : DT C ρ e r fun d ρ' m' => ρ' = ρ ∧ m' = .ok d) (k : ∀ d, κ d ρ (g d)) : DT C ρ e (r.bind g) κ := by
  intro X W Z x hK c z
  obtain ⟨p, e1, z1⟩ := c.bind z
  refine PT_imp (h X W _ x hK (c.at g).x ⟨p, e1, z1⟩) fun σ H Q ⟨F, rl, q⟩ => ⟨F, rl, fun d ρ' m' H' F' ⟨e2, e3⟩ ⟨p', e4, z2⟩ h3 h4 => ?_⟩
  subst e2 e3; cases e4
  exact q _ _ _ H' F' (k _) z2 h3 h4
/-- a if t else b -/
theorem de_ifx {κ : D → Env → R α → Prop} {t a b : Expr} {pos : Pos} (h : DT C ρ t m fun t ρ1 m1 => ∃ A B, m1 = (if t = true then A else B) ∧ DE C ρ1 a A κ ∧ DE C ρ1 b B κ) : DE C ρ (.IfExp t a b pos) m κ := by
  intro X W Z x hK c z
  have each : ∀ e : Expr, PE X e fun σ H Q => ∃ i : R α × Env, (DE C i.2 e i.1 κ ∧ Z i.1) ∧ ∃ F, Rel W i.2 σ H F ∧ ∀ d ρ' m' v H' F', κ d ρ' m' → Z m' → Rel W ρ' σ H' F' → Same F F' → Rp W.K F' v d → Q v H' := fun e =>
    ⟨fun p s σ H Q I ⟨i, pi, q⟩ => (pi.1 X W Z x hK c pi.2).run p s σ H Q I q⟩
  refine PE_imp (pe_ifExp (h X W Z x hK c z) (each a) (each b)) fun σ H Q ⟨F, r, q⟩ => ⟨F, r, fun t ρ' m' H' F' ⟨A, B, e, hA, hB⟩ h2 h3 h4 => ?_⟩
  subst e
  cases t with
  | true => exact ⟨(A, ρ'), ⟨hA, h2⟩, F', h3, fun d ρ2 m2 v H2 F2 k1 k2 k3 k4 k5 => q d ρ2 m2 v H2 F2 k1 k2 k3 (h4.trans k4) k5⟩
  | false => exact ⟨(B, ρ'), ⟨hB, h2⟩, F', h3, fun d ρ2 m2 v H2 F2 k1 k2 k3 k4 k5 => q d ρ2 m2 v H2 F2 k1 k2 k3 (h4.trans k4) k5⟩

/-! ### arguments, displays -/
theorem da_nil {κ : List D → Env → R α → Prop} (k : κ [] ρ m) : DA C ρ [] m κ := fun X W Z x hK c z =>
  PA_imp pa_nil fun σ H Q ⟨F, r, q⟩ => q _ ρ m _ H F k z r (Same.refl _) .nil
theorem da_cons {κ : List D → Env → R α → Prop} {e : Expr} {es : List Expr} (h : DE C ρ e m fun d ρ1 m1 => DA C ρ1 es m1 fun ds ρ2 m2 => κ (d :: ds) ρ2 m2)
    (hs : ∀ env : PySem.Env, starEach (e :: es) env = (false, eval e env) :: starEach es env := by intro _; rfl) : DA C ρ (e :: es) m κ := by
  intro X W Z x hK c z
  have rest : PA X es fun σ H Q => ∃ i : R α × Env × D, (DA C i.2.1 es i.1 (fun ds ρ2 m2 => κ (i.2.2 :: ds) ρ2 m2) ∧ Z i.1) ∧ ∃ F, Rel W i.2.1 σ H F ∧ ∀ ds ρ' m' vs H' F', κ (i.2.2 :: ds) ρ' m' → Z m' → Rel W ρ' σ H' F' → Same F F' → RpAll W.K F' vs ds → Q vs H' :=
    ⟨fun po p s σ H Q I ⟨i, pi, q⟩ => (pi.1 X W Z x hK c pi.2).run po p s σ H Q I q⟩
  refine PA_imp (pa_cons (h X W Z x hK c z) rest (hs _)) fun σ H Q ⟨F, r, q⟩ => ⟨F, r, fun d ρ' m' v H' F' h1 h2 h3 h4 h5 => ?_⟩
  exact ⟨(m', ρ', d), ⟨h1, h2⟩, F', h3, fun ds ρ2 m2 vs H2 F2 k1 k2 k3 k4 k5 => q _ ρ2 m2 _ H2 F2 k1 k2 k3 (h4.trans k4) (.cons (h5.mono k4) k5)⟩
/-- a new tuple, its object told -/
theorem pe_tupF {X : Cx} {es : List Expr} {t : TA} {x1 : Nat} {pos : Pos} (h : PA X es t) : PE X (.Tuple es x1 pos) (fun σ H Q => t σ H fun xs H1 => xs.length ≤ sizeLine ∧ ∀ (o : Obj) p, o.dict = none → H1 p = none → Q (.ref p) (upd H1 p (.frz o (.tup xs)))) := by
  refine ⟨fun pins s σ H Q I hq => ?_⟩
  refine wpAny_Tuple_spliced (thn (h.run pos pins s σ H _ I hq) fun us s1 ⟨xs, H1, I1, r, z, q⟩ => ⟨by rw [← r.length]; exact z, ?_⟩)
  have hf : H1 s1.heap.objs.size = none := I1.hok.fresh (Nat.le_refl _)
  refine ⟨.ref s1.heap.objs.size, upd H1 s1.heap.objs.size (.frz { cls := .type "tuple", data := .seq us.toArray } (.tup xs)), I1.laid (t' := s1.toks) (fun b u e => Heap.get?_push_of_some _ e) (Nat.le_refl _) ?_, rfl, q _ _ rfl hf⟩
  exact ⟨Heap.get?_push_size _ rfl, z, us, r, ⟨_, Heap.get?_push_size _ rfl, rfl, _, rfl⟩⟩
theorem de_tup {κ : D → Env → R α → Prop} {es : List Expr} {k : Nat} {pos : Pos} (h : DA C ρ es m fun ds ρ1 m1 => ds.length ≤ 16777216 ∧ κ (.tuple ds) ρ1 m1) : DE C ρ (.Tuple es k pos) m κ := by
  intro X W Z x hK c z
  refine PE_imp (pe_tupF (h X W Z x hK c z)) fun σ H Q ⟨F, r, q⟩ => ⟨F, r, fun ds ρ' m' vs H' F' ⟨hz, h1⟩ h2 h3 h4 h5 => ⟨by rw [h5.length, sizeLine_eq]; exact hz, fun o p ho hp => ?_⟩⟩
  have fx : Fx F' H' _ _ := Fx.alloc (u := .frz o (.tup vs)) h3.sub hp
  exact q _ ρ' m' _ _ _ h1 h2 (h3.step fx) (h4.trans fx.ff) (.tup (.inl (.inr ⟨o, upd_same⟩)) (fun _ => ⟨o, vs, upd_same, ho⟩) (h5.mono fx.ff))
theorem de_lst {κ : D → Env → R α → Prop} {es : List Expr} {pos : Pos} (h : DA C ρ es m fun ds ρ1 m1 => ds.length ≤ 16777216 ∧ κ (.list ds) ρ1 m1) : DE C ρ (.List es pos) m κ := by
  intro X W Z x hK c z
  refine PE_imp (pe_lst (h X W Z x hK c z)) fun σ H Q ⟨F, r, q⟩ => ⟨F, r, fun ds ρ' m' vs H' F' ⟨hz, h1⟩ h2 h3 h4 h5 => ⟨by rw [h5.length, sizeLine_eq]; exact hz, fun p hp => ?_⟩⟩
  have fx : Fx F' H' _ _ := Fx.alloc (u := .lst vs) h3.sub hp
  exact q _ ρ' m' _ _ _ h1 h2 (h3.step fx) (h4.trans fx.ff) (.lst upd_same (h5.mono fx.ff))
end
end Z

set_option Elab.async false
set_option linter.all false
set_option maxRecDepth 100000
set_option autoImplicit false
/-! # Z4: targets, blocks, loops, a def by its mirror -/
namespace Z
open PySem L2

/-! ### less is known -/
def Le : Env → Env → Prop
  | [], [] => True
  | none :: r, _ :: r' => Le r r'
  | some a :: r, some b :: r' => a = b ∧ Le r r'
  | _, _ => False
theorem Le.refl : ∀ ρ : Env, Le ρ ρ
  | [] => trivial
  | none :: r => Le.refl r
  | some a :: r => ⟨rfl, Le.refl r⟩
theorem Le.len : ∀ {ρ ρ' : Env}, Le ρ ρ' → ρ.length = ρ'.length
  | [], [], _ => rfl
  | none :: r, _ :: r', h => by simp [Le.len (ρ := r) (ρ' := r') h]
  | some a :: r, some b :: r', h => by simp [Le.len (ρ := r) (ρ' := r') h.2]
  | [], _ :: _, h => h.elim
  | some a :: r, [], h => h.elim
  | none :: r, [], h => h.elim
  | some a :: r, none :: r', h => h.elim
theorem Le.get : ∀ {ρ ρ' : Env}, Le ρ ρ' → ∀ {i : Nat} {sl : Sl}, ρ[i]? = some (some sl) → ρ'[i]? = some (some sl)
  | [], [], _, i, sl, e => by simp at e
  | none :: r, _ :: r', h, 0, sl, e => by simp at e
  | none :: r, _ :: r', h, i + 1, sl, e => by
    have := Le.get (ρ := r) (ρ' := r') h (i := i) (sl := sl) (by simpa using e)
    simpa using this
  | some a :: r, some b :: r', h, 0, sl, e => by
    have h1 := h.1
    subst h1; simpa using e
  | some a :: r, some b :: r', h, i + 1, sl, e => by
    have := Le.get (ρ := r) (ρ' := r') h.2 (i := i) (sl := sl) (by simpa using e)
    simpa using this
  | [], _ :: _, h, _, _, _ => h.elim
  | some a :: r, [], h, _, _, _ => h.elim
  | none :: r, [], h, _, _, _ => h.elim
  | some a :: r, none :: r', h, _, _, _ => h.elim
theorem Rel.le {W : Wd} {ρ ρ' : Env} {σ : L2.St} {H F : Hp} (r : Rel W ρ' σ H F) (h : Le ρ ρ') : Rel W ρ σ H F := by
  refine ⟨r.sub, r.sub0, r.keep, r.fresh, ?_, by rw [h.len]; exact r.len, r.trk⟩
  obtain ⟨ad, k⟩ := r.env
  refine ⟨ad, fun i sl e => ?_⟩
  obtain ⟨v, h1, h2, h3, h4⟩ := k i sl (h.get e)
  exact ⟨v, h1, h2, h3, fun j sl' ne e' => h4 j sl' ne (h.get e')⟩

section
variable {α : Type} {C : Ct} {ρ : Env} {m : R α}

/-! ### targets -/
theorem set_wipe {σ : L2.St} {i : Nat} {x : Option V} : ∀ {vs : List Nat}, i ∈ vs → wipe (σ.set i x) vs = wipe σ vs
  | v :: vs, h => by
    unfold wipe
    by_cases hv : i ∈ vs
    · rw [set_wipe hv]
    · have e : v = i := by
        rcases List.mem_cons.mp h with q | q
        · exact q.symm
        · exact absurd q hv
      subst e
      refine List.ext_getElem? fun j => ?_
      have key : ∀ (us : List Nat) (τ : L2.St) (k : Nat), (wipe τ us)[k]? = if k ∈ us then (τ[k]?.map fun _ => none) else τ[k]? := by
        intro us τ k
        induction us with
        | nil => simp [wipe]
        | cons u us ih =>
          unfold wipe
          rw [List.getElem?_set, ih]
          by_cases e : u = k
          · subst e
            have hl : (wipe τ us).length = τ.length := wipe_length τ us
            by_cases hk : u < τ.length
            · simp [hl, hk]
            · simp [hl, hk]
          · have e' : ¬ k = u := fun q => e q.symm
            simp [e, e']
      rw [List.getElem?_set, List.getElem?_set, key, key]
      by_cases e : v = j
      · subst e
        simp [wipe_length]
      · simp only [if_neg e, List.getElem?_set_ne e]
/-- L tells the slots that the target may set -/
def DG {α : Type} (C : Ct) (L : Nat → Prop) (ρ : Env) (tg : Expr) (d : D) (m : R α) (κ : Env → R α → Prop) : Prop :=
  ∀ (X : Cx) (W : Wd) (Z : R α → Prop), XOk C X → W.K = C.K → ClX X W Z → Z m →
    PG X tg fun v σ H Q => ∃ F, Rel W ρ σ H F ∧ Rp W.K F v d ∧ ∀ ρ' m' σ' H' F', κ ρ' m' → Z m' → Rel W ρ' σ' H' F' → Same F F' → (∀ vs, (∀ i, L i → i ∈ vs) → wipe σ' vs = wipe σ vs) → Q σ' H'
def DGs {α : Type} (C : Ct) (L : Nat → Prop) (ρ : Env) (tgs : List Expr) (ds : List D) (m : R α) (κ : Env → R α → Prop) : Prop :=
  ∀ (X : Cx) (W : Wd) (Z : R α → Prop), XOk C X → W.K = C.K → ClX X W Z → Z m →
    PGs X tgs fun vs σ H Q => ∃ F, Rel W ρ σ H F ∧ RpAll W.K F vs ds ∧ ∀ ρ' m' σ' H' F', κ ρ' m' → Z m' → Rel W ρ' σ' H' F' → Same F F' → (∀ vs, (∀ i, L i → i ∈ vs) → wipe σ' vs = wipe σ vs) → Q σ' H'
theorem PG_imp {X : Cx} {e : Expr} {t t' : TG} (h : PG X e t) (i : ∀ v σ H Q, t' v σ H Q → t v σ H Q) : PG X e t' := ⟨fun p s σ H v u Q I r q => h.run p s σ H v u Q I r (i v σ H Q q)⟩
theorem PGs_imp {X : Cx} {e : List Expr} {t t' : TGs} (h : PGs X e t) (i : ∀ v σ H Q, t' v σ H Q → t v σ H Q) : PGs X e t' := ⟨fun p s σ H v u Q I r q => h.run p s σ H v u Q I r (i v σ H Q q)⟩
theorem dg_name {L : Nat → Prop} {κ : Env → R α → Prop} {n : Str} {pos : Pos} {d : D} (i : Nat) (k : κ (ρ.set i (some (.val d))) m) (hN : C.N[i]? = some n := by rfl)
    (hx : Loc C.sc n := by first | exact Or.inl rfl | exact Or.inr rfl) (hfn : C.fn n = true ∨ C.sc.names.lookup n = some .local := by first | exact Or.inl rfl | exact Or.inr rfl) (hL : L i := by first | trivial | simp) : DG C L ρ (.Name n pos) d m κ := by
  intro X W Z x hK c z
  have hf : X.fn n = true ∨ X.env.scope.names.lookup n = some .local := hfn.elim (fun h => .inl (x.fnl n h)) fun h => .inr (by rw [x.sc]; exact h)
  refine PG_imp (pg_name (i := i) (by rw [x.N]; exact x.nd) (by rw [x.N]; exact hN) (by rw [x.sc]; exact hx) hf) fun v σ H Q ⟨F, r, p, q⟩ => ?_
  exact q _ m _ H F k z (r.set i p) (Same.refl _) fun vs hv => set_wipe (hv i hL)
theorem dgs_nil {L : Nat → Prop} {κ : Env → R α → Prop} (k : κ ρ m) : DGs C L ρ [] [] m κ := fun X W Z x hK c z =>
  PGs_imp pgs_nil fun v σ H Q ⟨F, r, p, q⟩ => ⟨by cases p; rfl, q _ m _ H F k z r (Same.refl _) fun _ _ => rfl⟩
theorem dgs_cons {L : Nat → Prop} {κ : Env → R α → Prop} {e : Expr} {es : List Expr} {d : D} {ds : List D} (h : DG C L ρ e d m fun ρ1 m1 => DGs C L ρ1 es ds m1 κ)
    (hs : ∀ env : PySem.Env, (assignEach (e :: es) env).map (·.2) = assign e env :: (assignEach es env).map (·.2) := by intro _; rfl) : DGs C L ρ (e :: es) (d :: ds) m κ := by
  intro X W Z x hK c z
  have rest : PGs X es fun vs σ H Q => ∃ i : R α × Env, (DGs C L i.2 es ds i.1 κ ∧ Z i.1) ∧ ∃ F, Rel W i.2 σ H F ∧ RpAll W.K F vs ds ∧ ∀ ρ' m' σ' H' F', κ ρ' m' → Z m' → Rel W ρ' σ' H' F' → Same F F' → (∀ vs, (∀ i, L i → i ∈ vs) → wipe σ' vs = wipe σ vs) → Q σ' H' :=
    ⟨fun p s σ H v u Q I r ⟨i, pi, q⟩ => (pi.1 X W Z x hK c pi.2).run p s σ H v u Q I r q⟩
  refine PGs_imp (pgs_cons (h X W Z x hK c z) rest (hs _)) fun vs σ H Q ⟨F, r, p, q⟩ => ?_
  cases p with
  | cons p ps =>
    refine ⟨_, _, rfl, F, r, p, fun ρ1 m1 σ1 H1 F1 k1 k2 k3 k4 k5 => ?_⟩
    exact ⟨(m1, ρ1), ⟨k1, k2⟩, F1, k3, ps.mono k4, fun ρ' m' σ' H' F' h1 h2 h3 h4 h5 => q ρ' m' σ' H' F' h1 h2 h3 (k4.trans h4) fun vs hv => (h5 vs hv).trans (k5 vs hv)⟩
theorem dg_tup {L : Nat → Prop} {κ : Env → R α → Prop} {es : List Expr} {k n : Nat} {pos : Pos} {d : D} {g : List D → R α} (hm : m = (unpack n d).bind g) (h : ∀ ds, ds.length = n → DGs C L ρ es ds (g ds) κ)
    (hn : ∀ env : PySem.Env, (assignEach es env).length = n := by intro _; rfl) (hst : ∀ env : PySem.Env, (assignEach es env).findIdx? (·.1) = none := by intro _; rfl) : DG C L ρ (.Tuple es k pos) d m κ := by
  intro X W Z x hK c z
  subst hm
  obtain ⟨ds, e1, z1⟩ := c.bind z
  have hd : ds.length = n ∧ (d = .tuple ds ∨ d = .list ds) := by
    unfold unpack at e1
    split at e1
    · split at e1
      · cases e1; rename_i hl; exact ⟨hl, .inl rfl⟩
      · cases e1
    · split at e1
      · cases e1; rename_i hl; exact ⟨hl, .inr rfl⟩
      · cases e1
    · cases e1
  obtain ⟨hl, rfl | rfl⟩ := hd
  · refine PG_imp (pg_tup (n := n) x.calm (h ds hl X W Z x hK c z1) (hn _) (hst _)) fun v σ H Q ⟨F, r, p, q⟩ => ?_
    cases p with
    | tup a _ b => exact ⟨_, _, rfl, by rw [x.K, ← hK]; exact seqT r.sub a, by rw [b.length]; exact hl, F, r, b, q⟩
  · refine PG_imp (pg_unl (n := n) x.calm (h ds hl X W Z x hK c z1) (hn _) (hst _)) fun v σ H Q ⟨F, r, p, q⟩ => ?_
    cases p with
    | lst a b => exact ⟨_, _, rfl, SqL.of (r.sub _ _ a), by rw [b.length]; exact hl, F, r, b, q⟩
/-- two, three parts -/
def un2 (d : D) : R (D × D) := (unpack 2 d).bind fun
  | [a, b] => .ok (a, b)
  | _ => .stuck
def un3 (d : D) : R (D × D × D) := (unpack 3 d).bind fun
  | [a, b, c] => .ok (a, b, c)
  | _ => .stuck
theorem dg_tup2 {L : Nat → Prop} {κ : Env → R α → Prop} {e1 e2 : Expr} {k : Nat} {pos : Pos} {d : D} {g : D × D → R α} (hm : m = (un2 d).bind g) (h : ∀ a b, DGs C L ρ [e1, e2] [a, b] (g (a, b)) κ)
    (hn : ∀ env : PySem.Env, (assignEach [e1, e2] env).length = 2 := by intro _; rfl) (hst : ∀ env : PySem.Env, (assignEach [e1, e2] env).findIdx? (·.1) = none := by intro _; rfl) : DG C L ρ (.Tuple [e1, e2] k pos) d m κ := by
  unfold un2 at hm
  rw [R.bind_assoc] at hm
  refine dg_tup hm (fun ds hl => ?_) hn hst
  match ds, hl with
  | [a, b], _ => exact h a b
theorem dg_tup3 {L : Nat → Prop} {κ : Env → R α → Prop} {e1 e2 e3 : Expr} {k : Nat} {pos : Pos} {d : D} {g : D × D × D → R α} (hm : m = (un3 d).bind g) (h : ∀ a b c, DGs C L ρ [e1, e2, e3] [a, b, c] (g (a, b, c)) κ)
    (hn : ∀ env : PySem.Env, (assignEach [e1, e2, e3] env).length = 3 := by intro _; rfl) (hst : ∀ env : PySem.Env, (assignEach [e1, e2, e3] env).findIdx? (·.1) = none := by intro _; rfl) : DG C L ρ (.Tuple [e1, e2, e3] k pos) d m κ := by
  unfold un3 at hm
  rw [R.bind_assoc] at hm
  refine dg_tup hm (fun ds hl => ?_) hn hst
  match ds, hl with
  | [a, b, c], _ => exact h a b c

/-! ### blocks -/
def Jd.sq (C : Ct) (J : Jd α) (rest : List Stmt) : Jd α := { J with nx := fun ρ' m' => DSs C ρ' rest m' J }
theorem rest_run {J : Jd α} {rest : List Stmt} {X : Cx} {W : Wd} {Z : R α → Prop} (x : XOk C X) (hK : W.K = C.K) (c : ClX X W Z) :
    PSs X rest fun D σ H => ∃ i : R α × Env, (DSs C i.2 rest i.1 J ∧ Z i.1) ∧ ∃ F, Rel W i.2 σ H F ∧ Lk W J Z D :=
  ⟨fun p s σ H D I ⟨i, pi, q⟩ => (pi.1 X W Z x hK c pi.2).run p s σ H D I q⟩
theorem Lk.sq {J : Jd α} {rest : List Stmt} {W : Wd} {Z : R α → Prop} {D : Ends} (l : Lk W J Z D) :
    Lk W (J.sq C rest) Z { D with nx := fun σ H => ∃ i : R α × Env, (DSs C i.2 rest i.1 J ∧ Z i.1) ∧ ∃ F, Rel W i.2 σ H F ∧ Lk W J Z D } :=
  ⟨fun ρ m σ H F h1 h2 h3 => ⟨(m, ρ), ⟨h1, h2⟩, F, h3, l⟩, l.rt, l.bk, l.ct, l.rn⟩
theorem ds_nil {J : Jd α} (k : J.nx ρ m) : DSs C ρ [] m J := fun X W Z x hK c z => PSs_imp pss_nil fun D σ H ⟨F, r, l⟩ => l.nx ρ m σ H F k z r
theorem ds_le {ρ' : Env} {J : Jd α} {sts : List Stmt} (l : Le ρ ρ') (h : DSs C ρ sts m J) : DSs C ρ' sts m J := fun X W Z x hK c z => PSs_imp (h X W Z x hK c z) fun D σ H ⟨F, r, k⟩ => ⟨F, r.le l, k⟩
theorem ds_set {J : Jd α} {n : Str} {e : Expr} {p pos : Pos} {rest : List Stmt} (i : Nat) (h : DE C ρ e m fun d ρ1 m1 => DSs C (ρ1.set i (some (.val d))) rest m1 J) (hN : C.N[i]? = some n := by rfl)
    (hx : Loc C.sc n := by first | exact Or.inl rfl | exact Or.inr rfl) (hfn : C.fn n = true ∨ C.sc.names.lookup n = some .local := by first | exact Or.inl rfl | exact Or.inr rfl) (hs : ∀ env : PySem.Env, env.scope = C.sc → swapsWith e (some (.Name n p)) pos.line env = pure false := by intro env he; rfl) : DSs C ρ (.Assign [.Name n p] e pos :: rest) m J := by
  intro X W Z x hK c z
  have hf : X.fn n = true ∨ X.env.scope.names.lookup n = some .local := hfn.elim (fun h => .inl (x.fnl n h)) fun h => .inr (by rw [x.sc]; exact h)
  refine PSs_imp (pss_cons (ps_set (i := i) (by rw [x.N]; exact x.nd) (by rw [x.N]; exact hN) (by rw [x.sc]; exact hx) (h X W Z x hK c z) (hs _ x.sc) hf) (rest_run (J := J) x hK c)) fun D σ H ⟨F, r, l⟩ => ?_
  exact ⟨F, r, fun d ρ' m' v H' F' h1 h2 h3 h4 h5 => ⟨(m', _), ⟨h1, h2⟩, F', h3.set i h5, l⟩⟩
theorem ds_asg {J : Jd α} {tg e : Expr} {pos : Pos} {rest : List Stmt} (h : DE C ρ e m fun d ρ1 m1 => DG C (fun _ => True) ρ1 tg d m1 fun ρ2 m2 => DSs C ρ2 rest m2 J)
    (hs : ∀ env : PySem.Env, env.scope = C.sc → swapsWithSole [tg] e pos.line env = pure false := by intro env he; rfl) (hw : ∀ env : PySem.Env, env.scope = C.sc → swappedStores [tg] e env = pure none := by intro env he; first | rfl | (cases env; cases he; rfl))
    (h1 : ∀ env : PySem.Env, (assignEach [tg] env).map (·.2) = [assign tg env] := by intro _; rfl) : DSs C ρ (.Assign [tg] e pos :: rest) m J := by
  intro X W Z x hK c z
  have hg : PG X tg fun v σ H Q => ∃ i : R α × Env × D, (DG C (fun _ => True) i.2.1 tg i.2.2 i.1 (fun ρ2 m2 => DSs C ρ2 rest m2 J) ∧ Z i.1) ∧ ∃ F, Rel W i.2.1 σ H F ∧ Rp W.K F v i.2.2 ∧ ∀ ρ' m' σ' H' F', DSs C ρ' rest m' J → Z m' → Rel W ρ' σ' H' F' → Same F F' → (∀ vs, (∀ i, (fun _ : Nat => True) i → i ∈ vs) → wipe σ' vs = wipe σ vs) → Q σ' H' :=
    ⟨fun p s σ H v u Q I r ⟨i, pi, q⟩ => (pi.1 X W Z x hK c pi.2).run p s σ H v u Q I r q⟩
  refine PSs_imp (pss_cons (ps_asg (h X W Z x hK c z) hg (hs _ x.sc) (hw _ x.sc) (h1 _)) (rest_run (J := J) x hK c)) fun D σ H ⟨F, r, l⟩ => ?_
  exact ⟨F, r, fun d ρ' m' v H' F' h1 h2 h3 h4 h5 => ⟨(m', ρ', d), ⟨h1, h2⟩, F', h3, h5, fun ρ2 m2 σ2 H2 F2 k1 k2 k3 k4 _ => ⟨(m2, ρ2), ⟨k1, k2⟩, F2, k3, l⟩⟩⟩
/-- a, b = e1, e2, both plain locals: no tuple is made -/
theorem ds_par {J : Jd α} {n1 n2 : Str} {e1 e2 : Expr} {px py pt pt2 pos : Pos} {kt k2 : Nat} {rest : List Stmt} (i j : Nat)
    (h : DE C ρ e1 m fun d1 ρ1 m1 => DE C ρ1 e2 m1 fun d2 ρ2 m2 => DSs C ((ρ2.set i (some (.val d1))).set j (some (.val d2))) rest m2 J) (hN : C.N[i]? = some n1 := by rfl) (hN2 : C.N[j]? = some n2 := by rfl) (hij : i ≠ j := by decide)
    (hx : C.sc.names.lookup n1 = some .local := by rfl) (hy : C.sc.names.lookup n2 = some .local := by rfl)
    (hst : ∀ env : PySem.Env, starEach [e1, e2] env = (false, eval e1 env) :: starEach [e2] env := by intro _; rfl) (hst2 : ∀ env : PySem.Env, starEach [e2] env = (false, eval e2 env) :: starEach [] env := by intro _; rfl)
    (hw : ∀ env : PySem.Env, env.scope = C.sc → swappedStores [.Tuple [.Name n1 px, .Name n2 py] kt pt] (.Tuple [e1, e2] k2 pt2) env = pure (some [n1, n2])) : DSs C ρ (.Assign [.Tuple [.Name n1 px, .Name n2 py] kt pt] (.Tuple [e1, e2] k2 pt2) pos :: rest) m J := by
  intro X W Z x hK c z
  have ha : DA C ρ [e1, e2] m fun ds ρ2 m2 => ∃ d1 d2, ds = [d1, d2] ∧ DSs C ((ρ2.set i (some (.val d1))).set j (some (.val d2))) rest m2 J := by
    refine da_cons (fun X W Z x hK c z => PE_imp (h X W Z x hK c z) fun σ H Q ⟨F, r, q⟩ => ⟨F, r, fun d ρ' m' v H' F' k1 => q d ρ' m' v H' F' (da_cons (fun X W Z x hK c z => PE_imp (k1 X W Z x hK c z) fun σ H Q ⟨F, r, q⟩ => ⟨F, r, fun d' ρ2 m2 v H' F' k2 => q d' ρ2 m2 v H' F' (da_nil ⟨d, d', rfl, k2⟩)⟩) hst2)⟩) hst
  refine PSs_imp (pss_cons (ps_par (i := i) (j := j) x.calm (by rw [x.N]; exact x.nd) (by rw [x.N]; exact hN) (by rw [x.N]; exact hN2) hij (by rw [x.sc]; exact hx) (by rw [x.sc]; exact hy) (ha X W Z x hK c z) (hw _ x.sc)) (rest_run (J := J) x hK c)) fun D σ H ⟨F, r, l⟩ => ?_
  refine ⟨F, r, fun ds ρ' m' vs H' F' ⟨d1, d2, e, h1⟩ h2 h3 h4 h5 => ?_⟩
  subst e
  cases h5 with
  | cons p1 t => cases t with
    | cons p2 t => cases t; exact ⟨_, _, rfl, (m', _), ⟨h1, h2⟩, F', (h3.set i p1).set j p2, l⟩
theorem ds_ret {J : Jd α} {e : Expr} {pos : Pos} {rest : List Stmt} (h : DE C ρ e m fun d ρ1 m1 => J.rt d ρ1 m1) : DSs C ρ (.Return (some e) pos :: rest) m J := by
  intro X W Z x hK c z
  refine PSs_imp (pss_cons (ps_ret (h X W Z x hK c z)) pss_never) fun D σ H ⟨F, r, l⟩ => ?_
  exact ⟨F, r, fun d ρ' m' v H' F' h1 h2 h3 h4 h5 => l.rt d ρ' m' v σ H' F' h1 h2 h3 h5⟩
theorem ds_brk {J : Jd α} {pos : Pos} {rest : List Stmt} (k : J.bk ρ m) : DSs C ρ (.Break pos :: rest) m J := fun X W Z x hK c z =>
  PSs_imp (pss_cons ps_break pss_never) fun D σ H ⟨F, r, l⟩ => l.bk ρ m σ H F k z r
theorem ds_cnt {J : Jd α} {pos : Pos} {rest : List Stmt} (k : J.ct ρ m) : DSs C ρ (.Continue pos :: rest) m J := fun X W Z x hK c z =>
  PSs_imp (pss_cons ps_continue pss_never) fun D σ H ⟨F, r, l⟩ => l.ct ρ m σ H F k z r
theorem ds_if {J : Jd α} {t : Expr} {a b rest : List Stmt} {pos : Pos} (h : DT C ρ t m fun t ρ1 m1 => ∃ A B, m1 = (if t = true then A else B) ∧ DSs C ρ1 a A (J.sq C rest) ∧ DSs C ρ1 b B (J.sq C rest)) : DSs C ρ (.If t a b pos :: rest) m J := by
  intro X W Z x hK c z
  refine PSs_imp (pss_cons (ps_if (h X W Z x hK c z) (rest_run (J := J.sq C rest) x hK c) (rest_run (J := J.sq C rest) x hK c)) (rest_run (J := J) x hK c)) fun D σ H ⟨F, r, l⟩ => ?_
  refine ⟨F, r, fun t ρ' m' H' F' ⟨A, B, e, hA, hB⟩ h2 h3 h4 => ?_⟩
  subst e
  cases t with
  | true => exact ⟨(A, ρ'), ⟨hA, h2⟩, F', h3, l.sq⟩
  | false => exact ⟨(B, ρ'), ⟨hB, h2⟩, F', h3, l.sq⟩

/-- a part's ends as data: what the packed state is -/
def Jq {τ : Type} (pack : τ → Env) : Jd τ := { nx := fun ρ m => ∃ st, Le (pack st) ρ ∧ m = .ok st, rt := fun _ _ _ => False, bk := fun _ _ => False, ct := fun ρ m => ∃ st, Le (pack st) ρ ∧ m = .ok st }
def Jl {τ : Type} (pack : τ → Env) : Jd (Fl τ) := { nx := fun ρ m => ∃ st, Le (pack st) ρ ∧ m = .ok (.nx st), rt := fun d ρ m => ∃ st, Le (pack st) ρ ∧ m = .ok (.rt d st), bk := fun ρ m => ∃ st, Le (pack st) ρ ∧ m = .ok (.bk st), ct := fun ρ m => ∃ st, Le (pack st) ρ ∧ m = .ok (.nx st) }
def Jw {τ : Type} (pack : τ → Env) : Jd (Wl τ) := { nx := fun ρ m => ∃ st, Le (pack st) ρ ∧ m = .ok (.go st), rt := fun d ρ m => ∃ st, Le (pack st) ρ ∧ m = .ok (.rt d st), bk := fun ρ m => ∃ st, Le (pack st) ρ ∧ m = .ok (.done st), ct := fun ρ m => ∃ st, Le (pack st) ρ ∧ m = .ok (.go st) }
def Jn {τ : Type} (pack : τ → Env) : Jd τ := { nx := fun ρ m => ∃ st, Le (pack st) ρ ∧ m = .ok st, rt := fun _ _ _ => False, bk := fun _ _ => False, ct := fun _ _ => False }
/-- an if whose ways meet -/
theorem ds_ifq {J : Jd α} {τ : Type} {t : Expr} {a b rest : List Stmt} {pos : Pos} (pack : τ → Env) {r : R τ} {g : τ → R α} (hm : m = r.bind g)
    (h : DT C ρ t r fun t ρ1 m1 => ∃ A B, m1 = (if t = true then A else B) ∧ DSs C ρ1 a A (Jn pack) ∧ DSs C ρ1 b B (Jn pack)) (k : ∀ st, DSs C (pack st) rest (g st) J) : DSs C ρ (.If t a b pos :: rest) m J := by
  intro X W Z x hK c z
  subst hm
  obtain ⟨st0, e1, z1⟩ := c.bind z
  refine PSs_imp (pss_cons (ps_if (h X W _ x hK (c.at g).x ⟨st0, e1, z1⟩) (rest_run (J := Jn pack) x hK (c.at g).x) (rest_run (J := Jn pack) x hK (c.at g).x)) (rest_run (J := J) x hK c)) fun D σ H ⟨F, rl, l⟩ => ?_
  have lk : Lk W (Jn pack) (fun r : R τ => ∃ p, r = .ok p ∧ Z (g p)) { D with nx := fun σ H => ∃ i : R α × Env, (DSs C i.2 rest i.1 J ∧ Z i.1) ∧ ∃ F, Rel W i.2 σ H F ∧ Lk W J Z D } :=
    ⟨fun ρ m σ H F ⟨st, hl, e⟩ ⟨p, e2, zp⟩ h3 => by subst e; cases e2; exact ⟨(g st, pack st), ⟨k st, zp⟩, F, h3.le hl, l⟩, fun _ _ _ _ _ _ _ h => h.elim, fun _ _ _ _ _ h => h.elim,
     fun _ _ _ _ _ h => h.elim, fun _ _ _ _ _ _ _ h => h.elim⟩
  refine ⟨F, rl, fun t ρ' m' H' F' ⟨A, B, e, hA, hB⟩ h2 h3 h4 => ?_⟩
  subst e
  cases t with
  | true => exact ⟨(A, ρ'), ⟨hA, h2⟩, F', h3, lk⟩
  | false => exact ⟨(B, ρ'), ⟨hB, h2⟩, F', h3, lk⟩
end
end Z

set_option Elab.async false
set_option linter.all false
set_option maxRecDepth 100000
set_option autoImplicit false
/-! # Z5: what is walked, loops, comprehensions -/
namespace Z
open PySem L2

/-- the iterator J yields these data, whatever grows meanwhile -/
structure ItD (K : PySem.W.Frag) (J : It) (items : List D) (F0 : Hp) : Prop where
  goes : ∀ i F H, i < items.length → Same F0 F → Same F H → J.go i H
  stops : ∀ F H, Same F0 F → Same F H → J.stop items.length H
  yields : ∀ i F H x H', i < items.length → Same F0 F → Same F H → J.yld i H x H' → ∃ F' d, items[i]? = some d ∧ Fx F H F' H' ∧ Rp K F' x d
theorem ItD.mono {K : PySem.W.Frag} {J : It} {items : List D} {F0 F1 : Hp} (x : ItD K J items F0) (e : Same F0 F1) : ItD K J items F1 :=
  ⟨fun i F H h a b => x.goes i F H h (e.trans a) b, fun F H a b => x.stops F H (e.trans a) b, fun i F H y H' h a b c => x.yields i F H y H' h (e.trans a) b c⟩

theorem itd_list {K : PySem.W.Frag} {a : Addr} {xs : List V} {items : List D} {F : Hp} (h : SqL K F a xs) (r : RpAll K F xs items) : ItD K (Itl K a) items F where
  goes := fun i F1 H hi e1 e2 => walk_list.goes i H (by rw [r.length]; exact hi) (e2.seq (e1.seq h))
  stops := fun F1 H e1 e2 => by rw [← r.length]; exact walk_list.stops H (e2.seq (e1.seq h))
  yields := fun i F1 H x H' hi e1 e2 y => by
    obtain ⟨e, hx⟩ := walk_list.yields i H x H' (by rw [r.length]; exact hi) (e2.seq (e1.seq h)) y
    subst e
    obtain ⟨d, h1, h2⟩ := r.at' hx
    exact ⟨F1, d, h1, Fx.refl e2, h2.mono e1⟩
theorem itd_tup {K : PySem.W.Frag} {a : Addr} {xs : List V} {items : List D} {F : Hp} (h : SqT K F a xs) (r : RpAll K F xs items) : ItD K (Itt K a) items F where
  goes := fun i F1 H hi e1 e2 => walk_tup.goes i H (by rw [r.length]; exact hi) (seqT e2 (seqT e1 h))
  stops := fun F1 H e1 e2 => by rw [← r.length]; exact walk_tup.stops H (seqT e2 (seqT e1 h))
  yields := fun i F1 H x H' hi e1 e2 y => by
    obtain ⟨e, hx⟩ := walk_tup.yields i H x H' (by rw [r.length]; exact hi) (seqT e2 (seqT e1 h)) y
    subst e
    obtain ⟨d, h1, h2⟩ := r.at' hx
    exact ⟨F1, d, h1, Fx.refl e2, h2.mono e1⟩
theorem rangeD_at {lo hi : Int} {i : Nat} (h : i < (hi - lo).toNat) : (rangeD lo hi)[i]? = some (.int (lo + i)) := by
  unfold rangeD
  rw [List.getElem?_map, List.getElem?_range h]
  rfl
theorem rangeD_len {lo hi : Int} : (rangeD lo hi).length = (hi - lo).toNat := by simp [rangeD]
theorem itd_range {K : PySem.W.Frag} {lo hi : Int} {F : Hp} : ItD K (Itr lo (hi - lo).toNat) (rangeD lo hi) F where
  goes := fun i F1 H hh e1 e2 => by rw [rangeD_len] at hh; exact hh
  stops := fun F1 H e1 e2 => by rw [rangeD_len]; exact Nat.le_refl _
  yields := fun i F1 H x H' hh e1 e2 y => by
    obtain ⟨e, hx⟩ := y
    subst e hx
    rw [rangeD_len] at hh
    exact ⟨F1, _, rangeD_at hh, Fx.refl e2, .int _⟩
theorem itd_str {K : PySem.W.Frag} {z : Str} {F : Hp} : ItD K (Its z) (z.cps.toList.map fun c => .str ⟨#[c]⟩) F where
  goes := fun i F1 H hi e1 e2 => by
    show i < z.cps.size
    simpa using hi
  stops := fun F1 H e1 e2 => by show z.cps.size ≤ _; simp
  yields := fun i F1 H x H' hi e1 e2 y => by
    obtain ⟨e, c, hc, hx⟩ := y
    subst e hx
    refine ⟨F1, .str ⟨#[c]⟩, ?_, Fx.refl e2, .str _⟩
    rw [List.getElem?_map, Array.getElem?_toList, hc]
    rfl

section
variable {α : Type} {C : Ct} {ρ : Env} {m : R α} {tg : Expr}
def DI {α : Type} (C : Ct) (ρ : Env) (tg it : Expr) (m : R α) (κ : List D → Env → R α → Prop) : Prop :=
  ∀ (X : Cx) (W : Wd) (Z : R α → Prop), XOk C X → W.K = C.K → ClX X W Z → Z m →
    PI X tg it fun σ H Rr => ∃ F, Rel W ρ σ H F ∧ ∀ items ρ' m' J H' F', κ items ρ' m' → Z m' → Rel W ρ' σ H' F' → Same F F' → ItD W.K J items F' → Rr J H'
theorem PI_imp {X : Cx} {it : Expr} {t t' : TI} (h : PI X tg it t) (i : ∀ σ H Q, t' σ H Q → t σ H Q) : PI X tg it t' := ⟨fun p s σ H Q I q => h.run p s σ H Q I (i σ H Q q)⟩
/-- a list, a tuple, a text is walked -/
theorem di_val {κ : List D → Env → R α → Prop} {it : Expr} (h : DE C ρ it m fun d ρ1 m1 => ∃ g, m1 = (iter d).bind g ∧ ∀ items, κ items ρ1 (g items)) : DI C ρ tg it m κ := by
  intro X W Z x hK c z
  refine ⟨fun pins s σ H Rr I ⟨F, r, q⟩ => ?_⟩
  refine thn ((h X W Z x hK c z).run pins s σ H (fun v H1 => ∃ (J : It) (t : TI), PI X tg it t ∧ True ∧ ∃ F1 d ρ1 m1, (∃ g, m1 = (iter d).bind g ∧ ∀ items, κ items ρ1 (g items)) ∧ Z m1 ∧ Rel W ρ1 σ H1 F1 ∧ Same F F1 ∧ Rp W.K F1 v d) I
    ⟨F, r, fun d ρ' m' v H' F' h1 h2 h3 h4 h5 => ⟨⟨fun _ _ => True, fun _ _ _ _ => True, fun _ _ => True⟩, fun _ _ _ => False, ⟨fun _ _ _ _ _ _ q => q.elim⟩, trivial, F', d, ρ', m', h1, h2, h3, h4, h5⟩⟩) fun v s1 ⟨vx, H1, I1, r1, _, _, _, _, F1, d, ρ1, m1, ⟨g, e, hg⟩, z1, rel1, ss, p⟩ => ?_
  subst e
  obtain ⟨items, ei, zi⟩ := c.bind z1
  cases p with
  | lst a b =>
    cases ei
    cases r1
    rename_i ad xs _x0
    have aX : SqL X.K H1 ad xs := SqL.of (rel1.sub _ _ a)
    obtain ⟨its, rv, p, hz⟩ := I1.list aX
    refine wpAny_pyIter_list p.isList (pi_one (tk := s1.toks) I1 _ (turn_list _ _) ⟨_, Heap.get?_push_size _ rfl, rfl, rfl⟩ ?_)
    refine q _ ρ1 _ _ H1 F1 (hg _) zi rel1 ss ?_
    rw [x.K, ← hK]; exact itd_list (SqL.of a) b
  | tup a _ b =>
    cases ei
    cases r1
    rename_i ad xs _y0 _x0
    have aX : SqT X.K H1 ad xs := by rw [x.K, ← hK]; exact seqT rel1.sub a
    obtain ⟨its, rv, p, hz⟩ := I1.tuple aX
    refine wpAny_pyIter_tuple (show s1.heap.IsTuple ad its.toArray from p) (pi_one (tk := s1.toks) I1 _ (turn_tuple _ _) ⟨_, Heap.get?_push_size _ rfl, rfl, rfl⟩ ?_)
    refine q _ ρ1 _ _ H1 F1 (hg _) zi rel1 ss ?_
    rw [x.K, ← hK]; exact itd_tup a b
  | str y =>
    cases ei
    obtain ⟨t, rfl⟩ := r1
    have fin := q _ ρ1 _ (Its y) H1 F1 (hg _) zi rel1 ss itd_str
    cases ha : y.cps.all (· < 128)
    · exact wpAny_pyIter_wide ha (pi_one (tk := s1.toks) I1 _ (turn_str _ y t "str_iterator" (.inr rfl)) ⟨_, Heap.get?_push_size _ rfl, rfl, rfl⟩ fin)
    · exact wpAny_pyIter_ascii ha (pi_one (tk := s1.toks) I1 _ (turn_str _ y t "str_ascii_iterator" (.inl rfl)) ⟨_, Heap.get?_push_size _ rfl, rfl, rfl⟩ fin)
  | _ => cases ei
theorem range2_ok {a b : D} {items : List D} (h : range2 a b = .ok items) : ∃ lo hi : Int, a = .int lo ∧ b = .int hi ∧ -(2 ^ 62) ≤ lo ∧ lo < 2 ^ 62 ∧ -(2 ^ 62) ≤ hi ∧ hi < 2 ^ 62 ∧ items = rangeD lo hi := by
  unfold range2 at h
  split at h
  · split at h
    · rename_i lo hi hh
      simp only [Bool.and_eq_true, decide_eq_true_eq] at hh
      cases h
      exact ⟨lo, hi, rfl, rfl, hh.1.1.1, hh.1.1.2, hh.1.2, hh.2, rfl⟩
    · cases h
  · cases h
theorem di_range1 {κ : List D → Env → R α → Prop} {a : Expr} {p pos : Pos} (hm : C.mg ("range" : Str) = none) (h : DE C ρ a m fun d ρ1 m1 => ∃ g, m1 = (range1 d).bind g ∧ ∀ items, κ items ρ1 (g items))
    (hg : C.sc.names.lookup ("range" : Str) = some .globalImplicit := by rfl) (hs : ∀ env : PySem.Env, starEach [a] env = [(false, eval a env)] := by intro _; rfl) : DI C ρ tg (.Call (.Name "range" p) [a] [] pos) m κ := by
  intro X W Z x hK c z
  have ha : DA C ρ [a] m fun ds ρ1 m1 => ∃ d, ds = [d] ∧ ∃ g, m1 = (range1 d).bind g ∧ ∀ items, κ items ρ1 (g items) :=
    da_cons (fun X W Z x hK c z => PE_imp (h X W Z x hK c z) fun σ H Q ⟨F, r, q⟩ => ⟨F, r, fun d ρ' m' v H' F' k1 => q d ρ' m' v H' F' (da_nil ⟨d, rfl, k1⟩)⟩) hs
  refine PI_imp (pi_range1 (x.gl hg) (x.mg0 hm) (ha X W Z x hK c z) (hs _)) fun σ H Rr ⟨F, r, q⟩ => ⟨F, r, fun ds ρ' m' vs H' F' ⟨d, e1, g, e2, hgg⟩ h2 h3 h4 h5 => ?_⟩
  subst e1 e2
  obtain ⟨items, ei, zi⟩ := c.bind h2
  obtain ⟨lo, hi, e3, e4, b1, b2, b3, b4, e5⟩ := range2_ok ei
  cases e3; subst e4 e5
  cases h5 with
  | cons p1 t =>
    cases t; cases p1
    refine ⟨hi, rfl, b3, b4, ?_⟩
    have := q _ ρ' _ _ H' F' (hgg _) zi h3 h4 (itd_range (K := W.K) (lo := 0) (hi := hi) (F := F'))
    simpa using this
theorem di_range2 {κ : List D → Env → R α → Prop} {a b : Expr} {p pos : Pos} (hm : C.mg ("range" : Str) = none) (h : DE C ρ a m fun d ρ1 m1 => DE C ρ1 b m1 fun e ρ2 m2 => ∃ g, m2 = (range2 d e).bind g ∧ ∀ items, κ items ρ2 (g items))
    (hg : C.sc.names.lookup ("range" : Str) = some .globalImplicit := by rfl) (hs : ∀ env : PySem.Env, starEach [a, b] env = [(false, eval a env), (false, eval b env)] := by intro _; rfl) (hs2 : ∀ env : PySem.Env, starEach [b] env = [(false, eval b env)] := by intro _; rfl) : DI C ρ tg (.Call (.Name "range" p) [a, b] [] pos) m κ := by
  intro X W Z x hK c z
  have ha : DA C ρ [a, b] m fun ds ρ1 m1 => ∃ d e, ds = [d, e] ∧ ∃ g, m1 = (range2 d e).bind g ∧ ∀ items, κ items ρ1 (g items) :=
    da_cons (fun X W Z x hK c z => PE_imp (h X W Z x hK c z) fun σ H Q ⟨F, r, q⟩ => ⟨F, r, fun d ρ' m' v H' F' k1 => q d ρ' m' v H' F' (da_cons (fun X W Z x hK c z => PE_imp (k1 X W Z x hK c z) fun σ H Q ⟨F, r, q⟩ => ⟨F, r, fun e ρ' m' v H' F' k2 => q e ρ' m' v H' F' (da_nil ⟨d, e, rfl, k2⟩)⟩) (fun env => by rw [hs2]; rfl))⟩) (fun env => by rw [hs, hs2])
  refine PI_imp (pi_range2 (x.gl hg) (x.mg0 hm) (ha X W Z x hK c z) (hs _) (hs2 _)) fun σ H Rr ⟨F, r, q⟩ => ⟨F, r, fun ds ρ' m' vs H' F' ⟨d, e, e1, g, e2, hgg⟩ h2 h3 h4 h5 => ?_⟩
  subst e1 e2
  obtain ⟨items, ei, zi⟩ := c.bind h2
  obtain ⟨lo, hi, e3, e4, b1, b2, b3, b4, e5⟩ := range2_ok ei
  subst e3 e4 e5
  cases h5 with
  | cons p1 t =>
    cases t with
    | cons p2 t =>
      cases t; cases p1; cases p2
      exact ⟨lo, hi, rfl, ⟨b1, b2, b3, b4⟩, q _ ρ' _ _ H' F' (hgg _) zi h3 h4 itd_range⟩

/-! ### a later beginning -/
theorem Rel.up {W : Wd} {F1 H1 F H : Hp} {ρ ρ1 : Env} {σ σ1 : L2.St} (r : Rel { W with F0 := F1 } ρ σ H F) (r1 : Rel W ρ1 σ1 H1 F1) : Rel W ρ σ H F :=
  ⟨r.sub, r1.sub0.trans r.sub0, r.keep, fun b o h => (r.fresh b o h).elim (fun q => r1.fresh b o q) .inr, r.env, r.len, r.trk⟩
theorem Rel.down {W : Wd} {F1 H1 F H : Hp} {ρ ρ1 : Env} {σ σ1 : L2.St} (r : Rel W ρ σ H F) (e : Same F1 F) (r1 : Rel W ρ1 σ1 H1 F1) : Rel { W with F0 := F1 } ρ σ H F :=
  ⟨r.sub, e, r.keep, fun b o h => (r.fresh b o h).elim (fun q => .inl (r1.sub0 b o q)) .inr, r.env, r.len, r.trk⟩

/-! ### for -/
theorem forS_step {τ : Type} {items : List D} {i : Nat} {d : D} (h : items[i]? = some d) (st : τ) (f : D → τ → R τ) : forS (items.drop i) st f = (f d st).bind fun s => forS (items.drop (i + 1)) s f := by
  have : items.drop i = d :: items.drop (i + 1) := by
    obtain ⟨hl, e⟩ := List.getElem?_eq_some_iff.mp h
    rw [List.drop_eq_getElem_cons hl, e]
  rw [this]; rfl
theorem forT_step {τ : Type} {items : List D} {i : Nat} {d : D} (h : items[i]? = some d) (st : τ) (f : D → τ → R (Fl τ)) : forT (items.drop i) st f = (f d st).bind fun
    | .nx s => forT (items.drop (i + 1)) s f
    | .bk s => .ok (.nx s)
    | .rt d s => .ok (.rt d s) := by
  have : items.drop i = d :: items.drop (i + 1) := by
    obtain ⟨hl, e⟩ := List.getElem?_eq_some_iff.mp h
    rw [List.drop_eq_getElem_cons hl, e]
  rw [this]; rfl

theorem ds_forT {J : Jd α} {it : Expr} {body rest : List Stmt} {pos : Pos} {τ : Type} (pack : τ → Env)
    (h : DI C ρ tg it m fun items ρ1 m1 => ∃ st0 f g, Le (pack st0) ρ1 ∧ m1 = (forT items st0 f).bind g ∧
      (∀ x st, DG C (fun _ => True) (pack st) tg x (f x st) fun ρ2 m2 => DSs C ρ2 body m2 (Jl pack)) ∧ (∀ st, DSs C (pack st) rest (g (.nx st)) J) ∧ (∀ d st ρ', Le (pack st) ρ' → J.rt d ρ' (g (.rt d st))))
    (hs : ∀ (env : PySem.Env) (x : Value), foldedSetIterable it env x = pure x := by intro _ _; rfl) : DSs C ρ (.For tg it body [] pos :: rest) m J := by
  intro X W Z x hK c z
  have hg : PG X tg fun v σ H Q => ∃ (W' : Wd) (τ' : Type) (Z' : R τ' → Prop) (i : R τ' × Env × D) (κ : Env → R τ' → Prop), (DG C (fun _ => True) i.2.1 tg i.2.2 i.1 κ ∧ W'.K = C.K ∧ Cl Z' ∧ Z' i.1) ∧ ∃ F, Rel W' i.2.1 σ H F ∧ Rp W'.K F v i.2.2 ∧ ∀ ρ' m' σ' H' F', κ ρ' m' → Z' m' → Rel W' ρ' σ' H' F' → Same F F' → (∀ vs, (∀ i, (fun _ : Nat => True) i → i ∈ vs) → wipe σ' vs = wipe σ vs) → Q σ' H' :=
    ⟨fun p s σ H v u Q I r ⟨W', _, Z', i, κ, ⟨pi, hK', c', z'⟩, q⟩ => (pi X W' Z' x hK' c' z').run p s σ H v u Q I r q⟩
  have hb : PSs X body fun D σ H => ∃ (W' : Wd) (τ' : Type) (Z' : R τ' → Prop) (i : R τ' × Env) (J' : Jd τ'), (DSs C i.2 body i.1 J' ∧ W'.K = C.K ∧ Cl Z' ∧ Z' i.1) ∧ ∃ F, Rel W' i.2 σ H F ∧ Lk W' J' Z' D :=
    ⟨fun p s σ H D I ⟨W', _, Z', i, J', ⟨pi, hK', c', z'⟩, q⟩ => (pi X W' Z' x hK' c' z').run p s σ H D I q⟩
  refine PSs_imp (pss_cons (ps_for x.own x.calm (h X W Z x hK c z) hg hb (hs _)) (rest_run (J := J) x hK c)) fun Dn σ H ⟨F, rl, lk⟩ => ?_
  refine ⟨F, rl, fun items ρ' m' Jt H1 F1 ⟨st0, f, g, hle, em, hf, hnx, hrt⟩ zm rel1 ss itd => ?_⟩
  subst em
  refine ⟨fun i n σ H => n = items.length - i ∧ i ≤ items.length ∧ ∃ st F2, Rel { W with F0 := F1 } (pack st) σ H F2 ∧ Z ((forT (items.drop i) st f).bind g), ⟨items.length, by simp, Nat.zero_le _, st0, F1, (rel1.le hle).down (Same.refl _) rel1, by simpa using zm⟩, ?_⟩
  rintro i n σ2 H2 ⟨rfl, hi, st, F2, rel2, z2⟩
  by_cases hlt : i < items.length
  · refine .inr ⟨itd.goes i F2 H2 hlt rel2.sub0 rel2.sub, fun σ H => ∃ st F3, Rel { W with F0 := F1 } (pack st) σ H F3 ∧ Z ((forT (items.drop (i + 1)) st f).bind g), fun σ3 H3 ⟨st3, F3, b, c3⟩ => ⟨_, by omega, rfl, hlt, st3, F3, b, c3⟩, fun v H3 y => ?_⟩
    obtain ⟨F3, d, hd, fx, pd⟩ := itd.yields i F2 H2 v H3 hlt rel2.sub0 rel2.sub y
    rw [forT_step hd, R.bind_assoc] at z2
    obtain ⟨fl, ef, zf⟩ := c.bind z2
    refine ⟨{ W with F0 := F1 }, Fl τ, fun r => ∃ p, r = .ok p ∧ Z ((match p with | .nx s => forT (items.drop (i + 1)) s f | .bk s => .ok (.nx s) | .rt d s => .ok (.rt d s)).bind g), (f d st, pack st, d), _, ⟨hf d st, hK, c.at _, fl, ef, zf⟩, F3, rel2.step fx, pd, fun ρ4 m4 σ4 H4 F4 h1 h2 h3 h4 _ => ?_⟩
    refine ⟨{ W with F0 := F1 }, Fl τ, _, (m4, ρ4), Jl pack, ⟨h1, hK, c.at _, h2⟩, F4, h3, ⟨fun ρ m σ H F ⟨st', hl, e⟩ ⟨p, e2, zp⟩ h3 => ?_, fun d ρ m v σ H F ⟨st', hl, e⟩ ⟨p, e2, zp⟩ h3 h5 => ?_, fun ρ m σ H F ⟨st', hl, e⟩ ⟨p, e2, zp⟩ h3 => ?_, fun ρ m σ H F ⟨st', hl, e⟩ ⟨p, e2, zp⟩ h3 => ?_, fun _ _ _ _ _ _ _ h => h.elim⟩⟩
    · subst e; cases e2; exact ⟨st', F, h3.le hl, zp⟩
    · subst e; cases e2; exact lk.rt d ρ _ v σ H F (hrt d st' ρ hl) zp (h3.up rel1) h5
    · subst e; cases e2; exact ⟨(g (.nx st'), pack st'), ⟨hnx st', zp⟩, F, (h3.up rel1).le hl, lk⟩
    · subst e; cases e2; exact ⟨st', F, h3.le hl, zp⟩
  · have e : i = items.length := by omega
    subst e
    rw [List.drop_length] at z2
    exact .inl ⟨itd.stops F2 H2 rel2.sub0 rel2.sub, (g (.nx st), pack st), ⟨hnx st, z2⟩, F2, rel2.up rel1, lk⟩
theorem ds_forS {J : Jd α} {it : Expr} {body rest : List Stmt} {pos : Pos} {τ : Type} (pack : τ → Env)
    (h : DI C ρ tg it m fun items ρ1 m1 => ∃ st0 f g, Le (pack st0) ρ1 ∧ m1 = (forS items st0 f).bind g ∧
      (∀ x st, DG C (fun _ => True) (pack st) tg x (f x st) fun ρ2 m2 => DSs C ρ2 body m2 (Jq pack)) ∧ (∀ st, DSs C (pack st) rest (g st) J))
    (hs : ∀ (env : PySem.Env) (x : Value), foldedSetIterable it env x = pure x := by intro _ _; rfl) : DSs C ρ (.For tg it body [] pos :: rest) m J := by
  intro X W Z x hK c z
  have hg : PG X tg fun v σ H Q => ∃ (W' : Wd) (τ' : Type) (Z' : R τ' → Prop) (i : R τ' × Env × D) (κ : Env → R τ' → Prop), (DG C (fun _ => True) i.2.1 tg i.2.2 i.1 κ ∧ W'.K = C.K ∧ Cl Z' ∧ Z' i.1) ∧ ∃ F, Rel W' i.2.1 σ H F ∧ Rp W'.K F v i.2.2 ∧ ∀ ρ' m' σ' H' F', κ ρ' m' → Z' m' → Rel W' ρ' σ' H' F' → Same F F' → (∀ vs, (∀ i, (fun _ : Nat => True) i → i ∈ vs) → wipe σ' vs = wipe σ vs) → Q σ' H' :=
    ⟨fun p s σ H v u Q I r ⟨W', _, Z', i, κ, ⟨pi, hK', c', z'⟩, q⟩ => (pi X W' Z' x hK' c' z').run p s σ H v u Q I r q⟩
  have hb : PSs X body fun D σ H => ∃ (W' : Wd) (τ' : Type) (Z' : R τ' → Prop) (i : R τ' × Env) (J' : Jd τ'), (DSs C i.2 body i.1 J' ∧ W'.K = C.K ∧ Cl Z' ∧ Z' i.1) ∧ ∃ F, Rel W' i.2 σ H F ∧ Lk W' J' Z' D :=
    ⟨fun p s σ H D I ⟨W', _, Z', i, J', ⟨pi, hK', c', z'⟩, q⟩ => (pi X W' Z' x hK' c' z').run p s σ H D I q⟩
  refine PSs_imp (pss_cons (ps_for x.own x.calm (h X W Z x hK c z) hg hb (hs _)) (rest_run (J := J) x hK c)) fun Dn σ H ⟨F, rl, lk⟩ => ?_
  refine ⟨F, rl, fun items ρ' m' Jt H1 F1 ⟨st0, f, g, hle, em, hf, hnx⟩ zm rel1 ss itd => ?_⟩
  subst em
  refine ⟨fun i n σ H => n = items.length - i ∧ i ≤ items.length ∧ ∃ st F2, Rel { W with F0 := F1 } (pack st) σ H F2 ∧ Z ((forS (items.drop i) st f).bind g), ⟨items.length, by simp, Nat.zero_le _, st0, F1, (rel1.le hle).down (Same.refl _) rel1, by simpa using zm⟩, ?_⟩
  rintro i n σ2 H2 ⟨rfl, hi, st, F2, rel2, z2⟩
  by_cases hlt : i < items.length
  · refine .inr ⟨itd.goes i F2 H2 hlt rel2.sub0 rel2.sub, fun σ H => ∃ st F3, Rel { W with F0 := F1 } (pack st) σ H F3 ∧ Z ((forS (items.drop (i + 1)) st f).bind g), fun σ3 H3 ⟨st3, F3, b, c3⟩ => ⟨_, by omega, rfl, hlt, st3, F3, b, c3⟩, fun v H3 y => ?_⟩
    obtain ⟨F3, d, hd, fx, pd⟩ := itd.yields i F2 H2 v H3 hlt rel2.sub0 rel2.sub y
    rw [forS_step hd, R.bind_assoc] at z2
    obtain ⟨fl, ef, zf⟩ := c.bind z2
    refine ⟨{ W with F0 := F1 }, τ, fun r => ∃ p, r = .ok p ∧ Z ((forS (items.drop (i + 1)) p f).bind g), (f d st, pack st, d), _, ⟨hf d st, hK, c.at _, fl, ef, zf⟩, F3, rel2.step fx, pd, fun ρ4 m4 σ4 H4 F4 h1 h2 h3 h4 _ => ?_⟩
    refine ⟨{ W with F0 := F1 }, τ, _, (m4, ρ4), Jq pack, ⟨h1, hK, c.at _, h2⟩, F4, h3, ⟨fun ρ m σ H F ⟨st', hl, e⟩ ⟨p, e2, zp⟩ h3 => ?_, fun _ _ _ _ _ _ _ h => h.elim, fun _ _ _ _ _ h => h.elim, fun ρ m σ H F ⟨st', hl, e⟩ ⟨p, e2, zp⟩ h3 => ?_, fun _ _ _ _ _ _ _ h => h.elim⟩⟩
    · subst e; cases e2; exact ⟨st', F, h3.le hl, zp⟩
    · subst e; cases e2; exact ⟨st', F, h3.le hl, zp⟩
  · have e : i = items.length := by omega
    subst e
    rw [List.drop_length] at z2
    exact .inl ⟨itd.stops F2 H2 rel2.sub0 rel2.sub, (g st, pack st), ⟨hnx st, z2⟩, F2, rel2.up rel1, lk⟩

/-! ### while -/
theorem ds_while {J : Jd α} {t : Expr} {body rest : List Stmt} {pos : Pos} {τ : Type} (pack : τ → Env) (n : Nat) (st0 : τ) {f : τ → R (Wl τ)} {g : Fl τ → R α} (hle : Le (pack st0) ρ) (hm : m = (whileT n st0 f).bind g)
    (h : ∀ st, DT C (pack st) t (f st) fun t ρ1 m1 => ∃ A B, m1 = (if t = true then A else B) ∧ DSs C ρ1 body A (Jw pack) ∧ ∃ st', Le (pack st') ρ1 ∧ B = .ok (.done st'))
    (hnx : ∀ st, DSs C (pack st) rest (g (.nx st)) J) (hrt : ∀ d st ρ', Le (pack st) ρ' → J.rt d ρ' (g (.rt d st)) ∨ g (.rt d st) = .stuck) : DSs C ρ (.While t body [] pos :: rest) m J := by
  intro X W Z x hK c z
  subst hm
  have ht : PT X t fun σ H Q => ∃ (W' : Wd) (τ' : Type) (Z' : R τ' → Prop) (i : R τ' × Env) (κ : Bool → Env → R τ' → Prop), (DT C i.2 t i.1 κ ∧ W'.K = C.K ∧ Cl Z' ∧ Z' i.1) ∧ ∃ F, Rel W' i.2 σ H F ∧ ∀ b ρ' m' H' F', κ b ρ' m' → Z' m' → Rel W' ρ' σ H' F' → Same F F' → Q b H' :=
    ⟨fun p s σ H Q I ⟨W', _, Z', i, κ, ⟨pi, hK', c', z'⟩, q⟩ => (pi X W' Z' x hK' c' z').run p s σ H Q I q⟩
  have hb : PSs X body fun D σ H => ∃ (W' : Wd) (τ' : Type) (Z' : R τ' → Prop) (i : R τ' × Env) (J' : Jd τ'), (DSs C i.2 body i.1 J' ∧ W'.K = C.K ∧ Cl Z' ∧ Z' i.1) ∧ ∃ F, Rel W' i.2 σ H F ∧ Lk W' J' Z' D :=
    ⟨fun p s σ H D I ⟨W', _, Z', i, J', ⟨pi, hK', c', z'⟩, q⟩ => (pi X W' Z' x hK' c' z').run p s σ H D I q⟩
  refine PSs_imp (pss_cons (ps_while x.own ht hb) (rest_run (J := J) x hK c)) fun Dn σ H ⟨F, rl, lk⟩ => ?_
  refine ⟨fun k σ H => ∃ st F2, Rel W (pack st) σ H F2 ∧ Z ((whileT k st f).bind g), ⟨n, st0, F, rl.le hle, z⟩, ?_⟩
  rintro k σ2 H2 ⟨st, F2, rel2, z2⟩
  cases k with
  | zero => exact (c.st z2).elim
  | succ k =>
    rw [whileT, R.bind_assoc] at z2
    obtain ⟨wl, ef, zf⟩ := c.bind z2
    refine ⟨W, Wl τ, fun r => ∃ p, r = .ok p ∧ Z ((match p with | .go s => whileT k s f | .done s => .ok (.nx s) | .rt d s => .ok (.rt d s)).bind g), (f st, pack st), _, ⟨h st, hK, c.at _, wl, ef, zf⟩, F2, rel2, fun b ρ3 m3 H3 F3 ⟨A, B, e, hA, st', hl, hB⟩ z3 rel3 s3 => ?_⟩
    subst e
    cases b with
    | false =>
      rw [if_neg Bool.false_ne_true] at z3
      obtain ⟨p, e2, zp⟩ := z3
      rw [hB] at e2
      cases e2
      rw [if_neg Bool.false_ne_true]
      exact ⟨(g (.nx st'), pack st'), ⟨hnx st', zp⟩, F3, rel3.le hl, lk⟩
    | true =>
      rw [if_pos rfl] at z3 ⊢
      refine ⟨fun σ H => ∃ st F2, Rel W (pack st) σ H F2 ∧ Z ((whileT k st f).bind g), fun σ' H' q => ⟨k, Nat.lt_succ_self k, q⟩, W, Wl τ, _, (A, ρ3), Jw pack, ⟨hA, hK, c.at _, z3⟩, F3, rel3, ⟨fun ρ m σ H F ⟨st', hl, e⟩ ⟨p, e2, zp⟩ h3 => ?_, fun d ρ m v σ H F ⟨st', hl, e⟩ ⟨p, e2, zp⟩ h3 h5 => ?_, fun ρ m σ H F ⟨st', hl, e⟩ ⟨p, e2, zp⟩ h3 => ?_, fun ρ m σ H F ⟨st', hl, e⟩ ⟨p, e2, zp⟩ h3 => ?_, fun _ _ _ _ _ _ _ h => h.elim⟩⟩
      · subst e; cases e2; exact ⟨st', F, h3.le hl, zp⟩
      · subst e; cases e2; rcases hrt d st' ρ hl with h | h
        · exact lk.rt d ρ _ v σ H F h zp h3 h5
        · have zp' : Z (g (.rt d st')) := zp
          rw [h] at zp'
          exact (c.st zp').elim
      · subst e; cases e2; exact ⟨(g (.nx st'), pack st'), ⟨hnx st', zp⟩, F, h3.le hl, lk⟩
      · subst e; cases e2; exact ⟨st', F, h3.le hl, zp⟩
end
end Z

set_option Elab.async false
set_option linter.all false
set_option maxRecDepth 100000
set_option autoImplicit false
/-! # Z6: comprehensions -/
namespace Z
open PySem L2

/-- the slots of a block's own names are empty -/
def wipeE (ρ : Env) : List Nat → Env
  | [] => ρ
  | v :: vs => (wipeE ρ vs).set v none
theorem wipeE_get {ρ : Env} {i : Nat} {sl : Sl} : ∀ {vs : List Nat}, (wipeE ρ vs)[i]? = some (some sl) → ρ[i]? = some (some sl) ∧ i ∉ vs
  | [], h => ⟨h, by simp⟩
  | v :: vs, h => by
    unfold wipeE at h
    rcases get_set h with ⟨_, _, e⟩ | ⟨e, h'⟩
    · cases e
    · obtain ⟨a, b⟩ := wipeE_get h'
      exact ⟨a, by simp only [List.mem_cons, not_or]; exact ⟨fun q => e q.symm, b⟩⟩
theorem Rel.wipe {W : Wd} {ρ : Env} {σ : L2.St} {H F : Hp} (r : Rel W ρ σ H F) : ∀ vs : List Nat, Rel W (wipeE ρ vs) (wipe σ vs) H F
  | [] => r
  | v :: vs => (r.wipe vs).forget v none

/-- the state at a turn, by itself: io are the addresses that the slots alone have -/
theorem Rel.turn {W : Wd} {ρ : Env} {σ : L2.St} {H F : Hp} (r : Rel W ρ σ H F) : ∃ io, Rel ⟨W.K, F, H, io⟩ ρ σ H F ∧ (∀ b ∈ io, b ∈ W.io ∨ W.H0 b = none) ∧ ∀ b ∈ io, ∃ o, H b = some o := by
  obtain ⟨ad, k⟩ := r.env
  refine ⟨((List.range ρ.length).filter fun i => (match ρ[i]? with | some (some _) => true | _ => false)).flatMap ad, ⟨r.sub, Same.refl _, fun b o h _ => h, fun b o h => .inl h, ⟨ad, fun i sl e => ?_⟩, r.len, fun b o h => ⟨o, h⟩⟩, fun b hb => ?_, fun b hb => ?_⟩
  · obtain ⟨v, h1, h2, h3, h4⟩ := k i sl e
    refine ⟨v, h1, h2, fun b hb => .inl (List.mem_flatMap.mpr ⟨i, List.mem_filter.mpr ⟨List.mem_range.mpr (List.getElem?_eq_some_iff.mp e).1, by rw [e]⟩, hb⟩), h4⟩
  · obtain ⟨i, hi, hb⟩ := List.mem_flatMap.mp hb
    obtain ⟨_, h2⟩ := List.mem_filter.mp hi
    cases e : ρ[i]? with
    | none => rw [e] at h2; cases h2
    | some q =>
      cases q with
      | none => rw [e] at h2; cases h2
      | some sl =>
        obtain ⟨v, _, _, h3, _⟩ := k i sl e
        exact h3 b hb
  · obtain ⟨i, hi, hb⟩ := List.mem_flatMap.mp hb
    obtain ⟨_, h2⟩ := List.mem_filter.mp hi
    cases e : ρ[i]? with
    | none => rw [e] at h2; cases h2
    | some q =>
      cases q with
      | none => rw [e] at h2; cases h2
      | some sl =>
        obtain ⟨v, _, h2, _, _⟩ := k i sl e
        cases sl with
        | val d => rw [h2.2] at hb; cases hb
        | own xs =>
          obtain ⟨p, vs, _, e2, h, _⟩ := h2
          rw [e2] at hb
          have : b = p := by simpa using hb
          subst this; exact ⟨_, h⟩
        | src a s =>
          obtain ⟨c, _, e2, _, _, _, h1, h3, _⟩ := h2
          rw [e2] at hb
          have : b = a ∨ b = c := by simpa using hb
          rcases this with rfl | rfl
          · exact ⟨_, h1⟩
          · exact ⟨_, h3⟩
        | scr ns =>
          obtain ⟨_, _, _, _, e2⟩ := h2
          rw [e2] at hb; cases hb
        | fn _ => rw [h2.2] at hb; cases hb
        | dct kvs =>
          obtain ⟨p, _, xs, _, e2, h, _⟩ := h2
          rw [e2] at hb
          have : b = p := by simpa using hb
          subst this; exact ⟨_, h⟩
        | dck kvs =>
          obtain ⟨p, xs, _, e2, h, _⟩ := h2
          rw [e2] at hb
          have : b = p := by simpa using hb
          subst this; exact ⟨_, h⟩
theorem Rel.unturn {W : Wd} {ρ ρ' : Env} {σ σ' : L2.St} {H F H' F' : Hp} {io : List Addr} (r' : Rel ⟨W.K, F, H, io⟩ ρ' σ' H' F') (r : Rel W ρ σ H F) (hio : ∀ b ∈ io, b ∈ W.io ∨ W.H0 b = none) : Rel W ρ' σ' H' F' := by
  have up : ∀ b, H b = none → W.H0 b = none := fun b h => by
    cases e : W.H0 b with
    | none => rfl
    | some u => obtain ⟨o, q⟩ := r.trk b u e; rw [h] at q; cases q
  refine ⟨r'.sub, r.sub0.trans r'.sub0, fun b o h hn => ?_, fun b o h => ?_, ?_, r'.len, fun b o h => ?_⟩
  · refine r'.keep b o (r.keep b o h hn) fun hb => ?_
    rcases hio b hb with q | q
    · exact hn q
    · rw [h] at q; cases q
  · rcases r'.fresh b o h with q | q | q
    · exact r.fresh b o q
    · exact .inr (.inl (up b q))
    · exact .inr ((hio b q).elim .inr .inl)
  · obtain ⟨ad, k⟩ := r'.env
    refine ⟨ad, fun i sl e => ?_⟩
    obtain ⟨v, h1, h2, h3, h4⟩ := k i sl e
    exact ⟨v, h1, h2, fun b hb => (h3 b hb).elim (hio b) fun q => .inr (up b q), h4⟩
  · obtain ⟨o', q⟩ := r.trk b o h
    exact r'.trk b o' q
/-- values alone -/
def ValOnly (ρ : Env) : Prop := ∀ (i : Nat) (sl : Sl), ρ[i]? = some (some sl) → ∃ d, sl = .val d
def valB : Env → Bool
  | [] => true
  | none :: r => valB r
  | some (.val _) :: r => valB r
  | _ => false
theorem valOnly_of : ∀ {ρ : Env}, valB ρ = true → ValOnly ρ
  | [], _, i, sl, e => by simp at e
  | none :: r, h, 0, sl, e => by simp at e
  | none :: r, h, i + 1, sl, e => valOnly_of (ρ := r) h i sl (by simpa using e)
  | some (.val d) :: r, h, 0, sl, e => by simp at e; exact ⟨d, e.symm⟩
  | some (.val d) :: r, h, i + 1, sl, e => valOnly_of (ρ := r) h i sl (by simpa using e)
  | some (.own _) :: r, h, _, _, _ => by cases h
  | some (.src _ _) :: r, h, _, _, _ => by cases h
  | some (.scr _) :: r, h, _, _, _ => by cases h
  | some (.fn _) :: r, h, _, _, _ => by cases h
/-- values alone: nothing else is changed -/
theorem Rel.pure {W : Wd} {ρ : Env} {σ : L2.St} {H F : Hp} (r : Rel W ρ σ H F) (h : ValOnly ρ) : Rel ⟨W.K, F, H, []⟩ ρ σ H F := by
  refine ⟨r.sub, Same.refl _, fun b o h _ => h, fun b o h => .inl h, ⟨fun _ => [], fun i sl e => ?_⟩, r.len, fun b o h => ⟨o, h⟩⟩
  obtain ⟨ad, k⟩ := r.env
  obtain ⟨d, rfl⟩ := h i sl e
  obtain ⟨v, h1, h2, _, _⟩ := k i _ e
  exact ⟨v, h1, ⟨h2.1, rfl⟩, by simp, by simp⟩
theorem Rel.fx {K : PySem.W.Frag} {ρ' : Env} {σ' : L2.St} {H F H' F' : Hp} (r' : Rel ⟨K, F, H, []⟩ ρ' σ' H' F') : Fx F H F' H' :=
  ⟨r'.sub0, r'.sub, fun b o h => r'.keep b o h (by simp), fun b o h => (r'.fresh b o h).elim .inl fun q => q.elim .inr fun z => absurd z (by simp)⟩

section
variable {α : Type} {C : Ct} {ρ : Env} {m : R α}
def Ct.blk (C : Ct) (scope : Scope) : Ct := { C with sc := relS scope C.sc, fn := fun x => scope.names.lookup x == some .cell }
theorem XOk.blk {X : Cx} (x : XOk C X) {scope : Scope} (s : Shared) (H : Hp) (Ca : Addr) (cl : List (Str × Addr)) (fp : List Addr) : XOk (C.blk scope) (X.blk s H scope (compEnvC scope cl Ca X.env) fp) :=
  ⟨x.prog, x.w, x.K, x.mg, x.base, x.N, x.nd, by show relS scope X.env.scope = _; rw [x.sc]; rfl, x.calm, x.room, x.grd, PassesOwn.never, fun _ h => h⟩

def DTs {α : Type} (C : Ct) (ρ : Env) (es : List Expr) (m : R α) (κ : Bool → Env → R α → Prop) : Prop :=
  ∀ (X : Cx) (W : Wd) (Z : R α → Prop), XOk C X → W.K = C.K → ClX X W Z → Z m →
    PTs X es fun σ H Q => ∃ F, Rel W ρ σ H F ∧ ∀ b ρ' m' H' F', κ b ρ' m' → Z m' → Rel W ρ' σ H' F' → Same F F' → Q b H'
theorem PTs_imp {X : Cx} {e : List Expr} {t t' : TT} (h : PTs X e t) (i : ∀ σ H Q, t' σ H Q → t σ H Q) : PTs X e t' := ⟨fun p s σ H Q I q => h.run p s σ H Q I (i σ H Q q)⟩
theorem dts_nil {κ : Bool → Env → R α → Prop} (k : κ true ρ m) : DTs C ρ [] m κ := fun X W Z x hK c z => PTs_imp pts_nil fun σ H Q ⟨F, r, q⟩ => q _ ρ m H F k z r (Same.refl _)
theorem dts_one {κ : Bool → Env → R α → Prop} {e : Expr} (h : DT C ρ e m κ) : DTs C ρ [e] m κ := fun X W Z x hK c z => pts_one (h X W Z x hK c z)
theorem tsplit {P Q : R α → Prop} {t : Bool} {m1 A B : R α} (h : m1 = (if t = true then A else B)) (hA : P A) (hB : Q B) : (t = true → P m1) ∧ (t = false → Q m1) := by
  subst h
  cases t with
  | true => exact ⟨(fun _ => hA), (fun e => nomatch e)⟩
  | false => exact ⟨(fun e => nomatch e), (fun _ => hB)⟩

theorem compP_step {items : List D} {i : Nat} {d : D} (h : items[i]? = some d) (f : D → R (Option D)) : compP (items.drop i) f = (f d).bind fun p => (compP (items.drop (i + 1)) f).bind fun q =>
    match p with
    | some y => .ok (y :: q)
    | none => .ok q := by
  have : items.drop i = d :: items.drop (i + 1) := by
    obtain ⟨hl, e⟩ := List.getElem?_eq_some_iff.mp h
    rw [List.drop_eq_getElem_cons hl, e]
  rw [this]; rfl
theorem compT_step {τ : Type} {items : List D} {i : Nat} {d : D} (h : items[i]? = some d) (st : τ) (f : D → τ → R (Option D × τ)) : compT (items.drop i) st f = (f d st).bind fun p => (compT (items.drop (i + 1)) p.2 f).bind fun q =>
    match p.1 with
    | some y => .ok (y :: q.1, q.2)
    | none => .ok (q.1, q.2) := by
  have : items.drop i = d :: items.drop (i + 1) := by
    obtain ⟨hl, e⟩ := List.getElem?_eq_some_iff.mp h
    rw [List.drop_eq_getElem_cons hl, e]
  rw [this]; rfl

theorem wipe_wipe {σ : L2.St} {vs : List Nat} : wipe (wipe σ vs) vs = wipe σ vs := by
  have key : ∀ (us : List Nat) (τ : L2.St) (k : Nat), (wipe τ us)[k]? = if k ∈ us then (τ[k]?.map fun _ => none) else τ[k]? := by
    intro us τ k
    induction us with
    | nil => simp [wipe]
    | cons u us ih =>
      unfold wipe
      rw [List.getElem?_set, ih]
      by_cases e : u = k
      · subst e
        have hl : (wipe τ us).length = τ.length := wipe_length τ us
        by_cases hk : u < τ.length
        · simp [hl, hk]
        · simp [hl, hk]
      · have e' : ¬ k = u := fun q => e q.symm
        simp [e, e']
  refine List.ext_getElem? fun j => ?_
  rw [key, key]
  by_cases h : j ∈ vs
  · simp only [h, if_true, Option.map_map]; rfl
  · simp only [h, if_false]
/-- the values of a row of slots -/
structure VRel (K : PySem.W.Frag) (F : Hp) (ρ : Env) (σ : L2.St) : Prop where
  ref : ∀ (i : Nat) (d : D), ρ[i]? = some (some (.val d)) → ∃ v, σ[i]? = some (some v) ∧ Rp K F v d
  len : ρ.length ≤ σ.length
theorem Rel.vrel {W : Wd} {ρ : Env} {σ : L2.St} {H F : Hp} (r : Rel W ρ σ H F) : VRel W.K F ρ σ := ⟨fun i d e => r.val e, r.len⟩
theorem VRel.mono {K : PySem.W.Frag} {F F' : Hp} {ρ : Env} {σ : L2.St} (r : VRel K F ρ σ) (e : Same F F') : VRel K F' ρ σ := ⟨fun i d h => let ⟨v, a, b⟩ := r.ref i d h; ⟨v, a, b.mono e⟩, r.len⟩
theorem VRel.rel {K : PySem.W.Frag} {F H : Hp} {ρ : Env} {σ : L2.St} (r : VRel K F ρ σ) (h : ValOnly ρ) (e : Same F H) : Rel ⟨K, F, H, []⟩ ρ σ H F := by
  refine ⟨e, Same.refl _, fun b o h _ => h, fun b o h => .inl h, ⟨fun _ => [], fun i sl q => ?_⟩, r.len, fun b o h => ⟨o, h⟩⟩
  obtain ⟨d, rfl⟩ := h i sl q
  obtain ⟨v, a, b⟩ := r.ref i d q
  exact ⟨v, a, ⟨b, rfl⟩, by simp, by simp⟩
theorem RpAll.snoc {K : PySem.W.Frag} {F : Hp} {vs : List V} {ds : List D} {v : V} {d : D} (r : RpAll K F vs ds) (h : Rp K F v d) : RpAll K F (vs ++ [v]) (ds ++ [d]) := r.append (.cons h .nil)

theorem compL_ok {xs : List D} {f : D → R (Option D)} {q : List D} (h : compL xs f = .ok q) : xs.length < 16777216 ∧ compP xs f = .ok q := by
  unfold compL at h
  split at h
  · rename_i e; exact ⟨of_decide_eq_true e, h⟩
  · cases h
theorem compS_ok {τ : Type} {xs : List D} {st : τ} {f : D → τ → R (Option D × τ)} {q : List D × τ} (h : compS xs st f = .ok q) : xs.length < 16777216 ∧ compT xs st f = .ok q := by
  unfold compS at h
  split at h
  · rename_i e; exact ⟨of_decide_eq_true e, h⟩
  · cases h
/-- the readings of a comprehension whose element changes nothing, and what they ask -/
theorem lcP_main {κ : D → Env → R α → Prop} {tg it elt : Expr} {ifs : List Expr} {scope : Scope} {vs : List Nat} {X : Cx} {W : Wd} {Z : R α → Prop} (x : XOk C X) (hK : W.K = C.K) (c : ClX X W Z) (z : Z m)
    (h : DI C ρ tg it m fun items ρ1 m1 => ∃ ρb f g, Le ρb (wipeE ρ1 vs) ∧ valB ρb = true ∧ m1 = (compL items f).bind g ∧
      (∀ y, DG (C.blk scope) (fun i => i ∈ vs) ρb tg y (f y) fun ρ2 m2 => DTs (C.blk scope) ρ2 ifs m2 fun t ρ3 m3 =>
        (t = true → DE (C.blk scope) ρ3 elt m3 fun d ρ4 m4 => m4 = .ok (some d)) ∧ (t = false → m3 = .ok none)) ∧
      ∀ ys, κ (.list ys) ρ1 (g ys)) :
    ∃ wi g tt te, PI X tg it wi ∧ (∀ (s : Shared) (H : Hp) (Ca : Addr) (cl : List (Str × Addr)) (fp : List Addr), PG (X.blk s H scope (compEnvC scope cl Ca X.env) fp) tg g) ∧
      (∀ (s : Shared) (H : Hp) (Ca : Addr) (cl : List (Str × Addr)) (fp : List Addr), PTs (X.blk s H scope (compEnvC scope cl Ca X.env) fp) ifs tt) ∧
      (∀ (s : Shared) (H : Hp) (Ca : Addr) (cl : List (Str × Addr)) (fp : List Addr), PE (X.blk s H scope (compEnvC scope cl Ca X.env) fp) elt te) ∧
      ∀ σ H Q, (∃ F, Rel W ρ σ H F ∧ ∀ d ρ' m' v H' F', κ d ρ' m' → Z m' → Rel W ρ' σ H' F' → Same F F' → Rp W.K F' v d → Q v H') → tLc wi g tt te vs σ H Q := by
  refine ⟨_, fun v σ H Q => ∃ (W' : Wd) (τ' : Type) (Z' : R τ' → Prop) (i : R τ' × Env × D) (κ : Env → R τ' → Prop), (DG (C.blk scope) (fun i => i ∈ vs) i.2.1 tg i.2.2 i.1 κ ∧ W'.K = C.K ∧ Cl Z' ∧ Z' i.1) ∧ ∃ F, Rel W' i.2.1 σ H F ∧ Rp W'.K F v i.2.2 ∧ ∀ ρ' m' σ' H' F', κ ρ' m' → Z' m' → Rel W' ρ' σ' H' F' → Same F F' → (∀ us, (∀ i, i ∈ vs → i ∈ us) → wipe σ' us = wipe σ us) → Q σ' H',
    fun σ H Q => ∃ (W' : Wd) (τ' : Type) (Z' : R τ' → Prop) (i : R τ' × Env) (κ : Bool → Env → R τ' → Prop), (DTs (C.blk scope) i.2 ifs i.1 κ ∧ W'.K = C.K ∧ Cl Z' ∧ Z' i.1) ∧ ∃ F, Rel W' i.2 σ H F ∧ ∀ b ρ' m' H' F', κ b ρ' m' → Z' m' → Rel W' ρ' σ H' F' → Same F F' → Q b H',
    fun σ H Q => ∃ (W' : Wd) (τ' : Type) (Z' : R τ' → Prop) (i : R τ' × Env) (κ : D → Env → R τ' → Prop), (DE (C.blk scope) i.2 elt i.1 κ ∧ W'.K = C.K ∧ Cl Z' ∧ Z' i.1) ∧ ∃ F, Rel W' i.2 σ H F ∧ ∀ d ρ' m' v H' F', κ d ρ' m' → Z' m' → Rel W' ρ' σ H' F' → Same F F' → Rp W'.K F' v d → Q v H', h X W Z x hK c z, ?_, ?_, ?_, ?_⟩
  · exact fun s H Ca cl fp => ⟨fun p s' σ H v u Q I r ⟨W', _, Z', i, κ, ⟨pi, hK', c', z'⟩, q⟩ => (pi _ W' Z' (x.blk s _ Ca cl fp) hK' c' z').run p s' σ H v u Q I r q⟩
  · exact fun s H Ca cl fp => ⟨fun p s' σ H Q I ⟨W', _, Z', i, κ, ⟨pi, hK', c', z'⟩, q⟩ => (pi _ W' Z' (x.blk s _ Ca cl fp) hK' c' z').run p s' σ H Q I q⟩
  · exact fun s H Ca cl fp => ⟨fun p s' σ H Q I ⟨W', _, Z', i, κ, ⟨pi, hK', c', z'⟩, q⟩ => (pi _ W' Z' (x.blk s _ Ca cl fp) hK' c' z').run p s' σ H Q I q⟩
  rintro σ H Q ⟨F, rl, q⟩
  refine ⟨F, rl, fun items ρ1 m1 J H1 F1 ⟨ρb, f, g, hle, hv, em, hf, hk⟩ zm rel1 ss itd Da hDa => ?_⟩
  subst em
  obtain ⟨qs0, eq0, zq0⟩ := c.bind zm
  obtain ⟨hlen, eq0⟩ := compL_ok eq0
  have vo := valOnly_of hv
  have hF1D : F1 Da = none := rel1.sub.free hDa
  have v1 : VRel W.K F1 ρb (wipe σ vs) := ((rel1.wipe vs).le hle).vrel
  refine ⟨fun i n H => n = items.length - i ∧ i ≤ items.length ∧ ∃ Fi acc ds qs, H Da = some (.lst acc) ∧ Fi Da = none ∧ RpAll W.K Fi acc ds ∧ acc.length ≤ i ∧ Same F1 Fi ∧ Same Fi H ∧ Same H1 H ∧ (∀ b o, Fi b = some o → F1 b = some o ∨ H1 b = none) ∧ compP (items.drop i) f = .ok qs ∧ Z (g (ds ++ qs)),
    ⟨items.length, by simp, Nat.zero_le _, F1, [], [], qs0, upd_same, hF1D, .nil, Nat.le_refl _, Same.refl _, fun b o e => by rw [upd_ne (ne_of_none e hF1D)]; exact rel1.sub b o e, fun b o e => by rw [upd_ne (ne_of_none e hDa)]; exact e, fun _ _ e => .inl e, by simpa using eq0, by simpa using zq0⟩, ?_⟩
  rintro i n H2 ⟨rfl, hi, Fi, acc, ds, qs, hD, hFD, racc, hal, s1i, sih, s1h, fri, eqs, zqs⟩
  by_cases hlt : i < items.length
  · refine .inr ⟨itd.goes i Fi H2 hlt s1i sih, fun H => ∃ Fi acc ds qs, H Da = some (.lst acc) ∧ Fi Da = none ∧ RpAll W.K Fi acc ds ∧ acc.length ≤ i + 1 ∧ Same F1 Fi ∧ Same Fi H ∧ Same H1 H ∧ (∀ b o, Fi b = some o → F1 b = some o ∨ H1 b = none) ∧ compP (items.drop (i + 1)) f = .ok qs ∧ Z (g (ds ++ qs)),
      fun H' hh => ⟨_, by omega, rfl, hlt, hh⟩, fun v H3 y => ?_⟩
    obtain ⟨F3, d, hd, fx, pd⟩ := itd.yields i Fi H2 v H3 hlt s1i sih y
    rw [compP_step hd] at eqs
    obtain ⟨p, ep, eqs⟩ := R.bind_eq_ok eqs
    obtain ⟨q2, eq2, eqs⟩ := R.bind_eq_ok eqs
    have clp : Cl fun r : R (Option D) => r = .ok p := ⟨(fun e => nomatch e), (fun _ _ e => nomatch e)⟩
    refine ⟨⟨W.K, F3, H3, []⟩, Option D, fun r => r = .ok p, (f d, ρb, d), _, ⟨hf d, hK, clp, ep⟩, F3, (v1.mono (s1i.trans fx.ff)).rel vo fx.fh, pd, fun ρ2 m2 σ4 H4 F4 h1 h2 h3 h4 hw => ⟨(hw vs fun _ h => h).trans wipe_wipe, ?_⟩⟩
    refine ⟨⟨W.K, F3, H3, []⟩, Option D, fun r => r = .ok p, (m2, ρ2), _, ⟨h1, hK, clp, h2⟩, F4, h3, fun b ρ3 m3 H5 F5 k1 k2 k3 k4 => ?_⟩
    have grow : ∀ {H6 F6 : Hp}, Fx F3 H3 F6 H6 → H6 Da = some (.lst acc) ∧ F6 Da = none ∧ Same F1 F6 ∧ Same H1 H6 ∧ (∀ b o, F6 b = some o → F1 b = some o ∨ H1 b = none) ∧ Same Fi F6 := fun {H6 F6} f6 => by
      have fa := fx.trans f6
      exact ⟨fa.hh _ _ hD, fa.none hFD hD, s1i.trans fa.ff, s1h.trans fa.hh, fun b o e => (fa.new b o e).elim (fun q => fri b o q) fun q => .inr (s1h.free q), fa.ff⟩
    cases b with
    | false =>
      show (if false = true then _ else _)
      rw [if_neg Bool.false_ne_true]
      obtain ⟨g1, g2, g3, g4, g5, g6⟩ := grow k3.fx
      have e3 := k1.2 rfl
      rw [k2] at e3
      cases e3
      cases eqs
      exact ⟨F5, acc, ds, _, g1, g2, racc.mono g6, Nat.le_succ_of_le hal, g3, k3.sub, g4, g5, eq2, zqs⟩
    | true =>
      show (if true = true then _ else _)
      rw [if_pos rfl]
      refine ⟨⟨W.K, F3, H3, []⟩, Option D, fun r => r = .ok p, (m3, ρ3), _, ⟨k1.1 rfl, hK, clp, k2⟩, F5, k3, fun dd ρ4 m4 vv H6 F6 j1 j2 j3 j4 j5 => ?_⟩
      obtain ⟨g1, g2, g3, g4, g5, g6⟩ := grow j3.fx
      rw [j2] at j1
      cases j1
      cases eqs
      have hz : acc.length < 16777216 := by omega
      refine ⟨acc, g1, by rw [sizeLine_eq]; exact hz, F6, acc ++ [vv], ds ++ [dd], q2, upd_same, g2, (racc.mono g6).snoc j5, by simp; omega, g3, fun b o e => by rw [upd_ne (ne_of_none e g2)]; exact j3.sub b o e, fun b o e => by rw [upd_ne (ne_of_none e hDa)]; exact g4 b o e, g5, eq2, by simpa using zqs⟩
  · have e : i = items.length := by omega
    subst e
    rw [List.drop_length] at eqs
    cases eqs
    rw [List.append_nil] at zqs
    refine .inl ⟨itd.stops Fi H2 s1i sih, ?_⟩
    have fx : Fx F1 H1 (upd Fi Da (.lst acc)) H2 := ⟨fun b o e => by rw [upd_ne (ne_of_none e hF1D)]; exact s1i b o e, fun b o e => by
      by_cases hb : b = Da
      · subst hb; rw [upd_same] at e; rw [hD]; exact e
      · rw [upd_ne hb] at e; exact sih b o e, s1h, fun b o e => by
      by_cases hb : b = Da
      · subst hb; exact .inr hDa
      · rw [upd_ne hb] at e; exact fri b o e⟩
    exact q _ ρ1 _ _ H2 _ (hk ds) zqs (rel1.step fx) (ss.trans fx.ff) (.lst upd_same (racc.mono fun b o e => by rw [upd_ne (ne_of_none e hFD)]; exact e))

/-- [e for tg in it if ..], the element changes nothing -/
theorem de_lcP {κ : D → Env → R α → Prop} {tg it elt : Expr} {ifs : List Expr} {scope : Scope} {pos : Pos} (own : List (Str × Nat)) (ok : blkC C.N C.sc scope own = true)
    (h : DI C ρ tg it m fun items ρ1 m1 => ∃ ρb f g, Le ρb (wipeE ρ1 (own.map (·.2))) ∧ valB ρb = true ∧ m1 = (compL items f).bind g ∧
      (∀ y, DG (C.blk scope) (fun i => i ∈ own.map (·.2)) ρb tg y (f y) fun ρ2 m2 => DTs (C.blk scope) ρ2 ifs m2 fun t ρ3 m3 =>
        (t = true → DE (C.blk scope) ρ3 elt m3 fun d ρ4 m4 => m4 = .ok (some d)) ∧ (t = false → m3 = .ok none)) ∧
      ∀ ys, κ (.list ys) ρ1 (g ys)) (hs : ∀ (env : PySem.Env) (x : Value), foldedSetIterable it env x = pure x := by intro _ _; rfl) : DE C ρ (.ListComp elt [⟨tg, it, ifs, 0⟩] scope pos) m κ := by
  intro X W Z x hK c z
  obtain ⟨wi, g, tt, te, h1, h2, h3, h4, h5⟩ := lcP_main (vs := own.map (·.2)) x hK c z h
  exact PE_imp (pe_lc x.calm (by rw [x.N]; exact x.nd) h1 (blkOk_by (by rw [x.N, x.sc]; exact ok)) h2 h3 h4 (hs _)) h5
/-- y = [..], y a local, on one line -/
theorem ds_setLcP {J : Jd α} {n : Str} {tg it elt : Expr} {ifs : List Expr} {scope : Scope} {p pos cpos : Pos} {rest : List Stmt} (i : Nat) (own : List (Str × Nat)) (ok : blkC C.N C.sc scope own = true)
    (h : DI C ρ tg it m fun items ρ1 m1 => ∃ ρb f g, Le ρb (wipeE ρ1 (own.map (·.2))) ∧ valB ρb = true ∧ m1 = (compL items f).bind g ∧
      (∀ y, DG (C.blk scope) (fun i => i ∈ own.map (·.2)) ρb tg y (f y) fun ρ2 m2 => DTs (C.blk scope) ρ2 ifs m2 fun t ρ3 m3 =>
        (t = true → DE (C.blk scope) ρ3 elt m3 fun d ρ4 m4 => m4 = .ok (some d)) ∧ (t = false → m3 = .ok none)) ∧
      ∀ ys, DSs C (ρ1.set i (some (.val (.list ys)))) rest (g ys) J) (hN : C.N[i]? = some n := by rfl) (hy : C.sc.names.lookup n = some .local := by rfl)
    (hsw : ∀ env : PySem.Env, env.scope = C.sc → swapsWith (.ListComp elt [⟨tg, it, ifs, 0⟩] scope cpos) (some (.Name n p)) pos.line env = pure true)
    (hs : ∀ (env : PySem.Env) (x : Value), foldedSetIterable it env x = pure x := by intro _ _; rfl) : DSs C ρ (.Assign [.Name n p] (.ListComp elt [⟨tg, it, ifs, 0⟩] scope cpos) pos :: rest) m J := by
  intro X W Z x hK c z
  obtain ⟨wi, g, tt, te, h1, h2, h3, h4, h5⟩ := lcP_main (κ := fun d ρ1 m1 => DSs C (ρ1.set i (some (.val d))) rest m1 J) (vs := own.map (·.2)) x hK c z h
  refine PSs_imp (pss_cons (ps_setLc (i := i) x.calm (by rw [x.N]; exact x.nd) (by rw [x.N]; exact hN) (by rw [x.sc]; exact hy) (hsw _ x.sc) h1 (blkOk_by (by rw [x.N, x.sc]; exact ok)) h2 h3 h4 (hs _)) (rest_run (J := J) x hK c)) fun Dn σ H ⟨F, r, l⟩ => ?_
  exact h5 σ H (fun y H1 => ∃ j : R α × Env, (DSs C j.2 rest j.1 J ∧ Z j.1) ∧ ∃ F, Rel W j.2 (σ.set i (some y)) H1 F ∧ Lk W J Z Dn) ⟨F, r, fun d ρ' m' v H' F' k1 k2 k3 k4 k5 => ⟨(m', _), ⟨k1, k2⟩, F', k3.set i k5, l⟩⟩
end
end Z

set_option Elab.async false
set_option linter.all false
set_option maxRecDepth 100000
set_option autoImplicit false
/-! # ZG: defs where nothing is being shown (repr), the head of the law with it -/
namespace Z
open PySem L2 PySem.Spec PyProof.Rows

/-- what a def promises to a caller for whom no repr is under way -/
structure FnG (P : Program) (w : World) (K : PySem.W.Frag) (mg : Str → Option Value) (base : Heap) (Cx : CXT) (k : Nat) (f : Addr) (fd : FuncData) (ps : List Str) (sp : Sp) : Prop where
  len : ∀ vs H Q E, sp vs H Q E → vs.length = ps.length
  run : ∀ (A : Around) (out : List PySem.Env) (s : Shared) (H : Hp) (ar : Args) (us : List Value) (vs : List V) (Q : VK) (E : XK),
    A.guards = some [] → Room k A → Env0 P w K mg base A out s H → BindsTo s fd ar (ps.zip us) → Vals vs us → sp vs H Q E → codeAny (model P w) A (.call (.ref f) ar) (CR Cx out P w H s Q E) s
theorem FnG.mono {P : Program} {w : World} {K : PySem.W.Frag} {mg : Str → Option Value} {base : Heap} {Cx : CXT} {i j : Nat} {f : Addr} {fd : FuncData} {ps : List Str} {sp : Sp} (G : FnG P w K mg base Cx i f fd ps sp) (le : i ≤ j) : FnG P w K mg base Cx j f fd ps sp where
  len := G.len
  run := fun A out s H ar us vs Q E gd rm => G.run A out s H ar us vs Q E gd (rm.mono le)

/-- by the body -/
theorem okG {P : Program} {w : World} {K : PySem.W.Frag} {mg : Str → Option Value} {base : Heap} {Cx : CXT} {nm qual : Str} {st : Stmt} {f : Addr} {fd : FuncData} {N ps : List Str} {k : Nat} {sp : Sp} (F : Fun K nm qual st f fd) (S : FnScope N ps (defScope st))
    (ln : ∀ vs H Q E, sp vs H Q E → vs.length = ps.length)
    (body : ∀ (cv : Value) (A : Around) (out : List PySem.Env) (s : Shared) (H : Hp) (vs : List V) (Q : VK) (E : XK), A.guards = some [] → Room k (A.deeper (envOfC qual (defScope st) s.heap.objs.size f cv)) → sp vs H Q E →
      ∃ t, PSs (cxOf Cx P w K mg base N qual (defScope st) f cv A out s H E) (defBody st) t ∧ t { nx := fun _ H' => Q .non H', rt := Q } (L2.start N vs) H) : FnG P w K mg base Cx (k + 1) f fd ps sp := by
  obtain ⟨_, _, _, _, _, _, cv, _, _, rfl, look, hc⟩ := F.ex
  refine ⟨ln, fun A out s H ar us vs Q E gd rm e0 bd rel hp => ?_⟩
  have nvs := ln _ _ _ _ hp
  have there : ∀ b o, base.get? b = some o → s.heap.get? b = some o := fun b o e => (e0.bs b o e).1
  have kin : K.In s.heap := e0.mod.kin.keeps there
  have nolim := e0.mod.nolimit.keeps there
  have kinds : ∀ z ∈ ps.zip us, (defScope st).names.lookup z.1 = some .local ∨ ((defScope st).names.lookup z.1 = some .cell ∧ ((cellsFrom (s.heap.objs.size + 1) (defScope st).names []).lookup z.1).isSome = true) := by
    intro ⟨a, b⟩ hz
    exact (S.par a (List.of_mem_zip hz).1).imp id fun q => ⟨q, PySem.W.cellsFrom_some _ _ _ (.inl q)⟩
  refine codeAny_call_function rm.depth (kin _ _ look) rfl S.co S.gen rfl (PySem.W.codeRec_of kin hc) (bd _ _ _ _ (wpAny_newFunctionEnv_cells S.kind kinds fun env eq s1 ic => ?_))
  subst eq
  obtain ⟨t, run, ask⟩ := body cv A out s H vs Q E gd (rm.deeper _) hp
  refine ⟨nolim.keeps ic.toInCall.keep, codeAny_func (wpAny_mono (run.run [] s1 (L2.start N vs) H _ (inv_start S rm.hd e0 nvs rel ic) ask) (fun fl s2 done => ?_) fun _ _ z => z)⟩
  match fl, done with
  | .ret u, ⟨v, τ, H2, J, rv, q⟩ => exact ⟨v, H2, J.os, J.bare, J.base, J.hok, rv, q⟩
  | .next, ⟨τ, H2, J, q⟩ => exact ⟨V.non, H2, J.os, J.bare, J.base, J.hok, rfl, q⟩
  | .brk, ⟨_, _, _, q⟩ => exact q.elim
  | .cont, ⟨_, _, _, q⟩ => exact q.elim

section
variable {X : Cx} {Cy : CXT} {k : Nat} {f : Addr} {fd : FuncData} {ps : List Str} {sp : Sp} {E : XK} {x : Str} {p pos : Pos} {e : Expr} {es : List Expr} {t : TA}
theorem runG {pins : List (Addr × Obj)} {σ : L2.St} {H : Hp} {s : Shared} {Q : VK} {us : List Value} {vs : List V} (G : FnG X.prog X.w X.K X.mg X.base Cy k f fd ps sp) (gd : X.A.guards = some []) (rm : Room k X.A) (bd : Binds X.K fd ps []) (pass : Passes Cy X E)
    (I : Inv X pins σ H s) (rel : Vals vs us) (ask : sp vs H Q E) : wpAny (model X.prog X.w) X.A (call (.ref f) us) (EP X pins σ Q) X.xe s := by
  have nus : us.length = ps.length := by rw [← rel.length]; exact G.len _ _ _ _ ask
  have bs := bd s us I.kIn (by rw [List.append_nil]; exact nus)
  rw [List.append_nil] at bs
  refine wpAny_call (codeAny_mono (G.run X.A X.stack s H ⟨us, []⟩ us vs Q E gd rm I.env0 bs rel ask) fun r s2 done => ?_)
  match r, done with
  | .error e, z => exact pass pins σ H s e s2 I z
  | .ok (.ret u), z => exact I.after z
/-- f(e, ..) -/
theorem pe_callG (G : FnG X.prog X.w X.K X.mg X.base Cy k f fd ps sp) (gd : X.A.guards = some []) (rm : Room k X.A) (hg : Gl X x) (hm : X.mg x = some (.ref f)) (kp : PySem.W.keepIn X.K (.ref f) = true) (bd : Binds X.K fd ps []) (pass : Passes Cy X E)
    (ha : PA X (e :: es) t) (nd : (x == ("__debug__" : Str)) = false) (he : starEach (e :: es) X.env = (false, eval e X.env) :: starEach es X.env) (hpl : (backTo pos (starEach es X.env)).any (·.1) = false) :
    PE X (.Call (.Name x p) (e :: es) [] pos) (fun σ H Q => t σ H fun vs H1 => sp vs H1 Q E) where
  run := fun pins s σ H Q I ask => wpAny_Call_Name_kw (ld_glob I hg hm (PySem.W.callWith_K (h₀ := X.base) I.ok.mod.kin kp (thn (ha.run pos pins s σ H _ I ask) fun us s1 ⟨vs, H1, I1, rel, q⟩ => ⟨I1.kIn, runG G gd rm bd pass I1 rel q⟩) he hpl) nd)
end

/-! ### the head -/
/-- the heap in which the law is entered: of what is tracked there is the script alone, if it is no object of the module -/
def entryH (K : PySem.W.Frag) (a : Addr) (o : Obj) (ns : List Int) : Hp := fun b => if b = a ∧ K.lookup a = none then some (.frz o (.lst (ns.map V.int))) else none
theorem entryH_some {K : PySem.W.Frag} {a b : Addr} {o : Obj} {ns : List Int} {u : HO} (h : entryH K a o ns b = some u) : b = a ∧ K.lookup a = none ∧ u = .frz o (.lst (ns.map V.int)) := by
  unfold entryH at h
  split at h
  · rename_i e; cases h; exact ⟨e.1, e.2, rfl⟩
  · cases h
theorem headG {P : Program} {w : World} {K : PySem.W.Frag} {mg mb : Str → Option Value} {k : Nat} {fa a : Addr} {fd : FuncData} {x : Str} {sp : Sp} {s : Shared} {us : List Value} {ns : List Int}
    (kin : K.In s.heap) (nm : s.heap.Ns mainGlobals mg) (nb : s.heap.Ns builtinsNs mb) (bb : ∀ x : Str, x ≠ "__name__" → mb x = bootBuiltins x) (nl : s.heap.NoLimit) (ng : s.gens = #[])
    (obj : s.heap.get? a = some { cls := .type "list", data := .seq us.toArray }) (ia : IntsAre us ns) (hl : ns.length ≤ sizeLine) (rm : Room k callerA)
    (G : ∀ base : Heap, K.In base → base.Ns mainGlobals mg → FnG P w K mg base CX0 k fa fd [x] sp) (bd : ∀ (s : Shared) (u : Value), BindsTo s fd ⟨[u], []⟩ [(x, u)])
    (hsp : ∀ H : Hp, SqL K H a (ns.map V.int) → sp [.ref a] H (fun v _ => v = .bl true) E0) :
    codeAny (model P w) callerA (.call (.ref fa) ⟨[.ref a], []⟩) (fun r s' => r = .ok (.ret (.bool true)) ∧ OldK s.heap s'.heap ∧ s'.os = s.os ∧ AllBare s'.gens) s := by
  have rv : Vals (ns.map V.int) us := vals_ints ia
  have lu := ia.length
  generalize ho : ({ cls := .type "list", data := .seq us.toArray } : Obj) = o at obj
  have sq : SqL K (entryH K a o ns) a (ns.map V.int) := by
    cases hk : K.lookup a with
    | none => exact .inl (.inr ⟨o, by unfold entryH; rw [if_pos ⟨rfl, hk⟩]⟩)
    | some o2 =>
      have e := kin a o2 hk
      rw [obj] at e
      cases e
      subst ho
      exact .inr ⟨_, us.toArray, _, hk, rfl, rfl, rfl, by rw [List.size_toArray, lu]; exact hl, by simpa using rv⟩
  have hok : HOk P w (entryH K a o ns) s.heap := fun b u z => by
    obtain ⟨rfl, _, rfl⟩ := entryH_some z
    subst ho
    show s.heap.get? b = some _ ∧ _
    exact ⟨obj, by rw [List.length_map]; exact hl, us, _, rv, obj⟩
  have keep : ∀ {b : Addr} {o' : Obj}, s.heap.get? b = some o' → entryH K a o ns b = none → (hidT s.heap (entryH K a o ns)).get? b = some o' := fun e n => hidT_get e n
  have nodict : ∀ {b : Addr} {o' : Obj} {es : Array DictEntry} {ep : Nat}, s.heap.get? b = some o' → o'.data = .dict es ep → entryH K a o ns b = none := fun {b o' es ep} e d => by
    cases q : entryH K a o ns b with
    | none => rfl
    | some u =>
      obtain ⟨rfl, _, _⟩ := entryH_some q
      rw [obj] at e
      cases e
      subst ho
      cases d
  have ns' : ∀ {b : Addr} {m : Str → Option Value}, s.heap.Ns b m → (hidT s.heap (entryH K a o ns)).Ns b m := fun ⟨o', es, ep, e, d, r⟩ => ⟨o', es, ep, keep e (nodict e d), d, r⟩
  have kb : K.In (hidT s.heap (entryH K a o ns)) := fun b o' e => keep (kin b o' e) (by
    cases q : entryH K a o ns b with
    | none => rfl
    | some u =>
      obtain ⟨rfl, z, _⟩ := entryH_some q
      rw [z] at e; cases e)
  have md : Mod K mg (hidT s.heap (entryH K a o ns)) := ⟨kb, ns' nm, ⟨mb, ns' nb, bb⟩, let ⟨m, h1, h2⟩ := nl; ⟨m, ns' h1, h2⟩⟩
  have e0 : Env0 P w K mg (hidT s.heap (entryH K a o ns)) callerA [] s (entryH K a o ns) := ⟨rfl, md, fun b o' e => of_hidT e, Nat.le_of_eq (hidT_size _ _), trivial, fun b hb => absurd (show b ∈ ([] : List Addr) from hb) (by simp), hok, .of_eq ng⟩
  refine codeAny_mono ((G _ kb (ns' nm)).run callerA [] s (entryH K a o ns) ⟨[.ref a], []⟩ [.ref a] [.ref a] _ _ rfl rm e0 (bd s (.ref a)) (.cons rfl .nil) (hsp _ sq)) fun r s2 done => ?_
  match r, done with
  | .ok (.ret u), ⟨v, H2, os, bare, un, hok2, ru, q⟩ =>
    replace q : v = .bl true := q
    subst q
    cases ru
    refine ⟨rfl, OldK.of_keep fun b o' e => ?_, os, bare⟩
    cases q : entryH K a o ns b with
    | none => exact un.keep b o' e q (fun z => by cases z) (by simp)
    | some u =>
      obtain ⟨rfl, _, rfl⟩ := entryH_some q
      obtain ⟨e1, _⟩ := hok2 b _ (un.frzs b o _ q)
      rw [obj] at e; cases e
      exact e1
/-- the goal that k_head leaves -/
theorem walkG {l : PySem.W.OpenLaw} {n k : Nat} {q : Program} {loose : List Str} {XP : (Str → Option Value) → Heap → Prop} {YP : World → Heap → Prop} {d : DefRec} {K : Params → PySem.W.Frag} {sp : PySem.W.Frag → Sp} {x : Str}
    (hn : l.most = some n) (hn2 : n ≤ sizeLine) (hdf : d.params.defaults = []) (rm : Room k callerA) (hY : ∀ (w : World) (h : Heap), YP w h → (K w.params).In h)
    (F : ∀ (w : World) (mg : Str → Option Value) (fa : Addr) (h : Heap), (K w.params).In h → h.Ns mainGlobals mg → mg d.name = some (.ref fa) →
      ∃ fd : FuncData, (∀ (s : Shared) (u : Value), BindsTo s fd ⟨[u], []⟩ [(x, u)]) ∧ ∀ base : Heap, (K w.params).In base → base.Ns mainGlobals mg → FnG l.prog w (K w.params) mg base CX0 k fa fd [x] (sp (K w.params)))
    (hsp : ∀ (w : World) (H : Hp) (a : Addr) (ns : List Int), ns.length ≤ n → SqL (K w.params) H a (ns.map V.int) → sp (K w.params) [.ref a] H (fun v _ => v = .bl true) E0) :
    PySem.W.WalkO q loose XP YP l.row.toRowW d [] (fun f vs => PySem.call f vs) :=
  Att.attach_call hn hdf fun w _ s1 mg mb fa o pm cd doc a vs ns G Y _ _ _ hmg hobj hints hlen hg =>
    have kin := hY w _ Y
    let ⟨_, hb, hF⟩ := F w mg fa _ kin G.T.g hmg
    headG kin G.T.g G.T.b G.T.builtins G.T.nolimit hg hobj hints (Nat.le_trans hlen hn2) rm hF hb fun H hS => hsp w H a ns hlen hS
end Z

set_option Elab.async false
set_option linter.all false
set_option maxRecDepth 100000
set_option autoImplicit false
/-! # Z7: defs by their mirrors, calls of them; the source of choices handed on -/
namespace Z
open PySem L2

/-- the promise of a def that changes nothing -/
def spP (K : PySem.W.Frag) (n : Nat) (fm : List D → R D) : Sp := fun vs H Q _ => ∃ F ds r, vs.length = n ∧ Same F H ∧ RpAll K F vs ds ∧ fm ds = .ok r ∧ ∀ v H' F', Fx F H F' H' → Rp K F' v r → Q v H'
structure FnP (C : Ct) (n : Str) (k : Nat) (fm : List D → R D) : Prop where
  ex : ∃ f fd ps j, j ≤ C.k ∧ FnG C.P C.w C.K C.mg C.base CX0 j f fd ps (spP C.K k fm) ∧ C.mg n = some (.ref f) ∧ PySem.W.keepIn C.K (.ref f) = true ∧ Binds C.K fd ps []

/-- what is changed lies at as alone -/
structure Gx (F H F' H' : Hp) (as : List Addr) : Prop where
  ff : Same F F'
  fh : Same F' H'
  hh : ∀ b o, H b = some o → b ∉ as → H' b = some o
  trk : ∀ b o, H b = some o → ∃ o', H' b = some o'
  new : ∀ b o, F' b = some o → F b = some o ∨ H b = none ∨ b ∈ as
theorem Gx.none {F H F' H' : Hp} {as : List Addr} (x : Gx F H F' H' as) {p : Addr} {u : HO} (hf : F p = none) (h : H p = some u) (hn : p ∉ as) : F' p = none := by
  cases q : F' p with
  | none => rfl
  | some o =>
    rcases x.new p o q with z | z | z
    · rw [hf] at z; cases z
    · rw [h] at z; cases z
    · exact absurd z hn
theorem SlR.gstep {K : PySem.W.Frag} {F H F' H' : Hp} {bs : List Addr} (x : Gx F H F' H' bs) : ∀ {sl : Sl} {v : V} {as : List Addr}, SlR K F H sl v as → (∀ b ∈ as, b ∉ bs) → SlR K F' H' sl v as
  | .val d, v, as, ⟨h, e⟩, _ => ⟨h.mono x.ff, e⟩
  | .own xs, v, as, ⟨p, vs, e1, e2, h, hf, r⟩, n => ⟨p, vs, e1, e2, x.hh _ _ h (n p (by rw [e2]; simp)), x.none hf h (n p (by rw [e2]; simp)), r.mono x.ff⟩
  | .src a s, v, as, ⟨c, e1, e2, ne, ha, hc, h1, h2, l⟩, n => ⟨c, e1, e2, ne, x.none ha h1 (n a (by rw [e2]; simp)), x.none hc h2 (n c (by rw [e2]; simp)), x.hh _ _ h1 (n a (by rw [e2]; simp)), x.hh _ _ h2 (n c (by rw [e2]; simp)), l⟩
  | .scr ns, v, as, ⟨a, e1, h, l, e2⟩, n => ⟨a, e1, x.ff.seq h, l, e2⟩
  | .fn _, v, as, h, _ => h
  | .dct kvs, v, as, ⟨p, o, xs, e1, e2, h, hf, r⟩, n => ⟨p, o, xs, e1, e2, x.hh _ _ h (n p (by rw [e2]; simp)), x.none hf h (n p (by rw [e2]; simp)), r.mono x.ff⟩
  | .dck kvs, v, as, ⟨p, kv, e1, e2, h, hf, r⟩, n => ⟨p, kv, e1, e2, x.hh _ _ h (n p (by rw [e2]; simp)), x.none hf h (n p (by rw [e2]; simp)), r.mono x.ff⟩
theorem SlR.there {K : PySem.W.Frag} {F H : Hp} {sl : Sl} {v : V} {as : List Addr} (h : SlR K F H sl v as) : ∀ b ∈ as, F b = none ∧ ∃ o, H b = some o := by
  intro b hb
  cases sl with
  | val d => rw [h.2] at hb; cases hb
  | own xs =>
    obtain ⟨p, vs, _, e2, h1, hf, _⟩ := h
    rw [e2] at hb
    have : b = p := by simpa using hb
    subst this; exact ⟨hf, _, h1⟩
  | src a s =>
    obtain ⟨c, _, e2, _, ha, hc, h1, h3, _⟩ := h
    rw [e2] at hb
    have : b = a ∨ b = c := by simpa using hb
    rcases this with rfl | rfl
    · exact ⟨ha, _, h1⟩
    · exact ⟨hc, _, h3⟩
  | scr ns =>
    obtain ⟨_, _, _, _, e2⟩ := h
    rw [e2] at hb; cases hb
  | fn _ => rw [h.2] at hb; cases hb
  | dct kvs =>
    obtain ⟨p, _, xs, _, e2, h1, hf, _⟩ := h
    rw [e2] at hb
    have : b = p := by simpa using hb
    subst this; exact ⟨hf, _, h1⟩
  | dck kvs =>
    obtain ⟨p, xs, _, e2, h1, hf, _⟩ := h
    rw [e2] at hb
    have : b = p := by simpa using hb
    subst this; exact ⟨hf, _, h1⟩
theorem Rel.slot {W : Wd} {ρ : Env} {σ : L2.St} {H F : Hp} (r : Rel W ρ σ H F) {i : Nat} {sl : Sl} (e : ρ[i]? = some (some sl)) : ∃ v as, σ[i]? = some (some v) ∧ SlR W.K F H sl v as ∧ (∀ b ∈ as, b ∈ W.io ∨ W.H0 b = none) ∧
    ∀ {F' H' : Hp} {sl' : Sl} {as' : List Addr} , Gx F H F' H' as → SlR W.K F' H' sl' v as' → (∀ b ∈ as', b ∈ as ∨ H b = none) → Rel W (ρ.set i (some sl')) σ H' F' := by
  obtain ⟨ad, k⟩ := r.env
  obtain ⟨v, h1, h2, h3, h4⟩ := k i sl e
  have up : ∀ b, H b = none → W.H0 b = none := fun b h => by
    cases e : W.H0 b with
    | none => rfl
    | some u => obtain ⟨o, q⟩ := r.trk b u e; rw [h] at q; cases q
  refine ⟨v, ad i, h1, h2, h3, fun {F' H' sl' as'} gx hs hn => ?_⟩
  refine ⟨gx.fh, r.sub0.trans gx.ff, fun b o h n => gx.hh b o (r.keep b o h n) fun hb => ?_, fun b o h => ?_, ⟨fun j => if j = i then as' else ad j, fun j slj ej => ?_⟩, by rw [List.length_set]; exact r.len, fun b o h => ?_⟩
  · rcases h3 b hb with q | q
    · exact n q
    · rw [h] at q; cases q
  · rcases gx.new b o h with q | q | q
    · exact r.fresh b o q
    · exact .inr (.inl (up b q))
    · exact .inr ((h3 b q).elim .inr .inl)
  · rcases get_set ej with ⟨e1, e2, e3⟩ | ⟨e1, e2⟩
    · subst e1; cases e3
      simp only [if_true]
      refine ⟨v, h1, hs, fun b hb => (hn b hb).elim (h3 b) fun q => .inr (up b q), fun l sl'' hl e' b hb => ?_⟩
      have ne : l ≠ i := fun q => hl q.symm
      simp only [if_neg ne]
      rcases get_set e' with ⟨z1, _, _⟩ | ⟨z1, z2⟩
      · exact absurd z1 hl
      · intro hbl
        obtain ⟨v', k1, k2, _, k4⟩ := k l sl'' z2
        rcases hn b hb with q | q
        · exact h4 l sl'' hl z2 b q hbl
        · obtain ⟨_, o, q'⟩ := k2.there b hbl
          rw [q] at q'; cases q'
    · have ne : j ≠ i := fun q => e1 q.symm
      simp only [if_neg ne]
      obtain ⟨v', k1, k2, k3, k4⟩ := k j slj e2
      refine ⟨v', k1, k2.gstep gx (k4 i sl ne e), k3, fun l sl'' hl e' b hb => ?_⟩
      rcases get_set e' with ⟨z1, z2, z3⟩ | ⟨z1, z2⟩
      · subst z1; cases z3
        simp only [if_true]
        intro hbl
        rcases hn b hbl with q | q
        · exact k4 i sl ne e b hb q
        · obtain ⟨_, o, q'⟩ := k2.there b hb
          rw [q] at q'; cases q'
      · have ne' : l ≠ i := fun q => z1 q.symm
        simp only [if_neg ne']
        exact k4 l sl'' hl z2 b hb
  · obtain ⟨o', q⟩ := r.trk b o h
    exact gx.trk b o' q
/-- the promise of a def whose first argument is the source -/
def spS (K : PySem.W.Frag) (n : Nat) (fm : Src → List D → R (D × Src)) : Sp := fun vs H Q _ => ∃ F a s as ws ds r s', vs = .ref a :: ws ∧ ws.length = n ∧ Same F H ∧ SlR K F H (.src a s) (.ref a) as ∧ RpAll K F ws ds ∧ fm s ds = .ok (r, s') ∧
  ∀ v H' F' as', Gx F H F' H' as → SlR K F' H' (.src a s') (.ref a) as' → (∀ b ∈ as', b ∈ as ∨ H b = none) → Rp K F' v r → Q v H'
structure FnS (C : Ct) (n : Str) (k : Nat) (fm : Src → List D → R (D × Src)) : Prop where
  ex : ∃ f fd ps j, j ≤ C.k ∧ FnG C.P C.w C.K C.mg C.base CX0 j f fd ps (spS C.K k fm) ∧ C.mg n = some (.ref f) ∧ PySem.W.keepIn C.K (.ref f) = true ∧ Binds C.K fd ps []

section
variable {α : Type} {C : Ct} {ρ : Env} {m : R α}
theorem fnAt {C : Ct} {X : Cx} (x : XOk C X) {CX : CXT} {j : Nat} {f : Addr} {fd : FuncData} {ps : List Str} {sp : Sp} (h : FnG C.P C.w C.K C.mg C.base CX j f fd ps sp) (hj : j ≤ C.k) : FnG X.prog X.w X.K X.mg X.base CX C.k f fd ps sp := by
  rw [x.prog, x.w, x.K, x.mg, x.base]; exact h.mono hj
theorem de_call {κ : D → Env → R α → Prop} {n : Str} {k : Nat} {fm : List D → R D} {p pos : Pos} {e : Expr} {es : List Expr} (G : FnP C n k fm)
    (h : DA C ρ (e :: es) m fun ds ρ1 m1 => ds.length = k ∧ ∃ (rr : R D) (g : D → R α), fm ds = rr ∧ m1 = rr.bind g ∧ ∀ r, κ r ρ1 (g r)) (hg : C.sc.names.lookup n = some .globalImplicit := by rfl) (hdb : (n == ("__debug__" : Str)) = false := by decide)
    (he : ∀ env : PySem.Env, starEach (e :: es) env = (false, eval e env) :: starEach es env := by intro _; rfl) (hpl : ∀ env : PySem.Env, (backTo pos (starEach es env)).any (·.1) = false := by intro _; rfl) : DE C ρ (.Call (.Name n p) (e :: es) [] pos) m κ := by
  intro X W Z x hK c z
  obtain ⟨f, fd, ps, j, hj, ok, hm, kp, b⟩ := G.ex
  refine PE_imp (pe_callG (fnAt x ok hj) x.grd x.room (x.gl hg) (by rw [x.mg]; exact hm) (by rw [x.K]; exact kp) (by rw [x.K]; exact b) pass0 (h X W Z x hK c z) hdb (he _) (hpl _)) fun σ H Q ⟨F, r, q⟩ => ⟨F, r, fun ds ρ' m' vs H' F' ⟨hl, r0, g, e0, e1, hg⟩ h2 h3 h4 h5 => ?_⟩
  subst e0 e1
  obtain ⟨rr, er, zr⟩ := c.bind h2
  show spP C.K k fm vs H' Q E0
  exact ⟨F', ds, rr, by rw [h5.length]; exact hl, h3.sub, by rw [← hK]; exact h5, er, fun v H2 F2 fx p => q _ ρ' _ v H2 F2 (hg rr) zr (h3.step fx) (h4.trans fx.ff) (by rw [hK]; exact p)⟩
/-- f(source, ..) -/
theorem de_callS {κ : D → Env → R α → Prop} {n x0 : Str} {k : Nat} {fm : Src → List D → R (D × Src)} {p p0 pos : Pos} {es : List Expr} (i : Nat) {a0 : Addr} {s0 : Src} (G : FnS C n k fm) (hρ : ρ[i]? = some (some (.src a0 s0)))
    (h : DA C ρ es m fun ds ρ1 m1 => ds.length = k ∧ ∃ (s : Src) (r0 : R (D × Src)) (g : D × Src → R α), ρ1[i]? = some (some (.src a0 s)) ∧ fm s ds = r0 ∧ m1 = r0.bind g ∧ ∀ r s', κ r (ρ1.set i (some (.src a0 s'))) (g (r, s'))) (hN : C.N[i]? = some x0 := by rfl)
    (hv : Vis C.sc x0 := by first | exact Or.inl rfl | exact Or.inr (Or.inl rfl) | exact Or.inr (Or.inr rfl)) (hg : C.sc.names.lookup n = some .globalImplicit := by rfl) (hdb : (n == ("__debug__" : Str)) = false := by decide) (hd : (x0 == ("__debug__" : Str)) = false := by decide) (hcd : (x0 == ("__classdict__" : Str)) = false := by decide)
    (he : ∀ env : PySem.Env, starEach (.Name x0 p0 :: es) env = (false, eval (.Name x0 p0) env) :: starEach es env := by intro _; rfl) (hpl : ∀ env : PySem.Env, (backTo pos (starEach es env)).any (·.1) = false := by intro _; rfl) : DE C ρ (.Call (.Name n p) (.Name x0 p0 :: es) [] pos) m κ := by
  intro X W Z x hK c z
  obtain ⟨f, fd, ps, j, hj, ok, hm, kp, b⟩ := G.ex
  have pa := pa_cons (pe_var (i := i) (pos := p0) (by rw [x.N]; exact hN) (x.vis hv) hd hcd) (h X W Z x hK c z) (he _)
  refine PE_imp (pe_callG (fnAt x ok hj) x.grd x.room (x.gl hg) (by rw [x.mg]; exact hm) (by rw [x.K]; exact kp) (by rw [x.K]; exact b) pass0 pa hdb (he _) (hpl _)) fun σ H Q ⟨F, r, q⟩ => ?_
  obtain ⟨v0, as0, e0, _, _, _⟩ := r.slot hρ
  refine ⟨v0, e0, F, r, fun ds ρ' m' vs H' F' ⟨hl, s, r0, g, es', e00, e1, hg⟩ h2 h3 h4 h5 => ?_⟩
  subst e00 e1
  obtain ⟨⟨rr, s'⟩, er, zr⟩ := c.bind h2
  show spS C.K k fm (v0 :: vs) H' Q E0
  obtain ⟨v1, as, e2, hsl, _, up⟩ := h3.slot es'
  rw [e0] at e2; cases e2
  obtain ⟨cc, ev, rest⟩ := id hsl
  subst ev
  refine ⟨F', a0, s, as, vs, ds, rr, s', rfl, by rw [h5.length]; exact hl, h3.sub, by rw [← hK]; exact hsl, by rw [← hK]; exact h5, er, fun v H2 F2 as' gx hs hn pv => ?_⟩
  exact q _ _ _ v H2 F2 (hg rr s') zr (up gx (by rw [hK]; exact hs) hn) (h4.trans gx.ff) (by rw [hK]; exact pv)

/-! ### a def's body -/
def Jf : Jd D := { nx := fun _ m => m = .ok .none, rt := fun d _ m => m = .ok d, bk := fun _ _ => False, ct := fun _ _ => False }
def JfS (a : Addr) : Jd (D × Src) := { nx := fun ρ m => ∃ s, ρ[0]? = some (some (.src a s)) ∧ m = .ok (.none, s), rt := fun d ρ m => ∃ s, ρ[0]? = some (some (.src a s)) ∧ m = .ok (d, s), bk := fun _ _ => False, ct := fun _ _ => False }
def startE (N : List Str) (sls : List Sl) : Env := sls.map some ++ List.replicate (N.length - sls.length) none
theorem startE_get {N : List Str} {sls : List Sl} {i : Nat} {sl : Sl} (h : (startE N sls)[i]? = some (some sl)) : sls[i]? = some sl := by
  unfold startE at h
  by_cases hi : i < sls.length
  · rw [List.getElem?_append_left (by simpa using hi), List.getElem?_map] at h
    cases e : sls[i]? with
    | none => rw [e] at h; cases h
    | some u => rw [e] at h; cases h; rfl
  · rw [List.getElem?_append_right (by simpa using hi), List.getElem?_replicate] at h
    split at h <;> cases h
theorem start_get {N : List Str} {vs : List V} {i : Nat} {v : V} (h : vs[i]? = some v) : (start N vs)[i]? = some (some v) := by
  unfold L2.start
  obtain ⟨hl, e⟩ := List.getElem?_eq_some_iff.mp h
  rw [List.getElem?_append_left (by simpa using hl), List.getElem?_map, h]; rfl
theorem fnP_of {P : Program} {w : World} {K : PySem.W.Frag} {mg : Str → Option Value} {base : Heap} {x qual : Str} {st : Stmt} {f : Addr} {fd : FuncData} {N ps : List Str} {k n : Nat} {fm : List D → R D} (F : Fun K x qual st f fd) (S : FnScope N ps (defScope st)) (hn : ps.length = n)
    (h : ∀ ds : List D, ds.length = n → DSs ⟨P, w, K, mg, base, k, N, defScope st, fun _ => true⟩ (startE N (ds.map .val)) (defBody st) (fm ds) Jf) : FnG P w K mg base CX0 (k + 1) f fd ps (spP K n fm) := by
  refine okG F S (fun vs H Q E h => ?_) (fun cdv A outer s H vs Q E gd hr hsp => ?_)
  · obtain ⟨_, _, _, hl, _⟩ := h
    rw [hl, hn]
  · obtain ⟨F0, ds, r, hl, sub, rd, er, q⟩ := hsp
    have hds : ds.length = n := by rw [← rd.length]; exact hl
    have xo : XOk ⟨P, w, K, mg, base, k, N, defScope st, fun _ => true⟩ (cxOf CX0 P w K mg base N qual (defScope st) f cdv A outer s H E).nox :=
      ⟨rfl, rfl, rfl, rfl, rfl, rfl, S.nd, rfl, rfl, hr, gd, PassesOwn.never, fun _ _ => rfl⟩
    have cl : Cl fun r' : R D => r' = .ok r := ⟨(fun e => nomatch e), (fun _ _ e => nomatch e)⟩
    refine ⟨_, (h ds hds _ ⟨K, F0, H, []⟩ _ xo rfl cl.x er).nox, F0, ?_, ⟨fun ρ m σ H' F' h1 h2 h3 => ?_, fun d ρ m v σ H' F' h1 h2 h3 h4 => ?_, fun _ _ _ _ _ h => h.elim, fun _ _ _ _ _ h => h.elim, fun _ _ _ _ _ _ _ h => h.elim⟩⟩
    · refine VRel.rel (K := K) ⟨fun i d e => ?_, ?_⟩ (fun i sl e => ?_) sub
      · have e1 := startE_get e
        rw [List.getElem?_map] at e1
        cases e2 : ds[i]? with
        | none => rw [e2] at e1; cases e1
        | some d' =>
          rw [e2] at e1; cases e1
          obtain ⟨v, h1, h2⟩ := rd.at e2
          exact ⟨v, start_get h1, h2⟩
      · unfold startE L2.start; simp; omega
      · have e1 := startE_get e
        rw [List.getElem?_map] at e1
        cases e2 : ds[i]? with
        | none => rw [e2] at e1; cases e1
        | some d' => rw [e2] at e1; cases e1; exact ⟨d', rfl⟩
    · rw [h2] at h1; cases h1
      exact q .non H' F' h3.fx .non
    · rw [h2] at h1; cases h1
      exact q v H' F' h3.fx h4
theorem fnS_of {P : Program} {w : World} {K : PySem.W.Frag} {mg : Str → Option Value} {base : Heap} {x qual : Str} {st : Stmt} {f : Addr} {fd : FuncData} {N ps : List Str} {k n : Nat} {fm : Src → List D → R (D × Src)} (F : Fun K x qual st f fd) (S : FnScope N ps (defScope st)) (hn : ps.length = n + 1)
    (h : ∀ (a : Addr) (s : Src) (ds : List D), ds.length = n → DSs ⟨P, w, K, mg, base, k, N, defScope st, fun _ => true⟩ (startE N (.src a s :: ds.map .val)) (defBody st) (fm s ds) (JfS a)) : FnG P w K mg base CX0 (k + 1) f fd ps (spS K n fm) := by
  refine okG F S (fun vs H Q E h => ?_) (fun cdv A outer s H vs Q E gd hr hsp => ?_)
  · obtain ⟨_, _, _, _, ws, _, _, _, e, hl, _⟩ := h
    rw [e, List.length_cons, hl, hn]
  · obtain ⟨F0, a, so, as, ws, ds, r, s', e0, hl, sub, hsl, rd, er, q⟩ := hsp
    subst e0
    have hds : ds.length = n := by rw [← rd.length]; exact hl
    have xo : XOk ⟨P, w, K, mg, base, k, N, defScope st, fun _ => true⟩ (cxOf CX0 P w K mg base N qual (defScope st) f cdv A outer s H E).nox :=
      ⟨rfl, rfl, rfl, rfl, rfl, rfl, S.nd, rfl, rfl, hr, gd, PassesOwn.never, fun _ _ => rfl⟩
    have cl : Cl fun r' : R (D × Src) => r' = .ok (r, s') := ⟨(fun e => nomatch e), (fun _ _ e => nomatch e)⟩
    have fin : ∀ {ρ : Env} {σ : L2.St} {H' F' : Hp} {v : V}, Rel ⟨K, F0, H, as⟩ ρ σ H' F' → ρ[0]? = some (some (.src a s')) → Rp K F' v r → Q v H' := fun {ρ σ H' F' v} rl e pv => by
      obtain ⟨v1, as', e1, h1, h2, _⟩ := rl.slot e
      obtain ⟨_, ev, _⟩ := id h1
      subst ev
      exact q v H' F' as' ⟨rl.sub0, rl.sub, fun b o h n => rl.keep b o h n, rl.trk, rl.fresh⟩ h1 h2 pv
    refine ⟨_, (h a so ds hds _ ⟨K, F0, H, as⟩ _ xo rfl cl.x er).nox, F0, ?_, ⟨fun ρ m σ H' F' ⟨s2, e1, e2⟩ h2 h3 => ?_, fun d ρ m v σ H' F' ⟨s2, e1, e2⟩ h2 h3 h4 => ?_, fun _ _ _ _ _ h => h.elim, fun _ _ _ _ _ h => h.elim, fun _ _ _ _ _ _ _ h => h.elim⟩⟩
    · refine ⟨sub, Same.refl _, fun b o h _ => h, fun b o h => .inl h, ⟨fun i => if i = 0 then as else [], fun i sl e => ?_⟩, by unfold startE L2.start; simp; omega, fun b o h => ⟨o, h⟩⟩
      have e1 := startE_get e
      cases i with
      | zero =>
        have e2 : sl = .src a so := by simpa using e1.symm
        subst e2
        refine ⟨.ref a, start_get rfl, hsl, fun b hb => .inl hb, fun j sl' hj e' b hb => ?_⟩
        have ne : j ≠ 0 := fun q => hj q.symm
        simp [ne]
      | succ i =>
        have e2 : (ds.map Sl.val)[i]? = some sl := by simpa using e1
        rw [List.getElem?_map] at e2
        cases e3 : ds[i]? with
        | none => rw [e3] at e2; cases e2
        | some d' =>
          rw [e3] at e2; cases e2
          obtain ⟨v, h1, h2⟩ := rd.at e3
          refine ⟨v, start_get (by simpa using h1), ⟨h2, by simp⟩, by simp, by simp⟩
    · rw [h2] at e2; cases e2
      exact fin h3 e1 .non
    · rw [h2] at e2; cases e2
      exact fin h3 e1 h4
end
end Z

set_option Elab.async false
set_option linter.all false
set_option maxRecDepth 100000
set_option autoImplicit false
/-! # ZD: dicts whose keys are nested tuples of whole numbers -/
namespace Z
open PySem L2

/-! ### keys -/
mutual
theorem nk_hash (w w' : World) : ∀ (d : D) (k : NestedKey), nk d = some k → k.hash w = k.hash w'
  | .int i, k, h => by simp only [nk, Option.some.injEq] at h; subst h; rfl
  | .tuple xs, k, h => by
    simp only [nk] at h
    obtain ⟨ks, e, rfl⟩ := Option.map_eq_some_iff.mp h
    simp only [NestedKey.hash]
    rw [nkAll_hash w w' xs ks e]
  | .none, k, h => by simp [nk] at h
  | .bool _, k, h => by simp [nk] at h
  | .str _, k, h => by simp [nk] at h
  | .list _, k, h => by simp [nk] at h
  | .dict _, k, h => by simp [nk] at h
theorem nkAll_hash (w w' : World) : ∀ (ds : List D) (ks : List NestedKey), nkAll ds = some ks → NestedKey.hashes w ks = NestedKey.hashes w' ks
  | [], ks, h => by simp only [nkAll, Option.some.injEq] at h; subst h; rfl
  | d :: ds, ks, h => by
    simp only [nkAll] at h
    obtain ⟨k, e1, h2⟩ := Option.bind_eq_some_iff.mp h
    obtain ⟨ks', e2, rfl⟩ := Option.map_eq_some_iff.mp h2
    simp only [NestedKey.hashes]
    rw [nk_hash w w' d k e1, nkAll_hash w w' ds ks' e2]
end
mutual
theorem nk_inj : ∀ (d e : D) (k : NestedKey), nk d = some k → nk e = some k → d = e
  | .int i, e, k, h, h' => by
    simp only [nk, Option.some.injEq] at h; subst h
    cases e with
    | int j => simp only [nk, Option.some.injEq, NestedKey.num.injEq] at h'; rw [h']
    | tuple ys =>
      simp only [nk] at h'
      obtain ⟨_, _, q⟩ := Option.map_eq_some_iff.mp h'
      cases q
    | _ => simp [nk] at h'
  | .tuple xs, e, k, h, h' => by
    simp only [nk] at h
    obtain ⟨ks, e1, rfl⟩ := Option.map_eq_some_iff.mp h
    cases e with
    | tuple ys =>
      simp only [nk] at h'
      obtain ⟨ks', e2, q⟩ := Option.map_eq_some_iff.mp h'
      cases q
      rw [nkAll_inj xs ys ks e1 e2]
    | int j => simp [nk] at h'
    | _ => simp [nk] at h'
  | .none, _, k, h, _ => by simp [nk] at h
  | .bool _, _, k, h, _ => by simp [nk] at h
  | .str _, _, k, h, _ => by simp [nk] at h
  | .list _, _, k, h, _ => by simp [nk] at h
  | .dict _, _, k, h, _ => by simp [nk] at h
theorem nkAll_inj : ∀ (ds es : List D) (ks : List NestedKey), nkAll ds = some ks → nkAll es = some ks → ds = es
  | [], es, ks, h, h' => by
    simp only [nkAll, Option.some.injEq] at h; subst h
    cases es with
    | nil => rfl
    | cons e es =>
      simp only [nkAll] at h'
      obtain ⟨_, _, h2⟩ := Option.bind_eq_some_iff.mp h'
      obtain ⟨_, _, q⟩ := Option.map_eq_some_iff.mp h2
      cases q
  | d :: ds, es, ks, h, h' => by
    simp only [nkAll] at h
    obtain ⟨k, e1, h2⟩ := Option.bind_eq_some_iff.mp h
    obtain ⟨ks', e2, rfl⟩ := Option.map_eq_some_iff.mp h2
    cases es with
    | nil => simp [nkAll] at h'
    | cons e es =>
      simp only [nkAll] at h'
      obtain ⟨_, f1, g2⟩ := Option.bind_eq_some_iff.mp h'
      obtain ⟨_, f2, q⟩ := Option.map_eq_some_iff.mp g2
      cases q
      rw [nk_inj d e k e1 f1, nkAll_inj ds es ks' e2 f2]
end
theorem keyN_nk {d : D} {k : NestedKey} (h : keyN d = some k) : nk d = some k ∧ k.depth ≤ 8 ∧ ∃ xs, d = .tuple xs := by
  unfold keyN at h
  split at h
  · obtain ⟨k', e1, h2⟩ := Option.bind_eq_some_iff.mp h
    split at h2
    · rename_i hz; cases h2
      exact ⟨e1, by simpa using hz, _, rfl⟩
    · cases h2
  · cases h

section
variable {X : Cx} {pins : List (Addr × Obj)} {σ : L2.St} {H F : Hp} {s : Shared}
mutual
theorem nkIs (I : Inv X pins σ H s) (e : Same F H) : ∀ {v : V} {d : D}, Rp X.K F v d → ∀ {u : Value} {k : NestedKey}, RelV v u → nk d = some k → NestedIs s.heap k u
  | _, _, .int i, u, k, r, h => by
    simp only [nk, Option.some.injEq] at h; subst h
    obtain ⟨t, rfl⟩ := r
    exact .int _ _
  | _, _, .tup ha _ ra, u, k, r, h => by
    simp only [nk] at h
    obtain ⟨ks, e1, rfl⟩ := Option.map_eq_some_iff.mp h
    cases r
    obtain ⟨its, rv, ⟨o, ho, hc, n, hd⟩, _⟩ := I.tuple (seqT e ha)
    exact .tup ho hc hd (by simpa using nkIsAll I e ra rv e1)
  | _, _, .non, u, k, r, h => by simp [nk] at h
  | _, _, .bl b, u, k, r, h => by simp [nk] at h
  | _, _, .str x, u, k, r, h => by simp [nk] at h
  | _, _, .lst _ _, u, k, r, h => by simp [nk] at h
  | _, _, .dct _ _ _ _, u, k, r, h => by simp [nk] at h
  | _, _, .dck _ _ _, u, k, r, h => by simp [nk] at h
theorem nkIsAll (I : Inv X pins σ H s) (e : Same F H) : ∀ {vs : List V} {ds : List D}, RpAll X.K F vs ds → ∀ {us : List Value} {ks : List NestedKey}, Vals vs us → nkAll ds = some ks → NestedAll s.heap ks us
  | _, _, .nil, us, ks, r, h => by
    simp only [nkAll, Option.some.injEq] at h; subst h
    cases r; exact .nil
  | _, _, .cons ra rt, us, ks, r, h => by
    simp only [nkAll] at h
    obtain ⟨k, e1, h2⟩ := Option.bind_eq_some_iff.mp h
    obtain ⟨ks', e2, rfl⟩ := Option.map_eq_some_iff.mp h2
    cases r with
    | cons r1 r2 => exact .cons (nkIs I e ra r1 e1) (nkIsAll I e rt r2 e2)
end
theorem key_is (I : Inv X pins σ H s) (e : Same F H) {b : Addr} {d : D} {k : NestedKey} (h : Rp X.K F (.ref b) d) (hk : nk d = some k) (hd : k.depth ≤ 8) : (nestedKind X.prog X.w).is s.heap k b := ⟨nkIs I e h rfl hk, hd⟩
theorem key_ref {K : PySem.W.Frag} {v : V} {d : D} {k : NestedKey} (h : Rp K F v d) (hk : keyN d = some k) : ∃ b, v = .ref b := by
  obtain ⟨_, _, xs, rfl⟩ := keyN_nk hk
  cases h with | tup a _ b => exact ⟨_, rfl⟩
end

/-! ### entries -/
/-- an item (key, value) as data, an entry of the library's -/
def DR (K : PySem.W.Frag) (F : Hp) (p : D × D) (x : NestedKey × Addr × Value) : Prop := Rp K F (.ref x.2.1) p.1 ∧ nk p.1 = some x.1 ∧ ∃ v, RelV v x.2.2 ∧ Rp K F v p.2
theorem DR.mono {K : PySem.W.Frag} {F F' : Hp} (e : Same F F') {p : D × D} {x : NestedKey × Addr × Value} (h : DR K F p x) : DR K F' p x := by
  obtain ⟨a, b, v, c, d⟩ := h
  exact ⟨a.mono e, b, v, c, d.mono e⟩
theorem paired_imp {α β : Type} {R S : α → β → Prop} (f : ∀ a b, R a b → S a b) : ∀ {l : List α} {m : List β}, Paired R l m → Paired S l m
  | _, _, .nil => .nil
  | _, _, .cons h t => .cons (f _ _ h) (paired_imp f t)
theorem paired_len {α β : Type} {R : α → β → Prop} : ∀ {l : List α} {m : List β}, Paired R l m → l.length = m.length
  | _, _, .nil => rfl
  | _, _, .cons _ t => by simp [paired_len t]
theorem dget_rel {K : PySem.W.Frag} {F : Hp} {k : NestedKey} : ∀ {kvs : List (D × D)} {xs : List (NestedKey × Addr × Value)}, Paired (DR K F) kvs xs →
    (dGet kvs k = none ∧ atKey xs k = none) ∨ ∃ d b u v, dGet kvs k = some d ∧ atKey xs k = some (b, u) ∧ RelV v u ∧ Rp K F v d
  | _, _, .nil => .inl ⟨rfl, rfl⟩
  | _, _, .cons (a := p) (b := x) (l₁ := l1) (l₂ := l2) h t => by
    obtain ⟨h1, h2, v, h3, h4⟩ := h
    unfold dGet atKey
    rw [List.find?_cons, List.find?_cons]
    by_cases c : x.1 = k
    · subst c
      rw [decide_eq_true h2, decide_eq_true rfl]
      exact .inr ⟨p.2, x.2.1, x.2.2, v, rfl, rfl, h3, h4⟩
    · rw [decide_eq_false (show ¬ nk p.1 = some k from fun q => c (by rw [h2] at q; exact Option.some.inj q)), decide_eq_false c]
      exact dget_rel t
theorem dget_some {K : PySem.W.Frag} {F : Hp} {k : NestedKey} {kvs : List (D × D)} {xs : List (NestedKey × Addr × Value)} (r : Paired (DR K F) kvs xs) : (dGet kvs k).isSome = (atKey xs k).isSome := by
  rcases dget_rel (k := k) r with ⟨a, b⟩ | ⟨d, b, u, v, e1, e2, _, _⟩
  · rw [a, b]; rfl
  · rw [e1, e2]; rfl
theorem dset_rel {K : PySem.W.Frag} {F : Hp} {kvs : List (D × D)} {xs : List (NestedKey × Addr × Value)} {kd : D} {k : NestedKey} {b : Addr} {v : V} {u : Value} {d : D} (r : Paired (DR K F) kvs xs) (hb : Rp K F (.ref b) kd) (hk : nk kd = some k) (hv : RelV v u) (hd : Rp K F v d) :
    Paired (DR K F) (dSet kvs kd k d) (storedH xs k b u) := by
  unfold dSet storedH
  rw [dget_some r]
  split
  · have h0 : True := trivial
    clear hb hk h0
    rename_i hc; clear hc
    induction r with
    | nil => exact .nil
    | cons h t ih =>
      rename_i p x _ _
      obtain ⟨h1, h2, w, h3, h4⟩ := h
      rw [List.map_cons, List.map_cons]
      refine .cons ?_ ih
      unfold putAt
      by_cases c : x.1 = k
      · rw [if_pos c, if_pos (by rw [h2, c])]
        exact ⟨h1, h2, v, hv, hd⟩
      · rw [if_neg c, if_neg (fun q => c (by rw [h2] at q; exact Option.some.inj q))]
        exact ⟨h1, h2, w, h3, h4⟩
  · exact Paired.snoc r ⟨hb, hk, v, hv, hd⟩
theorem dset_length (kvs : List (D × D)) (kd : D) (k : NestedKey) (v : D) : (dSet kvs kd k v).length ≤ kvs.length + 1 := by
  unfold dSet; split <;> simp

theorem ents_kv {w : World} : ∀ {xs : List DEnt} {es : List DictEntry}, Paired (EntOk w) xs es → Vals (xs.map fun x => V.ref x.2.1) (es.map (·.key)) ∧ Vals (xs.map (·.2.2)) (es.map (·.val))
  | _, _, .nil => ⟨.nil, .nil⟩
  | _, _, .cons h t => ⟨.cons h.2.1 (ents_kv t).1, .cons h.2.2 (ents_kv t).2⟩
theorem flat_keys {K : PySem.W.Frag} {F : Hp} : ∀ kv : List (L2.Key × V), RpAll K F (kv.map fun k => kV k.1) (kv.map fun k => keyD k.1)
  | [] => .nil
  | (.inl i, _) :: t => .cons (.int i) (flat_keys t)
  | (.inr x, _) :: t => .cons (.str x) (flat_keys t)
theorem flat_kv {P : Program} {w : World} : ∀ {kv : List (L2.Key × V)} {vs : List (L2.Key × Value)} {es : List DictEntry}, KV kv vs → Pairs (mixKind P w) es vs → Vals (kv.map fun k => kV k.1) (es.map (·.key)) ∧ Vals (kv.map (·.2)) (es.map (·.val))
  | _, _, _, .nil, .nil => ⟨.nil, .nil⟩
  | _, _, _, .cons (a := p) (b := q) h t, .cons (e := e) h1 h2 h3 => by
    have k : RelV (kV p.1) e.key := by rw [h.1]; exact relV_key (show keyIs _ _ = true from h1)
    have v : RelV p.2 e.val := by rw [h2]; exact h.2
    exact ⟨.cons k (flat_kv t h3).1, .cons v (flat_kv t h3).2⟩
section
variable {X : Cx} {pins : List (Addr × Obj)} {σ : L2.St} {H F : Hp} {s : Shared}
theorem ents (I : Inv X pins σ H s) (e : Same F H) (w : World) : ∀ {xs : List DEnt} {ks ds : List D} {es : List DictEntry}, RpAll X.K F (xs.map fun x => .ref x.2.1) ks → nkAll ks = some (xs.map (·.1)) → RpAll X.K F (xs.map fun x => x.2.2) ds → Paired (EntOk w) xs es → (∀ x ∈ xs, x.1.depth ≤ 8) →
    ∃ ys : List (NestedKey × Addr × Value), es = ys.map (entryOfKey (nestedKind X.prog X.w)) ∧ ys.map (·.1) = xs.map (·.1) ∧ Paired (DR X.K F) (ks.zip ds) ys ∧ ∀ x ∈ ys, (nestedKind X.prog X.w).is s.heap x.1 x.2.1
  | [], ks, ds, es, hk, hn, hd, hp, hz => by
    cases hk; cases hd; cases hp
    exact ⟨[], rfl, rfl, .nil, by simp⟩
  | x :: xs, ks, ds, es, hk, hn, hd, hp, hz => by
    simp only [List.map_cons] at hk hn hd
    cases hk with
    | cons k1 k2 =>
      rename_i kd ks
      cases hd with
      | cons d1 d2 =>
        rename_i dd ds
        cases hp with
        | cons p1 p2 =>
          rename_i en es
          simp only [nkAll] at hn
          obtain ⟨k, e1, h2⟩ := Option.bind_eq_some_iff.mp hn
          obtain ⟨ks', e2, q⟩ := Option.map_eq_some_iff.mp h2
          cases q
          obtain ⟨ys, y1, y2, y3, y4⟩ := ents I e w k2 e2 d2 p2 fun x hx => hz x (by simp [hx])
          obtain ⟨q1, q2, q3⟩ := p1
          have ki := key_is I e k1 e1 (hz x (by simp))
          refine ⟨(x.1, x.2.1, en.val) :: ys, ?_, by rw [List.map_cons, y2, List.map_cons], ?_, fun z hz' => ?_⟩
          · rw [List.map_cons, ← y1]
            congr 1
            cases en
            simp only at q1 q2
            subst q1 q2
            unfold entryOfKey nestedKind
            simp only
            rw [nk_hash w X.w _ _ e1]
          · rw [List.zip_cons_cons]
            exact .cons ⟨k1, e1, x.2.2, q3, d1⟩ y3
          · rcases List.mem_cons.mp hz' with rfl | hz'
            · exact ki
            · exact y4 z hz'
/-- what is told of a dict with flat keys -/
theorem dck_at (I : Inv X pins σ H s) (e : Same F H) {a : Addr} {kv : List (L2.Key × V)} (h : Rd F a (.dK kv)) : kv.length ≤ sizeLine ∧ (a == sysModules) = false ∧ ∃ vs, KV kv vs ∧ s.heap.DictOf (mixKind X.prog X.w) a vs :=
  dk_rd I.hok (h.elim (fun h => .inl (e _ _ h)) fun ⟨o, h⟩ => .inr ⟨o, e _ _ h⟩)
theorem isTupK_keyD (k : L2.Key) : isTupK (keyD k) = false := by cases k <;> rfl
theorem keyF_keyD (k : L2.Key) : keyF (keyD k) = some k := by cases k <;> rfl
theorem keyF_tup {d : D} (h : isTupK d = true) : keyF d = none := by cases d <;> first | rfl | cases h
/-- a dict with tuples as keys is read -/
theorem dct_get (I : Inv X pins σ H s) (e : Same F H) {v : V} {kvs : List (D × D)} (h : Rp X.K F v (.dict kvs)) (hnk : nestK kvs = true) : ∃ a, v = .ref a ∧ (a == sysModules) = false ∧ kvs.length ≤ sizeLine ∧
    ∃ ys : List (NestedKey × Addr × Value), s.heap.DictOfH (nestedKind X.prog X.w) a ys ∧ Paired (DR X.K F) kvs ys ∧ ys.length = kvs.length := by
  generalize hd : PyData.dict kvs = d at h
  cases h with
  | non | bl | int | str | lst | tup => cases hd
  | dct hF hk hn hv =>
    rename_i a o xs ks ds
    cases hd
    obtain ⟨⟨z1, z2, z3, z4, w, es, ep, ho, hx, hd, pr⟩, _⟩ := (show ObjOk X.prog X.w H s.heap a (dctO a o xs) from I.hok a _ (e _ _ hF))
    obtain ⟨ys, y1, y2, y3, y4⟩ := ents I e w hk hn hv pr z4
    have l1 := paired_len y3
    have l2 : ys.length = xs.length := by rw [← List.length_map (f := (·.1)), y2, List.length_map]
    exact ⟨a, rfl, z1, by omega, ys, ⟨o, es, ep, ho, hx, hd, y1, y4, by rw [y2]; exact z3⟩, y3, l1.symm⟩
  | dck hF hk hv =>
    rename_i a oo kv kvs'
    cases hd
    have e0 : kvs = [] := by
      cases kvs with
      | nil => rfl
      | cons p r =>
        cases kv with
        | nil => simp at hk
        | cons q t =>
          simp only [List.map_cons, List.cons.injEq] at hk
          simp only [nestK, List.all_cons, Bool.and_eq_true] at hnk
          have z := hnk.1
          rw [hk.1, isTupK_keyD] at z
          cases z
    subst e0
    obtain ⟨z, hs, vs, rel, o, es, ep, ho, hx, hd, hko, hp, hnd⟩ := dck_at I e (.inr ⟨_, hF⟩)
    have e1 : kv = [] := by simpa using hk.symm
    subst e1
    cases rel
    have e2 : es = #[] := by
      have l := hp.length
      simpa using l
    subst e2
    exact ⟨a, rfl, hs, Nat.zero_le _, [], ⟨o, #[], ep, ho, hx, hd, rfl, by simp, List.nodup_nil⟩, .nil, rfl⟩
/-- a dict with flat keys is read -/
theorem dck_get (I : Inv X pins σ H s) (e : Same F H) {v : V} {kvs : List (D × D)} (h : Rp X.K F v (.dict kvs)) (hfk : flatK kvs = true) : ∃ a, v = .ref a ∧ (a == sysModules) = false ∧ kvs.length ≤ sizeLine ∧
    ∃ kv vs, FcR X.K F kv kvs ∧ KV kv vs ∧ s.heap.DictOf (mixKind X.prog X.w) a vs := by
  generalize hd : PyData.dict kvs = d at h
  cases h with
  | non | bl | int | str | lst | tup => cases hd
  | dck hF hk hv =>
    rename_i a oo kv kvs'
    cases hd
    obtain ⟨z, hs, vs, rel, dd⟩ := dck_at I e (.inr ⟨_, hF⟩)
    have l : kvs.length = kv.length := by
      have := congrArg List.length hk
      simpa using this
    exact ⟨a, rfl, hs, by omega, kv, vs, ⟨hk, hv⟩, rel, dd⟩
  | dct hF hk hn hv =>
    rename_i a o xs ks ds
    cases hd
    obtain ⟨⟨z1, z2, z3, z4, w, es, ep, ho, hx, hd, pr⟩, _⟩ := (show ObjOk X.prog X.w H s.heap a (dctO a o xs) from I.hok a _ (e _ _ hF))
    have l1 := hk.length
    have l2 := hv.length
    cases xs with
    | nil =>
      have e0 : ks = [] := by simpa using l1.symm
      have e1 : ds = [] := by simpa using l2.symm
      subst e0 e1
      have e2 : es = #[] := by
        have := paired_len pr
        simpa using this.symm
      subst e2
      exact ⟨a, rfl, z1, Nat.zero_le _, [], [], ⟨rfl, .nil⟩, .nil, ⟨o, #[], ep, ho, hx, hd, (fun _ h => by simp at h), .nil, List.nodup_nil⟩⟩
    | cons x xs =>
      simp only [List.map_cons] at hk hv
      cases hk with
      | cons r1 r2 =>
        cases hv with
        | cons q1 q2 =>
          simp only [List.zip_cons_cons, flatK, List.all_cons, Bool.and_eq_true] at hfk
          have z := hfk.1
          cases r1 with
          | tup => simp [keyF] at z
          | lst => simp [keyF] at z
          | dct => simp [keyF] at z
          | dck => simp [keyF] at z
/-- any dict: its entries, whatever its keys are -/
theorem dict_raw (I : Inv X pins σ H s) (e : Same F H) {v : V} {kvs : List (D × D)} (h : Rp X.K F v (.dict kvs)) : ∃ (a : Addr) (es : Array DictEntry) (ep : Nat) (kV vV : List V), v = .ref a ∧ (a == sysModules) = false ∧ kvs.length ≤ sizeLine ∧ (∃ o, s.heap.get? a = some o ∧ o.ExactDict ∧ o.data = .dict es ep) ∧ es.size = kvs.length ∧
    RpAll X.K F kV (kvs.map (·.1)) ∧ Vals kV (es.toList.map (·.key)) ∧ RpAll X.K F vV (kvs.map (·.2)) ∧ Vals vV (es.toList.map (·.val)) := by
  generalize hd : PyData.dict kvs = d at h
  cases h with
  | non | bl | int | str | lst | tup => cases hd
  | dct hF hk hn hv =>
    rename_i a o xs ks ds
    cases hd
    obtain ⟨⟨z1, z2, z3, z4, w, es, ep, ho, hx, hd, pr⟩, _⟩ := (show ObjOk X.prog X.w H s.heap a (dctO a o xs) from I.hok a _ (e _ _ hF))
    have l1 := hk.length
    have l2 := hv.length
    have l3 := paired_len pr
    simp only [List.length_map] at l1 l2
    rw [Array.length_toList] at l3
    have l4 : xs.length = es.size := by simpa using l3
    exact ⟨a, es, ep, _, _, rfl, z1, by rw [List.length_zip]; omega, ⟨o, ho, hx, hd⟩, by rw [List.length_zip]; omega, by rw [List.map_fst_zip (by omega)]; exact hk, (ents_kv pr).1, by rw [List.map_snd_zip (by omega)]; exact hv, (ents_kv pr).2⟩
  | dck hF hk hv =>
    rename_i a oo kv kvs'
    cases hd
    obtain ⟨z, hs, vs, rel, o, es, ep, ho, hx, hd, hko, hp, hnd⟩ := dck_at I e (.inr ⟨_, hF⟩)
    have l : kvs.length = kv.length := by
      have := congrArg List.length hk
      simpa using this
    have l2 := hp.length
    have l3 := rel.length
    rw [Array.length_toList] at l2
    refine ⟨a, es, ep, kv.map (fun k => kV k.1), _, rfl, hs, by omega, ⟨o, ho, hx, hd⟩, by omega, ?_, (flat_kv rel hp).1, hv, (flat_kv rel hp).2⟩
    rw [hk]
    exact flat_keys kv
end
theorem key_flat {K : PySem.W.Frag} {F : Hp} {v : V} {d : D} {k : L2.Key} (h : Rp K F v d) (hk : keyF d = some k) : v = kV k ∧ d = keyD k := by
  cases h <;> simp only [keyF, Option.some.injEq] at hk <;> first | (subst hk; exact ⟨rfl, rfl⟩) | cases hk
theorem fget_rel {K : PySem.W.Frag} {F : Hp} {k : L2.Key} : ∀ {kv : List (L2.Key × V)} {kvs : List (D × D)} {vs : List (L2.Key × Value)}, FcR K F kv kvs → KV kv vs →
    (fGet kvs k = none ∧ valueAt vs k = none) ∨ ∃ d v u, fGet kvs k = some d ∧ valueAt vs k = some u ∧ RelV v u ∧ Rp K F v d
  | [], [], _, _, .nil => .inl ⟨rfl, rfl⟩
  | [], _ :: _, _, r, _ => by have := r.ks; simp at this
  | _ :: _, [], _, r, _ => by have := r.ks; simp at this
  | p :: kv, q :: kvs, _, r, .cons (b := x) (l₂ := vs) h t => by
    obtain ⟨ks, rv⟩ := r
    simp only [List.map_cons, List.cons.injEq] at ks
    simp only [List.map_cons] at rv
    cases rv with
    | cons r1 r2 =>
      unfold fGet valueAt
      rw [List.find?_cons, List.find?_cons]
      by_cases c : x.1 = k
      · have c2 : keyF q.1 = some k := by rw [ks.1, keyF_keyD, h.1, c]
        rw [decide_eq_true c2, decide_eq_true c]
        exact .inr ⟨q.2, p.2, x.2, rfl, rfl, h.2, r1⟩
      · have c2 : ¬ keyF q.1 = some k := fun z => c (by rw [ks.1, keyF_keyD, h.1] at z; exact Option.some.inj z)
        rw [decide_eq_false c2, decide_eq_false c]
        exact fget_rel ⟨ks.2, r2⟩ t
theorem fget_some {K : PySem.W.Frag} {F : Hp} {k : L2.Key} {kv : List (L2.Key × V)} {kvs : List (D × D)} {vs : List (L2.Key × Value)} (r : FcR K F kv kvs) (rel : KV kv vs) : (fGet kvs k).isSome = (valueAt vs k).isSome := by
  rcases fget_rel (k := k) r rel with ⟨a, b⟩ | ⟨d, v, u, e1, e2, _, _⟩
  · rw [a, b]; rfl
  · rw [e1, e2]; rfl
/-- what is stored -/
theorem fset_rel {K : PySem.W.Frag} {F : Hp} {k : L2.Key} {v : V} {d : D} : ∀ {kv : List (L2.Key × V)} {kvs : List (D × D)}, FcR K F kv kvs → Rp K F v d → FcR K F (putK kv k v) (fSet kvs (keyD k) k d) := by
  intro kv kvs r hv
  have any : (fGet kvs k).isSome = kv.any fun kv => decide (kv.1 = k) := by
    have ks := r.ks
    clear hv r
    unfold fGet
    induction kvs generalizing kv with
    | nil => cases kv with
      | nil => rfl
      | cons _ _ => simp at ks
    | cons q kvs ih => cases kv with
      | nil => simp at ks
      | cons p kv =>
        simp only [List.map_cons, List.cons.injEq] at ks
        rw [List.find?_cons, List.any_cons]
        by_cases c : p.1 = k
        · have c2 : keyF q.1 = some k := by rw [ks.1, keyF_keyD, c]
          rw [decide_eq_true c2, decide_eq_true c]; rfl
        · have c2 : ¬ keyF q.1 = some k := fun z => c (by rw [ks.1, keyF_keyD] at z; exact Option.some.inj z)
          rw [decide_eq_false c2, decide_eq_false c, Bool.false_or]
          show (Option.map _ (List.find? _ kvs)).isSome = _
          exact ih (kv := kv) ks.2
  unfold putK fSet
  rw [any]
  by_cases h : (kv.any fun kv => decide (kv.1 = k)) = true
  · rw [if_pos h, if_pos h]
    clear any h
    obtain ⟨ks, rv⟩ := r
    induction kvs generalizing kv with
    | nil => cases kv with
      | nil => exact ⟨rfl, .nil⟩
      | cons _ _ => simp at ks
    | cons q kvs ih => cases kv with
      | nil => simp at ks
      | cons p kv =>
        simp only [List.map_cons, List.cons.injEq] at ks
        simp only [List.map_cons] at rv
        cases rv with
        | cons r1 r2 =>
          obtain ⟨i1, i2⟩ := ih (kv := kv) ks.2 r2
          by_cases c : p.1 = k
          · have c2 : keyF q.1 = some k := by rw [ks.1, keyF_keyD, c]
            simp only [List.map_cons, if_pos c, if_pos c2]
            exact ⟨by simp only [List.map_cons]; rw [ks.1, i1], .cons hv i2⟩
          · have c2 : ¬ keyF q.1 = some k := fun z => c (by rw [ks.1, keyF_keyD] at z; exact Option.some.inj z)
            simp only [List.map_cons, if_neg c, if_neg c2]
            exact ⟨by simp only [List.map_cons]; rw [ks.1, i1], .cons r1 i2⟩
  · rw [if_neg h, if_neg h]
    refine ⟨by simp [r.ks], ?_⟩
    simp only [List.map_append, List.map_cons, List.map_nil]
    exact r.vs.append (.cons hv .nil)
theorem fset_length (kvs : List (D × D)) (kd : D) (k : L2.Key) (v : D) : (fSet kvs kd k v).length ≤ kvs.length + 1 := by
  unfold fSet; split <;> simp
theorem zip_self (kvs : List (D × D)) : (kvs.map (·.1)).zip (kvs.map (·.2)) = kvs := by
  induction kvs with
  | nil => rfl
  | cons p kvs ih => simp [ih]
/-- what is told of a dict as it stands is what is tracked -/
theorem dct_put {P : Program} {w : World} {h : Heap} {K : PySem.W.Frag} {F : Hp} {a : Addr} {kvs : List (D × D)} {ys : List (NestedKey × Addr × Value)} (hs : (a == sysModules) = false) (hz : kvs.length ≤ sizeLine) (hd : h.DictOfH (nestedKind P w) a ys) (r : Paired (DR K F) kvs ys) :
    ∃ (o : Obj) (xs : List DEnt), dctP a o xs h ∧ RpAll K F (xs.map fun x => .ref x.2.1) (kvs.map (·.1)) ∧ nkAll (kvs.map (·.1)) = some (xs.map (·.1)) ∧ RpAll K F (xs.map fun x => x.2.2) (kvs.map (·.2)) := by
  obtain ⟨o, es, ep, ho, hx, hdt, he, hi, hn⟩ := hd
  have l := paired_len r
  have key : ∀ {kvs : List (D × D)} {ys : List (NestedKey × Addr × Value)}, Paired (DR K F) kvs ys → ∃ xs : List DEnt, RpAll K F (xs.map fun x => .ref x.2.1) (kvs.map (·.1)) ∧ nkAll (kvs.map (·.1)) = some (xs.map (·.1)) ∧ RpAll K F (xs.map fun x => x.2.2) (kvs.map (·.2)) ∧
      xs.map (·.1) = ys.map (·.1) ∧ Paired (EntOk w) xs (ys.map (entryOfKey (nestedKind P w))) := by
    intro kvs ys r
    induction r with
    | nil => exact ⟨[], .nil, rfl, .nil, rfl, .nil⟩
    | cons h t ih =>
      rename_i p y _ _
      obtain ⟨xs, a1, a2, a3, a4, a5⟩ := ih
      obtain ⟨b1, b2, v, b3, b4⟩ := h
      refine ⟨(y.1, y.2.1, v) :: xs, .cons b1 a1, ?_, .cons b4 a3, by simp [a4], .cons ⟨rfl, rfl, b3⟩ a5⟩
      simp only [List.map_cons, nkAll, b2, a2]; rfl
  obtain ⟨xs, a1, a2, a3, a4, a5⟩ := key r
  have l2 : xs.length = ys.length := by rw [← List.length_map (f := (·.1)), a4, List.length_map]
  refine ⟨o, xs, ⟨hs, by omega, by rw [a4]; exact hn, fun x hx' => ?_, w, es, ep, ho, hx, hdt, by rw [he]; exact a5⟩, a1, a2, a3⟩
  have m : x.1 ∈ ys.map (·.1) := by rw [← a4]; exact List.mem_map_of_mem hx'
  obtain ⟨y, hy, e⟩ := List.mem_map.mp m
  rw [← e]; exact (hi y hy).2
theorem dctO_ok {P : Program} {w : World} {H : Hp} {h : Heap} {a : Addr} {o : Obj} {xs : List DEnt} (d : dctP a o xs h) : ObjOk P w H h a (dctO a o xs) := by
  refine ⟨d, ?_, fun h1 h2 d1 k => ?_⟩
  · obtain ⟨_, _, _, _, _, _, _, ho, _⟩ := d
    exact ⟨o, ho⟩
  · obtain ⟨z1, z2, z3, z4, w', es, ep, ho, r⟩ := d1
    exact ⟨z1, z2, z3, z4, w', es, ep, k o ho, r⟩
/-- a new dict that nobody changes -/
theorem newD {X : Cx} {pins : List (Addr × Obj)} {σ : L2.St} {H F : Hp} {s : Shared} {Q : VK} {h' : Heap} {tk : Nat} {kvs : List (D × D)} {ys : List (NestedKey × Addr × Value)} (I : Inv X pins σ H s) (sub : Same F H) (kp : ∀ b o, s.heap.get? b = some o → h'.get? b = some o) (hz : kvs.length ≤ sizeLine)
    (hd : h'.DictOfH (nestedKind X.prog X.w) s.heap.objs.size ys) (r : Paired (DR X.K F) kvs ys) (q : ∀ v H' F', Fx F H F' H' → Rp X.K F' v (.dict kvs) → Q v H') : EP X pins σ Q (.ref s.heap.objs.size) { s with heap := h', toks := tk } := by
  have hs : (s.heap.objs.size == sysModules) = false := beq_eq_false_iff_ne.mpr (Nat.ne_of_gt I.big)
  obtain ⟨oo, xs, d, a1, a2, a3⟩ := dct_put hs hz hd r
  have hp := I.hok.fresh (Nat.le_refl s.heap.objs.size)
  have fx : Fx F H _ _ := Fx.alloc (u := dctO s.heap.objs.size oo xs) sub hp
  have e : PyData.dict kvs = .dict ((kvs.map (·.1)).zip (kvs.map (·.2))) := by rw [zip_self]
  refine ⟨.ref s.heap.objs.size, _, I.laid (t' := tk) kp (Nat.le_refl _) (dctO_ok d), rfl, q _ _ _ fx ?_⟩
  rw [e]
  exact .dct upd_same (a1.mono fx.ff) a2 (a3.mono fx.ff)
end Z

set_option Elab.async false
set_option linter.all false
set_option maxRecDepth 100000
set_option autoImplicit false
/-! # Z8: the operations are the model's -/
namespace Z
open PySem L2

theorem szOk_line {n : Nat} (h : szOk n = true) : n ≤ sizeLine := by rw [sizeLine_eq]; simpa [szOk] using h
section
variable {K : PySem.W.Frag} {F H : Hp}
theorem Rp.toInt {v : V} {i : Int} (h : Rp K F v (.int i)) : v = .int i := by cases h; rfl
theorem Rp.toStr {v : V} {i : Str} (h : Rp K F v (.str i)) : v = .str i := by cases h; rfl
theorem Rp.toBool {v : V} {i : Bool} (h : Rp K F v (.bool i)) : v = .bl i := by cases h; rfl
theorem Rp.toList {v : V} {ds : List D} (h : Rp K F v (.list ds)) : ∃ a xs, v = .ref a ∧ F a = some (.lst xs) ∧ RpAll K F xs ds := by cases h with | lst a b => exact ⟨_, _, rfl, a, b⟩
theorem Rp.toTup {v : V} {ds : List D} (h : Rp K F v (.tuple ds)) : ∃ a xs, v = .ref a ∧ SqT K F a xs ∧ RpAll K F xs ds := by cases h with | tup a _ b => exact ⟨_, _, rfl, a, b⟩
theorem RpAll.one {vs : List V} {d : D} (h : RpAll K F vs [d]) : ∃ v, vs = [v] ∧ Rp K F v d := by
  cases h with | cons a b => cases b; exact ⟨_, rfl, a⟩
theorem RpAll.two {vs : List V} {d e : D} (h : RpAll K F vs [d, e]) : ∃ v u, vs = [v, u] ∧ Rp K F v d ∧ Rp K F u e := by
  cases h with | cons a b => cases b with | cons c d => cases d; exact ⟨_, _, rfl, a, c⟩
theorem RpAll.drop : ∀ {vs : List V} {ds : List D} (n : Nat), RpAll K F vs ds → RpAll K F (vs.drop n) (ds.drop n)
  | _, _, 0, r => r
  | _, _, _ + 1, .nil => .nil
  | _, _, n + 1, .cons _ t => RpAll.drop n t
theorem RpAll.take : ∀ {vs : List V} {ds : List D} (n : Nat), RpAll K F vs ds → RpAll K F (vs.take n) (ds.take n)
  | _, _, 0, _ => .nil
  | _, _, _ + 1, .nil => .nil
  | _, _, n + 1, .cons r t => .cons r (RpAll.take n t)
theorem RpAll.rep {vs : List V} {ds : List D} (r : RpAll K F vs ds) : ∀ n : Nat, RpAll K F (List.replicate n vs).flatten (List.replicate n ds).flatten
  | 0 => .nil
  | n + 1 => by rw [List.replicate_succ, List.replicate_succ, List.flatten_cons, List.flatten_cons]; exact r.append (RpAll.rep r n)
theorem RpAll.reverse : ∀ {vs : List V} {ds : List D}, RpAll K F vs ds → RpAll K F vs.reverse ds.reverse
  | _, _, .nil => .nil
  | _, _, .cons r t => by rw [List.reverse_cons, List.reverse_cons]; exact (RpAll.reverse t).append (.cons r .nil)
theorem RpAll.atI {vs : List V} {ds : List D} (r : RpAll K F vs ds) {i : Int} {d : D} (h : L2.atI ds i = some d) : ∃ v, L2.atI vs i = some v ∧ Rp K F v d := by
  unfold L2.atI at h ⊢
  rw [r.length]
  cases e : ixN ds.length i with
  | none => rw [e] at h; cases h
  | some j => rw [e] at h; exact r.at h
theorem RpAll.cut {vs : List V} {ds : List D} (r : RpAll K F vs ds) (lo hi : Option Int) : RpAll K F (cutV vs lo hi) (cut ds lo hi) := by
  unfold cutV Z.cut
  rw [r.length]
  exact (r.drop _).take _
/-- a new list, a new tuple -/
theorem newL {vs : List V} {ds : List D} {Q : VK} (sub : Same F H) (r : RpAll K F vs ds) (q : ∀ v H' F', Fx F H F' H' → Rp K F' v (.list ds) → Q v H') : ∀ p, H p = none → Q (.ref p) (upd H p (.lst vs)) := fun p hp => by
  have fx : Fx F H _ _ := Fx.alloc (u := .lst vs) sub hp
  exact q _ _ _ fx (.lst upd_same (r.mono fx.ff))
theorem newT {vs : List V} {ds : List D} {Q : VK} (sub : Same F H) (r : RpAll K F vs ds) (q : ∀ v H' F', Fx F H F' H' → Rp K F' v (.tuple ds) → Q v H') : ∀ (o : Obj) p, o.dict = none → H p = none → Q (.ref p) (upd H p (.frz o (.tup vs))) := fun o p ho hp => by
  have fx : Fx F H _ _ := Fx.alloc (u := .frz o (.tup vs)) sub hp
  exact q _ _ _ fx (.tup (.inl (.inr ⟨o, upd_same⟩)) (fun _ => ⟨o, vs, upd_same, ho⟩) (r.mono fx.ff))
end

/-! ### new tuples, their objects told -/
section
open PySem PySem.Spec PyProof.Rows HT
variable {X : Cx}
def rCatF (K : PySem.W.Frag) : R2 := fun x y H Q => ∃ a b xs ys, x = .ref a ∧ y = .ref b ∧ SqT K H a xs ∧ SqT K H b ys ∧ xs.length + ys.length ≤ sizeLine ∧ (xs = [] → Q (.ref b) H) ∧ (xs ≠ [] → ys = [] → Q (.ref a) H) ∧
  (xs ≠ [] → ys ≠ [] → ∀ (o : Obj) p, o.dict = none → H p = none → Q (.ref p) (upd H p (.frz o (.tup (xs ++ ys)))))
theorem op_catF : OpR X (binaryOp .Add) (rCatF X.K) := by
  intro pins s σ H x y v u Q I rx ry h
  obtain ⟨a, b, xs, ys, rfl, rfl, ha, hb, hz, q0, q1, q2⟩ := h
  cases rx
  cases ry
  obtain ⟨its, r1, p1, _⟩ := I.tuple ha
  obtain ⟨its2, r2, p2, _⟩ := I.tuple hb
  by_cases hx : xs = []
  · subst hx
    cases r1
    exact cat_tup0 p1 p2 ⟨.ref b, H, I, rfl, q0 rfl⟩
  · refine HT.cat_tup p1 p2 (fun z => hx (r1.nil_iff.mp z)) (fun z => ⟨.ref a, H, I, rfl, q1 hx (r2.nil_iff.mp z)⟩) (fun z => ?_) (by rw [← r1.length, ← r2.length]; exact hz)
    refine ⟨.ref s.heap.objs.size, _, I.laid (t' := s.toks) (o := .frz { cls := .type "tuple", data := .seq (its ++ its2).toArray } (.tup (xs ++ ys))) (fun b ob q => Heap.get?_push_of_some _ q) (Nat.le_refl _) ?_, rfl, q2 hx (fun w => z (r2.nil_iff.mpr w)) _ _ rfl (I.hok.fresh (Nat.le_refl _))⟩
    exact ⟨by simpa using Heap.get?_push_size _ rfl, by rw [List.length_append]; exact hz, _, r1.append r2, by simpa using IsTup.new _ _⟩
def rSlF (K : PySem.W.Frag) : V → Option Int → Option Int → Hp → VK → Prop := fun x lo hi H Q => ∃ a xs, x = .ref a ∧ SqT K H a xs ∧
  (HT.sIx xs.length 0 lo = 0 ∧ HT.sIx xs.length xs.length hi = xs.length → Q (.ref a) H) ∧ (¬ (HT.sIx xs.length 0 lo = 0 ∧ HT.sIx xs.length xs.length hi = xs.length) → ∀ (o : Obj) p, o.dict = none → H p = none → Q (.ref p) (upd H p (.frz o (.tup (cutV xs lo hi)))))
theorem sl_tupF : L2.SlR X (rSlF X.K) := by
  intro pins s σ H x v vl vu lo hi sl Q I rx hs pl pu h
  obtain ⟨a, xs, rfl, hx, q1, q2⟩ := h
  cases rx
  obtain ⟨its, r, ht, hz⟩ := I.tuple hx
  have hlen : its.toArray.size = xs.length := by rw [List.size_toArray]; exact r.length.symm
  refine ⟨"tuple", _, PyProof.Rows.slot_tuple_getitem.lookup, ht.typeIs, ?_⟩
  by_cases hw : HT.sIx xs.length 0 lo = 0 ∧ HT.sIx xs.length xs.length hi = xs.length
  · exact getItem_tuple_whole ht hs pl pu (by rw [hlen]; exact hw) ⟨.ref a, H, I, rfl, q1 hw⟩
  · refine HT.getItem_tuple_cut ht hs pl pu (by rw [hlen]; exact hw) ?_ (by rw [hlen]; exact hz)
    rw [hlen]
    refine ⟨.ref s.heap.objs.size, _, I.laid (t' := s.toks) (o := .frz { cls := .type "tuple", data := .seq ((its.drop (HT.sIx xs.length 0 lo)).take (HT.sIx xs.length xs.length hi - HT.sIx xs.length 0 lo)).toArray } (.tup (cutV xs lo hi))) (fun b ob q => Heap.get?_push_of_some _ q) (Nat.le_refl _) ?_, rfl, q2 hw _ _ rfl (I.hok.fresh (Nat.le_refl _))⟩
    exact ⟨Heap.get?_push_size _ rfl, Nat.le_trans (cutV_length xs lo hi) hz, _, (r.drop (HT.sIx xs.length 0 lo)).take (HT.sIx xs.length xs.length hi - HT.sIx xs.length 0 lo), IsTup.new _ _⟩
theorem call_tupleF : CallR X (.type "tuple") (fun xs H Q => ∃ p ys, xs = [.ref p] ∧ ((SqL X.K H p ys ∧ ∀ (o : Obj) l, o.dict = none → H l = none → Q (.ref l) (upd H l (.frz o (.tup ys)))) ∨ (SqT X.K H p ys ∧ Q (.ref p) H))) := by
  intro pins s σ H xs us Q I r h
  obtain ⟨p, ys, rfl, h⟩ := h
  obtain ⟨u, rfl, rx⟩ := vals1 r
  cases rx
  rcases h with ⟨hq, q⟩ | ⟨hq, q⟩
  · obtain ⟨its, r', pl, hz⟩ := I.list hq
    have hlen := r'.length
    refine call_tuple_list pl.isList (fun h' kp => ?_) (by simp only [List.size_toArray] <;> omega)
    have I1 : Inv X pins σ H { s with heap := h' } := I.kept (t' := s.toks) kp
    have I2 : Inv X pins σ (upd H h'.objs.size (.frz { cls := .type "tuple", data := .seq its.toArray } (.tup ys))) { s with heap := h'.push { cls := .type "tuple", data := .seq its.toArray } } :=
      I1.laid (t' := s.toks) (fun b o e => Heap.get?_push_of_some _ e) (Nat.le_refl _) (show ObjOk X.prog X.w _ _ _ (.frz _ (.tup ys)) from ⟨Heap.get?_push_size _ rfl, hz, its, r', IsTup.new _ _⟩)
    exact ⟨.ref h'.objs.size, _, I2, rfl, q _ _ rfl (I1.hok.fresh (Nat.le_refl _))⟩
  · obtain ⟨its, r', pl, hz⟩ := I.tuple hq
    exact call_tuple_same pl ⟨.ref p, H, I, rfl, q⟩
end
theorem Rp.toTup' {K : PySem.W.Frag} {F : Hp} {v : V} {ds : List D} (h : Rp K F v (.tuple ds)) : ∃ a xs, v = .ref a ∧ SqT K F a xs ∧ (mkd ds = true → PlT F a) ∧ RpAll K F xs ds := by cases h with | tup a p b => exact ⟨_, _, rfl, a, p, b⟩
theorem bs_add : BinS .Add add := by
  intro X k hr pins s σ H x y v u Q I rx ry ⟨F, a, b, c, sub, ra, rb, e, q⟩
  unfold add at e
  split at e
  · cases e
    rw [ra.toInt] at rx; rw [rb.toInt] at ry
    exact op_add pins s σ H _ _ v u Q I rx ry ⟨_, _, rfl, rfl, q _ H F (Fx.refl sub) (.int _)⟩
  · split at e
    · rename_i hz; cases e
      rw [ra.toStr] at rx; rw [rb.toStr] at ry
      exact op_add_str pins s σ H _ _ v u Q I rx ry ⟨_, _, rfl, rfl, szOk_line hz, q _ H F (Fx.refl sub) (.str _)⟩
    · cases e
  · split at e
    · rename_i hz; cases e
      obtain ⟨p, xs, rfl, hp, rxs⟩ := ra.toList
      obtain ⟨p2, ys, rfl, hp2, rys⟩ := rb.toList
      refine op_cat pins s σ H _ _ v u Q I rx ry ⟨_, _, xs, ys, rfl, rfl, sub _ _ hp, sub _ _ hp2, ?_, newL sub (rxs.append rys) q⟩
      rw [rxs.length, rys.length]; exact szOk_line hz
    · cases e
  · split at e
    · rename_i hz; cases e
      obtain ⟨p, xs, rfl, hp, hpl, rxs⟩ := ra.toTup'
      obtain ⟨p2, ys, rfl, hp2, hpl2, rys⟩ := rb.toTup'
      refine op_catF pins s σ H _ _ v u Q I rx ry ⟨_, _, xs, ys, rfl, rfl, seqT sub hp, seqT sub hp2, ?_, fun ex => ?_, fun _ ey => ?_, fun _ _ => newT sub (rxs.append rys) q⟩
      · rw [rxs.length, rys.length]; exact szOk_line hz
      · subst ex; cases rxs; exact q _ H F (Fx.refl sub) (.tup hp2 hpl2 rys)
      · subst ey; cases rys; rw [List.append_nil] at q; exact q _ H F (Fx.refl sub) (.tup hp hpl rxs)
    · cases e
  · cases e
theorem bs_sub : BinS .Sub sub := by
  intro X k hr pins s σ H x y v u Q I rx ry ⟨F, a, b, c, sub, ra, rb, e, q⟩
  unfold Z.sub at e
  split at e
  · cases e
    rw [ra.toInt] at rx; rw [rb.toInt] at ry
    exact op_sub pins s σ H _ _ v u Q I rx ry ⟨_, _, rfl, rfl, q _ H F (Fx.refl sub) (.int _)⟩
  · cases e
open PySem.Spec PyProof.Rows in
set_option maxHeartbeats 4000000 in
theorem tuple_mul1 (l : Addr) (items : Array Value) (n : Nat) (dd : Option Addr) (sl : Array (Option Value)) (u : Tok) :
    Meets (Builtin.«tuple.__mul__» ⟨[.ref l, .int 1 u], []⟩) (fun _ R s => s.heap.get? l = some { cls := .type "tuple", dict := dd, data := .seq items n, slots := sl } ∧
      R (.ok (.ret (Value.ref l))) s) :=
  .of_wp fun prog w A R s h => by
    obtain ⟨hp, g, d, tk, os⟩ := s
    obtain ⟨hl, h⟩ := h
    have f1 := AutoSeq1.idx_int
    wp_walk using wpAny_loadPart' hl
    exact ⟨_, rfl, h⟩
open PySem.Spec PyProof.Rows in
theorem op_repT1 {X : Cx} : OpR X (binaryOp .Mult) (fun x y H Q => ∃ l xs, x = .ref l ∧ y = .int 1 ∧ SqT X.K H l xs ∧ Q (.ref l) H) := by
  intro pins s σ H x y v u Q I rx ry h
  obtain ⟨l, xs, rfl, rfl, hT, q⟩ := h
  cases rx
  obtain ⟨t, rfl⟩ := ry
  obtain ⟨its, r, ⟨⟨cls, dd, data, sl⟩, ho, hc, n, hd⟩, hs⟩ := I.tuple hT
  simp only at hc hd
  subst hc hd
  exact wpAny_binaryOp_repeat_ref (T := "tuple") (U := "int") (by decide) ⟨_, ho, rfl⟩ (fun s' => typeIs_int s' 1 t) noFill_tuple_mul F.fills_int_mul F.slot_int_rmul repeat_tuple F.slot_int_index.lookup
    (call_meets F.slot_int_rmul (typeIs_int s 1 t) F.entry_int_rmul (F.args_int_rmul_2 _ _) (int_rmul_tuple 1 t l its.toArray n dd sl)
      ⟨ho, rfl, ⟨_, ho, rfl⟩, call_meets F.slot_tuple_mul ⟨_, ho, rfl⟩ F.entry_tuple_mul (F.args_tuple_mul_2 _ _) (tuple_mul1 l its.toArray n dd sl t) ⟨ho, .ref l, H, I, rfl, q⟩⟩)
open PySem.Spec PyProof.Rows in
theorem op_repT2 {X : Cx} : OpR X (binaryOp .Mult) (fun x y H Q => ∃ l k xs, x = .ref l ∧ y = .int k ∧ SqT X.K H l xs ∧ xs ≠ [] ∧ 2 ≤ k ∧ (xs.length : Int) * k ≤ 1000000 ∧ ∀ (o : Obj) p, o.dict = none → H p = none → Q (.ref p) (upd H p (.frz o (.tup (List.replicate k.toNat xs).flatten)))) := by
  intro pins s σ H x y v u Q I rx ry h
  obtain ⟨l, k, xs, rfl, rfl, hT, hne, h1, hm0, q⟩ := h
  cases rx
  obtain ⟨t, rfl⟩ := ry
  obtain ⟨its, r, ⟨⟨cls, dd, data, sl⟩, ho, hc, n, hd⟩, hs⟩ := I.tuple hT
  simp only at hc hd
  subst hc hd
  have hle : its.length = xs.length := r.length.symm
  have hn : its ≠ [] := fun e => hne (by
    rw [e] at hle
    exact List.eq_nil_of_length_eq_zero hle.symm)
  have hi : its.toArray.isEmpty = false := by
    cases its with
    | nil => exact absurd rfl hn
    | cons a b => rfl
  have hpos : 1 ≤ xs.length := by
    cases xs with
    | nil => exact absurd rfl hne
    | cons a b => simp
  have hsz0 : its.toArray.size = xs.length := by rw [List.size_toArray, hle]
  have hm : ((its.toArray.size : Nat) : Int) * k ≤ 1000000 := by rw [hsz0]; exact hm0
  have hk2 : k ≤ 1000000 := by
    have a1 : 1 * k ≤ ((xs.length : Nat) : Int) * k := Int.mul_le_mul_of_nonneg_right (by omega) (by omega)
    omega
  have hkn : k.toNat * xs.length ≤ 1000000 := by
    have e : ((k.toNat * xs.length : Nat) : Int) = ((xs.length : Nat) : Int) * k := by
      rw [Int.natCast_mul, Int.toNat_of_nonneg (by omega), Int.mul_comm]
    omega
  have flen : (List.replicate k.toNat its).flatten.length ≤ sizeLine := by
    rw [PyProof.Rows.lm_len_rep_flat, hle, sizeLine_eq]
    omega
  have c0 : (decide (k < -(2 ^ 63)) || decide (k ≥ 2 ^ 63)) = false := by
    rw [decide_eq_false (by omega), decide_eq_false (by omega)] <;> rfl
  have c1 : (its.toArray.isEmpty || k == 1) = false := by
    rw [hi, Bool.false_or]
    exact beq_eq_false_iff_ne.mpr (by omega)
  have c2 : (decide (k ≤ 0) || its.toArray.isEmpty) = false := by
    rw [hi, Bool.or_false]
    exact decide_eq_false (by omega)
  have c4 : Builtin.Tuple.tupleTooMany (((its.toArray.size : Nat) : Int) * k) = false := by
    unfold Builtin.Tuple.tupleTooMany
    rw [sizeLine_eq]
    exact decide_eq_false (by omega)
  refine wpAny_binaryOp_repeat_ref (T := "tuple") (U := "int") (by decide) ⟨_, ho, rfl⟩ (fun s' => typeIs_int s' k t) noFill_tuple_mul F.fills_int_mul F.slot_int_rmul repeat_tuple F.slot_int_index.lookup
    (call_meets F.slot_int_rmul (typeIs_int s k t) F.entry_int_rmul (F.args_int_rmul_2 _ _) (int_rmul_tuple k t l its.toArray n dd sl)
      ⟨ho, rfl, ⟨_, ho, rfl⟩, call_meets F.slot_tuple_mul ⟨_, ho, rfl⟩ F.entry_tuple_mul (F.args_tuple_mul_2 _ _) (tuple_mulW l its.toArray n dd sl k t c0 c1 c2 (by omega) c4 (by rw [size_rep, List.size_toArray]; exact flen)) ⟨ho, ?_⟩⟩)
  rw [size_rep]
  refine ⟨.ref s.heap.objs.size, _, I.laid (t' := s.toks) (o := .frz { cls := .type "tuple", data := .seq (List.replicate k.toNat its).flatten.toArray } (.tup (List.replicate k.toNat xs).flatten)) (fun b ob q => Heap.get?_push_of_some _ q) (Nat.le_refl _) ?_, rfl, q _ _ rfl (I.hok.fresh (Nat.le_refl _))⟩
  exact ⟨Heap.get?_push_size _ rfl, by rw [PyProof.Rows.lm_len_rep_flat, sizeLine_eq]; omega, _, r.rep k.toNat, IsTup.new _ _⟩
open PySem.Spec PyProof.Rows in
theorem tuple_mul0 (l : Addr) (items : Array Value) (n : Nat) (dd : Option Addr) (sl : Array (Option Value)) (u : Tok) (c1 : (items.isEmpty || (0 : Int) == 1) = false) :
    Meets (Builtin.«tuple.__mul__» ⟨[.ref l, .int 0 u], []⟩) (fun _ R s => s.heap.get? l = some { cls := .type "tuple", dict := dd, data := .seq items n, slots := sl } ∧
      R (.ok (.ret (Value.ref s.heap.objs.size))) { s with heap := s.heap.push { cls := Value.type "tuple", data := Data.seq #[] }, toks := s.toks }) :=
  .of_wp fun prog w A R s h => by
    obtain ⟨hp, g, d, tk, os⟩ := s
    obtain ⟨hl, h⟩ := h
    have f1 := AutoSeq1.idx_int
    wp_walk using wpAny_loadPart' hl
    repeat (first
      | (refine wpAny_ite_false (decide_eq_false (by rw [c1]; exact Bool.false_ne_true)) ?_; wp_walk using wpAny_loadPart' hl)
      )
    exact ⟨_, rfl, h⟩
open PySem.Spec PyProof.Rows in
theorem op_repT0 {X : Cx} : OpR X (binaryOp .Mult) (fun x y H Q => ∃ l xs, x = .ref l ∧ y = .int 0 ∧ SqT X.K H l xs ∧ xs ≠ [] ∧ ∀ (o : Obj) p, o.dict = none → H p = none → Q (.ref p) (upd H p (.frz o (.tup [])))) := by
  intro pins s σ H x y v u Q I rx ry h
  obtain ⟨l, xs, rfl, rfl, hT, hne, q⟩ := h
  cases rx
  obtain ⟨t, rfl⟩ := ry
  obtain ⟨its, r, ⟨⟨cls, dd, data, sl⟩, ho, hc, n, hd⟩, hs⟩ := I.tuple hT
  simp only at hc hd
  subst hc hd
  have hle : its.length = xs.length := r.length.symm
  have hn : its ≠ [] := fun e => hne (by
    rw [e] at hle
    exact List.eq_nil_of_length_eq_zero hle.symm)
  have hi : its.toArray.isEmpty = false := by
    cases its with
    | nil => exact absurd rfl hn
    | cons a b => rfl
  have c1 : (its.toArray.isEmpty || (0 : Int) == 1) = false := by rw [hi]; rfl
  refine wpAny_binaryOp_repeat_ref (T := "tuple") (U := "int") (by decide) ⟨_, ho, rfl⟩ (fun s' => typeIs_int s' 0 t) noFill_tuple_mul F.fills_int_mul F.slot_int_rmul repeat_tuple F.slot_int_index.lookup
    (call_meets F.slot_int_rmul (typeIs_int s 0 t) F.entry_int_rmul (F.args_int_rmul_2 _ _) (int_rmul_tuple 0 t l its.toArray n dd sl)
      ⟨ho, rfl, ⟨_, ho, rfl⟩, call_meets F.slot_tuple_mul ⟨_, ho, rfl⟩ F.entry_tuple_mul (F.args_tuple_mul_2 _ _) (tuple_mul0 l its.toArray n dd sl t c1) ⟨ho, ?_⟩⟩)
  refine ⟨.ref s.heap.objs.size, _, I.laid (t' := s.toks) (o := .frz { cls := .type "tuple", data := .seq #[] } (.tup [])) (fun b ob q => Heap.get?_push_of_some _ q) (Nat.le_refl _) ?_, rfl, q _ _ rfl (I.hok.fresh (Nat.le_refl _))⟩
  exact ⟨Heap.get?_push_size _ rfl, Nat.zero_le _, [], .nil, IsTup.new _ _⟩
theorem bs_mul : BinS .Mult mul := by
  intro X k hr pins s σ H x y v u Q I rx ry ⟨F, a, b, c, sub, ra, rb, e, q⟩
  unfold mul at e
  split at e
  · split at e
    · rename_i hz; cases e
      rw [ra.toInt] at rx; rw [rb.toInt] at ry
      have fin := q _ H F (Fx.refl sub) (.int _)
      simp only [bigM, Bool.or_eq_true, decide_eq_true_eq] at hz
      rcases hz with (hz | hz) | hz
      · exact op_mul pins s σ H _ _ v u Q I rx ry ⟨_, _, rfl, rfl, .inl ⟨by omega, by omega⟩, fin⟩
      · exact op_mul pins s σ H _ _ v u Q I rx ry ⟨_, _, rfl, rfl, .inr ⟨by omega, by omega⟩, fin⟩
      · exact op_mulW pins s σ H _ _ v u Q I rx ry ⟨_, _, rfl, rfl, hz, fin⟩
    · cases e
  · split at e
    · rename_i hz; cases e
      simp only [Bool.and_eq_true, decide_eq_true_eq] at hz
      obtain ⟨p, xs, rfl, hp, rxs⟩ := ra.toList
      rw [rb.toInt] at ry
      refine op_rep pins s σ H _ _ v u Q I rx ry ⟨_, _, xs, rfl, rfl, sub _ _ hp, hz.1.1, hz.1.2, ?_, newL sub (rxs.rep _) q⟩
      rw [rxs.length]; exact szOk_line hz.2
    · cases e
  · split at e
    · rename_i hk; cases e
      have hk' := of_decide_eq_true hk
      subst hk'
      obtain ⟨p, xs, rfl, hp, hpl, rxs⟩ := ra.toTup'
      rw [rb.toInt] at ry
      exact op_repT1 pins s σ H _ _ v u Q I rx ry ⟨p, xs, rfl, rfl, seqT sub hp, q _ H F (Fx.refl sub) (.tup hp hpl rxs)⟩
    split at e
    · rename_i hz; cases e
      simp only [Bool.and_eq_true, decide_eq_true_eq] at hz
      obtain ⟨p, xs, rfl, hp, rxs⟩ := ra.toTup
      rw [rb.toInt] at ry
      refine op_repT2 pins s σ H _ _ v u Q I rx ry ⟨_, _, xs, rfl, rfl, seqT sub hp, ?_, hz.1.1, by rw [rxs.length]; exact hz.2, newT sub (rxs.rep _) q⟩
      intro ex; subst ex; cases rxs; exact absurd hz.1.2 (by simp)
    split at e
    · rename_i hz; cases e
      simp only [Bool.and_eq_true, decide_eq_true_eq] at hz
      obtain ⟨rfl, hz⟩ := hz
      obtain ⟨p, xs, rfl, hp, rxs⟩ := ra.toTup
      rw [rb.toInt] at ry
      refine op_repT0 pins s σ H _ _ v u Q I rx ry ⟨_, xs, rfl, rfl, seqT sub hp, ?_, newT sub .nil q⟩
      intro ex; subst ex; cases rxs; exact absurd hz (by simp)
    · cases e
  · cases e
theorem bs_fdiv : BinS .FloorDiv fdiv := by
  intro X k hr pins s σ H x y v u Q I rx ry ⟨F, a, b, c, sub, ra, rb, e, q⟩
  unfold fdiv at e
  split at e
  · split at e
    · rename_i hz; cases e
      simp only [Bool.and_eq_true, decide_eq_true_eq, bigD] at hz
      rw [ra.toInt] at rx; rw [rb.toInt] at ry
      obtain ⟨t, rfl⟩ := rx
      obtain ⟨t', rfl⟩ := ry
      exact PyProof.Rows.floordiv_int hz.1 ⟨.int _, H, I.tok _, ⟨_, rfl⟩, q _ H F (Fx.refl sub) (.int _)⟩ (.inl (PyProof.noPylong_of_log2 hz.2))
    · cases e
  · cases e
theorem bs_fmod : BinS .Mod fmod := by
  intro X k hr pins s σ H x y v u Q I rx ry ⟨F, a, b, c, sub, ra, rb, e, q⟩
  unfold fmod at e
  split at e
  · split at e
    · rename_i hz; cases e
      simp only [decide_eq_true_eq] at hz
      rw [ra.toInt] at rx; rw [rb.toInt] at ry
      exact op_modN pins s σ H _ _ v u Q I rx ry ⟨_, _, rfl, rfl, hz, q _ H F (Fx.refl sub) (.int _)⟩
    · cases e
  · cases e
theorem bs_pow : BinS .Pow pow := by
  intro X k hr pins s σ H x y v u Q I rx ry ⟨F, a, b, c, sub, ra, rb, e, q⟩
  unfold pow at e
  split at e
  · split at e
    · rename_i hz; cases e
      simp only [Bool.and_eq_true, decide_eq_true_eq] at hz
      rw [ra.toInt] at rx; rw [rb.toInt] at ry
      exact op_pow pins s σ H _ _ v u Q I rx ry ⟨_, _, rfl, rfl, ⟨hz.1.1, hz.1.2, hz.2⟩, q _ H F (Fx.refl sub) (.int _)⟩
    · cases e
  · cases e
theorem us_neg : UnS .USub neg := by
  intro X k hr pins s σ H x v Q I rx ⟨F, a, c, sub, ra, e, q⟩
  unfold neg at e
  split at e
  · cases e
    rw [ra.toInt] at rx
    exact un_neg pins s σ H _ v Q I rx ⟨_, rfl, q _ H F (Fx.refl sub) (.int _)⟩
  · cases e

/-! ### comparisons -/
theorem room_ok {k : Nat} {A : Around} (hr : Room k A) {a b : D} (h : a.depth ≤ 40) : A.units + min a.depth b.depth < cLine := by
  have := hr.units
  have h2 : min a.depth b.depth ≤ a.depth := Nat.min_le_left _ _
  omega
theorem cs_eq : CmpS .Eq eqD := by
  intro X k hr pins s σ H x y v u Q I rx ry ⟨F, a, b, c, sub, ra, rb, e, q⟩
  unfold eqD at e
  split at e
  · rename_i h; cases e
    simp only [Bool.and_eq_true] at h
    obtain ⟨as, r1⟩ := ra.reads I sub rx (okD_plain h.1)
    obtain ⟨bs, r2⟩ := rb.reads I sub ry (okD_plain h.2)
    exact SeqAt.eq_plain r1 r2 (okD_plain h.1) (okD_plain h.2) (room_ok hr (okD_depth h.1)) ⟨.bl _, H, I, rfl, q⟩
  · cases e
theorem cs_ne : CmpS .NotEq neD := by
  intro X k hr pins s σ H x y v u Q I rx ry ⟨F, a, b, c, sub, ra, rb, e, q⟩
  unfold neD eqD at e
  split at e
  · rename_i h; cases e
    simp only [Bool.and_eq_true] at h
    obtain ⟨as, r1⟩ := ra.reads I sub rx (okD_plain h.1)
    obtain ⟨bs, r2⟩ := rb.reads I sub ry (okD_plain h.2)
    exact SeqAt.ne_plain r1 r2 (okD_plain h.1) (okD_plain h.2) (room_ok hr (okD_depth h.1)) ⟨.bl _, H, I, rfl, q⟩
  · cases e

theorem notNone {a : D} (h : isNone a = false) : a ≠ .none := fun e => by subst e; cases h
theorem lt_main {op : CmpOp} {X : Cx} {k : Nat} (hr : Room k X.A) {t : D → D → Bool} {pins : List (Addr × Obj)} {s : Shared} {σ : L2.St} {H F : Hp} {x y : V} {v u : Value} {Q : VK} {a b : D} {c : Bool} (I : Inv X pins σ H s) (rx : RelV x v) (ry : RelV y u)
    (sub : Same F H) (ra : Rp X.K F x a) (rb : Rp X.K F y b) (h : (W.alike a b && !isNone a && okD a && okD b) = true) (hq : Q (.bl (t a b)) H)
    (rule : ∀ {prog : Program} {w : World} {A : Around} {E : Value → Shared → Prop} {s : Shared} {v u : Value} {as bs : List Addr} {Q : Value → Shared → Prop}, Reads s.heap v a as → Reads s.heap u b bs → W.alike a b = true → a ≠ .none → A.units + min a.depth b.depth < cLine → Q (.bool (t a b)) s → wpAny (model prog w) A (compareOp op v u) Q E s) :
    wpAny (model X.prog X.w) X.A (compareOp op v u) (EP X pins σ Q) X.xe s := by
  simp only [Bool.and_eq_true, Bool.not_eq_true'] at h
  obtain ⟨as, r1⟩ := ra.reads I sub rx (okD_plain h.1.2)
  obtain ⟨bs, r2⟩ := rb.reads I sub ry (okD_plain h.2)
  exact rule r1 r2 h.1.1.1 (notNone h.1.1.2) (room_ok hr (okD_depth h.1.2)) ⟨.bl _, H, I, rfl, hq⟩
theorem cs_lt : CmpS .Lt ltD := by
  intro X k hr pins s σ H x y v u Q I rx ry ⟨F, a, b, c, sub, ra, rb, e, q⟩
  unfold ltD at e
  split at e
  · cases e
    rw [ra.toInt] at rx; rw [rb.toInt] at ry
    exact op_lt pins s σ H _ _ v u Q I rx ry ⟨_, _, rfl, rfl, q⟩
  · split at e
    · rename_i h; cases e
      exact lt_main (c := true) (t := W.dataLt) hr I rx ry sub ra rb h q fun r1 r2 h1 h2 h3 h4 => W.lt_data r1 r2 h1 h2 h3 h4
    · cases e
theorem cs_gt : CmpS .Gt gtD := by
  intro X k hr pins s σ H x y v u Q I rx ry ⟨F, a, b, c, sub, ra, rb, e, q⟩
  replace e : ltD b a = .ok c := e
  unfold ltD at e
  split at e
  · cases e
    rw [ra.toInt] at rx; rw [rb.toInt] at ry
    exact op_gt pins s σ H _ _ v u Q I rx ry ⟨_, _, rfl, rfl, q⟩
  · split at e
    · rename_i h; cases e
      have h' : (W.alike a b && !isNone a && okD a && okD b) = true := by
        simp only [Bool.and_eq_true, Bool.not_eq_true'] at h ⊢
        have h1 : W.alike a b = true := by rw [W.alike_comm]; exact h.1.1.1
        refine ⟨⟨⟨h1, ?_⟩, h.2⟩, h.1.2⟩
        have n1 := W.ne_none_both h.1.1.1 (notNone h.1.1.2)
        cases a <;> first | rfl | exact absurd rfl n1
      exact lt_main (c := true) (t := fun a b => W.dataLt b a) hr I rx ry sub ra rb h' q fun r1 r2 h1 h2 h3 h4 => W.gt_data r1 r2 h1 h2 h3 h4
    · cases e
theorem cs_le : CmpS .LtE leD := by
  intro X k hr pins s σ H x y v u Q I rx ry ⟨F, a, b, c, sub, ra, rb, e, q⟩
  unfold leD at e
  split at e
  · cases e
    rw [ra.toInt] at rx; rw [rb.toInt] at ry
    exact op_le pins s σ H _ _ v u Q I rx ry ⟨_, _, rfl, rfl, q⟩
  · split at e
    · rename_i h; cases e
      exact lt_main (c := true) (t := fun a b => !W.dataLt b a) hr I rx ry sub ra rb h q fun r1 r2 h1 h2 h3 h4 => W.le_data r1 r2 h1 h2 h3 h4
    · cases e
theorem cs_ge : CmpS .GtE geD := by
  intro X k hr pins s σ H x y v u Q I rx ry ⟨F, a, b, c, sub, ra, rb, e, q⟩
  replace e : leD b a = .ok c := e
  unfold leD at e
  split at e
  · cases e
    rw [ra.toInt] at rx; rw [rb.toInt] at ry
    exact op_ge pins s σ H _ _ v u Q I rx ry ⟨_, _, rfl, rfl, q⟩
  · split at e
    · rename_i h; cases e
      have h' : (W.alike a b && !isNone a && okD a && okD b) = true := by
        simp only [Bool.and_eq_true, Bool.not_eq_true'] at h ⊢
        have h1 : W.alike a b = true := by rw [W.alike_comm]; exact h.1.1.1
        refine ⟨⟨⟨h1, ?_⟩, h.2⟩, h.1.2⟩
        have n1 := W.ne_none_both h.1.1.1 (notNone h.1.1.2)
        cases a <;> first | rfl | exact absurd rfl n1
      exact lt_main (c := true) (t := fun a b => !W.dataLt a b) hr I rx ry sub ra rb h' q fun r1 r2 h1 h2 h3 h4 => W.ge_data r1 r2 h1 h2 h3 h4
    · cases e
theorem plain_list {xs : List D} (h : okD (.list xs) = true) : PyData.plainAll xs = true := by simpa [PyData.plain] using okD_plain h
theorem plain_tup {xs : List D} (h : okD (.tuple xs) = true) : PyData.plainAll xs = true := by simpa [PyData.plain] using okD_plain h
theorem depth_list {xs : List D} (h : okD (.list xs) = true) : PyData.depthAll xs ≤ 40 := by
  have := okD_depth h
  simp only [PyData.depth] at this
  omega
theorem depth_tup {xs : List D} (h : okD (.tuple xs) = true) : PyData.depthAll xs ≤ 40 := by
  have := okD_depth h
  simp only [PyData.depth] at this
  omega
theorem room_in {k : Nat} {A : Around} (hr : Room k A) {n d : Nat} (h : n ≤ 40) : A.units + 1 + min n d < cLine := by
  have := hr.units
  have h2 : min n d ≤ n := Nat.min_le_left _ _
  omega
theorem cs_in : CmpS .In inD := by
  intro X k hr pins s σ H x y v u Q I rx ry ⟨F, a, b, c, sub, ra, rb, e, q⟩
  unfold inD at e
  split at e
  · split at e
    · rename_i h; cases e
      simp only [Bool.and_eq_true] at h
      obtain ⟨as, r1⟩ := ra.reads I sub rx (okD_plain h.1)
      obtain ⟨bs, r2⟩ := rb.reads I sub ry (okD_plain h.2)
      exact SeqAt.in_list_data r2 r1 (plain_list h.2) (okD_plain h.1) (room_in hr (depth_list h.2)) ⟨.bl _, H, I, rfl, q⟩
    · cases e
  · split at e
    · rename_i h; cases e
      simp only [Bool.and_eq_true] at h
      obtain ⟨as, r1⟩ := ra.reads I sub rx (okD_plain h.1)
      obtain ⟨bs, r2⟩ := rb.reads I sub ry (okD_plain h.2)
      exact SeqAt.in_tuple_data r2 r1 (plain_tup h.2) (okD_plain h.1) (room_in hr (depth_tup h.2)) ⟨.bl _, H, I, rfl, q⟩
    · cases e
  · split at e
    · cases e
      rw [ra.toStr] at rx; rw [rb.toStr] at ry
      exact op_in_str pins s σ H _ _ v u Q I rx ry ⟨_, _, rfl, rfl, q⟩
    · cases e
  · split at e
    · rename_i k hk
      split at e
      · rename_i hnk; cases e
        obtain ⟨b, rfl⟩ := key_ref ra hk
        obtain ⟨hk1, hk2, _⟩ := keyN_nk hk
        cases rx
        obtain ⟨a, rfl, hs, hz, ys, hd, r, _⟩ := dct_get I sub rb hnk
        cases ry
        refine in_keyed (knd := nestedKind X.prog X.w) (by have := hr.units; show X.A.units + 1 + 8 < cLine; omega) (key_is I sub ra hk1 hk2) hs ⟨ys, hd, rfl⟩ ?_
        rw [valueAt_pairsH, Option.isSome_map, ← dget_some r]
        exact ⟨.bl _, H, I.tok _, rfl, q⟩
      · cases e
    · split at e
      · rename_i k hk
        split at e
        · rename_i hfk; cases e
          obtain ⟨rfl, _⟩ := key_flat ra hk
          obtain ⟨a, rfl, hs, hz, kv, vs, fr, rel, dd⟩ := dck_get I sub rb hfk
          cases ry
          refine wpAny_in_of (kV_is rx) hs dd.mapOf ?_
          rw [← fget_some fr rel]
          exact ⟨.bl _, H, I.tok _, rfl, q⟩
        · cases e
      · cases e
  · cases e
theorem cs_notIn : CmpS .NotIn notInD := by
  intro X k hr pins s σ H x y v u Q I rx ry ⟨F, a, b, c, sub, ra, rb, e, q⟩
  unfold notInD inD at e
  split at e
  · split at e
    · rename_i h; cases e
      simp only [Bool.and_eq_true] at h
      obtain ⟨as, r1⟩ := ra.reads I sub rx (okD_plain h.1)
      obtain ⟨bs, r2⟩ := rb.reads I sub ry (okD_plain h.2)
      exact SeqAt.notIn_list_data r2 r1 (plain_list h.2) (okD_plain h.1) (room_in hr (depth_list h.2)) ⟨.bl _, H, I, rfl, q⟩
    · cases e
  · split at e
    · rename_i h; cases e
      simp only [Bool.and_eq_true] at h
      obtain ⟨as, r1⟩ := ra.reads I sub rx (okD_plain h.1)
      obtain ⟨bs, r2⟩ := rb.reads I sub ry (okD_plain h.2)
      exact SeqAt.notIn_tuple_data r2 r1 (plain_tup h.2) (okD_plain h.1) (room_in hr (depth_tup h.2)) ⟨.bl _, H, I, rfl, q⟩
    · cases e
  · split at e
    · cases e
      rw [ra.toStr] at rx; rw [rb.toStr] at ry
      exact op_notin_str pins s σ H _ _ v u Q I rx ry ⟨_, _, rfl, rfl, q⟩
    · cases e
  · split at e
    · rename_i k hk
      split at e
      · rename_i hnk; cases e
        obtain ⟨b, rfl⟩ := key_ref ra hk
        obtain ⟨hk1, hk2, _⟩ := keyN_nk hk
        cases rx
        obtain ⟨a, rfl, hs, hz, ys, hd, r, _⟩ := dct_get I sub rb hnk
        cases ry
        refine notIn_keyed (knd := nestedKind X.prog X.w) (by have := hr.units; show X.A.units + 1 + 8 < cLine; omega) (key_is I sub ra hk1 hk2) hs ⟨ys, hd, rfl⟩ ?_
        rw [valueAt_pairsH, Option.isSome_map, ← dget_some r]
        exact ⟨.bl _, H, I.tok _, rfl, q⟩
      · cases e
    · split at e
      · rename_i k hk
        split at e
        · rename_i hfk; cases e
          obtain ⟨rfl, _⟩ := key_flat ra hk
          obtain ⟨a, rfl, hs, hz, kv, vs, fr, rel, dd⟩ := dck_get I sub rb hfk
          cases ry
          refine wpAny_notIn_of (kV_is rx) hs dd.mapOf ?_
          rw [← fget_some fr rel]
          exact ⟨.bl _, H, I.tok _, rfl, q⟩
        · cases e
      · cases e
  · cases e

/-! ### subscripts, slices -/
section
variable {α : Type} {C : Ct} {ρ : Env} {m : R α}
theorem ix_main {X : Cx} {kk : Nat} (hr : Room kk X.A) {a b : D} {c : D} {F : Hp} {pins : List (Addr × Obj)} {s : Shared} {σ : L2.St} {H : Hp} {x y : V} {v u : Value} {Q : VK} {value slice : Expr} (I : Inv X pins σ H s) (rx : RelV x v) (ry : RelV y u) (sub : Same F H) (ra : Rp X.K F x a) (rb : Rp X.K F y b)
    (e : item a b = .ok c) (q : ∀ v', Rp X.K F v' c → Q v' H) (hs : subscripted slice false v u = operate [v, u] (getItem v u)) : wpAny (model X.prog X.w) X.A (PyProof.Rows.subscriptTail value slice v u) (EP X pins σ Q) X.xe s := by
  unfold item at e
  split at e
  · unfold atD at e
    split at e
    · rename_i h; cases e
      obtain ⟨p, xs, rfl, hp, rxs⟩ := ra.toTup
      rw [rb.toInt] at ry
      obtain ⟨v', h1, h2⟩ := rxs.atI h
      exact ix_tup value slice pins s σ H _ _ v u Q I rx ry ⟨p, xs, _, v', rfl, rfl, seqT sub hp, h1, q v' h2⟩ hs
    · cases e
  · unfold atD at e
    split at e
    · rename_i h; cases e
      obtain ⟨p, xs, rfl, hp, rxs⟩ := ra.toList
      rw [rb.toInt] at ry
      obtain ⟨v', h1, h2⟩ := rxs.atI h
      exact ix_list value slice pins s σ H _ _ v u Q I rx ry ⟨p, xs, _, v', rfl, rfl, SqL.of (sub _ _ hp), h1, q v' h2⟩ hs
    · cases e
  · split at e
    · rename_i hz
      split at e
      · rename_i h; cases e
        rw [ra.toStr] at rx; rw [rb.toInt] at ry
        exact ix_str value slice pins s σ H _ _ v u Q I rx ry ⟨_, _, _, rfl, rfl, szOk_line hz, h, q _ (.str _)⟩ hs
      · cases e
    · cases e
  · split at e
    · rename_i k hk
      split at e
      · rename_i hnk
        split at e
        · rename_i d hg; cases e
          obtain ⟨bb, rfl⟩ := key_ref rb hk
          obtain ⟨hk1, hk2, _⟩ := keyN_nk hk
          cases ry
          obtain ⟨aa, rfl, hsm, hz, ys, hd, r, _⟩ := dct_get I sub ra hnk
          cases rx
          rcases dget_rel (k := k) r with ⟨n1, _⟩ | ⟨d', b', u', v', e1, e2, e3, e4⟩
          · rw [n1] at hg; cases hg
          · rw [e1] at hg; cases hg
            refine PyProof.Rows.tail_any (Heap.DictOfH.typeIs hd) slot_dict_getitem.lookup (getItem_keyed (knd := nestedKind X.prog X.w) (v := u') (by have := hr.units; show X.A.units + 1 + 8 < cLine; omega) (key_is I sub rb hk1 hk2) ⟨ys, hd, rfl⟩ ?_ ?_) hs
            · rw [valueAt_pairsH, e2]; rfl
            · exact ⟨v', H, I.tok _, e3, q v' e4⟩
        · cases e
      · cases e
    · split at e
      · rename_i k hk
        split at e
        · rename_i hfk
          split at e
          · rename_i d hg; cases e
            obtain ⟨rfl, _⟩ := key_flat rb hk
            obtain ⟨aa, rfl, hsm, hz, kv, vs, fr, rel, dd⟩ := dck_get I sub ra hfk
            cases rx
            rcases fget_rel (k := k) fr rel with ⟨n1, _⟩ | ⟨d', v', u', e1, e2, e3, e4⟩
            · rw [n1] at hg; cases hg
            · rw [e1] at hg; cases hg
              exact PyProof.Rows.tail_any dd.typeIs slot_dict_getitem.lookup (wpAny_getItem_of (kV_is ry) dd.mapOf e2 ⟨v', H, I.tok _, e3, q v' e4⟩) hs
          · cases e
        · cases e
      · cases e
  · cases e
theorem de_ix {κ : D → Env → R α → Prop} {a b : Expr} {pos : Pos} (h : DE C ρ a m fun x ρ1 m1 => DE C ρ1 b m1 fun y ρ2 m2 => ∃ g, m2 = (item x y).bind g ∧ ∀ z, κ z ρ2 (g z)) (hs : PlainIx b := by intro _ _; rfl) : DE C ρ (.Subscript a b pos) m κ := by
  intro X W Z x hK c z
  have x0 := x
  have hb : PE X b fun σ H Q => ∃ i : R α × Env × D, (DE C i.2.1 b i.1 (fun y ρ2 m2 => ∃ g, m2 = (item i.2.2 y).bind g ∧ ∀ z, κ z ρ2 (g z)) ∧ Z i.1) ∧ ∃ F, Rel W i.2.1 σ H F ∧ ∀ d ρ' m' v H' F', (∃ g, m' = (item i.2.2 d).bind g ∧ ∀ z, κ z ρ' (g z)) → Z m' → Rel W ρ' σ H' F' → Same F F' → Rp W.K F' v d → Q v H' :=
    ⟨fun p s σ H Q I ⟨i, pi, q⟩ => (pi.1 X W Z x hK c pi.2).run p s σ H Q I q⟩
  have hix : IxR X fun x y H Q => ∃ (F : Hp) (a b c : D), Same F H ∧ Rp X.K F x a ∧ Rp X.K F y b ∧ item a b = .ok c ∧ ∀ v', Rp X.K F v' c → Q v' H :=
    fun value slice pins s σ H x y v u Q I rx ry ⟨F, a, b, c, sub, ra, rb, e, q⟩ hs => ix_main x0.room I rx ry sub ra rb e q hs
  refine PE_imp (pe_ix hix (h X W Z x hK c z) hb hs) fun σ H Q ⟨F, r, q⟩ => ⟨F, r, fun dx ρ1 m1 vx H1 F1 h1 h2 h3 h4 h5 => ?_⟩
  refine ⟨(m1, ρ1, dx), ⟨h1, h2⟩, F1, h3, fun dy ρ2 m2 vy H2 F2 ⟨g, e, hg⟩ k2 k3 k4 k5 => ?_⟩
  subst e
  obtain ⟨w, ew, zw⟩ := c.bind k2
  refine ⟨F2, dx, dy, w, k3.sub, by rw [x.K, ← hK]; exact h5.mono k4, by rw [x.K, ← hK]; exact k5, ew, fun v' p' => ?_⟩
  exact q _ ρ2 _ v' H2 F2 (hg w) zw k3 (h4.trans k4) (by rw [hK, ← x.K]; exact p')
/-- an end of a slice: none, or a part -/
def DO {α : Type} (C : Ct) (ρ : Env) (e : Option Expr) (m : R α) (κ : Option Int → Env → R α → Prop) : Prop :=
  match e with
  | none => κ none ρ m
  | some e => DE C ρ e m fun d ρ1 m1 => (∃ i, d = .int i ∧ κ (some i) ρ1 m1) ∨ ∃ g, m1 = (toI d).bind g ∧ ∀ l, κ (some l) ρ1 (g l)
theorem po_of {X : Cx} {W : Wd} {Z : R α → Prop} (x : XOk C X) (hK : W.K = C.K) (c : ClX X W Z) {e : Option Expr} : PO X e fun σ H (Q : Option Int → Hp → Prop) => ∃ (i : R α × Env) (κ : Option Int → Env → R α → Prop), (DO C i.2 e i.1 κ ∧ Z i.1) ∧ ∃ F, Rel W i.2 σ H F ∧
    ∀ d ρ' m' H' F', κ d ρ' m' → Z m' → Rel W ρ' σ H' F' → Same F F' → Q d H' := by
  cases e with
  | none =>
    refine ⟨fun pins s σ H Q I ⟨i, κ, ⟨h, z⟩, F, r, q⟩ => ?_⟩
    exact po_none.run pins s σ H Q I (q none i.2 i.1 H F h z r (Same.refl _))
  | some e =>
    refine ⟨fun pins s σ H Q I ⟨i, κ, ⟨h, z⟩, F, r, q⟩ => ?_⟩
    refine (po_some (h X W Z x hK c z)).run pins s σ H Q I ⟨F, r, fun d ρ' m' v H' F' h1 h2 h3 h4 h5 => ?_⟩
    rcases h1 with ⟨i, e, h1⟩ | ⟨g, e, h1⟩
    · subst e; exact ⟨i, h5.toInt, q _ ρ' m' H' F' h1 h2 h3 h4⟩
    · subst e
      obtain ⟨l, el, zl⟩ := c.bind h2
      unfold toI at el
      split at el
      · cases el; exact ⟨_, h5.toInt, q _ ρ' _ H' F' (h1 _) zl h3 h4⟩
      · cases el
end
end Z

set_option Elab.async false
set_option linter.all false
set_option maxRecDepth 100000
set_option autoImplicit false
/-! # Z9: slices, built-in functions, isinstance, repr -/
namespace Z
open PySem L2
section
variable {α : Type} {C : Ct} {ρ : Env} {m : R α}

/-! ### slices -/
def rSlZ (K : PySem.W.Frag) : V → Option Int → Option Int → Hp → VK → Prop := fun x lo hi H Q => ∃ (F : Hp) (a c : D), Same F H ∧ Rp K F x a ∧ slice a lo hi = .ok c ∧ ∀ v H' F', Fx F H F' H' → Rp K F' v c → Q v H'
theorem cut_whole {α : Type} {xs : List α} {lo hi : Option Int} (h : HT.sIx xs.length 0 lo = 0 ∧ HT.sIx xs.length xs.length hi = xs.length) : cut xs lo hi = xs := by
  unfold Z.cut
  rw [h.1, h.2]
  simp
theorem sl_z {X : Cx} : L2.SlR X (rSlZ X.K) := by
  intro pins s σ H x v vl vu lo hi sl Q I rx hs pl pu ⟨F, a, c, sub, ra, e, q⟩
  unfold slice at e
  split at e
  · cases e
    obtain ⟨p, xs, rfl, hp, hpl, rxs⟩ := ra.toTup'
    refine sl_tupF pins s σ H _ v vl vu lo hi sl Q I rx hs pl pu ⟨p, xs, rfl, seqT sub hp, fun hw => ?_, fun _ => newT sub (rxs.cut lo hi) q⟩
    rw [rxs.length] at hw
    rw [cut_whole hw] at q
    exact q _ H F (Fx.refl sub) (.tup hp hpl rxs)
  · cases e
    obtain ⟨p, xs, rfl, hp, rxs⟩ := ra.toList
    exact sl_list pins s σ H _ v vl vu lo hi sl Q I rx hs pl pu ⟨p, xs, rfl, SqL.of (sub _ _ hp), newL sub (rxs.cut lo hi) q⟩
  · split at e
    · rename_i hz; cases e
      rw [ra.toStr] at rx
      exact sl_str pins s σ H _ v vl vu lo hi sl Q I rx hs pl pu ⟨_, rfl, szOk_line hz, q _ H F (Fx.refl sub) (.str _)⟩
    · cases e
  · cases e
theorem de_slice {κ : D → Env → R α → Prop} {a : Expr} {lo hi : Option Expr} {p pos : Pos} (h : DE C ρ a m fun x ρ1 m1 => DO C ρ1 lo m1 fun l ρ2 m2 => DO C ρ2 hi m2 fun u ρ3 m3 => ∃ g, m3 = (slice x l u).bind g ∧ ∀ z, κ z ρ3 (g z)) :
    DE C ρ (.Subscript a (.Slice lo hi none p) pos) m κ := by
  intro X W Z x hK c z
  refine PE_imp (pe_slice sl_z (h X W Z x hK c z) (po_of x hK c) (po_of x hK c)) fun σ H Q ⟨F, r, q⟩ => ⟨F, r, fun dx ρ1 m1 vx H1 F1 h1 h2 h3 h4 h5 => ?_⟩
  refine ⟨(m1, ρ1), _, ⟨h1, h2⟩, F1, h3, fun dl ρ2 m2 H2 F2 k1 k2 k3 k4 => ?_⟩
  refine ⟨(m2, ρ2), _, ⟨k1, k2⟩, F2, k3, fun du ρ3 m3 H3 F3 ⟨g, e, hg⟩ j2 j3 j4 => ?_⟩
  subst e
  obtain ⟨w, ew, zw⟩ := c.bind j2
  refine ⟨F3, dx, w, j3.sub, by rw [x.K, ← hK]; exact (h5.mono k4).mono j4, ew, fun v' H' F' fx p' => ?_⟩
  exact q _ ρ3 _ v' H' F' (hg w) zw (j3.step fx) (((h4.trans k4).trans j4).trans fx.ff) (by rw [hK, ← x.K]; exact p')
theorem de_negc {κ : D → Env → R α → Prop} {i : Int} {j : Nat} {p pos : Pos} (k : κ (.int (-i)) ρ m) : DE C ρ (.UnaryOp .USub (.Constant (.int i) j p) pos) m κ := by
  intro X W Z x hK c z
  refine PE_imp (pe_un un_neg pe_int) fun σ H Q ⟨F, r, q⟩ => ⟨_, rfl, q _ ρ m _ H F k z r (Same.refl _) (.int _)⟩

/-! ### built-in functions, by data -/
def rD (K : PySem.W.Frag) (f : List D → R D) : List V → Hp → VK → Prop := fun vs H Q => ∃ F ds c, Same F H ∧ RpAll K F vs ds ∧ f ds = .ok c ∧ ∀ v H' F', Fx F H F' H' → Rp K F' v c → Q v H'
def CallS (u : Value) (f : List D → R D) : Prop := ∀ (X : Cx) (k : Nat), X.calm = true → Room k X.A → X.A.guards = some [] → CallR X u (rD X.K f)
theorem da_call {κ : D → Env → R α → Prop} {X : Cx} {W : Wd} {Z : R α → Prop} {f : List D → R D} {es : List Expr} (x : XOk C X) (hK : W.K = C.K) (c : ClX X W Z) {σ : L2.St} {H : Hp} {Q : VK} {F : Hp} (r : Rel W ρ σ H F)
    (q : ∀ d ρ' m' v H' F', κ d ρ' m' → Z m' → Rel W ρ' σ H' F' → Same F F' → Rp W.K F' v d → Q v H') : ∀ ds ρ' m' vs H' F', (∃ (r0 : R D) (g : D → R α), f ds = r0 ∧ m' = r0.bind g ∧ ∀ z, κ z ρ' (g z)) → Z m' → Rel W ρ' σ H' F' → Same F F' → RpAll W.K F' vs ds → rD X.K f vs H' Q := by
  intro ds ρ' m' vs H' F' ⟨r0, g, e0, e, hg⟩ h2 h3 h4 h5
  subst e0 e
  obtain ⟨w, ew, zw⟩ := c.bind h2
  exact ⟨F', ds, w, h3.sub, by rw [x.K, ← hK]; exact h5, ew, fun v' H2 F2 fx p => q _ ρ' _ v' H2 F2 (hg w) zw (h3.step fx) (h4.trans fx.ff) (by rw [hK, ← x.K]; exact p)⟩
theorem de_blt {κ : D → Env → R α → Prop} {n : Str} {id : String} {f : List D → R D} {p pos : Pos} {e : Expr} {es : List Expr} (hc : CallS (.builtin id) f) (hm : C.mg n = none) (hv : bootBuiltins n = some (.builtin id))
    (h : DA C ρ (e :: es) m fun ds ρ1 m1 => ∃ (r0 : R D) (g : D → R α), f ds = r0 ∧ m1 = r0.bind g ∧ ∀ z, κ z ρ1 (g z)) (hg : C.sc.names.lookup n = some .globalImplicit := by rfl) (hn : n ≠ "__name__" := by decide) (hdb : (n == ("__debug__" : Str)) = false := by decide)
    (he : ∀ env : PySem.Env, starEach (e :: es) env = (false, eval e env) :: starEach es env := by intro _; rfl) (hpl : ∀ env : PySem.Env, (backTo pos (starEach es env)).any (·.1) = false := by intro _; rfl) : DE C ρ (.Call (.Name n p) (e :: es) [] pos) m κ := by
  intro X W Z x hK c z
  refine PE_imp (pe_callB (hc X _ x.calm x.room x.grd) (x.gl hg) (x.mg0 hm) hv (h X W Z x hK c z) hn hdb (he _) (hpl _)) fun σ H Q ⟨F, r, q⟩ => ⟨F, r, da_call (κ := κ) (es := es) x hK c r q⟩
theorem de_bty {κ : D → Env → R α → Prop} {n : Str} {T : String} {f : List D → R D} {p pos : Pos} {e : Expr} {es : List Expr} (hc : CallS (.type T) f) (hm : C.mg n = none) (hv : bootBuiltins n = some (.type T))
    (h : DA C ρ (e :: es) m fun ds ρ1 m1 => ∃ (r0 : R D) (g : D → R α), f ds = r0 ∧ m1 = r0.bind g ∧ ∀ z, κ z ρ1 (g z)) (hg : C.sc.names.lookup n = some .globalImplicit := by rfl) (hn : n ≠ "__name__" := by decide) (hdb : (n == ("__debug__" : Str)) = false := by decide)
    (he : ∀ env : PySem.Env, starEach (e :: es) env = (false, eval e env) :: starEach es env := by intro _; rfl) (hpl : ∀ env : PySem.Env, (backTo pos (starEach es env)).any (·.1) = false := by intro _; rfl) : DE C ρ (.Call (.Name n p) (e :: es) [] pos) m κ := by
  intro X W Z x hK c z
  refine PE_imp (pe_callTy (hc X _ x.calm x.room x.grd) (x.gl hg) (x.mg0 hm) hv (h X W Z x hK c z) hn hdb (he _) (hpl _)) fun σ H Q ⟨F, r, q⟩ => ⟨F, r, da_call (κ := κ) (es := es) x hK c r q⟩
/-- a module's name for a built-in function (gcd) -/
theorem de_bfn {κ : D → Env → R α → Prop} {n : Str} {id : String} {f : List D → R D} {p pos : Pos} {e : Expr} {es : List Expr} (hc : CallS (.builtin id) f) (hm : C.mg n = some (.builtin id))
    (h : DA C ρ (e :: es) m fun ds ρ1 m1 => ∃ (r0 : R D) (g : D → R α), f ds = r0 ∧ m1 = r0.bind g ∧ ∀ z, κ z ρ1 (g z)) (hg : C.sc.names.lookup n = some .globalImplicit := by rfl) (hdb : (n == ("__debug__" : Str)) = false := by decide)
    (he : ∀ env : PySem.Env, starEach (e :: es) env = (false, eval e env) :: starEach es env := by intro _; rfl) (hpl : ∀ env : PySem.Env, (backTo pos (starEach es env)).any (·.1) = false := by intro _; rfl) : DE C ρ (.Call (.Name n p) (e :: es) [] pos) m κ := by
  intro X W Z x hK c z
  refine PE_imp (pe_callBfun (hc X _ x.calm x.room x.grd) (x.gl hg) (by rw [x.mg]; exact hm) (h X W Z x hK c z) hdb (he _) (hpl _)) fun σ H Q ⟨F, r, q⟩ => ⟨F, r, da_call (κ := κ) (es := es) x hK c r q⟩
end

theorem fn1_ok {f : D → R D} {ds : List D} {c : D} (h : fn1 f ds = .ok c) : ∃ a, ds = [a] ∧ f a = .ok c := by
  match ds, h with
  | [a], h => exact ⟨a, rfl, h⟩
theorem fn2_ok {f : D → D → R D} {ds : List D} {c : D} (h : fn2 f ds = .ok c) : ∃ a b, ds = [a, b] ∧ f a b = .ok c := by
  match ds, h with
  | [a, b], h => exact ⟨a, b, rfl, h⟩
theorem bl_len : CallS (.builtin "len") (fn1 lenD) := by
  intro X k hc hr gd pins s σ H vs us Q I rv ⟨F, ds, c, sub, ra0, e0, q⟩
  obtain ⟨a, rfl, e⟩ := fn1_ok e0
  obtain ⟨v, rfl, ra⟩ := ra0.one
  unfold lenD at e
  split at e
  · cases e
    obtain ⟨p, xs, rfl, hp, rxs⟩ := ra.toTup
    exact call_len pins s σ H _ us Q I rv ⟨_, xs.length, rfl, .inr ⟨xs, seqT sub hp, rfl⟩, by rw [rxs.length]; exact q _ H F (Fx.refl sub) (.int _)⟩
  · cases e
    obtain ⟨p, xs, rfl, hp, rxs⟩ := ra.toList
    exact call_len pins s σ H _ us Q I rv ⟨_, xs.length, rfl, .inl ⟨xs, SqL.of (sub _ _ hp), rfl⟩, by rw [rxs.length]; exact q _ H F (Fx.refl sub) (.int _)⟩
  · split at e
    · rename_i hz; cases e
      rw [ra.toStr] at rv
      exact call_len pins s σ H _ us Q I rv ⟨_, _, rfl, ⟨szOk_line hz, rfl⟩, q _ H F (Fx.refl sub) (.int _)⟩
    · cases e
  · cases e
    obtain ⟨u, rfl, ru⟩ := Vals.one rv
    obtain ⟨a, es, ep, kV, vV, rfl, hs, hz, raw, hsz, _, _, _, _⟩ := dict_raw I sub ra
    cases ru
    have hz' := hz
    rw [sizeLine_eq] at hz'
    have raw' : s.heap.DictRaw a es ep := raw
    refine PyProof.Rows.call_len_slot (T := "dict") (n := es.size) raw'.typeIs PySem.F.slot_dict_len (fun Q' hq => call_len_raw hs raw' hq) (by omega) (by omega) ?_
    rw [hsz]
    exact ⟨.int _, H, I.tok _, ⟨_, rfl⟩, q _ H F (Fx.refl sub) (.int _)⟩
  · cases e
theorem bl_abs : CallS (.builtin "abs") (fn1 absD) := by
  intro X k hc hr gd pins s σ H vs us Q I rv ⟨F, ds, c, sub, ra0, e0, q⟩
  obtain ⟨a, rfl, e⟩ := fn1_ok e0
  obtain ⟨v, rfl, ra⟩ := ra0.one
  unfold absD at e
  split at e
  · cases e
    rw [ra.toInt] at rv
    exact call_abs pins s σ H _ us Q I rv ⟨_, rfl, q _ H F (Fx.refl sub) (.int _)⟩
  · cases e
theorem bl_max2 : CallS (.builtin "max") (fn2 maxD2) := by
  intro X k hc hr gd pins s σ H vs us Q I rv ⟨F, ds, c, sub, ra0, e0, q⟩
  obtain ⟨a, b, rfl, e⟩ := fn2_ok e0
  obtain ⟨v, u, rfl, ra, rb⟩ := ra0.two
  unfold maxD2 at e
  split at e
  · cases e
    rw [ra.toInt, rb.toInt] at rv
    exact call_max2 hc pins s σ H _ us Q I rv ⟨_, _, rfl, q _ H F (Fx.refl sub) (.int _)⟩
  · cases e
theorem bl_min2 : CallS (.builtin "min") (fn2 minD2) := by
  intro X k hc hr gd pins s σ H vs us Q I rv ⟨F, ds, c, sub, ra0, e0, q⟩
  obtain ⟨a, b, rfl, e⟩ := fn2_ok e0
  obtain ⟨v, u, rfl, ra, rb⟩ := ra0.two
  unfold minD2 at e
  split at e
  · cases e
    rw [ra.toInt, rb.toInt] at rv
    exact call_min2 hc pins s σ H _ us Q I rv ⟨_, _, rfl, q _ H F (Fx.refl sub) (.int _)⟩
  · cases e
theorem bl_int : CallS (.type "int") (fn1 intD) := by
  intro X k hc hr gd pins s σ H vs us Q I rv ⟨F, ds, c, sub, ra0, e0, q⟩
  obtain ⟨a, rfl, e⟩ := fn1_ok e0
  obtain ⟨v, rfl, ra⟩ := ra0.one
  unfold intD at e
  split at e
  · cases e
    rw [ra.toInt] at rv
    exact call_int1 pins s σ H _ us Q I rv (.inl ⟨_, rfl, q _ H F (Fx.refl sub) (.int _)⟩)
  · cases e
    rw [ra.toBool] at rv
    exact call_int1 pins s σ H _ us Q I rv (.inr ⟨_, rfl, q _ H F (Fx.refl sub) (.int _)⟩)
  · cases e
theorem bl_gcd : CallS (.builtin "math.gcd") (fn2 gcdD) := by
  intro X k hc hr gd pins s σ H vs us Q I rv ⟨F, ds, c, sub, ra0, e0, q⟩
  obtain ⟨a, b, rfl, e⟩ := fn2_ok e0
  obtain ⟨v, u, rfl, ra, rb⟩ := ra0.two
  unfold gcdD at e
  split at e
  · cases e
    rw [ra.toInt, rb.toInt] at rv
    exact cr_gcd pins s σ H _ us Q I rv ⟨_, _, rfl, q _ H F (Fx.refl sub) (.int _)⟩
  · cases e
theorem bl_tuple : CallS (.type "tuple") (fn1 tupleD) := by
  intro X k hc hr gd pins s σ H vs us Q I rv ⟨F, ds, c, sub, ra0, e0, q⟩
  obtain ⟨a, rfl, e⟩ := fn1_ok e0
  obtain ⟨v, rfl, ra⟩ := ra0.one
  unfold tupleD at e
  split at e
  · cases e
    obtain ⟨p, xs, rfl, hp, rxs⟩ := ra.toList
    exact call_tupleF pins s σ H _ us Q I rv ⟨_, xs, rfl, .inl ⟨SqL.of (sub _ _ hp), newT sub rxs q⟩⟩
  · cases e
    obtain ⟨p, xs, rfl, hp, hpl, rxs⟩ := ra.toTup'
    exact call_tupleF pins s σ H _ us Q I rv ⟨_, xs, rfl, .inr ⟨seqT sub hp, q _ H F (Fx.refl sub) (.tup hp hpl rxs)⟩⟩
  · cases e
theorem keys_rp {K : PySem.W.Frag} {F : Hp} : ∀ {kvs : List (D × D)} {ys : List (NestedKey × Addr × Value)}, Paired (DR K F) kvs ys → RpAll K F (ys.map fun y => .ref y.2.1) (kvs.map (·.1))
  | _, _, .nil => .nil
  | _, _, .cons h t => .cons h.1 (keys_rp t)
theorem keys_vals : ∀ ys : List (NestedKey × Addr × Value), Vals (ys.map fun y => V.ref y.2.1) (ys.map fun y => Value.ref y.2.1)
  | [] => .nil
  | _ :: r => .cons rfl (keys_vals r)
theorem items_keys {P : Program} {w : World} {h : Heap} {ys : List (NestedKey × Addr × Value)} {es : Array DictEntry} {acc : List Value} (hs : es.size = ys.length)
    (he : ∀ i (hi : i < es.size), ∃ y, ys[i]? = some y ∧ es[i].key = .ref y.2.1 ∧ es[i].val = y.2.2 ∧ (nestedKind P w).is h y.1 y.2.1) (hl : acc.length = es.size) (hv : ∀ j v, acc[j]? = some v → ∃ hi : j < es.size, v = es[j].key) :
    acc = ys.map fun y => .ref y.2.1 := by
  apply List.ext_getElem?
  intro j
  by_cases hj : j < es.size
  · obtain ⟨y, e1, e2, _⟩ := he j hj
    have hj' : j < acc.length := by omega
    obtain ⟨_, e3⟩ := hv j acc[j] (List.getElem?_eq_getElem hj')
    rw [List.getElem?_map, e1, List.getElem?_eq_getElem hj', e3, e2]; rfl
  · rw [List.getElem?_eq_none (by omega), List.getElem?_eq_none (by rw [List.length_map]; omega)]
theorem raw_keys {es : Array DictEntry} {acc : List Value} (hl : acc.length = es.size) (hv : ∀ j v, acc[j]? = some v → ∃ hi : j < es.size, v = es[j].key) : acc = es.toList.map (·.key) := by
  apply List.ext_getElem?
  intro j
  by_cases hj : j < es.size
  · have hj' : j < acc.length := by omega
    obtain ⟨_, e3⟩ := hv j acc[j] (List.getElem?_eq_getElem hj')
    rw [List.getElem?_eq_getElem hj', e3]
    simp [hj]
  · rw [List.getElem?_eq_none (by omega), List.getElem?_eq_none (by rw [List.length_map, Array.length_toList]; omega)]
theorem bl_list : CallS (.type "list") (fn1 listD) := by
  intro X k hc hr gd pins s σ H vs us Q I rv ⟨F, ds, c, sub, ra0, e0, q⟩
  obtain ⟨a, rfl, e⟩ := fn1_ok e0
  obtain ⟨v, rfl, ra⟩ := ra0.one
  unfold listD at e
  split at e
  · cases e
    obtain ⟨p, xs, rfl, hp, rxs⟩ := ra.toList
    exact call_list_of pins s σ H _ us Q I rv ⟨_, xs, rfl, .inl (SqL.of (sub _ _ hp)), newL sub rxs q⟩
  · cases e
    obtain ⟨p, xs, rfl, hp, rxs⟩ := ra.toTup
    exact call_list_of pins s σ H _ us Q I rv ⟨_, xs, rfl, .inr (seqT sub hp), newL sub rxs q⟩
  · cases e
    obtain ⟨u, rfl, ru⟩ := Vals.one rv
    obtain ⟨a, es, ep, kV, vV, rfl, hs, hz, raw, hsz, rk, vk, _, _⟩ := dict_raw I sub ra
    cases ru
    have hr' : s.heap.DictRaw a es ep := raw
    refine PySem.W.kdl_call (KdlSrc.rawDict (ep := ep) (es := es) hs) (I.ok.hd hc) hr' (by rw [hsz]; exact hz) fun h' tk acc' c' kp hS hacc => ?_
    have ea := raw_keys (acc := acc'.toList) (es := es) (by rw [Array.length_toList]; exact hacc.1) fun j v e => hacc.2 j v (by rw [← Array.getElem?_toList]; exact e)
    have hp := I.hok.fresh (Nat.le_refl s.heap.objs.size)
    refine ⟨.ref s.heap.objs.size, _, I.laid (t' := tk) (o := .lst kV) kp (Nat.le_refl _) ⟨?_, acc'.toList, c', ?_, ?_⟩, rfl, newL sub rk q _ hp⟩
    · rw [rk.length, List.length_map]; exact hz
    · rw [ea]; exact vk
    · rw [Array.toArray_toList]; exact hS
  · cases e
theorem ints_of {K : PySem.W.Frag} {F : Hp} : ∀ {vs : List V} {ds : List D} {ns : List Int}, RpAll K F vs ds → intsD ds = some ns → vs = ns.map V.int
  | _, _, ns, .nil, e => by cases e; rfl
  | _, _, ns, .cons (d := .int i) h t, e => by
    simp only [intsD] at e
    obtain ⟨ms, e1, e2⟩ := Option.map_eq_some_iff.mp e
    subst e2
    rw [h.toInt, ints_of t e1]; rfl
  | _, _, ns, .cons (d := .none) h t, e => by cases e
  | _, _, ns, .cons (d := .bool _) h t, e => by cases e
  | _, _, ns, .cons (d := .str _) h t, e => by cases e
  | _, _, ns, .cons (d := .list _) h t, e => by cases e
  | _, _, ns, .cons (d := .tuple _) h t, e => by cases e
  | _, _, ns, .cons (d := .dict _) h t, e => by cases e
theorem bools_of {K : PySem.W.Frag} {F : Hp} : ∀ {vs : List V} {ds : List D} {ns : List Bool}, RpAll K F vs ds → boolsD ds = some ns → vs = ns.map V.bl
  | _, _, ns, .nil, e => by cases e; rfl
  | _, _, ns, .cons (d := .bool i) h t, e => by
    simp only [boolsD] at e
    obtain ⟨ms, e1, e2⟩ := Option.map_eq_some_iff.mp e
    subst e2
    rw [h.toBool, bools_of t e1]; rfl
  | _, _, ns, .cons (d := .none) h t, e => by cases e
  | _, _, ns, .cons (d := .int _) h t, e => by cases e
  | _, _, ns, .cons (d := .str _) h t, e => by cases e
  | _, _, ns, .cons (d := .list _) h t, e => by cases e
  | _, _, ns, .cons (d := .tuple _) h t, e => by cases e
  | _, _, ns, .cons (d := .dict _) h t, e => by cases e
theorem bl_sum : CallS (.builtin "sum") (fn1 sumL) := by
  intro X k hc hr gd pins s σ H vs us Q I rv ⟨F, ds, c, sub, ra0, e0, q⟩
  obtain ⟨a, rfl, e⟩ := fn1_ok e0
  obtain ⟨v, rfl, ra⟩ := ra0.one
  unfold sumL at e
  split at e
  · split at e
    · rename_i hn; cases e
      obtain ⟨p, xs, rfl, hp, rxs⟩ := ra.toList
      have ex := ints_of rxs hn
      subst ex
      exact cr_sum hc pins s σ H _ us Q I rv ⟨_, _, rfl, SqL.of (sub _ _ hp), q _ H F (Fx.refl sub) (.int _)⟩
    · cases e
  · cases e
theorem bl_all : CallS (.builtin "all") (fn1 allL) := by
  intro X k hc hr gd pins s σ H vs us Q I rv ⟨F, ds, c, sub, ra0, e0, q⟩
  obtain ⟨a, rfl, e⟩ := fn1_ok e0
  obtain ⟨v, rfl, ra⟩ := ra0.one
  unfold allL at e
  split at e
  · split at e
    · rename_i hn; cases e
      obtain ⟨p, xs, rfl, hp, rxs⟩ := ra.toList
      have ex := bools_of rxs hn
      subst ex
      exact cr_all hc pins s σ H _ us Q I rv ⟨_, _, rfl, SqL.of (sub _ _ hp), q _ H F (Fx.refl sub) (.bl _)⟩
    · cases e
  · cases e

/-! ### dict(pairs), sorted -/
section
variable {X : Cx} {pins : List (Addr × Obj)} {σ : L2.St} {H F : Hp} {s : Shared}
theorem pairs_get (I : Inv X pins σ H s) (e : Same F H) : ∀ {vs : List V} {ds : List D} {us : List Value} {qs : List (D × NestedKey × D)}, RpAll X.K F vs ds → Vals vs us → pairsK ds = some qs →
    ∃ ts : List (Addr × NestedKey × Addr × Value), us = ts.map (fun t => .ref t.1) ∧ (∀ t ∈ ts, PyProof.Rows.IsTup s.heap t.1 #[.ref t.2.2.1, t.2.2.2] ∧ (nestedKind X.prog X.w).is s.heap t.2.1 t.2.2.1) ∧
      Paired (fun (q : D × NestedKey × D) (t : Addr × NestedKey × Addr × Value) => q.2.1 = t.2.1 ∧ nk q.1 = some q.2.1 ∧ Rp X.K F (.ref t.2.2.1) q.1 ∧ ∃ v, RelV v t.2.2.2 ∧ Rp X.K F v q.2.2) qs ts
  | _, _, us, qs, .nil, r, h => by
    cases r
    simp only [pairsK, Option.some.injEq] at h; subst h
    exact ⟨[], rfl, by simp, .nil⟩
  | _, _, us, qs, .cons (d := d) ra rt, r, h => by
    cases r with
    | cons r1 r2 =>
      unfold pairsK at h
      split at h
      · rename_i heq; cases heq
      · rename_i kd v rr heq
        cases heq
        obtain ⟨k, e1, h2⟩ := Option.bind_eq_some_iff.mp h
        obtain ⟨qs', e2, rfl⟩ := Option.map_eq_some_iff.mp h2
        obtain ⟨T, xs, rfl, hT, rx⟩ := ra.toTup
        obtain ⟨kv, vv, rfl, rk, rvv⟩ := rx.two
        cases r1
        obtain ⟨b, rfl⟩ := key_ref rk e1
        obtain ⟨k1, k2, _⟩ := keyN_nk e1
        obtain ⟨its, ri, ti, _⟩ := I.tuple (seqT e hT)
        obtain ⟨u1, u2, rfl, q1, q2⟩ := vals2 ri
        cases q1
        obtain ⟨ts, t1, t2, t3⟩ := pairs_get I e rt r2 e2
        refine ⟨(T, k, b, u2) :: ts, by rw [t1]; rfl, fun t ht => ?_, .cons ⟨rfl, k1, rk, vv, q2, rvv⟩ t3⟩
        rcases List.mem_cons.mp ht with rfl | ht
        · exact ⟨ti, key_is I e rk k1 k2⟩
        · exact t2 t ht
      · cases h
end
theorem dmerge_rel {K : PySem.W.Frag} {F : Hp} : ∀ {qs : List (D × NestedKey × D)} {ts : List (Addr × NestedKey × Addr × Value)} {kvs : List (D × D)} {ys : List (NestedKey × Addr × Value)},
    Paired (fun (q : D × NestedKey × D) (t : Addr × NestedKey × Addr × Value) => q.2.1 = t.2.1 ∧ nk q.1 = some q.2.1 ∧ Rp K F (.ref t.2.2.1) q.1 ∧ ∃ v, RelV v t.2.2.2 ∧ Rp K F v q.2.2) qs ts → Paired (DR K F) kvs ys →
    Paired (DR K F) (dMerge kvs qs) (storedAllH ys (ts.map fun t => t.2))
  | _, _, kvs, ys, .nil, r => r
  | _, _, kvs, ys, .cons (a := q) (b := t) (l₁ := qs) (l₂ := ts) ⟨a1, a2, a3, v, a4, a5⟩ tl, r => by
    show Paired _ (dMerge (dSet kvs q.1 q.2.1 q.2.2) qs) (storedAllH (storedH ys t.2.1 t.2.2.1 t.2.2.2) (ts.map fun t => t.2))
    refine dmerge_rel tl ?_
    rw [a1] at a2 ⊢
    exact dset_rel r a3 a2 a4 a5
theorem dmerge_length : ∀ (qs : List (D × NestedKey × D)) (kvs : List (D × D)), (dMerge kvs qs).length ≤ kvs.length + qs.length
  | [], kvs => Nat.le_refl _
  | (kd, k, v) :: qs, kvs => by
    have h1 := dmerge_length qs (dSet kvs kd k v)
    have h2 := dset_length kvs kd k v
    show (dMerge (dSet kvs kd k v) qs).length ≤ _
    rw [List.length_cons]; omega
section
variable {X : Cx} {pins : List (Addr × Obj)} {σ : L2.St} {H F : Hp} {s : Shared}
theorem pairs_getF (I : Inv X pins σ H s) (e : Same F H) : ∀ {vs : List V} {ds : List D} {us : List Value} {qs : List (D × L2.Key × D)}, RpAll X.K F vs ds → Vals vs us → pairsF ds = some qs →
    ∃ (kv : List (L2.Key × V)) (prs : List (L2.Key × Value)), KV kv prs ∧ us.length = prs.length ∧ qs.map (fun q => q.2.1) = kv.map (·.1) ∧ (∀ q ∈ qs, q.1 = keyD q.2.1) ∧ RpAll X.K F (kv.map (·.2)) (qs.map fun q => q.2.2) ∧
      ∀ (j : Nat) (q : L2.Key × Value), prs[j]? = some q → ∃ (b : Addr) (u : Value), us[j]? = some (.ref b) ∧ PyProof.Rows.IsTup s.heap b #[u, q.2] ∧ keyIs q.1 u = true
  | _, _, us, qs, .nil, r, h => by
    cases r
    simp only [pairsF, Option.some.injEq] at h; subst h
    exact ⟨[], [], .nil, rfl, rfl, by simp, .nil, fun j q e => by simp at e⟩
  | _, _, us, qs, .cons (d := d) ra rt, r, h => by
    cases r with
    | cons r1 r2 =>
      unfold pairsF at h
      split at h
      · rename_i heq; cases heq
      · rename_i kd v rr heq
        cases heq
        obtain ⟨k, e1, h2⟩ := Option.bind_eq_some_iff.mp h
        obtain ⟨qs', e2, rfl⟩ := Option.map_eq_some_iff.mp h2
        obtain ⟨T, xs, rfl, hT, rx⟩ := ra.toTup
        obtain ⟨kv, vv, rfl, rk, rvv⟩ := rx.two
        cases r1
        obtain ⟨rfl, rfl⟩ := key_flat rk e1
        obtain ⟨its, ri, ti, _⟩ := I.tuple (seqT e hT)
        obtain ⟨u1, u2, rfl, q1, q2⟩ := vals2 ri
        obtain ⟨kvl, prs, t0, t1, t2, t3, t4, t5⟩ := pairs_getF I e rt r2 e2
        refine ⟨(k, vv) :: kvl, (k, u2) :: prs, .cons ⟨rfl, q2⟩ t0, by simp [t1], by simp [t2], fun q hq => ?_, .cons rvv t4, fun j q ej => ?_⟩
        · rcases List.mem_cons.mp hq with rfl | hq
          · rfl
          · exact t3 q hq
        · cases j with
          | zero =>
            have e' : (k, u2) = q := Option.some.inj ej
            subst e'
            exact ⟨T, u1, rfl, ti, kV_is (P := X.prog) (w := X.w) q1⟩
          | succ j =>
            obtain ⟨b, u', e1, e2, e3⟩ := t5 j q (by simpa using ej)
            exact ⟨b, u', by simpa using e1, e2, e3⟩
      · cases h
theorem fmerge_rel {K : PySem.W.Frag} {F : Hp} : ∀ {qs : List (D × L2.Key × D)} {kv : List (L2.Key × V)} {acc : List (L2.Key × V)} {kvs : List (D × D)}, qs.map (fun q => q.2.1) = kv.map (·.1) → (∀ q ∈ qs, q.1 = keyD q.2.1) → RpAll K F (kv.map (·.2)) (qs.map fun q => q.2.2) →
    FcR K F acc kvs → FcR K F (mergeK acc kv) (fMerge kvs qs)
  | [], [], acc, kvs, _, _, _, r => r
  | [], _ :: _, _, _, h, _, _, _ => by simp at h
  | _ :: _, [], _, _, h, _, _, _ => by simp at h
  | q :: qs, p :: kv, acc, kvs, h, hk, hv, r => by
    simp only [List.map_cons, List.cons.injEq] at h
    simp only [List.map_cons] at hv
    cases hv with
    | cons v1 v2 =>
      obtain ⟨kd, k, v⟩ := q
      obtain ⟨k', v'⟩ := p
      simp only at h v1
      obtain ⟨rfl, h⟩ := h
      have e1 : kd = keyD k := hk (kd, k, v) (List.mem_cons_self ..)
      subst e1
      show FcR K F (mergeK (putK acc k v') kv) (fMerge (fSet kvs (keyD k) k v) qs)
      exact fmerge_rel h (fun q hq => hk q (by simp [hq])) v2 (fset_rel r v1)
theorem fmerge_length : ∀ (qs : List (D × L2.Key × D)) (kvs : List (D × D)), (fMerge kvs qs).length ≤ kvs.length + qs.length
  | [], kvs => Nat.le_refl _
  | (kd, k, v) :: qs, kvs => by
    have h1 := fmerge_length qs (fSet kvs kd k v)
    have h2 := fset_length kvs kd k v
    show (fMerge (fSet kvs kd k v) qs).length ≤ _
    rw [List.length_cons]; omega
end
/-- a new dict with flat keys that nobody changes -/
theorem newF {X : Cx} {pins : List (Addr × Obj)} {σ : L2.St} {H F : Hp} {s : Shared} {Q : VK} {h' : Heap} {tk : Nat} {kvs : List (D × D)} {kv : List (L2.Key × V)} {vs : List (L2.Key × Value)} (I : Inv X pins σ H s) (sub : Same F H) (kp : ∀ b o, s.heap.get? b = some o → h'.get? b = some o) (hz : kv.length ≤ sizeLine)
    (hd : h'.DictOf (mixKind X.prog X.w) s.heap.objs.size vs) (rel : KV kv vs) (r : FcR X.K F kv kvs) (q : ∀ v H' F', Fx F H F' H' → Rp X.K F' v (.dict kvs) → Q v H') : EP X pins σ Q (.ref s.heap.objs.size) { s with heap := h', toks := tk } := by
  have hs : (s.heap.objs.size == sysModules) = false := beq_eq_false_iff_ne.mpr (Nat.ne_of_gt I.big)
  have hp := I.hok.fresh (Nat.le_refl s.heap.objs.size)
  obtain ⟨o, es, ep, ho, r0⟩ := id hd
  have fx : Fx F H _ _ := Fx.alloc (u := .frz o (.dK kv)) sub hp
  refine ⟨.ref s.heap.objs.size, _, I.laid (t' := tk) kp (Nat.le_refl _) (show ObjOk X.prog X.w _ _ _ (.frz o (.dK kv)) from ⟨ho, hz, hs, vs, rel, hd⟩), rfl, q _ _ _ fx ?_⟩
  exact .dck upd_same r.ks (r.mono fx.ff).vs
theorem bl_dict : CallS (.type "dict") (fn1 dictL) := by
  intro X k hc hr gd pins s σ H vs us Q I rv ⟨F, ds, c, sub, ra0, e0, q⟩
  obtain ⟨a, rfl, e⟩ := fn1_ok e0
  obtain ⟨v, rfl, ra⟩ := ra0.one
  unfold dictL at e
  split at e
  · split at e
    · rename_i qs hq
      split at e
      · rename_i hz; cases e
        obtain ⟨p, xs, rfl, hp, rxs⟩ := ra.toList
        obtain ⟨u, rfl, ru⟩ := Vals.one rv
        cases ru
        obtain ⟨its, ri, ⟨o, n, ho, h1, h2, h3⟩, hsz⟩ := I.list (SqL.of (sub _ _ hp))
        obtain ⟨ts, t1, t2, t3⟩ := pairs_get I sub rxs ri hq
        have lts : ts.length = its.length := by rw [t1, List.length_map]
        have lq : qs.length = ts.length := paired_len t3
        have lx : xs.length = its.length := ri.length
        have P := PairArg.list (prog := X.prog) (w := X.w) p its.toArray (fun j => ((ts[j]?).map (·.1)).getD 0) (ts.map fun t => (.ref t.2.2.1, t.2.2.2))
        refine call_dict_pairsH (knd := nestedKind X.prog X.w) (ps := ts.map fun t => t.2) P (I.ok.hd hc) (by have := hr.units; show X.A.units + 1 + 1 + 8 < cLine; omega) ⟨⟨o, n, ho, h1, h2, h3⟩, by simp [lts], fun j kk vv hj => ?_⟩ ⟨by simp, fun i key vv hi => ?_⟩ ?_ (by simp only [List.length_map]; omega) fun h' tk hd hk => ?_
        · rw [List.getElem?_map] at hj
          cases ht : ts[j]? with
          | none => rw [ht] at hj; cases hj
          | some t =>
            rw [ht] at hj
            cases hj
            refine ⟨by rw [t1]; simp [ht], .inl ?_⟩
            have := (t2 t (List.mem_of_getElem? ht)).1
            simp only [ht, Option.map_some, Option.getD_some]
            obtain ⟨oo, g1, g2, nn, g3⟩ := this
            exact ⟨oo, g1, g2, nn, g3⟩
        · have hi' : (ts.map fun t => ((.ref t.2.2.1, t.2.2.2) : Value × Value))[i]? = some (key, vv) := hi
          rw [List.getElem?_map] at hi'
          cases ht : ts[i]? with
          | none => rw [ht] at hi'; cases hi'
          | some t =>
            rw [ht] at hi'; cases hi'
            exact ⟨t.2.1, t.2.2.1, by rw [List.getElem?_map, ht]; rfl, rfl⟩
        · intro h' hk x hx
          obtain ⟨t, ht, rfl⟩ := List.mem_map.mp hx
          exact nestedKind_stays.stays (fun b o vs n e _ => hk b o (Nat.ne_of_lt (Heap.lt_size e)) (by simp) e) (t2 t ht).2
        · refine newD (tk := tk) I sub (fun b o e => hk b o (by simp) e) ?_ hd (dmerge_rel t3 .nil) q
          have := dmerge_length qs []
          rw [List.length_nil] at this
          omega
      · cases e
    · split at e
      · rename_i qs hq
        split at e
        · rename_i hz; cases e
          obtain ⟨p, xs, rfl, hp, rxs⟩ := ra.toList
          obtain ⟨u, rfl, ru⟩ := Vals.one rv
          cases ru
          obtain ⟨its, ri, ⟨o, n, ho, h1, h2, h3⟩, hsz⟩ := I.list (SqL.of (sub _ _ hp))
          obtain ⟨kv, prs, t0, t1, t2, t3, t4, t5⟩ := pairs_getF I sub rxs ri hq
          have hz' := szOk_line hz
          have lx := rxs.length
          have li : xs.length = its.length := ri.length
          refine L2.call_dict_pairs (prs := prs) (I.ok.hd hc) ho h1 h2 h3 (by simp [t1]) (by rw [← t1, ← li, lx]; exact hz') (fun j q' e => ?_) fun h' tk hd' kk => ?_
          · obtain ⟨b, u, e1, e2, e3⟩ := t5 j q' e
            exact ⟨b, u, by simp [e1], e2, e3⟩
          · refine newF (tk := tk) I sub kk ?_ hd' (KV.merge t0 .nil) (fmerge_rel t2 t3 t4 ⟨rfl, .nil⟩) q
            refine Nat.le_trans (length_mergeK kv []) ?_
            rw [List.length_nil, Nat.zero_add, t0.length, ← t1, ← li, lx]
            exact hz'
        · cases e
      · cases e
  · cases e

theorem each_of {X : Cx} {F : Hp} : ∀ {xs : List V} {ds : List D} {us : List Value}, RpAll X.K F xs ds → Vals xs us → W.EachIs (fun v d => ∃ x, RelV x v ∧ Rp X.K F x d) us ds
  | _, _, us, .nil, r => by cases r; exact .nil
  | _, _, us, .cons h t, r => by
    cases r with
    | cons r1 r2 => exact .cons ⟨_, r1, h⟩ (each_of t r2)
theorem each_back {X : Cx} {F : Hp} : ∀ {us : List Value} {ds : List D}, W.EachIs (fun v d => ∃ x, RelV x v ∧ Rp X.K F x d) us ds → ∃ xs, Vals xs us ∧ RpAll X.K F xs ds
  | _, _, .nil => ⟨[], .nil, .nil⟩
  | _, _, .cons ⟨x, h1, h2⟩ t => by
    obtain ⟨xs, a, b⟩ := each_back t
    exact ⟨x :: xs, .cons h1 a, .cons h2 b⟩
theorem each_reads {X : Cx} {F H : Hp} {pins : List (Addr × Obj)} {σ : L2.St} {s : Shared} (I : Inv X pins σ H s) (e : Same F H) : ∀ {us : List Value} {ds : List D}, W.EachIs (fun v d => ∃ x, RelV x v ∧ Rp X.K F x d) us ds → PyData.plainAll ds = true → W.EachIs (fun v d => ∃ as, Reads s.heap v (id d) as) us ds
  | _, _, .nil, _ => .nil
  | _, _, .cons ⟨x, h1, h2⟩ t, p => by
    simp only [PyData.plainAll, Bool.and_eq_true] at p
    exact .cons (h2.reads I e h1 p.1) (each_reads I e t p.2)
mutual
theorem reads_lt {h : Heap} : ∀ {v : Value} {d : D} {as : List Addr}, Reads h v d as → ∀ a ∈ as, a < h.objs.size
  | _, _, _, .none, _, m => nomatch m
  | _, _, _, .bool _, _, m => nomatch m
  | _, _, _, .int _ _, _, m => nomatch m
  | _, _, _, .str _ _, _, m => nomatch m
  | _, _, _, .list ho _ _ r, a, m => by
    rcases List.mem_cons.mp m with rfl | m
    · exact Heap.lt_size ho
    · exact readsAll_lt r a m
  | _, _, _, .tuple ho _ _ r, a, m => readsAll_lt r a m
  | _, _, _, .dict ho _ _ r r', a, m => by
    rcases List.mem_append.mp m with m | m
    · rcases List.mem_cons.mp m with rfl | m
      · exact Heap.lt_size ho
      · exact readsAll_lt r a m
    · exact readsAll_lt r' a m
theorem readsAll_lt {h : Heap} : ∀ {vs : List Value} {ds : List D} {as : List Addr}, ReadsAll h vs ds as → ∀ a ∈ as, a < h.objs.size
  | _, _, _, .nil, _, m => nomatch m
  | _, _, _, .cons r r', a, m => by
    rcases List.mem_append.mp m with m | m
    · exact reads_lt r a m
    · exact readsAll_lt r' a m
end
theorem sort_facts {xs : List D} {c : D} (h : sortL xs = .ok c) : okD (.list xs) = true ∧ W.AllAlike (xs.map id) ∧ W.Sortable (xs.map id) ∧ xs.length ≤ sizeLine ∧ c = .list (xs.mergeSort (W.dataLe false id)) := by
  unfold sortL at h
  split at h
  · rename_i hz
    simp only [Bool.and_eq_true, Bool.or_eq_true] at hz
    obtain ⟨⟨⟨h1, h2⟩, h3⟩, h4⟩ := hz
    cases h
    refine ⟨h1, ?_, ?_, szOk_line h4, rfl⟩
    · intro d hd d' hd'
      rw [List.map_id] at hd hd'
      exact List.all_eq_true.mp (List.all_eq_true.mp h2 d hd) d' hd'
    · rcases h3 with h3 | h3
      · refine .inl fun d hd => ?_
        rw [List.map_id] at hd
        have := List.all_eq_true.mp h3 d hd
        cases d with
        | tuple xs => cases xs with
          | nil => simp [isTup1] at this
          | cons x r => exact ⟨x, r, rfl⟩
        | _ => simp [isTup1] at this
      · refine .inr fun d hd => ?_
        rw [List.map_id] at hd
        have := List.all_eq_true.mp h3 d hd
        simp only [Bool.and_eq_true, Bool.not_eq_true'] at this
        exact ⟨fun e => by rw [e] at this; simp [isNone] at this, fun xs e => by rw [e] at this; simp [isTup] at this⟩
  · cases h
theorem depth_mem {d : D} : ∀ {ds : List D}, d ∈ ds → d.depth ≤ PyData.depthAll ds
  | e :: ds, h => by
    simp only [PyData.depthAll]
    rcases List.mem_cons.mp h with rfl | h
    · exact Nat.le_max_left _ _
    · exact Nat.le_trans (depth_mem h) (Nat.le_max_right _ _)
theorem bl_sorted : CallS (.builtin "sorted") (fn1 sortedL) := by
  intro X k hc hr gd pins s σ H vs us Q I rv ⟨F, ds, c, sub, ra0, e0, q⟩
  obtain ⟨a, rfl, e⟩ := fn1_ok e0
  obtain ⟨v, rfl, ra⟩ := ra0.one
  have un := hr.units
  unfold sortedL at e
  split at e
  · rename_i xs
    obtain ⟨h1, h2, h3, h4, rfl⟩ := sort_facts e
    obtain ⟨p, vs, rfl, hp, rxs⟩ := ra.toList
    obtain ⟨u, rfl, ru⟩ := Vals.one rv
    cases ru
    obtain ⟨its, ri, pl, hsz⟩ := I.list (SqL.of (sub _ _ hp))
    have ee := each_of rxs ri
    refine W.sorted_data (enc := id) pl.isList ee (each_reads I sub ee (plain_list h1)) h2 h3 h4 (fun b hb => ?_) fun out ho eo => ?_
    · have := depth_mem hb
      have := depth_list h1
      show X.A.units + 2 + b.depth < cLine
      omega
    · obtain ⟨xs', a1, a2⟩ := each_back eo
      obtain ⟨cc, hcc⟩ := PyProof.Rows.sortedAll_at s.heap its out.toArray
      have hfr := I.hok.fresh (Nat.le_succ s.heap.objs.size)
      refine ⟨.ref (s.heap.objs.size + 1), _, I.laid (t' := s.toks) (o := .lst xs') (fun _ _ => PyProof.Rows.sortedAll_old) (Nat.le_succ _) ⟨?_, out, cc, a1, hcc⟩, rfl, newL sub a2 q _ hfr⟩
      rw [a1.length, ho]; exact h4
  · rename_i kvs
    obtain ⟨h1, h2, h3, h4, rfl⟩ := sort_facts e
    obtain ⟨u, rfl, ru⟩ := Vals.one rv
    obtain ⟨a, es, ep, kV, vV, rfl, hs, hz, raw, hsz, rk, vk, _, _⟩ := dict_raw I sub ra
    cases ru
    have hr' : s.heap.DictRaw a es ep := raw
    refine Calls.call_function_entry PyProof.Rows.kind_sorted PyProof.Rows.plain_sorted PyProof.Rows.entry_sorted (PyProof.Rows.args_sorted1 _) ?_
    unfold Builtin.«sorted»
    refine wpAny_bind (m := checkCount "sorted" 1 1 _) (wpAny_pure ?_)
    refine wpAny_bind (W.kdu_collect (A := X.A.in1) (KdlSrc.rawDict (ep := ep) (es := es) hs) (I.ok.hd hc) hr' (by rw [hsz]; exact hz) fun h' tk acc hk hacc => ?_)
    have ea := raw_keys (acc := acc.toList) (es := es) (by rw [Array.length_toList]; exact hacc.1) fun j v e => hacc.2 j v (by rw [← Array.getElem?_toList]; exact e)
    have la : acc.toList.length = es.size := by rw [ea, List.length_map, Array.length_toList]
    refine wpAny_bind (wpAny_newList ?_ (by rw [la, hsz]; exact hz))
    have hD : (h'.push { cls := .type "list", data := .seq acc.toList.toArray }).get? h'.objs.size = some (PyProof.Rows.seqObj "list" acc.toList.toArray 0) := Heap.get?_push_size _ rfl
    have ee := each_of (X := X) rk vk
    rw [← ea] at ee
    have I1 : Inv X pins σ H { s with heap := h', toks := tk } := I.kept (t' := tk) hk
    have I2 : Inv X pins σ H { s with heap := h'.push { cls := .type "list", data := .seq acc.toList.toArray }, toks := tk } := I1.kept (t' := tk) fun b o e => Heap.get?_push_of_some _ e
    have er : W.EachIs (fun v b => ∃ as, Reads (h'.push { cls := .type "list", data := .seq acc.toList.toArray }) v (id b) as ∧ h'.objs.size ∉ as) acc.toList (kvs.map (·.1)) :=
      (each_reads I1 sub ee (plain_list h1)).mono fun v b ⟨as, rd⟩ => ⟨as, PyProof.Rows.Reads.keeps (fun b o e => Heap.get?_push_of_some _ e) rd, fun hm => absurd (reads_lt rd _ hm) (Nat.lt_irrefl _)⟩
    have go := W.list_sort_data (prog := X.prog) (w := X.w) (A := X.A.in1) (E := X.xe) (s := { s with heap := h'.push { cls := .type "list", data := .seq acc.toList.toArray }, toks := tk }) (enc := id) (Q := fun _ s' => EP X pins σ Q (.ref h'.objs.size) s') hD ee er h2 h3 h4 (fun b hb => by
      have h5 : b.depth ≤ 40 := Nat.le_trans (depth_mem hb) (depth_list h1)
      show X.A.units + 1 + 1 + b.depth < cLine
      omega) fun out ho eo => ?_
    · refine wpAny_bind (wpAny_holding (wpAny_mono go (fun _ s' x => ?_) fun _ _ e => e))
      exact wpAny_pure ⟨_, rfl, x⟩
    · obtain ⟨xs', a1, a2⟩ := each_back eo
      obtain ⟨cc, hcc⟩ := PyProof.Rows.sortedHeap_at (vs := acc.toList) (out := out.toArray) hD
      have hfr : H h'.objs.size = none := I1.hok.fresh (Nat.le_refl _)
      refine ⟨.ref h'.objs.size, _, I1.laid (t' := tk) (o := .lst xs') (fun b o e => (PyProof.Rows.sortedHeap_old (Nat.ne_of_lt (Heap.lt_size e)) (by show b < (h'.push _).objs.size; rw [Heap.size_push]; exact Nat.lt_succ_of_lt (Heap.lt_size e))).trans (Heap.get?_push_of_some _ e)) (Nat.le_refl _) ⟨?_, out, cc, a1, hcc⟩, rfl, newL sub a2 q _ hfr⟩
      rw [a1.length, ho]; exact h4
  · cases e
end Z

set_option Elab.async false
set_option linter.all false
set_option maxRecDepth 100000
set_option autoImplicit false
/-! # Z10: lists of their own -/
namespace Z
open PySem L2

theorem Rel.base {W : Wd} {ρ : Env} {σ : L2.St} {H F : Hp} (r : Rel W ρ σ H F) {b : Addr} (h : H b = none) : W.H0 b = none := by
  cases e : W.H0 b with
  | none => rfl
  | some u => obtain ⟨o, q⟩ := r.trk b u e; rw [h] at q; cases q
/-- seen from the beginning -/
theorem Rel.back {W : Wd} {ρ ρ1 : Env} {σ σ1 : L2.St} {H F H1 F1 : Hp} {io : List Addr} {p : Addr} {u : HO} (r : Rel ⟨W.K, F1, upd H1 p u, io⟩ ρ σ H F) (r1 : Rel W ρ1 σ1 H1 F1) (hio : ∀ b ∈ io, b ∈ W.io ∨ W.H0 b = none) (hp : H1 p = none) : Rel W [] σ H F := by
  have up : ∀ b o, H1 b = some o → upd H1 p u b = some o := fun b o h => by rw [upd_ne (ne_of_none h hp)]; exact h
  refine ⟨r.sub, r1.sub0.trans r.sub0, fun b o h n => ?_, fun b o h => ?_, ⟨fun _ => [], fun i sl e => by simp at e⟩, Nat.zero_le _, fun b o h => ?_⟩
  · refine r.keep b o (up b o (r1.keep b o h n)) fun hb => ?_
    rcases hio b hb with q | q
    · exact n q
    · rw [h] at q; cases q
  · rcases r.fresh b o h with q | q | q
    · exact r1.fresh b o q
    · refine .inr (.inl ?_)
      have q' : upd H1 p u b = none := q
      by_cases hb : b = p
      · subst hb; rw [upd_same] at q'; cases q'
      · rw [upd_ne hb] at q'; exact r1.base q'
    · exact .inr ((hio b q).elim .inr .inl)
  · obtain ⟨o1, h1⟩ := r1.trk b o h
    exact r.trk b o1 (up b o1 h1)
theorem ClX.turned {α : Type} {X : Cx} {W : Wd} {Z : R α → Prop} (c : ClX X W Z) {ρ1 : Env} {σ1 : L2.St} {H1 F1 : Hp} {io : List Addr} {p : Addr} {u : HO} (r1 : Rel W ρ1 σ1 H1 F1) (hio : ∀ b ∈ io, b ∈ W.io ∨ W.H0 b = none) (hp : H1 p = none) : ClX X ⟨W.K, F1, upd H1 p u, io⟩ Z :=
  ⟨c.st, fun cn as z => let ⟨Wi, tk, h⟩ := c.ex cn as z; ⟨Wi, tk, fun σ H F cls d l r e => h σ H F cls d l (r.back r1 hio hp) e⟩⟩
/-- a new list of its own at a slot -/
theorem Rel.own {W : Wd} {ρ : Env} {σ : L2.St} {H F : Hp} (r : Rel W ρ σ H F) (i : Nat) {p : Addr} {vs : List V} {ds : List D} (hp : H p = none) (rd : RpAll W.K F vs ds) :
    Rel W (ρ.set i (some (.own ds))) (σ.set i (some (.ref p))) (upd H p (.lst vs)) F := by
  obtain ⟨ad, k⟩ := r.env
  have hF := r.sub.free hp
  have h0 := r.base hp
  have hx : ∀ b o, H b = some o → upd H p (.lst vs) b = some o := fun b o h => by rw [upd_ne (ne_of_none h hp)]; exact h
  have fx : Fx F H F (upd H p (.lst vs)) := ⟨Same.refl _, fun b o h => hx b o (r.sub b o h), hx, fun _ _ h => .inl h⟩
  have r' := r.step fx
  refine ⟨r'.sub, r'.sub0, r'.keep, r'.fresh, ⟨fun j => if j = i then [p] else ad j, fun j sl e => ?_⟩, by rw [List.length_set, List.length_set]; exact r.len, r'.trk⟩
  rcases get_set e with ⟨e1, e2, e3⟩ | ⟨e1, e2⟩
  · subst e1; cases e3
    refine ⟨.ref p, by rw [List.getElem?_set_self (Nat.lt_of_lt_of_le e2 r.len)], ⟨p, vs, rfl, by simp, upd_same, hF, rd⟩, by simp [h0], fun l sl' hl e' b hb => ?_⟩
    have hb' : b = p := by simpa using hb
    subst hb'
    have ne : l ≠ i := fun q => hl q.symm
    simp only [if_neg ne]
    rcases get_set e' with ⟨z1, _, _⟩ | ⟨z1, z2⟩
    · exact absurd z1 hl
    · intro hbl
      obtain ⟨v', k1, k2, _, _⟩ := k l sl' z2
      obtain ⟨_, o, q⟩ := k2.there b hbl
      rw [hp] at q; cases q
  · have ne : j ≠ i := fun q => e1 q.symm
    simp only [if_neg ne]
    obtain ⟨v', k1, k2, k3, k4⟩ := k j sl e2
    refine ⟨v', by rw [List.getElem?_set_ne e1]; exact k1, k2.step fx, k3, fun l sl'' hl e' b hb => ?_⟩
    rcases get_set e' with ⟨z1, z2, z3⟩ | ⟨z1, z2⟩
    · subst z1; cases z3
      simp only [if_true]
      intro hbl
      have hb' : b = p := by simpa using hbl
      subst hb'
      obtain ⟨_, o, q⟩ := k2.there b hb
      rw [hp] at q; cases q
    · have ne' : l ≠ i := fun q => z1 q.symm
      simp only [if_neg ne']
      exact k4 l sl'' hl z2 b hb
/-- from now on nobody changes it -/
theorem Rel.freeze {W : Wd} {ρ : Env} {σ : L2.St} {H F : Hp} (r : Rel W ρ σ H F) {i : Nat} {xs : List D} (e : ρ[i]? = some (some (.own xs))) :
    ∃ p F', σ[i]? = some (some (.ref p)) ∧ Rel W (ρ.set i (some (.val (.list xs)))) σ H F' ∧ Same F F' ∧ Rp W.K F' (.ref p) (.list xs) := by
  obtain ⟨v, as, h1, h2, h3, up⟩ := r.slot e
  obtain ⟨p, vs, rfl, e2, hp, hf, rd⟩ := h2
  subst e2
  have ss : Same F (upd F p (.lst vs)) := fun b o h => by rw [upd_ne (ne_of_none h hf)]; exact h
  have rp : Rp W.K (upd F p (.lst vs)) (.ref p) (.list xs) := .lst upd_same (rd.mono ss)
  refine ⟨p, upd F p (.lst vs), h1, up (as' := []) ⟨ss, fun b o h => ?_, fun b o h _ => h, fun b o h => ⟨o, h⟩, fun b o h => ?_⟩ ⟨rp, rfl⟩ (by simp), ss, rp⟩
  · by_cases hb : b = p
    · subst hb; rw [upd_same] at h; cases h; exact hp
    · rw [upd_ne hb] at h; exact r.sub b o h
  · by_cases hb : b = p
    · subst hb; exact .inr (.inr (by simp))
    · rw [upd_ne hb] at h; exact .inl h
/-- other content -/
theorem Rel.ownAt {W : Wd} {ρ : Env} {σ : L2.St} {H F : Hp} (r : Rel W ρ σ H F) {i : Nat} {xs : List D} (e : ρ[i]? = some (some (.own xs))) :
    ∃ p vs, σ[i]? = some (some (.ref p)) ∧ H p = some (.lst vs) ∧ F p = none ∧ RpAll W.K F vs xs ∧ ∀ vs' xs', RpAll W.K F vs' xs' → Rel W (ρ.set i (some (.own xs'))) σ (upd H p (.lst vs')) F := by
  obtain ⟨v, as, h1, h2, h3, up⟩ := r.slot e
  obtain ⟨p, vs, rfl, e2, hp, hf, rd⟩ := h2
  subst e2
  refine ⟨p, vs, h1, hp, hf, rd, fun vs' xs' rd' => up (as' := [p]) ⟨Same.refl _, fun b o h => ?_, fun b o h hn => ?_, fun b o h => ?_, fun b o h => .inl h⟩ ⟨p, vs', rfl, rfl, upd_same, hf, rd'⟩ (by simp)⟩
  · rw [upd_ne (ne_of_none h hf)]; exact r.sub b o h
  · have : b ≠ p := by simpa using hn
    rw [upd_ne this]; exact h
  · by_cases hb : b = p
    · subst hb; exact ⟨_, upd_same⟩
    · exact ⟨o, by rw [upd_ne hb]; exact h⟩

theorem Rel.dctAt {W : Wd} {ρ : Env} {σ : L2.St} {H F : Hp} (r : Rel W ρ σ H F) {i : Nat} {kvs : List (D × D)} (e : ρ[i]? = some (some (.dct kvs))) :
    ∃ p o xs, σ[i]? = some (some (.ref p)) ∧ H p = some (dctO p o xs) ∧ F p = none ∧ DcR W.K F xs kvs ∧ ∀ o' xs' kvs', DcR W.K F xs' kvs' → Rel W (ρ.set i (some (.dct kvs'))) σ (upd H p (dctO p o' xs')) F := by
  obtain ⟨v, as, h1, h2, h3, up⟩ := r.slot e
  obtain ⟨p, o, xs, rfl, e2, hp, hf, rd⟩ := h2
  subst e2
  refine ⟨p, o, xs, h1, hp, hf, rd, fun o' xs' kvs' rd' => up (as' := [p]) ⟨Same.refl _, fun b o h => ?_, fun b o h hn => ?_, fun b o h => ?_, fun b o h => .inl h⟩ ⟨p, o', xs', rfl, rfl, upd_same, hf, rd'⟩ (by simp)⟩
  · rw [upd_ne (ne_of_none h hf)]; exact r.sub b o h
  · have : b ≠ p := by simpa using hn
    rw [upd_ne this]; exact h
  · by_cases hb : b = p
    · subst hb; exact ⟨_, upd_same⟩
    · exact ⟨o, by rw [upd_ne hb]; exact h⟩
/-- from now on nobody changes it -/
theorem Rel.freezeD {W : Wd} {ρ : Env} {σ : L2.St} {H F : Hp} (r : Rel W ρ σ H F) {i : Nat} {kvs : List (D × D)} (e : ρ[i]? = some (some (.dct kvs))) :
    ∃ p F', σ[i]? = some (some (.ref p)) ∧ Rel W (ρ.set i (some (.val (.dict kvs)))) σ H F' ∧ Same F F' ∧ Rp W.K F' (.ref p) (.dict kvs) := by
  obtain ⟨v, as, h1, h2, h3, up⟩ := r.slot e
  obtain ⟨p, o0, xs, rfl, e2, hp, hf, rd⟩ := h2
  subst e2
  have ss : Same F (upd F p (dctO p o0 xs)) := fun b o h => by rw [upd_ne (ne_of_none h hf)]; exact h
  have rp : Rp W.K (upd F p (dctO p o0 xs)) (.ref p) (.dict kvs) := by
    rw [show PyData.dict kvs = .dict ((kvs.map (·.1)).zip (kvs.map (·.2))) by rw [zip_self]]
    exact .dct upd_same (rd.ks.mono ss) rd.nk (rd.vs.mono ss)
  refine ⟨p, upd F p (dctO p o0 xs), h1, up (as' := []) ⟨ss, fun b o h => ?_, fun b o h _ => h, fun b o h => ⟨o, h⟩, fun b o h => ?_⟩ ⟨rp, rfl⟩ (by simp), ss, rp⟩
  · by_cases hb : b = p
    · subst hb; rw [upd_same] at h; cases h; exact hp
    · rw [upd_ne hb] at h; exact r.sub b o h
  · by_cases hb : b = p
    · subst hb; exact .inr (.inr (by simp))
    · rw [upd_ne hb] at h; exact .inl h

/-- a dict of one's own with flat keys: other content; from now on nobody changes it -/
theorem Rel.dckAt {W : Wd} {ρ : Env} {σ : L2.St} {H F : Hp} (r : Rel W ρ σ H F) {i : Nat} {kvs : List (D × D)} (e : ρ[i]? = some (some (.dck kvs))) :
    ∃ p kv, σ[i]? = some (some (.ref p)) ∧ H p = some (.dK kv) ∧ F p = none ∧ FcR W.K F kv kvs ∧ (∀ kv' kvs', FcR W.K F kv' kvs' → Rel W (ρ.set i (some (.dck kvs'))) σ (upd H p (.dK kv')) F) ∧
      ∀ od, ∃ F', Rel W (ρ.set i (some (.val (.dict kvs)))) σ (upd H p (.frz od (.dK kv))) F' ∧ Same F F' ∧ Rp W.K F' (.ref p) (.dict kvs) := by
  obtain ⟨v, as, h1, h2, h3, up⟩ := r.slot e
  obtain ⟨p, kv, rfl, e2, hp, hf, rd⟩ := h2
  subst e2
  refine ⟨p, kv, h1, hp, hf, rd, fun kv' kvs' rd' => up (as' := [p]) ⟨Same.refl _, fun b o h => ?_, fun b o h hn => ?_, fun b o h => ?_, fun b o h => .inl h⟩ ⟨p, kv', rfl, rfl, upd_same, hf, rd'⟩ (by simp), fun od => ?_⟩
  · rw [upd_ne (ne_of_none h hf)]; exact r.sub b o h
  · have : b ≠ p := by simpa using hn
    rw [upd_ne this]; exact h
  · by_cases hb : b = p
    · subst hb; exact ⟨_, upd_same⟩
    · exact ⟨o, by rw [upd_ne hb]; exact h⟩
  · have ss : Same F (upd F p (.frz od (.dK kv))) := fun b o h => by rw [upd_ne (ne_of_none h hf)]; exact h
    have rp : Rp W.K (upd F p (.frz od (.dK kv))) (.ref p) (.dict kvs) := .dck upd_same rd.ks (rd.mono ss).vs
    refine ⟨upd F p (.frz od (.dK kv)), up (as' := []) ⟨ss, fun b o h => ?_, fun b o h hn => ?_, fun b o h => ?_, fun b o h => ?_⟩ ⟨rp, rfl⟩ (by simp), ss, rp⟩
    · by_cases hb : b = p
      · subst hb; rw [upd_same] at h; cases h; exact upd_same
      · rw [upd_ne hb] at h ⊢; exact r.sub b o h
    · have : b ≠ p := by simpa using hn
      rw [upd_ne this]; exact h
    · by_cases hb : b = p
      · subst hb; exact ⟨_, upd_same⟩
      · exact ⟨o, by rw [upd_ne hb]; exact h⟩
    · by_cases hb : b = p
      · subst hb; exact .inr (.inr (by simp))
      · rw [upd_ne hb] at h; exact .inl h

section
variable {α : Type} {C : Ct} {ρ : Env} {m : R α}

/-- an expression that makes a new list -/
def DN {α : Type} (C : Ct) (ρ : Env) (e : Expr) (m : R α) (κ : List D → Env → R α → Prop) : Prop :=
  ∀ (X : Cx) (W : Wd) (Z : R α → Prop), XOk C X → W.K = C.K → ClX X W Z → Z m →
    PE X e fun σ H Q => ∃ F, Rel W ρ σ H F ∧ ∀ ds ρ' m' vs p H' F', κ ds ρ' m' → Z m' → Rel W ρ' σ H' F' → Same F F' → H' p = none → RpAll W.K F' vs ds → Q (.ref p) (upd H' p (.lst vs))
theorem dn_lst {κ : List D → Env → R α → Prop} {es : List Expr} {pos : Pos} (h : DA C ρ es m fun ds ρ1 m1 => ds.length ≤ 16777216 ∧ κ ds ρ1 m1) : DN C ρ (.List es pos) m κ := by
  intro X W Z x hK c z
  refine PE_imp (pe_lst (h X W Z x hK c z)) fun σ H Q ⟨F, r, q⟩ => ⟨F, r, fun ds ρ' m' vs H' F' ⟨hz, h1⟩ h2 h3 h4 h5 => ⟨by rw [h5.length, sizeLine_eq]; exact hz, fun p hp => ?_⟩⟩
  exact q ds ρ' m' vs p H' F' h1 h2 h3 h4 hp h5
/-- list(e) -/
theorem dn_list {κ : List D → Env → R α → Prop} {e : Expr} {p pos : Pos} (hm : C.mg ("list" : Str) = none) (h : DE C ρ e m fun d ρ1 m1 => ∃ g, m1 = (iterL d).bind g ∧ ∀ xs, κ xs ρ1 (g xs))
    (hg : C.sc.names.lookup ("list" : Str) = some .globalImplicit := by rfl) (he : ∀ env : PySem.Env, starEach [e] env = (false, eval e env) :: starEach [] env := by intro _; rfl) (hpl : ∀ env : PySem.Env, (backTo pos (starEach [] env)).any (·.1) = false := by intro _; rfl) : DN C ρ (.Call (.Name "list" p) [e] [] pos) m κ := by
  intro X W Z x hK c z
  have ha : DA C ρ [e] m fun ds ρ1 m1 => ∃ d, ds = [d] ∧ ∃ g, m1 = (iterL d).bind g ∧ ∀ xs, κ xs ρ1 (g xs) :=
    da_cons (fun X W Z x hK c z => PE_imp (h X W Z x hK c z) fun σ H Q ⟨F, r, q⟩ => ⟨F, r, fun d ρ' m' v H' F' k1 => q d ρ' m' v H' F' (da_nil ⟨d, rfl, k1⟩)⟩) he
  refine PE_imp (pe_callTy call_list_of (x.gl hg) (x.mg0 hm) rfl (ha X W Z x hK c z) (by decide) (by decide) (he _) (hpl _)) fun σ H Q ⟨F, r, q⟩ => ⟨F, r, fun ds ρ' m' vs H' F' ⟨d, e1, g, e2, hgg⟩ h2 h3 h4 h5 => ?_⟩
  subst e1 e2
  obtain ⟨xs, ex, zx⟩ := c.bind h2
  obtain ⟨v, rfl, rd⟩ := h5.one
  have sub := h3.sub
  unfold iterL at ex
  split at ex
  · cases ex
    obtain ⟨p, ys, rfl, hp, rys⟩ := rd.toTup
    exact ⟨p, ys, rfl, .inr (by rw [x.K, ← hK]; exact seqT sub hp), fun l hl => q _ ρ' _ ys l H' F' (hgg _) zx h3 h4 hl rys⟩
  · cases ex
    obtain ⟨p, ys, rfl, hp, rys⟩ := rd.toList
    exact ⟨p, ys, rfl, .inl (SqL.of (sub _ _ hp)), fun l hl => q _ ρ' _ ys l H' F' (hgg _) zx h3 h4 hl rys⟩
  · cases ex
theorem ds_own {J : Jd α} {n : Str} {e : Expr} {p pos : Pos} {rest : List Stmt} (i : Nat) (h : DN C ρ e m fun ds ρ1 m1 => DSs C (ρ1.set i (some (.own ds))) rest m1 J) (hN : C.N[i]? = some n := by rfl)
    (hx : Loc C.sc n := by first | exact Or.inl rfl | exact Or.inr rfl) (hfn : C.fn n = true ∨ C.sc.names.lookup n = some .local := by first | exact Or.inl rfl | exact Or.inr rfl) (hs : ∀ env : PySem.Env, env.scope = C.sc → swapsWith e (some (.Name n p)) pos.line env = pure false := by intro env he; rfl) : DSs C ρ (.Assign [.Name n p] e pos :: rest) m J := by
  intro X W Z x hK c z
  have hf : X.fn n = true ∨ X.env.scope.names.lookup n = some .local := hfn.elim (fun h => .inl (x.fnl n h)) fun h => .inr (by rw [x.sc]; exact h)
  refine PSs_imp (pss_cons (ps_set (i := i) (by rw [x.N]; exact x.nd) (by rw [x.N]; exact hN) (by rw [x.sc]; exact hx) (h X W Z x hK c z) (hs _ x.sc) hf) (rest_run (J := J) x hK c)) fun D σ H ⟨F, r, l⟩ => ?_
  exact ⟨F, r, fun d ρ' m' vs p H' F' h1 h2 h3 _ h4 h5 => ⟨(m', _), ⟨h1, h2⟩, F', h3.own i h4 h5, l⟩⟩
/-- it is read, and from now on a value -/
theorem de_take {κ : D → Env → R α → Prop} {n : Str} {pos : Pos} (i : Nat) {xs : List D} (hρ : ρ[i]? = some (some (.own xs))) (k : κ (.list xs) (ρ.set i (some (.val (.list xs)))) m) (hN : C.N[i]? = some n := by rfl)
    (hv : Vis C.sc n := by first | exact Or.inl rfl | exact Or.inr (Or.inl rfl) | exact Or.inr (Or.inr rfl)) (hd : (n == ("__debug__" : Str)) = false := by decide) (hcd : (n == ("__classdict__" : Str)) = false := by decide) : DE C ρ (.Name n pos) m κ := by
  intro X W Z x hK c z
  refine PE_imp (pe_var (i := i) (by rw [x.N]; exact hN) (x.vis hv) hd hcd) fun σ H Q ⟨F, r, q⟩ => ?_
  obtain ⟨p, F', h1, h2, h3, h4⟩ := r.freeze hρ
  exact ⟨_, h1, q _ _ m _ H F' k z h2 h3 h4⟩
/-- its name, alone, as a part of another reading -/
theorem own_name {X : Cx} (x : XOk C X) {n : Str} {pos : Pos} {i : Nat} (hN : C.N[i]? = some n) (hv : Vis C.sc n) (hd : (n == ("__debug__" : Str)) = false) (hcd : (n == ("__classdict__" : Str)) = false) : PE X (.Name n pos) fun σ H Q => ∃ v, σ[i]? = some (some v) ∧ Q v H :=
  pe_var (i := i) (by rw [x.N]; exact hN) (x.vis hv) hd hcd

/-! ### methods that change it -/
def rOwn (K : PySem.W.Frag) (f : List D → List D → R (D × List D)) : V → List V → Hp → VK → Prop := fun x ws H Q => ∃ F p vs xs ds r ys, x = .ref p ∧ H p = some (.lst vs) ∧ Same F H ∧ RpAll K F vs xs ∧ RpAll K F ws ds ∧ f xs ds = .ok (r, ys) ∧
  ∀ v vs', Rp K F v r → RpAll K F vs' ys → Q v (upd H p (.lst vs'))
def OwnM (id : String) (f : List D → List D → R (D × List D)) : Prop := ∀ X : Cx, MtR X id (rOwn X.K f)
theorem om_append : OwnM "list.append" pushM := by
  intro X pins s σ H x ws v us Q I rx rv ⟨F, p, vs, xs, ds, r, ys, e1, hp, sub, rd, ra, e, q⟩
  subst e1
  unfold pushM at e
  split at e
  · split at e
    · rename_i hz; cases e
      obtain ⟨w, rfl, rw'⟩ := ra.one
      refine mt_append pins s σ H _ _ v us Q I rx rv ⟨p, vs, w, rfl, rfl, hp, by rw [rd.length, sizeLine_eq]; simpa using hz, q .non _ .non (rd.snoc rw')⟩
    · cases e
  · cases e
theorem om_extend : OwnM "list.extend" extendM := by
  intro X pins s σ H x ws v us Q I rx rv ⟨F, p, vs, xs, ds, r, ys, e1, hp, sub, rd, ra, e, q⟩
  subst e1
  unfold extendM at e
  split at e
  · split at e
    · rename_i hz; cases e
      obtain ⟨w, rfl, rw'⟩ := ra.one
      obtain ⟨b, zs, rfl, hb, rz⟩ := rw'.toList
      refine mt_extend pins s σ H _ _ v us Q I rx rv ⟨p, b, vs, zs, rfl, rfl, hp, sub _ _ hb, by rw [rd.length, rz.length]; exact szOk_line hz, q .non _ .non (rd.append rz)⟩
    · cases e
  · cases e
theorem RpAll.eraseIdx {K : PySem.W.Frag} {F : Hp} : ∀ {vs : List V} {ds : List D} (n : Nat), RpAll K F vs ds → RpAll K F (vs.eraseIdx n) (ds.eraseIdx n)
  | _, _, _, .nil => .nil
  | _, _, 0, .cons _ t => t
  | _, _, n + 1, .cons r t => .cons r (RpAll.eraseIdx n t)
theorem RpAll.set {K : PySem.W.Frag} {F : Hp} {v : V} {d : D} (h : Rp K F v d) : ∀ {vs : List V} {ds : List D} (n : Nat), RpAll K F vs ds → RpAll K F (vs.set n v) (ds.set n d)
  | _, _, _, .nil => .nil
  | _, _, 0, .cons _ t => .cons h t
  | _, _, n + 1, .cons r t => .cons r (RpAll.set h n t)
theorem RpAll.dropLast {K : PySem.W.Frag} {F : Hp} {vs : List V} {ds : List D} (r : RpAll K F vs ds) : RpAll K F vs.dropLast ds.dropLast := by
  rw [List.dropLast_eq_take, List.dropLast_eq_take, r.length]; exact r.take _
theorem om_pop0 : OwnM "list.pop" pop0M := by
  intro X pins s σ H x ws v us Q I rx rv ⟨F, p, vs, xs, ds, r, ys, e1, hp, sub, rd, ra, e, q⟩
  subst e1
  unfold pop0M at e
  split at e
  · split at e
    · rename_i hz; cases e
      cases ra
      rw [List.getLast?_eq_getElem?, ← rd.length] at hz
      obtain ⟨w, h1, h2⟩ := rd.at hz
      refine mt_pop pins s σ H _ _ v us Q I rx rv ⟨p, vs, w, rfl, rfl, hp, h1, q w _ h2 rd.dropLast⟩
    · cases e
  · cases e
theorem om_pop1 : OwnM "list.pop" pop1M := by
  intro X pins s σ H x ws v us Q I rx rv ⟨F, p, vs, xs, ds, r, ys, e1, hp, sub, rd, ra, e, q⟩
  subst e1
  unfold pop1M at e
  split at e
  · split at e
    · rename_i j hj
      split at e
      · rename_i hz; cases e
        obtain ⟨w, rfl, rw'⟩ := ra.one
        rw [rw'.toInt] at rv
        obtain ⟨w', h1, h2⟩ := rd.at hz
        rw [← rd.length] at hj
        obtain ⟨k1, k2, k3, k4⟩ := ixN_seq hj
        obtain ⟨its, n, r, ho, hsz⟩ := I.lst hp
        have hn := line63
        refine mt_popAt pins s σ H _ _ v us Q I rx rv ⟨p, vs, _, j, w', rfl, rfl, hp, ?_, ?_, k1, h1, q w' _ h2 (rd.eraseIdx j)⟩ <;> omega
      · cases e
    · cases e
  · cases e
theorem de_om {κ : D → Env → R α → Prop} {name : Str} {id : String} {f : List D → List D → R (D × List D)} {n : Str} {np ap cp : Pos} {e : Expr} {es : List Expr} {xs0 : List D} (slot : Slot "list" name id) (hty : typeOf (.builtin id) = pure (.type "method_descriptor")) (hm : OwnM id f) (i : Nat) (hρ : ρ[i]? = some (some (.own xs0)))
    (h : DA C ρ (e :: es) m fun ds ρ1 m1 => ∃ xs g, ρ1[i]? = some (some (.own xs)) ∧ m1 = (f xs ds).bind g ∧ ∀ r ys, κ r (ρ1.set i (some (.own ys))) (g (r, ys))) (hN : C.N[i]? = some n := by rfl)
    (hv : Vis C.sc n := by first | exact Or.inl rfl | exact Or.inr (Or.inl rfl) | exact Or.inr (Or.inr rfl)) (hd : (n == ("__debug__" : Str)) = false := by decide) (hcd : (n == ("__classdict__" : Str)) = false := by decide)
    (hbase : ∀ env : PySem.Env, env.scope = C.sc → attributeBase (.Name n np) name env (eval (.Name n np) env) = eval (.Name n np) env := by intro env he; rfl)
    (hfew : ∀ env : PySem.Env, ((backTo cp (starEach (e :: es) env)).all (fun x => !x.1) && (backToKw cp (keywordEach [] env)).all (fun x => x.1.isSome)
      && decide ((e :: es).length + ([] : List Keyword).length + (if ([] : List Keyword).isEmpty then 0 else 1) < 30)) = true := by intro _; rfl)
    (hline : (ap.endLine == cp.line) = true := by rfl) (he : ∀ env : PySem.Env, starEach (e :: es) env = (false, eval e env) :: starEach es env := by intro _; rfl) (hpl : ∀ env : PySem.Env, (backTo cp (starEach es env)).any (·.1) = false := by intro _; rfl) :
    DE C ρ (.Call (.Attribute (.Name n np) name ap) (e :: es) [] cp) m κ := by
  intro X W Z x hK c z
  refine PE_imp (pe_bm F.plainAttrs_list slot hty (hm X) (own_name x hN hv hd hcd) (h X W Z x hK c z) (hbase _ x.sc) (hfew _) hline (he _) (hpl _)) fun σ H Q ⟨F, r, q⟩ => ?_
  obtain ⟨p, vs, h1, h2, _, _, _⟩ := r.ownAt hρ
  refine ⟨_, h1, .inl ⟨rfl, _, SqL.of h2⟩, F, r, fun ds ρ' m' ws H' F' ⟨xs, g, e1, e2, hg⟩ k2 k3 k4 k5 => ?_⟩
  subst e2
  obtain ⟨p', vs', j1, j2, j3, j4, j5⟩ := k3.ownAt e1
  rw [h1] at j1; cases j1
  obtain ⟨⟨rr, ys⟩, er, zr⟩ := c.bind k2
  refine ⟨F', p, vs', xs, ds, rr, ys, rfl, j2, k3.sub, by rw [x.K, ← hK]; exact j4, by rw [x.K, ← hK]; exact k5, er, fun v vs2 rp rd => ?_⟩
  rw [x.K, ← hK] at rp rd
  exact q _ _ _ v _ F' (hg rr ys) zr (j5 vs2 ys rd) k4 rp
theorem de_om0 {κ : D → Env → R α → Prop} {name : Str} {id : String} {f : List D → List D → R (D × List D)} {n : Str} {np ap cp : Pos} {xs : List D} {g : D × List D → R α} (slot : Slot "list" name id) (hty : typeOf (.builtin id) = pure (.type "method_descriptor")) (hm : OwnM id f) (i : Nat) (hρ : ρ[i]? = some (some (.own xs)))
    (e : m = (f xs []).bind g) (k : ∀ r ys, κ r (ρ.set i (some (.own ys))) (g (r, ys))) (hN : C.N[i]? = some n := by rfl)
    (hv : Vis C.sc n := by first | exact Or.inl rfl | exact Or.inr (Or.inl rfl) | exact Or.inr (Or.inr rfl)) (hd : (n == ("__debug__" : Str)) = false := by decide) (hcd : (n == ("__classdict__" : Str)) = false := by decide)
    (hbase : ∀ env : PySem.Env, env.scope = C.sc → attributeBase (.Name n np) name env (eval (.Name n np) env) = eval (.Name n np) env := by intro env he; rfl)
    (hline : (ap.endLine == cp.line) = true := by rfl) :
    DE C ρ (.Call (.Attribute (.Name n np) name ap) [] [] cp) m κ := by
  intro X W Z x hK c z
  refine PE_imp (pe_bm0 F.plainAttrs_list slot hty (hm X) (own_name x hN hv hd hcd) (hbase _ x.sc) hline) fun σ H Q ⟨F, r, q⟩ => ?_
  subst e
  obtain ⟨p, vs, h1, h2, h3, h4, h5⟩ := r.ownAt hρ
  obtain ⟨⟨rr, ys⟩, er, zr⟩ := c.bind z
  refine ⟨_, h1, .inl ⟨rfl, _, SqL.of h2⟩, F, p, vs, xs, [], rr, ys, rfl, h2, r.sub, by rw [x.K, ← hK]; exact h4, .nil, er, fun v vs2 rp rd => ?_⟩
  rw [x.K, ← hK] at rp rd
  exact q _ _ _ v _ F (k rr ys) zr (h5 vs2 ys rd) (Same.refl _) rp
/-- an expression for what it does -/
theorem ds_expr {J : Jd α} {e : Expr} {pos : Pos} {rest : List Stmt} (h : DE C ρ e m fun _ ρ1 m1 => DSs C ρ1 rest m1 J) (hs : ∀ env : PySem.Env, env.scope = C.sc → swapsWith e none pos.line env = pure false := by intro env he; rfl) : DSs C ρ (.Expr e pos :: rest) m J := by
  intro X W Z x hK c z
  refine PSs_imp (pss_cons (ps_expr (h X W Z x hK c z) (hs _ x.sc)) (rest_run (J := J) x hK c)) fun D σ H ⟨F, r, l⟩ => ?_
  exact ⟨F, r, fun d ρ' m' v H' F' h1 h2 h3 h4 h5 => ⟨(m', ρ'), ⟨h1, h2⟩, F', h3, l⟩⟩
/-- x[e1] = e2 -/
theorem ds_setIx {J : Jd α} {n : Str} {e1 e2 : Expr} {np sp pos : Pos} {rest : List Stmt} (i : Nat) (h : DE C ρ e2 m fun d ρ1 m1 => (∃ xs0, ρ1[i]? = some (some (.own xs0))) ∧ DE C ρ1 e1 m1 fun j ρ2 m2 => ∃ xs g, ρ2[i]? = some (some (.own xs)) ∧ m2 = (setM xs j d).bind g ∧ ∀ ys, DSs C (ρ2.set i (some (.own ys))) rest (g ys) J) (hN : C.N[i]? = some n := by rfl)
    (hv : Vis C.sc n := by first | exact Or.inl rfl | exact Or.inr (Or.inl rfl) | exact Or.inr (Or.inr rfl)) (hd : (n == ("__debug__" : Str)) = false := by decide) (hcd : (n == ("__classdict__" : Str)) = false := by decide)
    (ha : ∀ (env : PySem.Env) v, assign (.Subscript (.Name n np) e1 sp) env v = (do
      let ov ← holding [v] (eval (.Name n np) env)
      let iv ← holding [v, ov] (eval e1 env)
      standAt sp
      holding [v, ov, iv] (setItem ov iv v)
      release [v, ov, iv] []) := by intro _ _; rfl)
    (hs : ∀ env : PySem.Env, env.scope = C.sc → swapsWithSole [.Subscript (.Name n np) e1 sp] e2 pos.line env = pure false := by intro env he; rfl) (hw : ∀ env : PySem.Env, env.scope = C.sc → swappedStores [.Subscript (.Name n np) e1 sp] e2 env = pure none := by intro env he; rfl)
    (h1 : ∀ env : PySem.Env, (assignEach [.Subscript (.Name n np) e1 sp] env).map (·.2) = [assign (.Subscript (.Name n np) e1 sp) env] := by intro _; rfl) : DSs C ρ (.Assign [.Subscript (.Name n np) e1 sp] e2 pos :: rest) m J := by
  intro X W Z x hK c z
  have hi : PE X e1 fun σ H Q => ∃ (q : R α × Env) (κ : D → Env → R α → Prop), (DE C q.2 e1 q.1 κ ∧ Z q.1) ∧ ∃ F, Rel W q.2 σ H F ∧ ∀ d ρ' m' v H' F', κ d ρ' m' → Z m' → Rel W ρ' σ H' F' → Same F F' → Rp W.K F' v d → Q v H' :=
    ⟨fun p s σ H Q I ⟨i, κ, pi, q⟩ => (pi.1 X W Z x hK c pi.2).run p s σ H Q I q⟩
  refine PSs_imp (pss_cons (ps_asg (h X W Z x hK c z) (pg_sub (own_name x hN hv hd hcd) hi set_list (ha _)) (hs _ x.sc) (hw _ x.sc) (h1 _)) (rest_run (J := J) x hK c)) fun Dn σ H ⟨F, r, l⟩ => ?_
  refine ⟨F, r, fun d ρ1 m1 v H1 F1 ⟨⟨xs0, e0⟩, k1⟩ k2 k3 k4 k5 => ?_⟩
  obtain ⟨p, vs, a1, a2, _, _, _⟩ := k3.ownAt e0
  refine ⟨_, a1, (m1, ρ1), _, ⟨k1, k2⟩, F1, k3, fun j ρ2 m2 w H2 F2 ⟨xs, g, b1, b2, b3⟩ j2 j3 j4 j5 => ?_⟩
  subst b2
  obtain ⟨p', vs', c1, c2, _, c4, c5⟩ := j3.ownAt b1
  rw [a1] at c1; cases c1
  obtain ⟨ys, ey, zy⟩ := c.bind j2
  unfold setM at ey
  split at ey
  · split at ey
    · rename_i jj hj; cases ey
      rw [← c4.length] at hj
      refine ⟨p, vs', _, jj, rfl, j5.toInt, c2, hj, (_, _), ⟨b3 _, zy⟩, F2, c5 _ _ (c4.set (k5.mono j4) jj), l⟩
    · cases ey
  · cases ey
/-- x[e] -/
theorem de_ixOwn {κ : D → Env → R α → Prop} {n : Str} {b : Expr} {np pos : Pos} {xs0 : List D} (i : Nat) (hρ : ρ[i]? = some (some (.own xs0))) (h : DE C ρ b m fun y ρ2 m2 => ∃ xs g, ρ2[i]? = some (some (.own xs)) ∧ m2 = (item (.list xs) y).bind g ∧ ∀ z, κ z ρ2 (g z)) (hN : C.N[i]? = some n := by rfl)
    (hv : Vis C.sc n := by first | exact Or.inl rfl | exact Or.inr (Or.inl rfl) | exact Or.inr (Or.inr rfl)) (hd : (n == ("__debug__" : Str)) = false := by decide) (hcd : (n == ("__classdict__" : Str)) = false := by decide) (hs : PlainIx b := by intro _ _; rfl) : DE C ρ (.Subscript (.Name n np) b pos) m κ := by
  intro X W Z x hK c z
  refine PE_imp (pe_ix (r := rIxL X.K) ix_list (own_name x hN hv hd hcd) (h X W Z x hK c z) hs) fun σ H Q ⟨F, r, q⟩ => ?_
  obtain ⟨p, vs, a1, a2, _, _, _⟩ := r.ownAt hρ
  refine ⟨_, a1, F, r, fun y ρ2 m2 w H2 F2 ⟨xs, g, b1, b2, b3⟩ j2 j3 j4 j5 => ?_⟩
  subst b2
  obtain ⟨p', vs', c1, c2, _, c4, _⟩ := j3.ownAt b1
  rw [a1] at c1; cases c1
  obtain ⟨ys, ey, zy⟩ := c.bind j2
  cases y <;> first | (exact absurd ey (by intro q; cases q)) | skip
  simp only [item] at ey
  unfold atD at ey
  split at ey
  · rename_i hj; cases ey
    obtain ⟨v', d1, d2⟩ := c4.atI hj
    exact ⟨p, vs', _, v', rfl, j5.toInt, SqL.of c2, d1, q _ ρ2 _ v' H2 F2 (b3 _) zy j3 j4 d2⟩
  · cases ey

/-! ### a look at what is one's own -/
def viewS : Option Sl → Option Sl
  | some (.val d) => some (.val d)
  | some (.own xs) => some (.val (.list xs))
  | some (.dct kvs) => some (.val (.dict kvs))
  | _ => none
def viewE (ρ : Env) : Env := ρ.map viewS
def viewable : Sl → Bool
  | .own _ => true
  | .dct _ => true
  | _ => false
theorem Rel.view {W : Wd} {ρ : Env} {σ : L2.St} {H F : Hp} (r : Rel W ρ σ H F) : ∃ F2, Rel ⟨W.K, F2, H, []⟩ (viewE ρ) σ H F2 ∧ Same F F2 := by
  classical
  let F2 : Hp := fun b => match F b with
    | some o => some o
    | none => if ∃ (i : Nat) (sl : Sl), ρ[i]? = some (some sl) ∧ viewable sl = true ∧ σ[i]? = some (some (V.ref b)) then H b else none
  have ss : Same F F2 := fun b o h => by simp only [F2, h]
  have sh : Same F2 H := fun b o h => by
    simp only [F2] at h
    cases e : F b with
    | some u => rw [e] at h; cases h; exact r.sub b _ e
    | none =>
      rw [e] at h
      simp only at h
      split at h
      · exact h
      · cases h
  refine ⟨F2, VRel.rel (K := W.K) ⟨fun i d e => ?_, ?_⟩ (fun i sl e => ?_) sh, ss⟩
  · unfold viewE at e
    rw [List.getElem?_map] at e
    cases e1 : ρ[i]? with
    | none => rw [e1] at e; cases e
    | some q =>
      rw [e1] at e
      cases q with
      | none => cases e
      | some sl =>
        cases sl with
        | val d' =>
          cases e
          obtain ⟨v, h1, h2⟩ := r.val e1
          exact ⟨v, h1, h2.mono ss⟩
        | own xs =>
          cases e
          obtain ⟨p, vs, h1, h2, h3, h4, _⟩ := r.ownAt e1
          refine ⟨_, h1, .lst ?_ (h4.mono ss)⟩
          simp only [F2, h3]
          rw [if_pos ⟨i, _, e1, rfl, h1⟩]; exact h2
        | src _ _ => cases e
        | scr _ => cases e
        | fn _ => cases e
        | dck _ => cases e
        | dct kvs =>
          cases e
          obtain ⟨p, oo, xs, h1, h2, h3, h4, _⟩ := r.dctAt e1
          refine ⟨_, h1, ?_⟩
          rw [show PyData.dict kvs = .dict ((kvs.map (·.1)).zip (kvs.map (·.2))) by rw [zip_self]]
          refine .dct (o := oo) ?_ (h4.ks.mono ss) h4.nk (h4.vs.mono ss)
          simp only [F2, h3]
          rw [if_pos ⟨i, _, e1, rfl, h1⟩]; exact h2
  · unfold viewE; rw [List.length_map]; exact r.len
  · unfold viewE at e
    rw [List.getElem?_map] at e
    cases e1 : ρ[i]? with
    | none => rw [e1] at e; cases e
    | some q =>
      rw [e1] at e
      cases q with
      | none => cases e
      | some sl => cases sl <;> cases e <;> exact ⟨_, rfl⟩
theorem Rel.unview {W : Wd} {ρ ρ' : Env} {σ σ' : L2.St} {H F F2 H' F' : Hp} {K : PySem.W.Frag} (r : Rel W ρ σ H F) (ss : Same F F2) (r' : Rel ⟨K, F2, H, []⟩ ρ' σ' H' F') : Rel W ρ σ H' F :=
  r.step ⟨Same.refl _, fun b o h => r'.sub b o (r'.sub0 b o (ss b o h)), fun b o h => r'.keep b o h (by simp), fun b o h => .inl h⟩
theorem dt_peek {κ : Bool → Env → R α → Prop} {e : Expr} {r : R Bool} {g : Bool → R α} (h : DT C (viewE ρ) e r fun b ρ' m' => m' = .ok b) (k : ∀ b, κ b ρ (g b)) : DT C ρ e (r.bind g) κ := by
  intro X W Z x hK c z
  obtain ⟨b, e1, z1⟩ := c.bind z
  have hv : PT X e fun σ H Q => ∃ (W' : Wd), W'.K = C.K ∧ ∃ F, Rel W' (viewE ρ) σ H F ∧ ∀ (b : Bool) (ρ' : Env) (m' : R Bool) (H' F' : Hp), m' = .ok b → (∃ p, m' = .ok p ∧ Z (g p)) → Rel W' ρ' σ H' F' → Same F F' → Q b H' :=
    ⟨fun p s σ H Q I ⟨W', hK', q⟩ => (h X W' _ x hK' (c.at g).x ⟨b, e1, z1⟩).run p s σ H Q I q⟩
  refine PT_imp hv fun σ H Q ⟨F, rl, q⟩ => ?_
  obtain ⟨F2, r2, ss⟩ := rl.view
  refine ⟨⟨W.K, F2, H, []⟩, hK, F2, r2, fun b ρ' m' H' F' e2 ⟨p, e3, z3⟩ h3 h4 => ?_⟩
  subst e2; cases e3
  exact q _ ρ _ H' F (k _) z3 (rl.unview ss h3) (Same.refl _)
theorem de_peek {κ : D → Env → R α → Prop} {e : Expr} {r : R D} {g : D → R α} (h : DE C (viewE ρ) e r fun d ρ' m' => m' = .ok d) (k : ∀ d, κ d ρ (g d)) : DE C ρ e ((flatR r).bind g) κ := by
  intro X W Z x hK c z
  obtain ⟨b, e1, z1⟩ := c.bind z
  unfold flatR at e1
  obtain ⟨b', e0, e1⟩ := R.bind_eq_ok e1
  split at e1
  · rename_i hfl; cases e1
    have hv : PE X e fun σ H Q => ∃ (W' : Wd), W'.K = C.K ∧ ∃ F, Rel W' (viewE ρ) σ H F ∧ ∀ (d : D) (ρ' : Env) (m' : R D) (v : V) (H' F' : Hp), m' = .ok d → m' = .ok b → Rel W' ρ' σ H' F' → Same F F' → Rp W'.K F' v d → Q v H' :=
      ⟨fun p s σ H Q I ⟨W', hK', q⟩ => (h X W' (fun m' => m' = .ok b) x hK' ⟨(fun e => nomatch e), (fun _ _ e => nomatch e)⟩ e0).run p s σ H Q I q⟩
    refine PE_imp hv fun σ H Q ⟨F, rl, q⟩ => ?_
    obtain ⟨F2, r2, ss⟩ := rl.view
    refine ⟨⟨W.K, F2, H, []⟩, hK, F2, r2, fun d ρ' m' v H' F' e2 e3 h3 h4 h5 => ?_⟩
    subst e2; cases e3
    have rp : Rp W.K F v b := by
      cases h5 <;> first | exact .non | exact .bl _ | exact .int _ | exact .str _ | (simp [flatB] at hfl)
    exact q _ ρ _ v H' F (k _) z1 (rl.unview ss h3) (Same.refl _) rp
  · cases e1
end
end Z

set_option Elab.async false
set_option linter.all false
set_option maxRecDepth 100000
set_option autoImplicit false
/-! # Z11: comprehensions whose element changes something -/
namespace Z
open PySem L2

theorem upd_upd {H : Hp} {p : Addr} {u u' : HO} : upd (upd H p u) p u' = upd H p u' := by
  funext b
  by_cases h : b = p
  · subst h; rw [upd_same, upd_same]
  · rw [upd_ne h, upd_ne h, upd_ne h]
section
variable {K : PySem.W.Frag} {F0 H0 H F : Hp} {io : List Addr} {ρ : Env} {σ : L2.St} {D' : Addr}
theorem Rel.newAt (r : Rel ⟨K, F0, H0, io⟩ ρ σ H F) (h0 : H0 D' = none) (hD : H D' = none) (u : HO) : Rel ⟨K, F0, upd H0 D' u, io⟩ ρ σ (upd H D' u) F := by
  have hx : ∀ b o, H b = some o → upd H D' u b = some o := fun b o h => by rw [upd_ne (ne_of_none h hD)]; exact h
  have fx : Fx F H F (upd H D' u) := ⟨Same.refl _, fun b o h => hx b o (r.sub b o h), hx, fun _ _ h => .inl h⟩
  have no : ∀ b o, H b = some o → H0 b = none → upd H0 D' u b = none := fun b o h q => by rw [upd_ne (ne_of_none h hD)]; exact q
  refine ⟨fx.fh, r.sub0, fun b o h n => ?_, fun b o h => ?_, ?_, r.len, fun b o h => ?_⟩
  · by_cases hb : b = D'
    · subst hb
      replace h : upd H0 b u b = some o := h
      rw [upd_same] at h ⊢; exact h
    · replace h : upd H0 D' u b = some o := h
      rw [upd_ne hb] at h; exact hx b o (r.keep b o h n)
  · rcases r.fresh b o h with q | q | q
    · exact .inl q
    · exact .inr (.inl (no b o (r.sub b o h) q))
    · exact .inr (.inr q)
  · obtain ⟨ad, k⟩ := r.env
    refine ⟨ad, fun i sl e => ?_⟩
    obtain ⟨v, h1, h2, h3, h4⟩ := k i sl e
    refine ⟨v, h1, h2.step fx, fun b hb => (h3 b hb).elim .inl fun q => ?_, h4⟩
    obtain ⟨_, o, q'⟩ := h2.there b hb
    exact .inr (no b o q' q)
  · by_cases hb : b = D'
    · subst hb; exact ⟨u, upd_same⟩
    · replace h : upd H0 D' u b = some o := h
      rw [upd_ne hb] at h
      obtain ⟨o', q⟩ := r.trk b o h
      exact ⟨o', hx b o' q⟩
theorem Rel.free0 (r : Rel ⟨K, F0, H0, io⟩ ρ σ H F) {u : HO} (h0 : H0 D' = some u) (hio : D' ∉ io) (hF : F0 D' = none) : F D' = none := by
  cases e : F D' with
  | none => rfl
  | some o =>
    rcases r.fresh D' o e with q | q | q
    · replace q : F0 D' = some o := q
      rw [hF] at q; cases q
    · replace q : H0 D' = none := q
      rw [h0] at q; cases q
    · exact absurd q hio
theorem Rel.poke (r : Rel ⟨K, F0, H0, io⟩ ρ σ H F) {u0 : HO} (h0 : H0 D' = some u0) (hio : D' ∉ io) (hF : F0 D' = none) (u : HO) : Rel ⟨K, F0, upd H0 D' u, io⟩ ρ σ (upd H D' u) F := by
  have hFD := r.free0 h0 hio hF
  have gx : Gx F H F (upd H D' u) [D'] := ⟨Same.refl _, fun b o h => by rw [upd_ne (ne_of_none h hFD)]; exact r.sub b o h, fun b o h n => by
    have : b ≠ D' := by simpa using n
    rw [upd_ne this]; exact h, fun b o h => by
    by_cases hb : b = D'
    · subst hb; exact ⟨u, upd_same⟩
    · exact ⟨o, by rw [upd_ne hb]; exact h⟩, fun _ _ h => .inl h⟩
  have no : ∀ b, H0 b = none → upd H0 D' u b = none := fun b q => by
    have : b ≠ D' := fun e => by subst e; rw [h0] at q; cases q
    rw [upd_ne this]; exact q
  refine ⟨gx.fh, r.sub0, fun b o h n => ?_, fun b o h => ?_, ?_, r.len, fun b o h => ?_⟩
  · by_cases hb : b = D'
    · subst hb
      replace h : upd H0 b u b = some o := h
      rw [upd_same] at h ⊢; exact h
    · replace h : upd H0 D' u b = some o := h
      rw [upd_ne hb] at h ⊢; exact r.keep b o h n
  · exact (r.fresh b o h).elim .inl fun q => .inr (q.elim (fun z => .inl (no b z)) .inr)
  · obtain ⟨ad, k⟩ := r.env
    refine ⟨ad, fun i sl e => ?_⟩
    obtain ⟨v, h1, h2, h3, h4⟩ := k i sl e
    have nd : ∀ b ∈ ad i, b ∉ [D'] := fun b hb q => by
      have : b = D' := by simpa using q
      subst this
      rcases h3 b hb with z | z
      · exact hio z
      · replace z : H0 b = none := z
        rw [h0] at z; cases z
    exact ⟨v, h1, h2.gstep gx nd, fun b hb => (h3 b hb).elim .inl fun q => .inr (no b q), h4⟩
  · by_cases hb : b = D'
    · subst hb; exact ⟨u, upd_same⟩
    · replace h : upd H0 D' u b = some o := h
      rw [upd_ne hb] at h
      obtain ⟨o', q⟩ := r.trk b o h
      exact gx.trk b o' q
/-- what was made for itself is read from now on -/
theorem Rel.fin {W : Wd} {ρ1 : Env} {σ1 : L2.St} {H1 F1 : Hp} {u : HO} (r : Rel ⟨W.K, F1, upd H1 D' u, io⟩ ρ σ H F) (r1 : Rel W ρ1 σ1 H1 F1) (hio : ∀ b ∈ io, b ∈ W.io ∨ W.H0 b = none) (hn : D' ∉ io) (hD : H1 D' = none) :
    Rel W ρ σ H (upd F D' u) ∧ Same F (upd F D' u) := by
  have h0 : upd H1 D' u D' = some u := upd_same
  have hFD : F D' = none := r.free0 h0 hn (r1.sub.free hD)
  have hHD : H D' = some u := r.keep D' u h0 hn
  have ss : Same F (upd F D' u) := fun b o h => by rw [upd_ne (ne_of_none h hFD)]; exact h
  have gx : Gx F H (upd F D' u) H [D'] := ⟨ss, fun b o h => by
    by_cases hb : b = D'
    · subst hb; rw [upd_same] at h; cases h; exact hHD
    · rw [upd_ne hb] at h; exact r.sub b o h, fun b o h _ => h, fun b o h => ⟨o, h⟩, fun b o h => by
    by_cases hb : b = D'
    · subst hb; exact .inr (.inr (by simp))
    · rw [upd_ne hb] at h; exact .inl h⟩
  have no : ∀ b, upd H1 D' u b = none → W.H0 b = none := fun b q => by
    by_cases hb : b = D'
    · subst hb; rw [upd_same] at q; cases q
    · rw [upd_ne hb] at q; exact r1.base q
  refine ⟨⟨gx.fh, (r1.sub0.trans r.sub0).trans ss, fun b o h n => ?_, fun b o h => ?_, ?_, r.len, fun b o h => ?_⟩, ss⟩
  · have h1 := r1.keep b o h n
    refine r.keep b o ?_ fun hb => ?_
    · show upd H1 D' u b = some o
      rw [upd_ne (ne_of_none h1 hD)]; exact h1
    · rcases hio b hb with q | q
      · exact n q
      · rw [h] at q; cases q
  · by_cases hb : b = D'
    · subst hb; exact .inr (.inl (r1.base hD))
    · rw [upd_ne hb] at h
      rcases r.fresh b o h with q | q | q
      · exact r1.fresh b o q
      · exact .inr (.inl (no b q))
      · exact .inr ((hio b q).elim .inr .inl)
  · obtain ⟨ad, k⟩ := r.env
    refine ⟨ad, fun i sl e => ?_⟩
    obtain ⟨v, h1, h2, h3, h4⟩ := k i sl e
    have nd : ∀ b ∈ ad i, b ∉ [D'] := fun b hb q => by
      have : b = D' := by simpa using q
      subst this
      rcases h3 b hb with z | z
      · exact hn z
      · replace z : upd H1 b u b = none := z
        rw [upd_same] at z; cases z
    exact ⟨v, h1, h2.gstep gx nd, fun b hb => (h3 b hb).elim (hio b) fun q => .inr (no b q), h4⟩
  · obtain ⟨o', q⟩ := r1.trk b o h
    refine r.trk b o' ?_
    show upd H1 D' u b = some o'
    rw [upd_ne (ne_of_none q hD)]; exact q
end
theorem wipe_get {σ : L2.St} {vs : List Nat} {i : Nat} {v : V} (h : (wipe σ vs)[i]? = some (some v)) : σ[i]? = some (some v) := by
  induction vs with
  | nil => exact h
  | cons u us ih =>
    unfold wipe at h
    rcases get_set h with ⟨_, _, e⟩ | ⟨_, e⟩
    · cases e
    · exact ih e
theorem Rel.unwipe {W : Wd} {ρ : Env} {σ : L2.St} {H F : Hp} {vs : List Nat} (r : Rel W ρ (L2.wipe σ vs) H F) : Rel W ρ σ H F := by
  refine ⟨r.sub, r.sub0, r.keep, r.fresh, ?_, by have := r.len; rwa [wipe_length] at this, r.trk⟩
  obtain ⟨ad, k⟩ := r.env
  refine ⟨ad, fun i sl e => ?_⟩
  obtain ⟨v, h1, h2, h3, h4⟩ := k i sl e
  exact ⟨v, wipe_get h1, h2, h3, h4⟩

section
variable {α : Type} {C : Ct} {ρ : Env} {m : R α}
theorem lcT_main {κ : D → Env → R α → Prop} {tg it elt : Expr} {ifs : List Expr} {scope : Scope} {vs : List Nat} {X : Cx} {W : Wd} {Z : R α → Prop} (x : XOk C X) (hK : W.K = C.K) (c : ClX X W Z) (z : Z m) {τ : Type} (pack : τ → Env)
    (h : DI C ρ tg it m fun items ρ1 m1 => ∃ st0 f g, Le (pack st0) (wipeE ρ1 vs) ∧ m1 = (compS items st0 f).bind g ∧
      (∀ y st, DG (C.blk scope) (fun i => i ∈ vs) (pack st) tg y (f y st) fun ρ2 m2 => DTs (C.blk scope) ρ2 ifs m2 fun t ρ3 m3 =>
        (t = true → DE (C.blk scope) ρ3 elt m3 fun d ρ4 m4 => ∃ st', Le (pack st') (wipeE ρ4 vs) ∧ m4 = .ok (some d, st')) ∧ (t = false → ∃ st', Le (pack st') (wipeE ρ3 vs) ∧ m3 = .ok (none, st'))) ∧
      ∀ ys st, κ (.list ys) (pack st) (g (ys, st))) :
    ∃ wi g tt te, PI X tg it wi ∧ (∀ (s : Shared) (H : Hp) (Ca : Addr) (cl : List (Str × Addr)) (fp : List Addr), PG (X.blk s H scope (compEnvC scope cl Ca X.env) fp) tg g) ∧
      (∀ (s : Shared) (H : Hp) (Ca : Addr) (cl : List (Str × Addr)) (fp : List Addr), PTs (X.blk s H scope (compEnvC scope cl Ca X.env) fp) ifs tt) ∧
      (∀ (s : Shared) (H : Hp) (Ca : Addr) (cl : List (Str × Addr)) (fp : List Addr), PE (X.blk s H scope (compEnvC scope cl Ca X.env) fp) elt te) ∧
      ∀ σ H Q, (∃ F, Rel W ρ σ H F ∧ ∀ d ρ' m' v H' F', κ d ρ' m' → Z m' → Rel W ρ' σ H' F' → Same F F' → Rp W.K F' v d → Q v H') → tLc wi g tt te vs σ H Q := by
  refine ⟨_, fun v σ H Q => ∃ (W' : Wd) (τ' : Type) (Z' : R τ' → Prop) (i : R τ' × Env × D) (κ : Env → R τ' → Prop), (DG (C.blk scope) (fun i => i ∈ vs) i.2.1 tg i.2.2 i.1 κ ∧ W'.K = C.K ∧ Cl Z' ∧ Z' i.1) ∧ ∃ F, Rel W' i.2.1 σ H F ∧ Rp W'.K F v i.2.2 ∧ ∀ ρ' m' σ' H' F', κ ρ' m' → Z' m' → Rel W' ρ' σ' H' F' → Same F F' → (∀ us, (∀ i, i ∈ vs → i ∈ us) → wipe σ' us = wipe σ us) → Q σ' H',
    fun σ H Q => ∃ (W' : Wd) (τ' : Type) (Z' : R τ' → Prop) (i : R τ' × Env) (κ : Bool → Env → R τ' → Prop), (DTs (C.blk scope) i.2 ifs i.1 κ ∧ W'.K = C.K ∧ Cl Z' ∧ Z' i.1) ∧ ∃ F, Rel W' i.2 σ H F ∧ ∀ b ρ' m' H' F', κ b ρ' m' → Z' m' → Rel W' ρ' σ H' F' → Same F F' → Q b H',
    fun σ H Q => ∃ (W' : Wd) (τ' : Type) (Z' : R τ' → Prop) (i : R τ' × Env) (κ : D → Env → R τ' → Prop), (DE (C.blk scope) i.2 elt i.1 κ ∧ W'.K = C.K ∧ Cl Z' ∧ Z' i.1) ∧ ∃ F, Rel W' i.2 σ H F ∧ ∀ d ρ' m' v H' F', κ d ρ' m' → Z' m' → Rel W' ρ' σ H' F' → Same F F' → Rp W'.K F' v d → Q v H', h X W Z x hK c z, ?_, ?_, ?_, ?_⟩
  · exact fun s H Ca cl fp => ⟨fun p s' σ H v u Q I r ⟨W', _, Z', i, κ, ⟨pi, hK', c', z'⟩, q⟩ => (pi _ W' Z' (x.blk s _ Ca cl fp) hK' c' z').run p s' σ H v u Q I r q⟩
  · exact fun s H Ca cl fp => ⟨fun p s' σ H Q I ⟨W', _, Z', i, κ, ⟨pi, hK', c', z'⟩, q⟩ => (pi _ W' Z' (x.blk s _ Ca cl fp) hK' c' z').run p s' σ H Q I q⟩
  · exact fun s H Ca cl fp => ⟨fun p s' σ H Q I ⟨W', _, Z', i, κ, ⟨pi, hK', c', z'⟩, q⟩ => (pi _ W' Z' (x.blk s _ Ca cl fp) hK' c' z').run p s' σ H Q I q⟩
  rintro σ H Q ⟨F, rl, q⟩
  refine ⟨F, rl, fun items ρ1 m1 J H1 F1 ⟨st0, f, g, hle, em, hf, hk⟩ zm rel1 ss itd Da hDa => ?_⟩
  subst em
  obtain ⟨qs0, eq0, zq0⟩ := c.bind zm
  obtain ⟨hlen, eq0⟩ := compS_ok eq0
  have hF1D : F1 Da = none := rel1.sub.free hDa
  obtain ⟨io, relt, hio, hth⟩ := rel1.turn
  have hnio : Da ∉ io := fun hb => by obtain ⟨o, e⟩ := hth Da hb; rw [hDa] at e; cases e
  have relw : Rel ⟨W.K, F1, upd H1 Da (.lst []), io⟩ (pack st0) (wipe σ vs) (upd H1 Da (.lst [])) F1 := ((relt.wipe vs).le hle).newAt hDa hDa _
  refine ⟨fun i n H => n = items.length - i ∧ i ≤ items.length ∧ ∃ st Fi acc ds qs, Rel ⟨W.K, F1, upd H1 Da (.lst acc), io⟩ (pack st) (wipe σ vs) H Fi ∧ RpAll W.K Fi acc ds ∧ acc.length ≤ i ∧ compT (items.drop i) st f = .ok qs ∧ Z (g (ds ++ qs.1, qs.2)),
    ⟨items.length, by simp, Nat.zero_le _, st0, F1, [], [], qs0, relw, .nil, Nat.le_refl _, by simpa using eq0, by simpa using zq0⟩, ?_⟩
  rintro i n H2 ⟨rfl, hi, st, Fi, acc, ds, qs, rel2, racc, hal, eqs, zqs⟩
  have at0 : ∀ {acc : List V}, upd H1 Da (.lst acc) Da = some (.lst acc) := upd_same
  by_cases hlt : i < items.length
  · refine .inr ⟨itd.goes i Fi H2 hlt rel2.sub0 rel2.sub, fun H => ∃ st Fi acc ds qs, Rel ⟨W.K, F1, upd H1 Da (.lst acc), io⟩ (pack st) (wipe σ vs) H Fi ∧ RpAll W.K Fi acc ds ∧ acc.length ≤ i + 1 ∧ compT (items.drop (i + 1)) st f = .ok qs ∧ Z (g (ds ++ qs.1, qs.2)),
      fun H' hh => ⟨_, by omega, rfl, hlt, hh⟩, fun v H3 y => ?_⟩
    obtain ⟨F3, d, hd, fx, pd⟩ := itd.yields i Fi H2 v H3 hlt rel2.sub0 rel2.sub y
    rw [compT_step hd] at eqs
    obtain ⟨p, ep, eqs⟩ := R.bind_eq_ok eqs
    obtain ⟨q2, eq2, eqs⟩ := R.bind_eq_ok eqs
    have clp : Cl fun r : R (Option D × τ) => r = .ok p := ⟨(fun e => nomatch e), (fun _ _ e => nomatch e)⟩
    refine ⟨⟨W.K, F1, upd H1 Da (.lst acc), io⟩, Option D × τ, fun r => r = .ok p, (f d st, pack st, d), _, ⟨hf d st, hK, clp, ep⟩, F3, rel2.step fx, pd, fun ρ2 m2 σ4 H4 F4 h1 h2 h3 h4 hw => ⟨(hw vs fun _ h => h).trans wipe_wipe, ?_⟩⟩
    have hws : wipe σ4 vs = wipe σ vs := (hw vs fun _ h => h).trans wipe_wipe
    refine ⟨⟨W.K, F1, upd H1 Da (.lst acc), io⟩, Option D × τ, fun r => r = .ok p, (m2, ρ2), _, ⟨h1, hK, clp, h2⟩, F4, h3, fun b ρ3 m3 H5 F5 k1 k2 k3 k4 => ?_⟩
    cases b with
    | false =>
      show (if false = true then _ else _)
      rw [if_neg Bool.false_ne_true]
      obtain ⟨st', hl', e3⟩ := k1.2 rfl
      rw [k2] at e3
      cases e3
      cases eqs
      refine ⟨st', F5, acc, ds, _, ?_, racc.mono ((fx.ff.trans h4).trans k4), Nat.le_succ_of_le hal, eq2, zqs⟩
      rw [← hws]; exact (k3.wipe vs).le hl'
    | true =>
      show (if true = true then _ else _)
      rw [if_pos rfl]
      refine ⟨⟨W.K, F1, upd H1 Da (.lst acc), io⟩, Option D × τ, fun r => r = .ok p, (m3, ρ3), _, ⟨k1.1 rfl, hK, clp, k2⟩, F5, k3, fun dd ρ4 m4 vv H6 F6 ⟨st', hl', e4⟩ j2 j3 j4 j5 => ?_⟩
      rw [j2] at e4
      cases e4
      cases eqs
      have hz : acc.length < 16777216 := by omega
      have pk := j3.poke at0 hnio hF1D (.lst (acc ++ [vv]))
      rw [upd_upd] at pk
      refine ⟨acc, j3.keep Da _ at0 hnio, by rw [sizeLine_eq]; exact hz, st', F6, acc ++ [vv], ds ++ [dd], q2, ?_, (racc.mono (((fx.ff.trans h4).trans k4).trans j4)).snoc j5, by simp; omega, eq2, by simpa using zqs⟩
      rw [← hws]; exact (pk.wipe vs).le hl'
  · have e : i = items.length := by omega
    subst e
    rw [List.drop_length] at eqs
    cases eqs
    rw [List.append_nil] at zqs
    refine .inl ⟨itd.stops Fi H2 rel2.sub0 rel2.sub, ?_⟩
    obtain ⟨fin, sf⟩ := rel2.fin rel1 hio hnio hDa
    exact q _ _ _ _ H2 _ (hk ds st) zqs fin.unwipe ((ss.trans rel2.sub0).trans sf) (.lst upd_same (racc.mono sf))
/-- [e for tg in it if ..] -/
theorem de_lcT {κ : D → Env → R α → Prop} {tg it elt : Expr} {ifs : List Expr} {scope : Scope} {pos : Pos} {τ : Type} (pack : τ → Env) (own : List (Str × Nat)) (ok : blkC C.N C.sc scope own = true)
    (h : DI C ρ tg it m fun items ρ1 m1 => ∃ st0 f g, Le (pack st0) (wipeE ρ1 (own.map (·.2))) ∧ m1 = (compS items st0 f).bind g ∧
      (∀ y st, DG (C.blk scope) (fun i => i ∈ own.map (·.2)) (pack st) tg y (f y st) fun ρ2 m2 => DTs (C.blk scope) ρ2 ifs m2 fun t ρ3 m3 =>
        (t = true → DE (C.blk scope) ρ3 elt m3 fun d ρ4 m4 => ∃ st', Le (pack st') (wipeE ρ4 (own.map (·.2))) ∧ m4 = .ok (some d, st')) ∧ (t = false → ∃ st', Le (pack st') (wipeE ρ3 (own.map (·.2))) ∧ m3 = .ok (none, st'))) ∧
      ∀ ys st, κ (.list ys) (pack st) (g (ys, st))) (hs : ∀ (env : PySem.Env) (x : Value), foldedSetIterable it env x = pure x := by intro _ _; rfl) : DE C ρ (.ListComp elt [⟨tg, it, ifs, 0⟩] scope pos) m κ := by
  intro X W Z x hK c z
  obtain ⟨wi, g, tt, te, h1, h2, h3, h4, h5⟩ := lcT_main (vs := own.map (·.2)) x hK c z pack h
  exact PE_imp (pe_lc x.calm (by rw [x.N]; exact x.nd) h1 (blkOk_by (by rw [x.N, x.sc]; exact ok)) h2 h3 h4 (hs _)) h5
theorem ds_setLcT {J : Jd α} {n : Str} {tg it elt : Expr} {ifs : List Expr} {scope : Scope} {p pos cpos : Pos} {rest : List Stmt} {τ : Type} (pack : τ → Env) (i : Nat) (own : List (Str × Nat)) (ok : blkC C.N C.sc scope own = true)
    (h : DI C ρ tg it m fun items ρ1 m1 => ∃ st0 f g, Le (pack st0) (wipeE ρ1 (own.map (·.2))) ∧ m1 = (compS items st0 f).bind g ∧
      (∀ y st, DG (C.blk scope) (fun i => i ∈ own.map (·.2)) (pack st) tg y (f y st) fun ρ2 m2 => DTs (C.blk scope) ρ2 ifs m2 fun t ρ3 m3 =>
        (t = true → DE (C.blk scope) ρ3 elt m3 fun d ρ4 m4 => ∃ st', Le (pack st') (wipeE ρ4 (own.map (·.2))) ∧ m4 = .ok (some d, st')) ∧ (t = false → ∃ st', Le (pack st') (wipeE ρ3 (own.map (·.2))) ∧ m3 = .ok (none, st'))) ∧
      ∀ ys st, DSs C ((pack st).set i (some (.val (.list ys)))) rest (g (ys, st)) J) (hN : C.N[i]? = some n := by rfl) (hy : C.sc.names.lookup n = some .local := by rfl)
    (hsw : ∀ env : PySem.Env, env.scope = C.sc → swapsWith (.ListComp elt [⟨tg, it, ifs, 0⟩] scope cpos) (some (.Name n p)) pos.line env = pure true)
    (hs : ∀ (env : PySem.Env) (x : Value), foldedSetIterable it env x = pure x := by intro _ _; rfl) : DSs C ρ (.Assign [.Name n p] (.ListComp elt [⟨tg, it, ifs, 0⟩] scope cpos) pos :: rest) m J := by
  intro X W Z x hK c z
  obtain ⟨wi, g, tt, te, h1, h2, h3, h4, h5⟩ := lcT_main (κ := fun d ρ1 m1 => DSs C (ρ1.set i (some (.val d))) rest m1 J) (vs := own.map (·.2)) x hK c z pack h
  refine PSs_imp (pss_cons (ps_setLc (i := i) x.calm (by rw [x.N]; exact x.nd) (by rw [x.N]; exact hN) (by rw [x.sc]; exact hy) (hsw _ x.sc) h1 (blkOk_by (by rw [x.N, x.sc]; exact ok)) h2 h3 h4 (hs _)) (rest_run (J := J) x hK c)) fun Dn σ H ⟨F, r, l⟩ => ?_
  exact h5 σ H (fun y H1 => ∃ j : R α × Env, (DSs C j.2 rest j.1 J ∧ Z j.1) ∧ ∃ F, Rel W j.2 (σ.set i (some y)) H1 F ∧ Lk W J Z Dn) ⟨F, r, fun d ρ' m' v H' F' k1 k2 k3 k4 k5 => ⟨(m', _), ⟨k1, k2⟩, F', k3.set i k5, l⟩⟩
end
end Z

set_option Elab.async false
set_option linter.all false
set_option maxRecDepth 100000
set_option autoImplicit false
/-! # Z12: the source of choices, the law's end -/
namespace Z
open PySem L2

/-- a new owner -/
theorem Rel.give {W : Wd} {ρ : Env} {σ : L2.St} {H F F' H' : Hp} (r : Rel W ρ σ H F) (fx : Fx F H F' H') (i : Nat) {sl : Sl} {v : V} {as : List Addr} (hs : SlR W.K F' H' sl v as) (hn : ∀ b ∈ as, H b = none) : Rel W (ρ.set i (some sl)) (σ.set i (some v)) H' F' := by
  obtain ⟨ad, k⟩ := r.env
  have r' := r.step fx
  refine ⟨r'.sub, r'.sub0, r'.keep, r'.fresh, ⟨fun j => if j = i then as else ad j, fun j sl e => ?_⟩, by rw [List.length_set, List.length_set]; exact r.len, r'.trk⟩
  rcases get_set e with ⟨e1, e2, e3⟩ | ⟨e1, e2⟩
  · subst e1; cases e3
    refine ⟨v, by rw [List.getElem?_set_self (Nat.lt_of_lt_of_le e2 r.len)], by simpa using hs, fun b hb => .inr (r.base (hn b (by simpa using hb))), fun l sl' hl e' b hb => ?_⟩
    have hb' : b ∈ as := by simpa using hb
    have ne : l ≠ i := fun q => hl q.symm
    simp only [if_neg ne]
    rcases get_set e' with ⟨z1, _, _⟩ | ⟨z1, z2⟩
    · exact absurd z1 hl
    · intro hbl
      obtain ⟨v', k1, k2, _, _⟩ := k l sl' z2
      obtain ⟨_, o, q⟩ := k2.there b hbl
      rw [hn b hb'] at q; cases q
  · have ne : j ≠ i := fun q => e1 q.symm
    simp only [if_neg ne]
    obtain ⟨v', k1, k2, k3, k4⟩ := k j sl e2
    refine ⟨v', by rw [List.getElem?_set_ne e1]; exact k1, k2.step fx, k3, fun l sl'' hl e' b hb => ?_⟩
    rcases get_set e' with ⟨z1, z2, z3⟩ | ⟨z1, z2⟩
    · subst z1; cases z3
      simp only [if_true]
      intro hbl
      obtain ⟨_, o, q⟩ := k2.there b hb
      rw [hn b hbl] at q; cases q
    · have ne' : l ≠ i := fun q => z1 q.symm
      simp only [if_neg ne']
      exact k4 l sl'' hl z2 b hb

def srcKvs (c : Addr) (s : Src) : List (Key × V) := [(.inr "cells", .ref c), (.inr "left", .int s.left), (.inr "mixed", .int s.mixed), (.inr "turn", .int s.turn)]
/-- a key of the source, what stands there -/
structure KeyF (k : Str) (f : Src → Int) (u : Src → Int → Src) : Prop where
  get : ∀ c s, valV (srcKvs c s) (.inr k) = some (.int (f s))
  put : ∀ c s n, putK (srcKvs c s) (.inr k) (.int n) = srcKvs c (u s n)
  cells : ∀ s n, (u s n).cells = s.cells
theorem k_cl : ¬ (("cells" : Str) = "left") := by decide +kernel
theorem k_cm : ¬ (("cells" : Str) = "mixed") := by decide +kernel
theorem k_ct : ¬ (("cells" : Str) = "turn") := by decide +kernel
theorem k_lm : ¬ (("left" : Str) = "mixed") := by decide +kernel
theorem k_lt : ¬ (("left" : Str) = "turn") := by decide +kernel
theorem k_mt : ¬ (("mixed" : Str) = "turn") := by decide +kernel
theorem kf_left : KeyF "left" Src.left fun s n => { s with left := n } := by
  refine ⟨fun c s => ?_, fun c s n => ?_, fun _ _ => rfl⟩
  · simp [valV, srcKvs, k_cl, List.find?]
  · simp [putK, srcKvs, k_cl, k_lm, k_lt, Ne.symm k_lm, Ne.symm k_lt]
theorem kf_mixed : KeyF "mixed" Src.mixed fun s n => { s with mixed := n } := by
  refine ⟨fun c s => ?_, fun c s n => ?_, fun _ _ => rfl⟩
  · simp [valV, srcKvs, k_cm, k_lm, List.find?]
  · simp [putK, srcKvs, k_cm, k_lm, k_mt, Ne.symm k_mt]
theorem kf_turn : KeyF "turn" Src.turn fun s n => { s with turn := n } := by
  refine ⟨fun c s => ?_, fun c s n => ?_, fun _ _ => rfl⟩
  · simp [valV, srcKvs, k_ct, k_lt, k_mt, List.find?]
  · simp [putK, srcKvs, k_ct, k_lt, k_mt]
theorem k_cells (c : Addr) (s : Src) : valV (srcKvs c s) (.inr "cells") = some (.ref c) := by simp [valV, srcKvs, List.find?]

section
variable {α : Type} {C : Ct} {ρ : Env} {m : R α}
theorem Rel.srcAt {W : Wd} {ρ : Env} {σ : L2.St} {H F : Hp} (r : Rel W ρ σ H F) {i : Nat} {a : Addr} {s : Src} (e : ρ[i]? = some (some (.src a s))) :
    ∃ c, a ≠ c ∧ σ[i]? = some (some (.ref a)) ∧ H a = some (.dK (srcKvs c s)) ∧ H c = some (.lst (s.cells.map V.int)) ∧ s.cells.length ≤ 63 ∧
      (∀ s', s'.cells = s.cells → Rel W (ρ.set i (some (.src a s'))) σ (upd H a (.dK (srcKvs c s'))) F) ∧
      ∀ cs, cs.length ≤ 63 → Rel W (ρ.set i (some (.src a { s with cells := cs }))) σ (upd H c (.lst (cs.map V.int))) F := by
  obtain ⟨v, as, h1, h2, h3, up⟩ := r.slot e
  obtain ⟨c, rfl, e2, ne, ha, hc, h4, h5, h6⟩ := h2
  subst e2
  have gx : ∀ (b : Addr) (u : HO), b = a ∨ b = c → F b = none → Gx F H F (upd H b u) [a, c] := fun b u hb hf => ⟨Same.refl _, fun b' o h => by rw [upd_ne (ne_of_none h hf)]; exact r.sub b' o h, fun b' o h n => by
    have : b' ≠ b := fun q => n (by subst q; simpa using hb)
    rw [upd_ne this]; exact h, fun b' o h => by
    by_cases q : b' = b
    · subst q; exact ⟨u, upd_same⟩
    · exact ⟨o, by rw [upd_ne q]; exact h⟩, fun _ _ h => .inl h⟩
  refine ⟨c, ne, h1, h4, h5, h6, fun s' es => up (as' := [a, c]) (gx a _ (.inl rfl) ha) ⟨c, rfl, rfl, ne, ha, hc, upd_same, ?_, by rw [es]; exact h6⟩ (fun b hb => .inl hb), fun cs hl => up (as' := [a, c]) (gx c _ (.inr rfl) hc) ⟨c, rfl, rfl, ne, ha, hc, ?_, upd_same, hl⟩ (fun b hb => .inl hb)⟩
  · rw [upd_ne (Ne.symm ne), es]; exact h5
  · rw [upd_ne ne]; exact h4

/-- source['left'] -/
theorem de_srcGet {κ : D → Env → R α → Prop} {k : Str} {f : Src → Int} {u : Src → Int → Src} (KF : KeyF k f u) {n : Str} {np kp pos : Pos} {j : Nat} {a : Addr} {s : Src} (i : Nat) (hρ : ρ[i]? = some (some (.src a s))) (h : κ (.int (f s)) ρ m) (hN : C.N[i]? = some n := by rfl)
    (hv : Vis C.sc n := by first | exact Or.inl rfl | exact Or.inr (Or.inl rfl) | exact Or.inr (Or.inr rfl)) (hd : (n == ("__debug__" : Str)) = false := by decide) (hcd : (n == ("__classdict__" : Str)) = false := by decide) : DE C ρ (.Subscript (.Name n np) (.Constant (.str k) j kp) pos) m κ := by
  intro X W Z x hK c z
  refine PE_imp (pe_dget (hu_of x.room) (own_name x hN hv hd hcd) pe_str (fun _ _ => rfl)) fun σ H Q ⟨F, r, q⟩ => ?_
  obtain ⟨cc, ne, h1, h2, _⟩ := r.srcAt hρ
  refine ⟨_, h1, a, .int (f s), rfl, ?_, q _ ρ m _ H F h z r (Same.refl _) (.int _)⟩
  have := DGet.k (k := .inr k) h2
  rw [KF.get] at this
  exact this
/-- source['left'] = e -/
theorem ds_srcPut {J : Jd α} {k : Str} {f : Src → Int} {u : Src → Int → Src} (KF : KeyF k f u) {n : Str} {np kp sp pos : Pos} {j : Nat} {e : Expr} {rest : List Stmt} (i : Nat)
    (h : DE C ρ e m fun d ρ1 m1 => ∃ a s g, ρ1[i]? = some (some (.src a s)) ∧ m1 = (toI d).bind g ∧ ∀ t, DSs C (ρ1.set i (some (.src a (u s t)))) rest (g t) J) (hN : C.N[i]? = some n := by rfl)
    (hv : Vis C.sc n := by first | exact Or.inl rfl | exact Or.inr (Or.inl rfl) | exact Or.inr (Or.inr rfl)) (hd : (n == ("__debug__" : Str)) = false := by decide) (hcd : (n == ("__classdict__" : Str)) = false := by decide)
    (hs : ∀ env : PySem.Env, env.scope = C.sc → swapsWith e (some (.Subscript (.Name n np) (.Constant (.str k) j kp) sp)) pos.line env = pure false := by intro env he; rfl) : DSs C ρ (.Assign [.Subscript (.Name n np) (.Constant (.str k) j kp) sp] e pos :: rest) m J := by
  intro X W Z x hK c z
  refine PSs_imp (pss_cons (ps_dput (hu_of x.room) (own_name x hN hv hd hcd) pe_str (h X W Z x hK c z) (hs _ x.sc)) (rest_run (J := J) x hK c)) fun Dn σ H ⟨F, r, l⟩ => ?_
  refine ⟨F, r, fun d ρ1 m1 v H1 F1 ⟨a, s, g, e1, e2, hg⟩ k2 k3 k4 k5 => ?_⟩
  subst e2
  obtain ⟨t, et, zt⟩ := c.bind k2
  unfold toI at et
  split at et
  · cases et
    obtain ⟨cc, ne, h1, h2, _, _, h5, _⟩ := k3.srcAt e1
    have hv' := k5.toInt
    subst hv'
    refine ⟨_, h1, a, _, rfl, DPut.k (k := .inr k) h2 ?_, (_, _), ⟨hg _, zt⟩, F1, ?_, l⟩
    · rw [sizeLine_eq]; show (4 : Nat) < 16777216; decide
    · rw [KF.put]; exact h5 _ (KF.cells _ _)
  · cases et
/-- len(source['cells']) -/
theorem de_srcLen {κ : D → Env → R α → Prop} {n : Str} {lp np kp sp pos : Pos} {j : Nat} {a : Addr} {s : Src} (hm : C.mg ("len" : Str) = none) (i : Nat) (hρ : ρ[i]? = some (some (.src a s))) (h : κ (.int s.cells.length) ρ m) (hN : C.N[i]? = some n := by rfl)
    (hv : Vis C.sc n := by first | exact Or.inl rfl | exact Or.inr (Or.inl rfl) | exact Or.inr (Or.inr rfl)) (hd : (n == ("__debug__" : Str)) = false := by decide) (hcd : (n == ("__classdict__" : Str)) = false := by decide) (hg : C.sc.names.lookup ("len" : Str) = some .globalImplicit := by rfl)
    (he : ∀ env : PySem.Env, starEach [.Subscript (.Name n np) (.Constant (.str "cells") j kp) sp] env = (false, eval (.Subscript (.Name n np) (.Constant (.str "cells") j kp) sp) env) :: starEach [] env := by intro _; rfl) (hpl : ∀ env : PySem.Env, (backTo pos (starEach [] env)).any (·.1) = false := by intro _; rfl) :
    DE C ρ (.Call (.Name "len" lp) [.Subscript (.Name n np) (.Constant (.str "cells") j kp) sp] [] pos) m κ := by
  intro X W Z x hK c z
  refine PE_imp (pe_callB call_len (x.gl hg) (x.mg0 hm) boot_len (pa_cons (pe_dget (hu_of x.room) (own_name x hN hv hd hcd) pe_str (fun _ _ => rfl)) pa_nil (he _)) (by decide) (by decide) (he _) (hpl _)) fun σ H Q ⟨F, r, q⟩ => ?_
  obtain ⟨cc, ne, h1, h2, h3, _⟩ := r.srcAt hρ
  refine ⟨_, h1, a, .ref cc, rfl, ?_, ?_⟩
  · have := DGet.k (k := .inr "cells") h2
    rw [k_cells] at this
    exact this
  · refine ⟨_, (s.cells.map V.int).length, rfl, .inl ⟨_, SqL.of h3, rfl⟩, ?_⟩
    rw [List.length_map]
    exact q _ ρ m _ H F h z r (Same.refl _) (.int _)
/-- source['cells'].pop() -/
theorem de_srcPop {κ : D → Env → R α → Prop} {n : Str} {np kp sp ap cp : Pos} {j : Nat} {a : Addr} {s : Src} {g : Int × List Int → R α} (i : Nat) (hρ : ρ[i]? = some (some (.src a s))) (e : m = (popC s.cells).bind g) (h : ∀ t cs, κ (.int t) (ρ.set i (some (.src a { s with cells := cs }))) (g (t, cs))) (hN : C.N[i]? = some n := by rfl)
    (hv : Vis C.sc n := by first | exact Or.inl rfl | exact Or.inr (Or.inl rfl) | exact Or.inr (Or.inr rfl)) (hd : (n == ("__debug__" : Str)) = false := by decide) (hcd : (n == ("__classdict__" : Str)) = false := by decide)
    (hbase : ∀ env : PySem.Env, env.scope = C.sc → attributeBase (.Subscript (.Name n np) (.Constant (.str "cells") j kp) sp) "pop" env (eval (.Subscript (.Name n np) (.Constant (.str "cells") j kp) sp) env) = eval (.Subscript (.Name n np) (.Constant (.str "cells") j kp) sp) env := by intro env he; rfl)
    (hline : (ap.endLine == cp.line) = true := by rfl) :
    DE C ρ (.Call (.Attribute (.Subscript (.Name n np) (.Constant (.str "cells") j kp) sp) "pop" ap) [] [] cp) m κ := by
  intro X W Z x hK c z
  refine PE_imp (pe_bm0 F.plainAttrs_list F.slot_list_pop F.type_list_pop mt_pop (pe_dget (hu_of x.room) (own_name x hN hv hd hcd) pe_str (fun _ _ => rfl)) (hbase _ x.sc) hline) fun σ H Q ⟨F, r, q⟩ => ?_
  subst e
  obtain ⟨⟨t, cs⟩, ec, zc⟩ := c.bind z
  unfold popC at ec
  split at ec
  · rename_i hl; cases ec
    obtain ⟨cc, ne, h1, h2, h3, h6, _, h5⟩ := r.srcAt hρ
    refine ⟨_, h1, a, .ref cc, rfl, ?_, .inl ⟨rfl, _, SqL.of h3⟩, cc, _, .int t, rfl, rfl, h3, ?_, ?_⟩
    · have := DGet.k (k := .inr "cells") h2
      rw [k_cells] at this
      exact this
    · rw [List.length_map, List.getElem?_map, ← List.getLast?_eq_getElem?, hl]; rfl
    · rw [← List.map_dropLast]
      exact q _ _ _ _ _ F (h t _) zc (h5 _ (by rw [List.length_dropLast]; omega)) (Same.refl _) (.int _)
  · cases ec
/-- the script is walked -/
theorem di_scr {tg : Expr} {κ : List D → Env → R α → Prop} {n : Str} {pos : Pos} {ns : List Int} (i : Nat) (hρ : ρ[i]? = some (some (.scr ns))) (h : κ (ns.map .int) ρ m) (hN : C.N[i]? = some n := by rfl)
    (hv : Vis C.sc n := by first | exact Or.inl rfl | exact Or.inr (Or.inl rfl) | exact Or.inr (Or.inr rfl)) (hd : (n == ("__debug__" : Str)) = false := by decide) (hcd : (n == ("__classdict__" : Str)) = false := by decide) : DI C ρ tg (.Name n pos) m κ := by
  intro X W Z x hK c z
  refine PI_imp (pi_list (own_name x hN hv hd hcd)) fun σ H Rr ⟨F, r, q⟩ => ?_
  obtain ⟨v, as, h1, h2, _, _⟩ := r.slot hρ
  obtain ⟨a, rfl, hs, hl, _⟩ := h2
  have hs' : SqL X.K F a (ns.map V.int) := by rw [x.K, ← hK]; exact hs
  have rp : RpAll W.K F (ns.map V.int) (ns.map .int) := by
    clear h hs hs' hl hρ
    induction ns with
    | nil => exact .nil
    | cons n ns ih => exact .cons (.int _) ih
  exact ⟨_, h1, a, rfl, ⟨_, r.sub.seq hs'⟩, q _ ρ m _ H F h z r (Same.refl _) (by rw [x.K, ← hK]; exact itd_list hs rp)⟩
/-- xs[::-1] -/
theorem dn_rev {κ : List D → Env → R α → Prop} {e : Expr} {k : Nat} {p1 p2 p3 pos : Pos} (h : DE C ρ e m fun d ρ1 m1 => ∃ g, m1 = (revL d).bind g ∧ ∀ xs, κ xs ρ1 (g xs)) : DN C ρ (.Subscript e (.Slice none none (some (.UnaryOp .USub (.Constant (.int 1) k p1) p2)) p3) pos) m κ := by
  intro X W Z x hK c z
  refine PE_imp (pe_revL (h X W Z x hK c z)) fun σ H Q ⟨F, r, q⟩ => ⟨F, r, fun d ρ' m' v H' F' ⟨g, e1, hg⟩ h2 h3 h4 h5 => ?_⟩
  subst e1
  obtain ⟨xs, ex, zx⟩ := c.bind h2
  unfold revL at ex
  split at ex
  · cases ex
    obtain ⟨p, ys, rfl, hp, rys⟩ := h5.toList
    exact ⟨p, ys, rfl, SqL.of (h3.sub _ _ hp), fun l hl => q _ ρ' _ _ l H' F' (hg _) zx h3 h4 hl rys.reverse⟩
  · cases ex
/-- what makes a new list is a value, too -/
theorem de_dn {κ : D → Env → R α → Prop} {e : Expr} (h : DN C ρ e m fun ds ρ1 m1 => κ (.list ds) ρ1 m1) : DE C ρ e m κ := by
  intro X W Z x hK c z
  refine PE_imp (h X W Z x hK c z) fun σ H Q ⟨F, r, q⟩ => ⟨F, r, fun ds ρ' m' vs p H' F' k1 k2 k3 k4 k5 k6 => ?_⟩
  have fx : Fx F' H' _ _ := Fx.alloc (u := .lst vs) k3.sub k5
  exact q _ ρ' m' _ _ _ k1 k2 (k3.step fx) (k4.trans fx.ff) (.lst upd_same (k6.mono fx.ff))

/-! ### what is handed out -/
/-- a part that is an int, read without a change -/
def IE (C : Ct) (ρ : Env) (e : Expr) (d : D) : Prop := ∀ X : Cx, XOk C X → PE X e fun σ H Q => (∃ W H' F', Rel W ρ σ H' F') ∧ ∀ v, (∀ n, d = .int n → v = .int n) → Q v H
theorem ie_int {i : Int} {j : Nat} {pos : Pos} : IE C ρ (.Constant (.int i) j pos) (.int i) := fun X x => PE_imp pe_int fun σ H Q ⟨_, q⟩ => q _ fun n e => by cases e; rfl
theorem ie_var {n : Str} {pos : Pos} {d : D} (i : Nat) (hρ : ρ[i]? = some (some (.val d))) (hN : C.N[i]? = some n := by rfl)
    (hv : Vis C.sc n := by first | exact Or.inl rfl | exact Or.inr (Or.inl rfl) | exact Or.inr (Or.inr rfl)) (hd : (n == ("__debug__" : Str)) = false := by decide) (hcd : (n == ("__classdict__" : Str)) = false := by decide) : IE C ρ (.Name n pos) d := fun X x =>
  PE_imp (own_name x hN hv hd hcd) fun σ H Q ⟨⟨W, H', F', r⟩, q⟩ => by
    obtain ⟨v, h1, h2⟩ := r.val hρ
    exact ⟨v, h1, q v fun n e => by subst e; exact h2.toInt⟩
/-- return {'cells': e1, 'left': e2, 'mixed': e3, 'turn': e4} -/
theorem ds_retSrc {J : Jd α} {e1 e2 e3 e4 : Expr} {j1 j2 j3 j4 : Nat} {p1 p2 p3 p4 dp pos : Pos} {rest : List Stmt}
    (h : DN C ρ e1 m fun ds ρ1 m1 => ∃ d2 d3 d4 g, IE C ρ1 e2 d2 ∧ IE C ρ1 e3 d3 ∧ IE C ρ1 e4 d4 ∧ m1 = (mkSrc ds d2 d3 d4).bind g ∧ ∀ s, J.rn (.src s) ρ1 (g s)) :
    DSs C ρ (.Return (some (.Dict [some (.Constant (.str "cells") j1 p1), some (.Constant (.str "left") j2 p2), some (.Constant (.str "mixed") j3 p3), some (.Constant (.str "turn") j4 p4)] [e1, e2, e3, e4] dp)) pos :: rest) m J := by
  intro X W Z x hK c z
  have ie : ∀ e : Expr, PE X e fun σ H Q => ∃ q : Env × D, IE C q.1 e q.2 ∧ (∃ W H' F', Rel W q.1 σ H' F') ∧ ∀ v, (∀ n, q.2 = .int n → v = .int n) → Q v H := fun e =>
    ⟨fun p s σ H Q I ⟨i, hi, q⟩ => (hi X x).run p s σ H Q I q⟩
  have hd : PE X e1 fun σ H Q => ∃ W' : Wd, (W'.K = C.K ∧ ClX X W' Z) ∧ ∃ F, Rel W' ρ σ H F ∧ ∀ ds ρ' m' vs p H' F', (∃ d2 d3 d4 g, IE C ρ' e2 d2 ∧ IE C ρ' e3 d3 ∧ IE C ρ' e4 d4 ∧ m' = (mkSrc ds d2 d3 d4).bind g ∧ ∀ s, J.rn (.src s) ρ' (g s)) → Z m' → Rel W' ρ' σ H' F' → Same F F' → H' p = none → RpAll W'.K F' vs ds → Q (.ref p) (upd H' p (.lst vs)) :=
    ⟨fun p s σ H Q I ⟨W', ⟨hK', c'⟩, q⟩ => (h X W' Z x hK' c' z).run p s σ H Q I q⟩
  refine PSs_imp (pss_cons (ps_ret (pe_disp (pps_cons pe_str hd (pps_cons pe_str (ie e2) (pps_cons pe_str (ie e3) (pps_cons pe_str (ie e4) pps_nil)))) rfl rfl (by simp) (by show (4 : Nat) ≤ 15; decide))) pss_never) fun Dn σ H ⟨F, r, l⟩ => ?_
  intro p hp
  obtain ⟨io, rt, hio, hth⟩ := r.turn
  have hnio : p ∉ io := fun hb => by obtain ⟨o, e⟩ := hth p hb; rw [hp] at e; cases e
  have hFp : F p = none := r.sub.free hp
  have rn := rt.newAt hp hp (.dK [])
  refine ⟨⟨W.K, F, upd H p (.dK []), io⟩, ⟨hK, c.turned r hio hp⟩, F, rn, fun ds ρ1 m1 vs q H1 F1 ⟨d2, d3, d4, g, i2, i3, i4, em, hg⟩ z1 r1 _ hq rd => ?_⟩
  subst em
  obtain ⟨s, es, zs⟩ := c.bind z1
  refine ⟨(ρ1, d2), i2, ⟨_, _, _, r1⟩, fun v2 hv2 => ⟨(ρ1, d3), i3, ⟨_, _, _, r1⟩, fun v3 hv3 => ⟨(ρ1, d4), i4, ⟨_, _, _, r1⟩, fun v4 hv4 => ?_⟩⟩⟩
  have hpp : H1 p = some (.dK []) := r1.keep p _ upd_same hnio
  have npq : p ≠ q := ne_of_none hpp hq
  unfold mkSrc at es
  split at es
  · rename_i ns hns
    split at es
    · rename_i hlen
      obtain ⟨l', el, es⟩ := R.bind_eq_ok es
      obtain ⟨mx, emx, es⟩ := R.bind_eq_ok es
      obtain ⟨t, et, es⟩ := R.bind_eq_ok es
      cases es
      have toI' : ∀ {d : D} {n : Int}, toI d = .ok n → d = .int n := fun {d n} h => by
        unfold toI at h
        split at h
        · cases h; rfl
        · cases h
      have h2' := hv2 _ (toI' el); have h3' := hv3 _ (toI' emx); have h4' := hv4 _ (toI' et)
      subst h2' h3' h4'
      have ev := ints_of rd hns
      subst ev
      refine ⟨by rw [upd_ne npq]; exact hpp, [(.inr "cells", .ref q), (.inr "left", .int l'), (.inr "mixed", .int mx), (.inr "turn", .int t)], rfl, by show (4 : Nat) ≤ 15; decide, ?_⟩
      have hmk : mergeK [] [((.inr "cells" : Key), V.ref q), (.inr "left", .int l'), (.inr "mixed", .int mx), (.inr "turn", .int t)] = srcKvs q ⟨ns, l', mx, t⟩ := by
        simp [mergeK, putK, srcKvs, k_cl, k_cm, k_ct, k_lm, k_lt, k_mt, Ne.symm k_cl, Ne.symm k_cm, Ne.symm k_ct, Ne.symm k_lm, Ne.symm k_lt, Ne.symm k_mt]
      rw [hmk]
      have hF1p : F1 p = none := r1.free0 (D' := p) upd_same hnio hFp
      have hF1q : F1 q = none := r1.sub.free hq
      have hx : ∀ b o, H1 b = some o → b ≠ p → upd (upd H1 q (.lst (ns.map V.int))) p (.dK (srcKvs q ⟨ns, l', mx, t⟩)) b = some o := fun b o h n => by rw [upd_ne n, upd_ne (ne_of_none h hq)]; exact h
      have hx2 : ∀ b o, H b = some o → b ≠ p ∧ (upd H p (.dK []) b = some o) := fun b o h => ⟨ne_of_none h hp, by rw [upd_ne (ne_of_none h hp)]; exact h⟩
      have hq0 : H q = none := by
        cases e : H q with
        | none => rfl
        | some o => obtain ⟨o', q'⟩ := r1.trk q o (hx2 q o e).2; rw [hq] at q'; cases q'
      refine l.rn (.src ⟨ns, l', mx, t⟩) ρ1 (g ⟨ns, l', mx, t⟩) (.ref p) [p, q] _ F1 (hg _) zs ⟨fun b o h => hx b o (r1.sub b o h) (ne_of_none h hF1p), r.sub0.trans r1.sub0, fun b o h n => ?_, fun b o h => ?_, ⟨fun _ => [], fun i sl e => by simp at e⟩, Nat.le_refl _, fun b o h => ?_⟩ ⟨p, q, rfl, rfl, npq, hF1p, hF1q, upd_same, by rw [upd_ne (Ne.symm npq), upd_same], of_decide_eq_true hlen⟩ ?_
      · have h1 := r.keep b o h n
        obtain ⟨nb, h2⟩ := hx2 b o h1
        refine hx b o (r1.keep b o h2 fun hb => ?_) nb
        rcases hio b hb with z | z
        · exact n z
        · rw [h] at z; cases z
      · rcases r1.fresh b o h with z | z | z
        · exact r.fresh b o z
        · refine .inr (.inl (r.base ?_))
          have nb : b ≠ p := ne_of_none h hF1p
          replace z : upd H p (.dK []) b = none := z
          rw [upd_ne nb] at z; exact z
        · exact .inr ((hio b z).elim .inr .inl)
      · obtain ⟨o1, h1⟩ := r.trk b o h
        obtain ⟨nb, h2⟩ := hx2 b o1 h1
        obtain ⟨o2, h3⟩ := r1.trk b o1 h2
        exact ⟨o2, hx b o2 h3 nb⟩
      · intro b hb
        have : b = p ∨ b = q := by simpa using hb
        rcases this with rfl | rfl
        · exact .inr (r.base hp)
        · exact .inr (r.base hq0)
    · cases es
  · cases es
/-- the promise of a def that makes a source of the script -/
def spQ (K : PySem.W.Frag) (fm : List Int → R Src) : Sp := fun vs H Q _ => ∃ F a ns s, vs = [.ref a] ∧ Same F H ∧ SqL K F a (ns.map V.int) ∧ ns.length ≤ 63 ∧ fm ns = .ok s ∧
  ∀ v as H' F', Fx F H F' H' → (∃ b, SlR K F' H' (.src b s) v as) → (∀ b ∈ as, H b = none) → Q v H'
structure FnQ (C : Ct) (n : Str) (fm : List Int → R Src) : Prop where
  ex : ∃ f fd ps j, j ≤ C.k ∧ FnG C.P C.w C.K C.mg C.base CX0 j f fd ps (spQ C.K fm) ∧ C.mg n = some (.ref f) ∧ PySem.W.keepIn C.K (.ref f) = true ∧ Binds C.K fd ps []
/-- source = f(script) -/
theorem ds_source {J : Jd α} {n x0 fn : Str} {p fp xp cp pos : Pos} {fm : List Int → R Src} {g : Src → R α} {ns : List Int} {rest : List Stmt} (i j : Nat) (G : FnQ C fn fm) (hρ : ρ[j]? = some (some (.scr ns))) (hm : m = (fm ns).bind g)
    (k : ∀ a s, DSs C (ρ.set i (some (.src a s))) rest (g s) J) (hN : C.N[i]? = some n := by rfl) (hNj : C.N[j]? = some x0 := by rfl)
    (hx : Loc C.sc n := by first | exact Or.inl rfl | exact Or.inr rfl) (hfn : C.fn n = true ∨ C.sc.names.lookup n = some .local := by first | exact Or.inl rfl | exact Or.inr rfl)
    (hv : Vis C.sc x0 := by first | exact Or.inl rfl | exact Or.inr (Or.inl rfl) | exact Or.inr (Or.inr rfl)) (hg : C.sc.names.lookup fn = some .globalImplicit := by rfl) (hdb : (fn == ("__debug__" : Str)) = false := by decide) (hd : (x0 == ("__debug__" : Str)) = false := by decide) (hcd : (x0 == ("__classdict__" : Str)) = false := by decide)
    (he : ∀ env : PySem.Env, starEach [.Name x0 xp] env = (false, eval (.Name x0 xp) env) :: starEach [] env := by intro _; rfl) (hpl : ∀ env : PySem.Env, (backTo cp (starEach [] env)).any (·.1) = false := by intro _; rfl)
    (hs : ∀ env : PySem.Env, env.scope = C.sc → swapsWith (.Call (.Name fn fp) [.Name x0 xp] [] cp) (some (.Name n p)) pos.line env = pure false := by intro env he; rfl) : DSs C ρ (.Assign [.Name n p] (.Call (.Name fn fp) [.Name x0 xp] [] cp) pos :: rest) m J := by
  intro X W Z x hK c z
  subst hm
  have hf : X.fn n = true ∨ X.env.scope.names.lookup n = some .local := hfn.elim (fun h => .inl (x.fnl n h)) fun h => .inr (by rw [x.sc]; exact h)
  obtain ⟨f, fd, ps, jj, hj, ok, hmg, kp, b⟩ := G.ex
  refine PSs_imp (pss_cons (ps_set (i := i) (by rw [x.N]; exact x.nd) (by rw [x.N]; exact hN) (by rw [x.sc]; exact hx) (pe_callG (fnAt x ok hj) x.grd x.room (x.gl hg) (by rw [x.mg]; exact hmg) (by rw [x.K]; exact kp) (by rw [x.K]; exact b) pass0 (pa_cons (own_name x hNj hv hd hcd) pa_nil (he _)) hdb (he _) (hpl _)) (hs _ x.sc) hf) (rest_run (J := J) x hK c)) fun D σ H ⟨F, r, l⟩ => ?_
  obtain ⟨s, es, zs⟩ := c.bind z
  obtain ⟨v, as, h1, h2, _, _⟩ := r.slot hρ
  obtain ⟨a, rfl, hsq, hl, _⟩ := h2
  refine ⟨_, h1, F, a, ns, s, rfl, r.sub, by rw [← hK]; exact hsq, hl, es, fun v as' H' F' fx ⟨b', hsl⟩ hn => ⟨(g s, _), ⟨k b' s, zs⟩, F', ?_, l⟩⟩
  have hsl' : SlR W.K F' H' (.src b' s) v as' := by rw [hK]; exact hsl
  exact r.give fx i hsl' hn
def JfQ : Jd Src := { nx := fun _ _ => False, rt := fun _ _ _ => False, bk := fun _ _ => False, ct := fun _ _ => False, rn := fun ow _ m => ∃ s, ow = .src s ∧ m = .ok s }
theorem scr_rel {K : PySem.W.Frag} {N : List Str} {F H : Hp} {a : Addr} {ns : List Int} (sub : Same F H) (hs : SqL K F a (ns.map V.int)) (hl : ns.length ≤ 63) : Rel ⟨K, F, H, []⟩ (startE N [.scr ns]) (L2.start N [.ref a]) H F := by
  refine ⟨sub, Same.refl _, fun b o h _ => h, fun b o h => .inl h, ⟨fun _ => [], fun i sl e => ?_⟩, by unfold startE L2.start; simp, fun b o h => ⟨o, h⟩⟩
  have e1 := startE_get e
  cases i with
  | zero =>
    have e2 : sl = .scr ns := by simpa using e1.symm
    subst e2
    exact ⟨.ref a, start_get rfl, ⟨a, rfl, hs, hl, rfl⟩, by simp, by simp⟩
  | succ i => simp at e1
theorem fnQ_of {P : Program} {w : World} {K : PySem.W.Frag} {mg : Str → Option Value} {base : Heap} {x qual : Str} {st : Stmt} {f : Addr} {fd : FuncData} {N ps : List Str} {k : Nat} {fm : List Int → R Src} (F : Fun K x qual st f fd) (S : FnScope N ps (defScope st)) (hn : ps.length = 1)
    (h : ∀ ns : List Int, DSs ⟨P, w, K, mg, base, k, N, defScope st, fun _ => true⟩ (startE N [.scr ns]) (defBody st) (fm ns) JfQ) : FnG P w K mg base CX0 (k + 1) f fd ps (spQ K fm) := by
  refine okG F S (fun vs H Q E h => ?_) (fun cdv A outer s H vs Q E gd hr hsp => ?_)
  · obtain ⟨_, _, _, _, e, _⟩ := h
    rw [e, hn, List.length_singleton]
  · obtain ⟨F0, a, ns, r, e, sub, hs, hl, er, q⟩ := hsp
    subst e
    have xo : XOk ⟨P, w, K, mg, base, k, N, defScope st, fun _ => true⟩ (cxOf CX0 P w K mg base N qual (defScope st) f cdv A outer s H E).nox :=
      ⟨rfl, rfl, rfl, rfl, rfl, rfl, S.nd, rfl, rfl, hr, gd, PassesOwn.never, fun _ _ => rfl⟩
    have cl : Cl fun r' : R Src => r' = .ok r := ⟨(fun e => nomatch e), (fun _ _ e => nomatch e)⟩
    refine ⟨_, (h ns _ ⟨K, F0, H, []⟩ _ xo rfl cl.x er).nox, F0, scr_rel sub hs hl, ⟨fun _ _ _ _ _ h => h.elim, fun _ _ _ _ _ _ _ h => h.elim, fun _ _ _ _ _ h => h.elim, fun _ _ _ _ _ h => h.elim, fun ow ρ m v as H' F' ⟨s', e1, e2⟩ h2 h3 h4 h5 => ?_⟩⟩
    subst e1
    rw [h2] at e2; cases e2
    exact q v as H' F' h3.fx h4 fun b hb => (h5 b hb).elim (fun q => by simp at q) id
/-- the law's own promise -/
def spLaw (K : PySem.W.Frag) : Sp := fun vs H Q _ => ∃ (a : Addr) (ns : List Int), vs = [.ref a] ∧ SqL K H a (ns.map V.int) ∧ ns.length ≤ 63 ∧ ∀ H', Q (.bl true) H'
theorem fnLaw_of {P : Program} {w : World} {K : PySem.W.Frag} {mg : Str → Option Value} {base : Heap} {x qual : Str} {st : Stmt} {f : Addr} {fd : FuncData} {N ps : List Str} {k : Nat} {fm : List Int → R D} (F : Fun K x qual st f fd) (S : FnScope N ps (defScope st)) (hn : ps.length = 1)
    (h : ∀ ns : List Int, DSs ⟨P, w, K, mg, base, k, N, defScope st, fun _ => true⟩ (startE N [.scr ns]) (defBody st) (fm ns) Jf) (hm : ∀ ns : List Int, ns.length ≤ 63 → fm ns = .ok (.bool true)) : FnG P w K mg base CX0 (k + 1) f fd ps (spLaw K) := by
  refine okG F S (fun vs H Q E h => ?_) (fun cdv A outer s H vs Q E gd hr hsp => ?_)
  · obtain ⟨_, _, e, _⟩ := h
    rw [e, hn, List.length_singleton]
  · obtain ⟨a, ns, e, hs, hl, q⟩ := hsp
    subst e
    have xo : XOk ⟨P, w, K, mg, base, k, N, defScope st, fun _ => true⟩ (cxOf CX0 P w K mg base N qual (defScope st) f cdv A outer s H E).nox :=
      ⟨rfl, rfl, rfl, rfl, rfl, rfl, S.nd, rfl, rfl, hr, gd, PassesOwn.never, fun _ _ => rfl⟩
    have cl : Cl fun r' : R D => r' = .ok (.bool true) := ⟨(fun e => nomatch e), (fun _ _ e => nomatch e)⟩
    refine ⟨_, (h ns _ ⟨K, H, H, []⟩ _ xo rfl cl.x (hm ns hl)).nox, H, scr_rel (Same.refl _) hs hl, ⟨fun ρ m σ H' F' h1 h2 h3 => ?_, fun d ρ m v σ H' F' h1 h2 h3 h4 => ?_, fun _ _ _ _ _ h => h.elim, fun _ _ _ _ _ h => h.elim, fun _ _ _ _ _ _ _ h => h.elim⟩⟩
    · rw [h2] at h1; cases h1
    · rw [h2] at h1; cases h1
      rw [h4.toBool]
      exact q H'
end
end Z

set_option Elab.async false
set_option linter.all false
set_option maxRecDepth 100000
set_option autoImplicit false
/-! # Z13: enumerate, zip, repr, .. -/
namespace Z
open PySem L2

/-! ### enumerate(t), t a tuple -/
set_option maxHeartbeats 1000000 in
theorem meets_enumT {v : Value} {o : Obj} {G : Heap → Prop} (B : PySem.Begins v o G) :
    Meets (Builtin.«enumerate.__new__» ⟨[.type "enumerate", v], []⟩) (fun _ R s => G s.heap ∧
      R (.ok (.ret (.ref (s.heap.push o).objs.size))) { s with heap := (s.heap.push o).push { cls := .type "enumerate", data := .fields #[.none, .bool false, .ref s.heap.objs.size, rawInt 0, .none, .none] } }) :=
  .of_wp fun prog w A R s hh => by
    obtain ⟨hp, ge, de, tk, os⟩ := s
    obtain ⟨g1, h⟩ := hh
    have hsub := sub_enumerate
    have start : ∀ {A2 : Around} {E Q : Value → Shared → Prop}, Q (.ref hp.objs.size) ⟨hp.push o, ge, de, tk, os⟩ → wpAny (model prog w) A2 (pyIter v) Q E ⟨hp, ge, de, tk, os⟩ := fun q => B.iter prog w _ _ ⟨hp, ge, de, tk, os⟩ _ g1 q
    wp_walk using start
    refine wpAny_stack_any fun st => wpAny_pure ?_
    split
    · rename_i c _ _ _ _ _
      cases (c == Value.type "enumerate") <;> (wp_walk using start; exact ⟨_, rfl, h⟩)
    · wp_walk using start
      exact ⟨_, rfl, h⟩
theorem call_enumT {prog : Program} {w : World} {A : Around} {E Q : Value → Shared → Prop} {s : Shared} {v : Value} {o : Obj} {G : Heap → Prop} (B : PySem.Begins v o G) (g : G s.heap)
    (h : ∀ h', IsEnum h' (s.heap.objs.size + 1) s.heap.objs.size 0 .none → h'.get? s.heap.objs.size = some o → (∀ b o', s.heap.get? b = some o' → h'.get? b = some o') → Q (.ref (s.heap.objs.size + 1)) { s with heap := h' }) :
    wpAny (model prog w) A (call (.type "enumerate") [v]) Q E s := by
  refine callType_new F.called_enumerate (by decide) (F.typeCall_enumerate_1 _) (F.newCall_enumerate_1 _) (fun obj => F.args_object_init_2 obj _) F.entry_enumerate_new (meets_enumT B) ⟨g, ?_⟩
  have sz : (s.heap.push o).objs.size = s.heap.objs.size + 1 := Heap.size_push ..
  show _ ∧ _
  rw [sz]
  have at1 : IsEnum ((s.heap.push o).push { cls := .type "enumerate", data := .fields #[.none, .bool false, .ref s.heap.objs.size, rawInt 0, .none, .none] }) (s.heap.objs.size + 1) s.heap.objs.size 0 .none := by
    have q := Heap.get?_push_size (s.heap.push o) (o := { cls := .type "enumerate", data := .fields #[.none, .bool false, .ref s.heap.objs.size, rawInt 0, .none, .none] }) rfl
    rw [sz] at q; exact q
  exact ⟨⟨_, at1, rfl⟩, h _ at1 (Heap.get?_push_of_some _ (Heap.get?_push_size _ B.free)) fun b o' q => Heap.get?_push_of_some _ (Heap.get?_push_of_some _ q)⟩
/-- the tuple at a, each item in a new pair -/
def IteT (K : PySem.W.Frag) (a : Addr) : It where
  go := fun i H => ∃ (xs : List V) (x : V), SqT K H a xs ∧ xs[i]? = some x
  yld := fun i H v H' => ∃ T x, v = .ref T ∧ H T = none ∧ H' = upd H T (.tup [.int (i : Nat), x]) ∧ ∀ xs, SqT K H a xs → xs[i]? = some x
  stop := fun i H => ∃ xs : List V, SqT K H a xs ∧ xs.length = i
theorem turn_enumT {P : Program} {w : World} {K : PySem.W.Frag} {es : List Expr} {kk : Nat} {tp : Pos} (a e it : Addr) :
    Turn P w K (.Tuple es kk tp) (IteT K a) [e, it] e (fun i h => (∃ old, IsEnum h e it ((i : Nat) : Int) old) ∧ h.IsTupleIter it a i ∧ e ≠ it ∧ a ≠ it ∧ e ≠ a) where
  mem := List.mem_cons_self
  obj := fun i h ⟨⟨old, he⟩, ⟨o, ho, _, hd⟩, _⟩ b hb => by
    have : b = e ∨ b = it := by simpa using hb
    rcases this with z | z
    · subst z; exact ⟨_, he, fun v q => nomatch q⟩
    · subst z; exact ⟨o, ho, fun v q => by rw [hd] at q; cases q⟩
  keep := fun i h h' ⟨⟨old, he⟩, hi, r⟩ k => ⟨⟨old, k e (by simp) _ he⟩, hi.at fun o q => k it (by simp) o q, r⟩
  item := by
    intro X hP hw hK hc i pins s σ H E I hf ⟨⟨old, he⟩, hit, hne, hai, hea⟩ ⟨xs, x, hq, hx⟩
    subst hP hw hK
    obtain ⟨its, rv, tup, _⟩ := I.tuple hq
    obtain ⟨u, hu, ru⟩ := rv.get hx
    have le : e < s.heap.objs.size := Heap.lt_size he
    have li : it < s.heap.objs.size := by obtain ⟨_, q, _⟩ := hit; exact Heap.lt_size q
    have lt : i < its.toArray.size := by
      have := (List.getElem?_eq_some_iff.mp hu).1
      simpa using this
    refine wpAny_pyNext_enum_itemD (PySem.Draws.tuple (A := X.A.in1) (I.ok.hd hc) it a hai its.toArray) he ⟨hit, tup⟩ lt hne (by simp [hne, hea]) fun y h' tk hy ho st hT _ hk => ?_
    have ey : y = u := by
      have h1 : its.toArray[i]? = some u := by simpa using hu
      rw [h1] at hy; cases hy; rfl
    subst ey
    refine ⟨_, rfl, wpAny_letOwnedTupleGo_enum (s := { s with heap := h', toks := tk + 1 }) ho fun h'' he' sb => ?_⟩
    have hT2 : h''.get? s.heap.objs.size = some { cls := .type "tuple", data := .seq #[.int i tk, y] } := (sb.2 _ (Nat.ne_of_gt le)).trans hT
    have new : ObjOk X.prog X.w (upd H s.heap.objs.size (.tup [.int (i : Nat), x])) h'' s.heap.objs.size (.tup [.int (i : Nat), x]) := ⟨by show 2 ≤ sizeLine; decide, [.int i tk, y], .cons ⟨_, rfl⟩ (.cons ru .nil), _, hT2, rfl, _, rfl⟩
    have I2 : Inv X pins σ (upd H s.heap.objs.size (.tup [.int (i : Nat), x])) { s with heap := h'', toks := tk + 1 } :=
      I.turnedNew (ch := [e, it]) (fun b ob hb q => (sb.2 b fun z => hb (by simp [z])).trans (hk b ob (fun z => hb (by simp [z])) (fun z => hb (by simp [z])) q)) hf (Nat.le_refl _) new
    have fresh : ∀ b ∈ [e, it], b ≠ s.heap.objs.size := fun b hb => by
      have : b = e ∨ b = it := by simpa using hb
      rcases this with z | z <;> subst z
      · exact Nat.ne_of_lt le
      · exact Nat.ne_of_lt li
    refine ⟨.ref s.heap.objs.size, _, I2, rfl, ⟨_, x, rfl, I.hok.fresh (Nat.le_refl _), rfl, fun ys hy => ?_⟩, ⟨⟨y, ?_⟩, st.1.at fun o q => (sb.2 it (Ne.symm hne)).trans q, hne, hai, hea⟩, fun b hb => by rw [upd_ne (fresh b hb)]; exact (hf b hb).1⟩
    · rw [I.tuple_inj hy hq]; exact hx
    · have e1 : ((i + 1 : Nat) : Int) = (i : Int) + 1 := by omega
      rw [e1]; exact he'
  done := by
    intro X hP hw hK hc i pins s σ H E I hf ⟨⟨old, he⟩, hit, hne, hai, hea⟩ ⟨xs, hq, hx⟩
    subst hP hw hK
    obtain ⟨its, rv, tup, _⟩ := I.tuple hq
    obtain ⟨f0, f1, f2, f3, f4, f5⟩ := hf it (by simp)
    have hl : i = its.toArray.size := by rw [List.size_toArray, ← rv.length]; exact hx.symm
    subst hl
    exact wpAny_pyNext_enum_endD (PySem.Draws.tuple (A := X.A.in1) (I.ok.hd hc) it a hai its.toArray) he ⟨hit, tup⟩ fun h' eb => ⟨rfl, I.turned (t' := s.toks) (fun b o hb q => eb b o hb q) f0 f1 f3 f4 f5⟩
  self := fun A i s Q E ⟨⟨_, he⟩, _⟩ h => wpAny_pyIter_enum he h

theorem enumD_at {items : List D} {i : Nat} : (enumD items)[i]? = (items[i]?).map fun d => .tuple [.int (i : Nat), d] := by
  unfold enumD
  rw [List.getElem?_map, List.getElem?_zipIdx]
  cases items[i]? with
  | none => rfl
  | some d => simp
theorem enumD_length {items : List D} : (enumD items).length = items.length := by unfold enumD; simp
theorem itd_enumL {K : PySem.W.Frag} {a : Addr} {xs : List V} {items : List D} {F : Hp} (h : SqL K F a xs) (r : RpAll K F xs items) : ItD K (Ite K a) (enumD items) F where
  goes := fun i F1 H hi e1 e2 => by
    rw [enumD_length, ← r.length] at hi
    exact ⟨xs, xs[i], e2.seq (e1.seq h), List.getElem?_eq_getElem hi⟩
  stops := fun F1 H e1 e2 => ⟨xs, e2.seq (e1.seq h), by rw [enumD_length, r.length]; exact Nat.le_refl _⟩
  yields := fun i F1 H x H' hi e1 e2 ⟨T, y, e3, hT, e4, hy⟩ => by
    subst e3 e4
    obtain ⟨d, h1, h2⟩ := r.at' (hy xs (e2.seq (e1.seq h)))
    have fx : Fx F1 H _ _ := Fx.alloc (u := .tup [.int (i : Nat), y]) e2 hT
    exact ⟨_, .tuple [.int (i : Nat), d], by rw [enumD_at, h1]; rfl, fx, .tup (.inl (.inl upd_same)) (fun m => by simp [mkd, stD] at m) (.cons (.int _) (.cons ((h2.mono e1).mono fx.ff) .nil))⟩
theorem itd_enumT {K : PySem.W.Frag} {a : Addr} {xs : List V} {items : List D} {F : Hp} (h : SqT K F a xs) (r : RpAll K F xs items) : ItD K (IteT K a) (enumD items) F where
  goes := fun i F1 H hi e1 e2 => by
    rw [enumD_length, ← r.length] at hi
    exact ⟨xs, xs[i], seqT e2 (seqT e1 h), List.getElem?_eq_getElem hi⟩
  stops := fun F1 H e1 e2 => ⟨xs, seqT e2 (seqT e1 h), by rw [enumD_length, r.length]⟩
  yields := fun i F1 H x H' hi e1 e2 ⟨T, y, e3, hT, e4, hy⟩ => by
    subst e3 e4
    obtain ⟨d, h1, h2⟩ := r.at' (hy xs (seqT e2 (seqT e1 h)))
    have fx : Fx F1 H _ _ := Fx.alloc (u := .tup [.int (i : Nat), y]) e2 hT
    exact ⟨_, .tuple [.int (i : Nat), d], by rw [enumD_at, h1]; rfl, fx, .tup (.inl (.inl upd_same)) (fun m => by simp [mkd, stD] at m) (.cons (.int _) (.cons ((h2.mono e1).mono fx.ff) .nil))⟩
section
variable {α : Type} {C : Ct} {ρ : Env} {m : R α}
theorem di_enum {κ : List D → Env → R α → Prop} {a : Expr} {p pos tp : Pos} {es : List Expr} {kk : Nat} (hm : C.mg ("enumerate" : Str) = none) (h : DE C ρ a m fun d ρ1 m1 => ∃ g, m1 = (iterL d).bind g ∧ ∀ items, κ (enumD items) ρ1 (g items))
    (hg : C.sc.names.lookup ("enumerate" : Str) = some .globalImplicit := by rfl) (hs : ∀ env : PySem.Env, starEach [a] env = [(false, eval a env)] := by intro _; rfl) : DI C ρ (.Tuple es kk tp) (.Call (.Name "enumerate" p) [a] [] pos) m κ := by
  intro X W Z x hK c z
  have ha : DA C ρ [a] m fun ds ρ1 m1 => ∃ d, ds = [d] ∧ ∃ g, m1 = (iterL d).bind g ∧ ∀ items, κ (enumD items) ρ1 (g items) :=
    da_cons (fun X W Z x hK c z => PE_imp (h X W Z x hK c z) fun σ H Q ⟨F, r, q⟩ => ⟨F, r, fun d ρ' m' v H' F' k1 => q d ρ' m' v H' F' (da_nil ⟨d, rfl, k1⟩)⟩) hs
  refine ⟨fun pins s σ H Rr I ⟨F, r, q⟩ => ?_⟩
  refine PyProof.Rows.Call_ (ld_blt I (x.gl hg) (x.mg0 hm) PyProof.Rows.boot_enumerate (PyProof.Rows.callWith_type1 (thn ((ha X W Z x hK c z).run pos pins s σ H (fun vs H1 => ∃ F1 v d ρ1 m1, vs = [v] ∧ (∃ g, m1 = (iterL d).bind g ∧ ∀ items, κ (enumD items) ρ1 (g items)) ∧ Z m1 ∧ Rel W ρ1 σ H1 F1 ∧ Same F F1 ∧ Rp W.K F1 v d) I
    ⟨F, r, fun ds ρ' m' vs H' F' ⟨d, e1, k1⟩ k2 k3 k4 k5 => by
      subst e1
      obtain ⟨v, e2, rd⟩ := k5.one
      exact ⟨F', v, d, ρ', m', e2, k1, k2, k3, k4, rd⟩⟩) fun us s1 ⟨vs, H1, I1, r1, F1, v, d, ρ1, m1, e1, ⟨g, e2, hgg⟩, z1, rel1, ss, rd⟩ => ?_) (hs _) rfl))
  subst e1 e2
  obtain ⟨xs, ex, zx⟩ := c.bind z1
  obtain ⟨u, rfl, ru⟩ := Vals.one r1
  unfold iterL at ex
  split at ex
  · cases ex
    obtain ⟨a', ys, rfl, ha', rys⟩ := rd.toTup
    cases ru
    have aX : SqT X.K H1 a' ys := by rw [x.K, ← hK]; exact seqT rel1.sub ha'
    obtain ⟨its, rv, tup, _⟩ := I1.tuple aX
    refine call_enumT (begins_tuple a' its.toArray) tup fun h' he hit hk => wpAny_pyIter_enum he ?_
    have I2 : Inv X pins σ H1 { s1 with heap := h' } := I1.kept (t' := s1.toks) hk
    have lt : a' < s1.heap.objs.size := by obtain ⟨o, ho, _⟩ := tup; exact Heap.lt_size ho
    refine ⟨s1.heap.objs.size + 1, [s1.heap.objs.size + 1, s1.heap.objs.size], _, _, H1, rfl, I2, turn_enumT a' (s1.heap.objs.size + 1) s1.heap.objs.size, ⟨⟨.none, he⟩, ⟨_, hit, rfl, rfl⟩, Nat.succ_ne_self _, Nat.ne_of_lt lt, Nat.ne_of_gt (Nat.lt_succ_of_lt lt)⟩, fun b hb => ?_, ?_⟩
    · have e' : b = s1.heap.objs.size + 1 ∨ b = s1.heap.objs.size := by simpa using hb
      have hle : s1.heap.objs.size ≤ b := by
        rcases e' with z | z <;> subst z
        · exact Nat.le_add_right _ _
        · exact Nat.le_refl _
      exact I1.fpOk hle (I1.hok.fresh hle)
    · refine q _ ρ1 _ _ H1 F1 (hgg _) zx rel1 ss ?_
      rw [x.K, ← hK]; exact itd_enumT ha' rys
  · cases ex
    obtain ⟨a', ys, rfl, ha', rys⟩ := rd.toList
    cases ru
    have aX : SqL X.K H1 a' ys := SqL.of (rel1.sub _ _ ha')
    obtain ⟨its, rv, lst, _⟩ := I1.list aX
    refine call_enumerate_list lst.isList fun h' he hit hsz hk => wpAny_pyIter_enum he ?_
    have I2 : Inv X pins σ H1 { s1 with heap := h' } := I1.kept (t' := s1.toks) hk
    refine ⟨s1.heap.objs.size + 1, [s1.heap.objs.size + 1, s1.heap.objs.size], _, _, H1, rfl, I2, turn_enum a' (s1.heap.objs.size + 1) s1.heap.objs.size, ⟨⟨.none, he⟩, hit, Nat.succ_ne_self _⟩, fun b hb => ?_, ?_⟩
    · have e' : b = s1.heap.objs.size + 1 ∨ b = s1.heap.objs.size := by simpa using hb
      have hle : s1.heap.objs.size ≤ b := by
        rcases e' with z | z <;> subst z
        · exact Nat.le_add_right _ _
        · exact Nat.le_refl _
      exact I1.fpOk hle (I1.hok.fresh hle)
    · refine q _ ρ1 _ _ H1 F1 (hgg _) zx rel1 ss ?_
      rw [x.K, ← hK]; exact itd_enumL (SqL.of ha') rys
  · cases ex
end

/-! ### repr -/
theorem reprOk_facts {d : D} (h : reprOk d = true) : okD d = true ∧ d.showable = true ∧ d.hasDict = false ∧ d.shown.length ≤ sizeLine := by
  unfold reprOk at h
  simp only [Bool.and_eq_true, Bool.not_eq_true', decide_eq_true_eq] at h
  exact ⟨h.1.1.1, h.1.1.2, h.1.2, by rw [sizeLine_eq]; exact h.2⟩
theorem bl_repr : CallS (.builtin "repr") (fn1 reprD) := by
  intro X k hc hr gd pins s σ H vs us Q I rv ⟨F, ds, c, sub, ra0, e0, q⟩
  obtain ⟨a, rfl, e⟩ := fn1_ok e0
  obtain ⟨v, rfl, ra⟩ := ra0.one
  have main : ∀ {p : Addr}, v = .ref p → reprOk a = true → c = .str a.shown → wpAny (model X.prog X.w) X.A (call (.builtin "repr") us) (EP X pins σ Q) X.xe s := by
    intro p e1 ok ec
    subst e1 ec
    obtain ⟨h1, h2, h3, h4⟩ := reprOk_facts ok
    obtain ⟨u, rfl, ru⟩ := Vals.one rv
    cases ru
    obtain ⟨as, rd⟩ := ra.reads I sub rfl (okD_plain h1)
    refine repr_of_reads' rd h2 (PyData.noDict_hsm h3) gd ?_ (fun _ _ z => z) (fun h' u tk hk => ?_) h4
    · have := hr.units
      have := okD_depth h1
      omega
    · exact ⟨.str a.shown, H, I.kept (t' := tk) hk, ⟨_, rfl⟩, q _ H F (Fx.refl sub) (.str _)⟩
  unfold reprD at e
  split at e
  · split at e
    · rename_i ok; cases e
      obtain ⟨p, xs, e1, _⟩ := ra.toList
      exact main e1 ok rfl
    · cases e
  · split at e
    · rename_i ok; cases e
      obtain ⟨p, xs, e1, _⟩ := ra.toTup
      exact main e1 ok rfl
    · cases e
  · cases e
    obtain ⟨u, rfl, ru⟩ := Vals.one rv
    cases ra
    cases ru
    exact P.repr_of_none ⟨.str "None", H, I.kept (t' := s.toks + 1) fun _ _ z => z, ⟨_, rfl⟩, q _ H F (Fx.refl sub) (.str _)⟩
  · rename_i x
    split at e
    · rename_i hz; cases e
      obtain ⟨u, rfl, ru⟩ := Vals.one rv
      cases ra
      obtain ⟨t, rfl⟩ := ru
      exact P.repr_of_str (x := x) ⟨.str (reprText x), H, I.kept (t' := s.toks + 1) fun _ _ z => z, ⟨_, rfl⟩, q _ H F (Fx.refl sub) (.str _)⟩ (by rw [sizeLine_eq]; exact hz)
    · cases e
  · split at e
    · rename_i hz; cases e
      obtain ⟨u, rfl, ru⟩ := Vals.one rv
      cases ra
      obtain ⟨t, rfl⟩ := ru
      exact P.repr_of_int hz ⟨.str _, H, I.kept (t' := s.toks + 1) fun _ _ z => z, ⟨_, rfl⟩, q _ H F (Fx.refl sub) (.str _)⟩
    · cases e
  · cases e
    obtain ⟨u, rfl, ru⟩ := Vals.one rv
    cases ra
    cases ru
    exact P.repr_of_bool ⟨.str _, H, I.kept (t' := s.toks + 1) fun _ _ z => z, ⟨_, rfl⟩, q _ H F (Fx.refl sub) (.str _)⟩
  · cases e
end Z

set_option Elab.async false
set_option linter.all false
set_option maxRecDepth 100000
set_option autoImplicit false
/-! # Z14: little helps for the printed derivations -/
namespace Z
open PySem L2

theorem Le.z : Le [] [] := trivial
theorem Le.s {a : Sl} {r r' : Env} (h : Le r r') : Le (some a :: r) (some a :: r') := ⟨rfl, h⟩
theorem Le.n {a : Option Sl} {r r' : Env} (h : Le r r') : Le (none :: r) (a :: r') := h
theorem Le.trans : ∀ {a b c : Env}, Le a b → Le b c → Le a c
  | [], [], [], _, _ => trivial
  | none :: r, _ :: r', _ :: r'', h, k => by
    have k' : Le r' r'' := by
      rename_i x y
      cases x with
      | none => exact k
      | some x => cases y with
        | none => exact k.elim
        | some y => exact k.2
    exact Le.trans (a := r) (b := r') (c := r'') h k'
  | some a :: r, some b :: r', some c :: r'', h, k => ⟨h.1.trans k.1, Le.trans (a := r) (b := r') (c := r'') h.2 k.2⟩
  | [], [], _ :: _, _, k => k.elim
  | [], _ :: _, _, h, _ => h.elim
  | none :: _, [], _, h, _ => h.elim
  | some _ :: _, [], _, h, _ => h.elim
  | some _ :: _, none :: _, _, h, _ => h.elim
  | none :: _, none :: _, [], _, k => k.elim
  | none :: _, some _ :: _, [], _, k => k.elim
  | some _ :: _, some _ :: _, [], _, k => k.elim
  | some _ :: _, some _ :: _, none :: _, _, k => k.elim

section
variable {α : Type} {C : Ct} {ρ : Env} {m : R α}
/-- the row of slots, written out -/
theorem ds_at {α : Type} {C : Ct} {ρ : Env} {m : R α} {J : Jd α} {sts : List Stmt} (ρ' : Env) (h : DSs C ρ' sts m J) (e : ρ = ρ' := by rfl) : DSs C ρ sts m J := e ▸ h
/-- the end of a comprehension's turn behind its if -/
theorem lsplitP {β : Type} {C : Ct} {ρ : Env} {elt : Expr} {κ : D → Env → R (Option β) → Prop} {t : Bool} {m1 A B : R (Option β)} (h : m1 = (if t = true then A else B)) (hA : DE C ρ elt A κ) (hB : B = .ok none) : (t = true → DE C ρ elt m1 κ) ∧ (t = false → m1 = .ok none) := by
  subst h hB
  cases t with
  | true => exact ⟨(fun _ => hA), (fun e => nomatch e)⟩
  | false => exact ⟨(fun e => nomatch e), (fun _ => rfl)⟩
theorem lsplitT {τ : Type} {C : Ct} {ρ : Env} {vs : List Nat} {pack : τ → Env} {elt : Expr} {κ : D → Env → R (Option D × τ) → Prop} {t : Bool} {m1 A B : R (Option D × τ)} (st : τ) (h : m1 = (if t = true then A else B)) (hA : DE C ρ elt A κ) (hl : Le (pack st) (wipeE ρ vs)) (hB : B = .ok (none, st)) :
    (t = true → DE C ρ elt m1 κ) ∧ (t = false → ∃ st', Le (pack st') (wipeE ρ vs) ∧ m1 = .ok (none, st')) := by
  subst h hB
  cases t with
  | true => exact ⟨(fun _ => hA), (fun e => nomatch e)⟩
  | false => exact ⟨(fun e => nomatch e), (fun _ => ⟨st, hl, rfl⟩)⟩
/-- not e, as a value -/
theorem de_not {κ : D → Env → R α → Prop} {e : Expr} {pos : Pos} (h : DE C ρ e m fun d ρ1 m1 => ∃ t, d = .bool t ∧ κ (.bool !t) ρ1 m1) : DE C ρ (.UnaryOp .Not e pos) m κ := by
  intro X W Z x hK c z
  refine PE_imp (pe_not (h X W Z x hK c z)) fun σ H Q ⟨F, r, q⟩ => ⟨F, r, fun d ρ' m' v H' F' ⟨t, e1, k1⟩ k2 k3 k4 k5 => ?_⟩
  subst e1
  exact ⟨t, k5.toBool, q _ ρ' m' _ H' F' k1 k2 k3 k4 (.bl _)⟩
/-- a, b, c = e1, e2, e3, all plain locals -/
theorem ds_par3 {J : Jd α} {n1 n2 n3 : Str} {e1 e2 e3 : Expr} {px py pz pt pt2 pos : Pos} {kt k2 : Nat} {rest : List Stmt} (i j l : Nat)
    (h : DE C ρ e1 m fun d1 ρ1 m1 => DE C ρ1 e2 m1 fun d2 ρ2 m2 => DE C ρ2 e3 m2 fun d3 ρ3 m3 => DSs C (((ρ3.set i (some (.val d1))).set j (some (.val d2))).set l (some (.val d3))) rest m3 J) (hN : C.N[i]? = some n1 := by rfl) (hN2 : C.N[j]? = some n2 := by rfl) (hN3 : C.N[l]? = some n3 := by rfl) (hij : i ≠ j := by decide) (hil : i ≠ l := by decide) (hjl : j ≠ l := by decide)
    (hx : C.sc.names.lookup n1 = some .local := by rfl) (hy : C.sc.names.lookup n2 = some .local := by rfl) (hz : C.sc.names.lookup n3 = some .local := by rfl)
    (hst : ∀ env : PySem.Env, starEach [e1, e2, e3] env = (false, eval e1 env) :: starEach [e2, e3] env := by intro _; rfl) (hst2 : ∀ env : PySem.Env, starEach [e2, e3] env = (false, eval e2 env) :: starEach [e3] env := by intro _; rfl) (hst3 : ∀ env : PySem.Env, starEach [e3] env = (false, eval e3 env) :: starEach [] env := by intro _; rfl)
    (hw : ∀ env : PySem.Env, env.scope = C.sc → swappedStores [.Tuple [.Name n1 px, .Name n2 py, .Name n3 pz] kt pt] (.Tuple [e1, e2, e3] k2 pt2) env = pure (some [n1, n2, n3]) := by intro env he; cases env; cases he; rfl)
    (hsw : ∀ env : PySem.Env, env.scope = C.sc → swapsWithSole [.Tuple [.Name n1 px, .Name n2 py, .Name n3 pz] kt pt] (.Tuple [e1, e2, e3] k2 pt2) pos.line env = pure false := by intro env he; rfl) : DSs C ρ (.Assign [.Tuple [.Name n1 px, .Name n2 py, .Name n3 pz] kt pt] (.Tuple [e1, e2, e3] k2 pt2) pos :: rest) m J := by
  intro X W Z x hK c z
  have ha : DA C ρ [e1, e2, e3] m fun ds ρ3 m3 => ∃ d1 d2 d3, ds = [d1, d2, d3] ∧ DSs C (((ρ3.set i (some (.val d1))).set j (some (.val d2))).set l (some (.val d3))) rest m3 J := by
    refine da_cons (fun X W Z x hK c z => PE_imp (h X W Z x hK c z) fun σ H Q ⟨F, r, q⟩ => ⟨F, r, fun d ρ' m' v H' F' k1 => q d ρ' m' v H' F' (da_cons (fun X W Z x hK c z => PE_imp (k1 X W Z x hK c z) fun σ H Q ⟨F, r, q⟩ => ⟨F, r, fun d' ρ2 m2 v H' F' k2 => q d' ρ2 m2 v H' F' (da_cons (fun X W Z x hK c z => PE_imp (k2 X W Z x hK c z) fun σ H Q ⟨F, r, q⟩ => ⟨F, r, fun d'' ρ3 m3 v H' F' k3 => q d'' ρ3 m3 v H' F' (da_nil ⟨d, d', d'', rfl, k3⟩)⟩) hst3)⟩) hst2)⟩) hst
  refine PSs_imp (pss_cons (L2.ps_par3 (i := i) (j := j) (l := l) x.calm (by rw [x.N]; exact x.nd) (by rw [x.N]; exact hN) (by rw [x.N]; exact hN2) (by rw [x.N]; exact hN3) hij hil hjl (by rw [x.sc]; exact hx) (by rw [x.sc]; exact hy) (by rw [x.sc]; exact hz) (ha X W Z x hK c z) (hw _ x.sc) (hsw _ x.sc)) (rest_run (J := J) x hK c)) fun D σ H ⟨F, r, l'⟩ => ?_
  refine ⟨F, r, fun ds ρ' m' vs H' F' ⟨d1, d2, d3, e, h1⟩ h2 h3 h4 h5 => ?_⟩
  subst e
  cases h5 with
  | cons p1 t => cases t with
    | cons p2 t => cases t with
      | cons p3 t => cases t; exact ⟨_, _, _, rfl, (m', _), ⟨h1, h2⟩, F', ((h3.set i p1).set j p2).set l p3, l'⟩
end
/-- a def of the law's text, at hand for calls -/
def HasP (P : Program) (w : World) (K : PySem.W.Frag) (mg : Str → Option Value) (base : Heap) (k : Nat) (n : Str) (ar : Nat) (fm : List D → R D) : Prop := ∀ N sc fn, FnP ⟨P, w, K, mg, base, k, N, sc, fn⟩ n ar fm
def HasS (P : Program) (w : World) (K : PySem.W.Frag) (mg : Str → Option Value) (base : Heap) (k : Nat) (n : Str) (ar : Nat) (fm : Src → List D → R (D × Src)) : Prop := ∀ N sc fn, FnS ⟨P, w, K, mg, base, k, N, sc, fn⟩ n ar fm
def HasQ (P : Program) (w : World) (K : PySem.W.Frag) (mg : Str → Option Value) (base : Heap) (k : Nat) (n : Str) (fm : List Int → R Src) : Prop := ∀ N sc fn, FnQ ⟨P, w, K, mg, base, k, N, sc, fn⟩ n fm
/-- a def as it stands behind the top -/
def At (K : PySem.W.Frag) (mg : Str → Option Value) (n : Str) (st : Stmt) (ps : List Str) : Prop := ∃ f fd, Fun K n n st f fd ∧ mg n = some (.ref f) ∧ Binds K fd ps []
theorem At.mk {K : PySem.W.Frag} {h : Heap} {mg : Str → Option Value} {n : Str} {st : Stmt} {ps : List Str} (X : K.In h) (G : h.Ns mainGlobals mg) {f : Addr} {od an : Option Addr} {sl : Array (Option Value)} {oc kV dc pm cd ct : Value}
    (a : PySem.W.nsIn K mainGlobals n = some (some (.ref f))) (l : K.lookup f = some ⟨oc, od, .func (PySem.W.fnOf n n (defArgs st) (defBody st) (defScope st) .none kV dc pm an cd ct), sl⟩) (c : PySem.W.codeIn K cd n = true) (k : PySem.W.keepIn K (.ref f) = true)
    (b : ∀ (kV doc pm : Value) (an : Option Addr) (cdv ct : Value) (us : List Value), us.length = ps.length → bindArgs (PySem.W.fnOf n n (defArgs st) (defBody st) (defScope st) .none kV doc pm an cdv ct) ⟨us, []⟩ = pure (ps.zip us)) : At K mg n st ps :=
  have F := fun_mk (st := st) l c k
  ⟨f, _, F, PySem.W.mg_of X G a, F.binds b⟩
theorem At.p {P : Program} {w : World} {K : PySem.W.Frag} {mg : Str → Option Value} {base : Heap} {n : Str} {st : Stmt} {ps N : List Str} {fm : List D → R D} {lv ar : Nat} (A : At K mg n st ps) (S : FnScope N ps (defScope st)) (hn : ps.length = ar)
    (h : ∀ ds : List D, ds.length = ar → DSs ⟨P, w, K, mg, base, lv, N, defScope st, fun _ => true⟩ (startE N (ds.map .val)) (defBody st) (fm ds) Jf) (k : Nat) (hk : lv + 1 ≤ k) : HasP P w K mg base k n ar fm := fun _ _ _ =>
  let ⟨f, fd, F, hm, b⟩ := A
  ⟨⟨f, fd, ps, lv + 1, hk, fnP_of F S hn h, hm, F.kp, b⟩⟩
theorem At.s {P : Program} {w : World} {K : PySem.W.Frag} {mg : Str → Option Value} {base : Heap} {n : Str} {st : Stmt} {ps N : List Str} {fm : Src → List D → R (D × Src)} {lv ar : Nat} (A : At K mg n st ps) (S : FnScope N ps (defScope st)) (hn : ps.length = ar + 1)
    (h : ∀ (a : Addr) (s : Src) (ds : List D), ds.length = ar → DSs ⟨P, w, K, mg, base, lv, N, defScope st, fun _ => true⟩ (startE N (.src a s :: ds.map .val)) (defBody st) (fm s ds) (JfS a)) (k : Nat) (hk : lv + 1 ≤ k) : HasS P w K mg base k n ar fm := fun _ _ _ =>
  let ⟨f, fd, F, hm, b⟩ := A
  ⟨⟨f, fd, ps, lv + 1, hk, fnS_of F S hn h, hm, F.kp, b⟩⟩
theorem At.q {P : Program} {w : World} {K : PySem.W.Frag} {mg : Str → Option Value} {base : Heap} {n : Str} {st : Stmt} {ps N : List Str} {fm : List Int → R Src} {lv : Nat} (A : At K mg n st ps) (S : FnScope N ps (defScope st)) (hn : ps.length = 1)
    (h : ∀ ns : List Int, DSs ⟨P, w, K, mg, base, lv, N, defScope st, fun _ => true⟩ (startE N [.scr ns]) (defBody st) (fm ns) JfQ) (k : Nat) (hk : lv + 1 ≤ k) : HasQ P w K mg base k n fm := fun _ _ _ =>
  let ⟨f, fd, F, hm, b⟩ := A
  ⟨⟨f, fd, ps, lv + 1, hk, fnQ_of F S hn h, hm, F.kp, b⟩⟩
/-- a source's def, its arguments behind the source -/
def sn0 (f : Src → R (D × Src)) : Src → List D → R (D × Src)
  | s, [] => f s
  | _, _ => .stuck
def sn1 (f : Src → D → R (D × Src)) : Src → List D → R (D × Src)
  | s, [a] => f s a
  | _, _ => .stuck
def sn2 (f : Src → D → D → R (D × Src)) : Src → List D → R (D × Src)
  | s, [a, b] => f s a b
  | _, _ => .stuck
def sn3 (f : Src → D → D → D → R (D × Src)) : Src → List D → R (D × Src)
  | s, [a, b, c] => f s a b c
  | _, _ => .stuck
def sn4 (f : Src → D → D → D → D → R (D × Src)) : Src → List D → R (D × Src)
  | s, [a, b, c, d] => f s a b c d
  | _, _ => .stuck
def fn5 (f : D → D → D → D → D → R D) : List D → R D
  | [a, b, c, d, e] => f a b c d e
  | _ => .stuck
def fn6 (f : D → D → D → D → D → D → R D) : List D → R D
  | [a, b, c, d, e, g] => f a b c d e g
  | _ => .stuck
theorem fn1_eq (f : D → R D) (a : D) : fn1 f [a] = f a := rfl
theorem fn2_eq (f : D → D → R D) (a b : D) : fn2 f [a, b] = f a b := rfl
theorem fn3_eq (f : D → D → D → R D) (a b c : D) : fn3 f [a, b, c] = f a b c := rfl
theorem fn4_eq (f : D → D → D → D → R D) (a b c d : D) : fn4 f [a, b, c, d] = f a b c d := rfl
theorem fn5_eq (f : D → D → D → D → D → R D) (a b c d e : D) : fn5 f [a, b, c, d, e] = f a b c d e := rfl
theorem fn6_eq (f : D → D → D → D → D → D → R D) (a b c d e g : D) : fn6 f [a, b, c, d, e, g] = f a b c d e g := rfl
theorem sn0_eq (f : Src → R (D × Src)) (s : Src)  : sn0 f s [] = f s  := rfl
theorem sn1_eq (f : Src → D → R (D × Src)) (s : Src) (a : D) : sn1 f s [a] = f s a := rfl
theorem sn2_eq (f : Src → D → D → R (D × Src)) (s : Src) (a b : D) : sn2 f s [a, b] = f s a b := rfl
theorem sn3_eq (f : Src → D → D → D → R (D × Src)) (s : Src) (a b c : D) : sn3 f s [a, b, c] = f s a b c := rfl
theorem sn4_eq (f : Src → D → D → D → D → R (D × Src)) (s : Src) (a b c d : D) : sn4 f s [a, b, c, d] = f s a b c d := rfl
end Z

set_option Elab.async false
set_option linter.all false
set_option maxRecDepth 100000
set_option autoImplicit false
/-! # Z15: several targets, lists of their own among the values -/
namespace Z
open PySem L2

/-- what was made ahead gets its slot later -/
theorem Rel.later {W : Wd} {ρ ρ1 : Env} {σ σ1 : L2.St} {H F H1 F1 : Hp} {io : List Addr} {p : Addr} {vs : List V} {ds : List D} (r : Rel ⟨W.K, F1, upd H1 p (.lst vs), io⟩ ρ σ H F) (r1 : Rel W ρ1 σ1 H1 F1) (hio : ∀ b ∈ io, b ∈ W.io ∨ W.H0 b = none) (hn : p ∉ io) (hp : H1 p = none)
    (rd : RpAll W.K F1 vs ds) (i : Nat) : Rel W (ρ.set i (some (.own ds))) (σ.set i (some (.ref p))) H F := by
  have h0 : upd H1 p (.lst vs) p = some (.lst vs) := upd_same
  have hF : F p = none := r.free0 h0 hn (r1.sub.free hp)
  have hH : H p = some (.lst vs) := r.keep p _ h0 hn
  have no : ∀ b, upd H1 p (.lst vs) b = none → W.H0 b = none := fun b q => by
    by_cases hb : b = p
    · subst hb; rw [upd_same] at q; cases q
    · rw [upd_ne hb] at q; exact r1.base q
  have up : ∀ b o, H1 b = some o → upd H1 p (.lst vs) b = some o := fun b o h => by rw [upd_ne (ne_of_none h hp)]; exact h
  refine ⟨r.sub, r1.sub0.trans r.sub0, fun b o h n => ?_, fun b o h => ?_, ?_, by rw [List.length_set, List.length_set]; exact r.len, fun b o h => ?_⟩
  · refine r.keep b o (up b o (r1.keep b o h n)) fun hb => ?_
    rcases hio b hb with q | q
    · exact n q
    · rw [h] at q; cases q
  · rcases r.fresh b o h with q | q | q
    · exact r1.fresh b o q
    · exact .inr (.inl (no b q))
    · exact .inr ((hio b q).elim .inr .inl)
  · obtain ⟨ad, k⟩ := r.env
    have nad : ∀ j sl, ρ[j]? = some (some sl) → p ∉ ad j := fun j sl e hb => by
      obtain ⟨v, _, _, h3, _⟩ := k j sl e
      rcases h3 p hb with z | z
      · exact hn z
      · replace z : upd H1 p (.lst vs) p = none := z
        rw [upd_same] at z; cases z
    refine ⟨fun j => if j = i then [p] else ad j, fun j sl e => ?_⟩
    rcases get_set e with ⟨e1, e2, e3⟩ | ⟨e1, e2⟩
    · subst e1; cases e3
      refine ⟨.ref p, by rw [List.getElem?_set_self (Nat.lt_of_lt_of_le e2 r.len)], ⟨p, vs, rfl, by simp, hH, hF, rd.mono r.sub0⟩, by simp [r1.base hp], fun l sl' hl e' b hb => ?_⟩
      have hb' : b = p := by simpa using hb
      subst hb'
      have ne : l ≠ i := fun q => hl q.symm
      simp only [if_neg ne]
      rcases get_set e' with ⟨z1, _, _⟩ | ⟨z1, z2⟩
      · exact absurd z1 hl
      · exact nad l sl' z2
    · have ne : j ≠ i := fun q => e1 q.symm
      simp only [if_neg ne]
      obtain ⟨v', k1, k2, k3, k4⟩ := k j sl e2
      refine ⟨v', by rw [List.getElem?_set_ne e1]; exact k1, k2, fun b hb => (k3 b hb).elim (hio b) fun q => .inr (no b q), fun l sl'' hl e' b hb => ?_⟩
      rcases get_set e' with ⟨z1, z2, z3⟩ | ⟨z1, z2⟩
      · subst z1; cases z3
        simp only [if_true]
        intro hbl
        have hb' : b = p := by simpa using hbl
        subst hb'
        exact nad j sl e2 hb
      · have ne' : l ≠ i := fun q => z1 q.symm
        simp only [if_neg ne']
        exact k4 l sl'' hl z2 b hb
  · obtain ⟨o1, h1⟩ := r1.trk b o h
    exact r.trk b o1 (up b o1 h1)

def setAll (σ : L2.St) : List Nat → List V → L2.St
  | i :: is, v :: vs => setAll (σ.set i (some v)) is vs
  | _, _ => σ
theorem setAll_set {i : Nat} {x : Option V} : ∀ {is : List Nat} {vs : List V} {σ : L2.St}, i ∉ is → (setAll σ is vs).set i x = setAll (σ.set i x) is vs
  | [], _, _, _ => rfl
  | _ :: _, [], _, _ => rfl
  | j :: is, v :: vs, σ, h => by
    have hj : i ≠ j := fun e => h (by simp [e])
    unfold setAll
    rw [setAll_set (fun q => h (by simp [q]))]
    exact congrArg (fun τ => setAll τ is vs) (List.set_comm _ _ (fun e => hj e.symm))

section
variable {α : Type} {C : Ct} {ρ : Env} {m : R α}
/-- values for the slots is, one by one, stored at the end -/
def DPs {α : Type} (C : Ct) (ρ : Env) (es : List Expr) (is : List Nat) (m : R α) (κ : Env → R α → Prop) : Prop :=
  ∀ (X : Cx) (W : Wd) (Z : R α → Prop), XOk C X → W.K = C.K → ClX X W Z → Z m →
    PA X es fun σ H Q => ∃ F, Rel W ρ σ H F ∧ ∀ vs ρ' m' H' F', κ ρ' m' → Z m' → vs.length = is.length → Rel W ρ' (setAll σ is vs) H' F' → Same F F' → Q vs H'
theorem dps_nil {κ : Env → R α → Prop} (k : κ ρ m) : DPs C ρ [] [] m κ := fun X W Z x hK c z =>
  PA_imp pa_nil fun σ H Q ⟨F, r, q⟩ => q [] ρ m H F k z rfl r (Same.refl _)
theorem dps_val {κ : Env → R α → Prop} {e : Expr} {es : List Expr} {is : List Nat} (i : Nat) (h : DE C ρ e m fun d ρ1 m1 => DPs C ρ1 es is m1 fun ρ2 m2 => κ (ρ2.set i (some (.val d))) m2) (hi : i ∉ is := by decide)
    (hs : ∀ env : PySem.Env, starEach (e :: es) env = (false, eval e env) :: starEach es env := by intro _; rfl) : DPs C ρ (e :: es) (i :: is) m κ := by
  intro X W Z x hK c z
  have rest : PA X es fun σ H Q => ∃ j : R α × Env × D, (DPs C j.2.1 es is j.1 (fun ρ2 m2 => κ (ρ2.set i (some (.val j.2.2))) m2) ∧ Z j.1) ∧ ∃ F, Rel W j.2.1 σ H F ∧ ∀ vs ρ' m' H' F', κ (ρ'.set i (some (.val j.2.2))) m' → Z m' → vs.length = is.length → Rel W ρ' (setAll σ is vs) H' F' → Same F F' → Q vs H' :=
    ⟨fun po p s σ H Q I ⟨j, pj, q⟩ => (pj.1 X W Z x hK c pj.2).run po p s σ H Q I q⟩
  refine PA_imp (pa_cons (h X W Z x hK c z) rest (hs _)) fun σ H Q ⟨F, r, q⟩ => ⟨F, r, fun d ρ1 m1 v H1 F1 h1 h2 h3 h4 h5 => ?_⟩
  refine ⟨(m1, ρ1, d), ⟨h1, h2⟩, F1, h3, fun vs ρ2 m2 H2 F2 k1 k2 k3 k4 k5 => q (v :: vs) _ m2 H2 F2 k1 k2 (by simp [k3]) ?_ (h4.trans k5)⟩
  show Rel W _ (setAll (σ.set i (some v)) is vs) H2 F2
  rw [← setAll_set hi]
  exact k4.set i (h5.mono k5)
theorem dps_own {κ : Env → R α → Prop} {e : Expr} {es : List Expr} {is : List Nat} (i : Nat) (h : DN C ρ e m fun ds ρ1 m1 => DPs C ρ1 es is m1 fun ρ2 m2 => κ (ρ2.set i (some (.own ds))) m2) (hi : i ∉ is := by decide)
    (hs : ∀ env : PySem.Env, starEach (e :: es) env = (false, eval e env) :: starEach es env := by intro _; rfl) : DPs C ρ (e :: es) (i :: is) m κ := by
  intro X W Z x hK c z
  have rest : PA X es fun σ H Q => ∃ (W' : Wd) (j : R α × Env × List D), (W'.K = C.K ∧ ClX X W' Z) ∧ (DPs C j.2.1 es is j.1 (fun ρ2 m2 => κ (ρ2.set i (some (.own j.2.2))) m2) ∧ Z j.1) ∧ ∃ F, Rel W' j.2.1 σ H F ∧ ∀ vs ρ' m' H' F', κ (ρ'.set i (some (.own j.2.2))) m' → Z m' → vs.length = is.length → Rel W' ρ' (setAll σ is vs) H' F' → Same F F' → Q vs H' :=
    ⟨fun po p s σ H Q I ⟨W', j, ⟨hK', c'⟩, pj, q⟩ => (pj.1 X W' Z x hK' c' pj.2).run po p s σ H Q I q⟩
  refine PA_imp (pa_cons (h X W Z x hK c z) rest (hs _)) fun σ H Q ⟨F, r, q⟩ => ⟨F, r, fun ds ρ1 m1 vs0 p H1 F1 h1 h2 h3 h4 hp h5 => ?_⟩
  obtain ⟨io, rt, hio, hth⟩ := h3.turn
  have hnio : p ∉ io := fun hb => by obtain ⟨o, e⟩ := hth p hb; rw [hp] at e; cases e
  refine ⟨⟨W.K, F1, upd H1 p (.lst vs0), io⟩, (m1, ρ1, ds), ⟨hK, c.turned h3 hio hp⟩, ⟨h1, h2⟩, F1, rt.newAt hp hp _, fun vs ρ2 m2 H2 F2 k1 k2 k3 k4 k5 => q (.ref p :: vs) _ m2 H2 F2 k1 k2 (by simp [k3]) ?_ (h4.trans k5)⟩
  show Rel W _ (setAll (σ.set i (some (.ref p))) is vs) H2 F2
  rw [← setAll_set hi]
  exact k4.later h3 hio hnio hp h5 i
theorem len2 {vs : List V} (h : vs.length = 2) : ∃ u v, vs = [u, v] := by match vs, h with | [u, v], _ => exact ⟨u, v, rfl⟩
theorem len3 {vs : List V} (h : vs.length = 3) : ∃ u v w, vs = [u, v, w] := by match vs, h with | [u, v, w], _ => exact ⟨u, v, w, rfl⟩
/-- a, b = e1, e2, both plain locals -/
theorem ds_parN {J : Jd α} {n1 n2 : Str} {e1 e2 : Expr} {px py pt pt2 pos : Pos} {kt k2 : Nat} {rest : List Stmt} (i j : Nat) (h : DPs C ρ [e1, e2] [i, j] m fun ρ' m' => DSs C ρ' rest m' J)
    (hN : C.N[i]? = some n1 := by rfl) (hN2 : C.N[j]? = some n2 := by rfl) (hij : i ≠ j := by decide) (hx : C.sc.names.lookup n1 = some .local := by rfl) (hy : C.sc.names.lookup n2 = some .local := by rfl)
    (hw : ∀ env : PySem.Env, env.scope = C.sc → swappedStores [.Tuple [.Name n1 px, .Name n2 py] kt pt] (.Tuple [e1, e2] k2 pt2) env = pure (some [n1, n2]) := by intro env he; cases env; cases he; rfl) : DSs C ρ (.Assign [.Tuple [.Name n1 px, .Name n2 py] kt pt] (.Tuple [e1, e2] k2 pt2) pos :: rest) m J := by
  intro X W Z x hK c z
  refine PSs_imp (pss_cons (ps_par (i := i) (j := j) x.calm (by rw [x.N]; exact x.nd) (by rw [x.N]; exact hN) (by rw [x.N]; exact hN2) hij (by rw [x.sc]; exact hx) (by rw [x.sc]; exact hy) (h X W Z x hK c z) (hw _ x.sc)) (rest_run (J := J) x hK c)) fun Dn σ H ⟨F, r, l⟩ => ?_
  refine ⟨F, r, fun vs ρ' m' H' F' k1 k2 k3 k4 k5 => ?_⟩
  obtain ⟨u, v, rfl⟩ := len2 k3
  exact ⟨u, v, rfl, (m', ρ'), ⟨k1, k2⟩, F', k4, l⟩
theorem ds_parN3 {J : Jd α} {n1 n2 n3 : Str} {e1 e2 e3 : Expr} {px py pz pt pt2 pos : Pos} {kt k2 : Nat} {rest : List Stmt} (i j l : Nat) (h : DPs C ρ [e1, e2, e3] [i, j, l] m fun ρ' m' => DSs C ρ' rest m' J)
    (hN : C.N[i]? = some n1 := by rfl) (hN2 : C.N[j]? = some n2 := by rfl) (hN3 : C.N[l]? = some n3 := by rfl) (hij : i ≠ j := by decide) (hil : i ≠ l := by decide) (hjl : j ≠ l := by decide)
    (hx : C.sc.names.lookup n1 = some .local := by rfl) (hy : C.sc.names.lookup n2 = some .local := by rfl) (hz : C.sc.names.lookup n3 = some .local := by rfl)
    (hw : ∀ env : PySem.Env, env.scope = C.sc → swappedStores [.Tuple [.Name n1 px, .Name n2 py, .Name n3 pz] kt pt] (.Tuple [e1, e2, e3] k2 pt2) env = pure (some [n1, n2, n3]) := by intro env he; cases env; cases he; rfl)
    (hsw : ∀ env : PySem.Env, env.scope = C.sc → swapsWithSole [.Tuple [.Name n1 px, .Name n2 py, .Name n3 pz] kt pt] (.Tuple [e1, e2, e3] k2 pt2) pos.line env = pure false := by intro env he; rfl) : DSs C ρ (.Assign [.Tuple [.Name n1 px, .Name n2 py, .Name n3 pz] kt pt] (.Tuple [e1, e2, e3] k2 pt2) pos :: rest) m J := by
  intro X W Z x hK c z
  refine PSs_imp (pss_cons (L2.ps_par3 (i := i) (j := j) (l := l) x.calm (by rw [x.N]; exact x.nd) (by rw [x.N]; exact hN) (by rw [x.N]; exact hN2) (by rw [x.N]; exact hN3) hij hil hjl (by rw [x.sc]; exact hx) (by rw [x.sc]; exact hy) (by rw [x.sc]; exact hz) (h X W Z x hK c z) (hw _ x.sc) (hsw _ x.sc)) (rest_run (J := J) x hK c)) fun Dn σ H ⟨F, r, l'⟩ => ?_
  refine ⟨F, r, fun vs ρ' m' H' F' k1 k2 k3 k4 k5 => ?_⟩
  obtain ⟨u, v, w, rfl⟩ := len3 k3
  exact ⟨u, v, w, rfl, (m', ρ'), ⟨k1, k2⟩, F', k4, l'⟩
/-- a tuple's parts to names, some of them no plain locals -/
theorem ds_asgN2 {J : Jd α} {n1 n2 : Str} {e1 e2 : Expr} {px py pt pt2 pos : Pos} {kt k2 : Nat} {rest : List Stmt} (i j : Nat) (h : DPs C ρ [e1, e2] [i, j] m fun ρ' m' => DSs C ρ' rest m' J)
    (hNi : C.N[i]? = some n1 := by rfl) (hNj : C.N[j]? = some n2 := by rfl) (hxi : Loc C.sc n1 := by first | exact Or.inl rfl | exact Or.inr rfl) (hfi : C.fn n1 = true ∨ C.sc.names.lookup n1 = some .local := by first | exact Or.inl rfl | exact Or.inr rfl) (hxj : Loc C.sc n2 := by first | exact Or.inl rfl | exact Or.inr rfl) (hfj : C.fn n2 = true ∨ C.sc.names.lookup n2 = some .local := by first | exact Or.inl rfl | exact Or.inr rfl)
    (as0 : ∀ env : PySem.Env, (assignEach [.Name n1 px, .Name n2 py] env).map (·.2) = assign (.Name n1 px) env :: (assignEach [.Name n2 py] env).map (·.2) := by intro _; rfl) (as1 : ∀ env : PySem.Env, (assignEach [.Name n2 py] env).map (·.2) = assign (.Name n2 py) env :: (assignEach [] env).map (·.2) := by intro _; rfl)
    (hn : ∀ env : PySem.Env, (assignEach [.Name n1 px, .Name n2 py] env).length = 2 := by intro _; rfl) (hst : ∀ env : PySem.Env, (assignEach [.Name n1 px, .Name n2 py] env).findIdx? (·.1) = none := by intro _; rfl)
    (hw : ∀ env : PySem.Env, env.scope = C.sc → swappedStores [.Tuple [.Name n1 px, .Name n2 py] kt pt] (.Tuple [e1, e2] k2 pt2) env = pure none := by intro env he; cases env; cases he; rfl)
    (hsw : ∀ env : PySem.Env, env.scope = C.sc → swapsWithSole [.Tuple [.Name n1 px, .Name n2 py] kt pt] (.Tuple [e1, e2] k2 pt2) pos.line env = pure false := by intro env he; rfl) (h1 : ∀ env : PySem.Env, (assignEach [.Tuple [.Name n1 px, .Name n2 py] kt pt] env).map (·.2) = [assign (.Tuple [.Name n1 px, .Name n2 py] kt pt) env] := by intro _; rfl) :
    DSs C ρ (.Assign [.Tuple [.Name n1 px, .Name n2 py] kt pt] (.Tuple [e1, e2] k2 pt2) pos :: rest) m J := by
  intro X W Z x hK c z
  have hfni : X.fn n1 = true ∨ X.env.scope.names.lookup n1 = some .local := hfi.elim (fun h => .inl (x.fnl n1 h)) fun h => .inr (by rw [x.sc]; exact h)
  have hfnj : X.fn n2 = true ∨ X.env.scope.names.lookup n2 = some .local := hfj.elim (fun h => .inl (x.fnl n2 h)) fun h => .inr (by rw [x.sc]; exact h)
  refine PSs_imp (pss_cons (ps_asg (pe_tup (h X W Z x hK c z)) (pg_tup (n := 2) x.calm (pgs_cons (pg_name (i := i) (by rw [x.N]; exact x.nd) (by rw [x.N]; exact hNi) (by rw [x.sc]; exact hxi) hfni) (pgs_cons (pg_name (i := j) (by rw [x.N]; exact x.nd) (by rw [x.N]; exact hNj) (by rw [x.sc]; exact hxj) hfnj) pgs_nil (as1 _)) (as0 _)) (hn _) (hst _)) (hsw _ x.sc) (hw _ x.sc) (h1 _)) (rest_run (J := J) x hK c)) fun Dn σ H ⟨F, r, l⟩ => ?_
  refine ⟨F, r, fun vs ρ' m' H' F' k1 k2 k3 k4 k5 => ⟨by rw [k3, sizeLine_eq]; show (2 : Nat) ≤ 16777216; decide, fun p hp => ?_⟩⟩
  obtain ⟨u, v, rfl⟩ := len2 k3
  have k6 := k4.step (F' := F') (H' := upd H' p (.tup [u, v])) ⟨Same.refl _, fun b o q => by rw [upd_ne (ne_of_none (k4.sub b o q) hp)]; exact k4.sub b o q, fun b o q => by rw [upd_ne (ne_of_none q hp)]; exact q, fun _ _ q => .inl q⟩
  exact ⟨p, _, rfl, .inl (.inl upd_same), rfl, ⟨_, _, rfl, ⟨_, _, rfl, ⟨rfl, (m', ρ'), ⟨k1, k2⟩, F', k6, l⟩⟩⟩⟩
/-- a tuple's parts to names, some of them no plain locals -/
theorem ds_asgN3 {J : Jd α} {n1 n2 n3 : Str} {e1 e2 e3 : Expr} {px py pz pt pt2 pos : Pos} {kt k2 : Nat} {rest : List Stmt} (i j l : Nat) (h : DPs C ρ [e1, e2, e3] [i, j, l] m fun ρ' m' => DSs C ρ' rest m' J)
    (hNi : C.N[i]? = some n1 := by rfl) (hNj : C.N[j]? = some n2 := by rfl) (hNl : C.N[l]? = some n3 := by rfl) (hxi : Loc C.sc n1 := by first | exact Or.inl rfl | exact Or.inr rfl) (hfi : C.fn n1 = true ∨ C.sc.names.lookup n1 = some .local := by first | exact Or.inl rfl | exact Or.inr rfl) (hxj : Loc C.sc n2 := by first | exact Or.inl rfl | exact Or.inr rfl) (hfj : C.fn n2 = true ∨ C.sc.names.lookup n2 = some .local := by first | exact Or.inl rfl | exact Or.inr rfl) (hxl : Loc C.sc n3 := by first | exact Or.inl rfl | exact Or.inr rfl) (hfl : C.fn n3 = true ∨ C.sc.names.lookup n3 = some .local := by first | exact Or.inl rfl | exact Or.inr rfl)
    (as0 : ∀ env : PySem.Env, (assignEach [.Name n1 px, .Name n2 py, .Name n3 pz] env).map (·.2) = assign (.Name n1 px) env :: (assignEach [.Name n2 py, .Name n3 pz] env).map (·.2) := by intro _; rfl) (as1 : ∀ env : PySem.Env, (assignEach [.Name n2 py, .Name n3 pz] env).map (·.2) = assign (.Name n2 py) env :: (assignEach [.Name n3 pz] env).map (·.2) := by intro _; rfl) (as2 : ∀ env : PySem.Env, (assignEach [.Name n3 pz] env).map (·.2) = assign (.Name n3 pz) env :: (assignEach [] env).map (·.2) := by intro _; rfl)
    (hn : ∀ env : PySem.Env, (assignEach [.Name n1 px, .Name n2 py, .Name n3 pz] env).length = 3 := by intro _; rfl) (hst : ∀ env : PySem.Env, (assignEach [.Name n1 px, .Name n2 py, .Name n3 pz] env).findIdx? (·.1) = none := by intro _; rfl)
    (hw : ∀ env : PySem.Env, env.scope = C.sc → swappedStores [.Tuple [.Name n1 px, .Name n2 py, .Name n3 pz] kt pt] (.Tuple [e1, e2, e3] k2 pt2) env = pure none := by intro env he; cases env; cases he; rfl)
    (hsw : ∀ env : PySem.Env, env.scope = C.sc → swapsWithSole [.Tuple [.Name n1 px, .Name n2 py, .Name n3 pz] kt pt] (.Tuple [e1, e2, e3] k2 pt2) pos.line env = pure false := by intro env he; rfl) (h1 : ∀ env : PySem.Env, (assignEach [.Tuple [.Name n1 px, .Name n2 py, .Name n3 pz] kt pt] env).map (·.2) = [assign (.Tuple [.Name n1 px, .Name n2 py, .Name n3 pz] kt pt) env] := by intro _; rfl) :
    DSs C ρ (.Assign [.Tuple [.Name n1 px, .Name n2 py, .Name n3 pz] kt pt] (.Tuple [e1, e2, e3] k2 pt2) pos :: rest) m J := by
  intro X W Z x hK c z
  have hfni : X.fn n1 = true ∨ X.env.scope.names.lookup n1 = some .local := hfi.elim (fun h => .inl (x.fnl n1 h)) fun h => .inr (by rw [x.sc]; exact h)
  have hfnj : X.fn n2 = true ∨ X.env.scope.names.lookup n2 = some .local := hfj.elim (fun h => .inl (x.fnl n2 h)) fun h => .inr (by rw [x.sc]; exact h)
  have hfnl : X.fn n3 = true ∨ X.env.scope.names.lookup n3 = some .local := hfl.elim (fun h => .inl (x.fnl n3 h)) fun h => .inr (by rw [x.sc]; exact h)
  refine PSs_imp (pss_cons (ps_asg (pe_tup (h X W Z x hK c z)) (pg_tup (n := 3) x.calm (pgs_cons (pg_name (i := i) (by rw [x.N]; exact x.nd) (by rw [x.N]; exact hNi) (by rw [x.sc]; exact hxi) hfni) (pgs_cons (pg_name (i := j) (by rw [x.N]; exact x.nd) (by rw [x.N]; exact hNj) (by rw [x.sc]; exact hxj) hfnj) (pgs_cons (pg_name (i := l) (by rw [x.N]; exact x.nd) (by rw [x.N]; exact hNl) (by rw [x.sc]; exact hxl) hfnl) pgs_nil (as2 _)) (as1 _)) (as0 _)) (hn _) (hst _)) (hsw _ x.sc) (hw _ x.sc) (h1 _)) (rest_run (J := J) x hK c)) fun Dn σ H ⟨F, r, l⟩ => ?_
  refine ⟨F, r, fun vs ρ' m' H' F' k1 k2 k3 k4 k5 => ⟨by rw [k3, sizeLine_eq]; show (3 : Nat) ≤ 16777216; decide, fun p hp => ?_⟩⟩
  obtain ⟨u, v, w, rfl⟩ := len3 k3
  have k6 := k4.step (F' := F') (H' := upd H' p (.tup [u, v, w])) ⟨Same.refl _, fun b o q => by rw [upd_ne (ne_of_none (k4.sub b o q) hp)]; exact k4.sub b o q, fun b o q => by rw [upd_ne (ne_of_none q hp)]; exact q, fun _ _ q => .inl q⟩
  exact ⟨p, _, rfl, .inl (.inl upd_same), rfl, ⟨_, _, rfl, ⟨_, _, rfl, ⟨_, _, rfl, ⟨rfl, (m', ρ'), ⟨k1, k2⟩, F', k6, l⟩⟩⟩⟩⟩
end
end Z

set_option Elab.async false
set_option linter.all false
set_option maxRecDepth 100000
set_option autoImplicit false
/-! # Z16: how the operations answer, numbers of bounded size -/
namespace Z
open PySem

/-- small enough for a product -/
def Sz (i : Int) : Prop := i.natAbs.log2 < 400000
theorem Sz.of {i : Int} {k : Nat} (h : i.natAbs < 2 ^ k) (hk : k ≤ 400000) : Sz i := by
  unfold Sz
  by_cases h0 : i.natAbs = 0
  · rw [h0]; decide
  · exact Nat.lt_of_lt_of_le ((Nat.log2_lt h0).mpr h) hk
theorem add_i (i j : Int) : add (.int i) (.int j) = .ok (.int (i + j)) := rfl
theorem sub_i (i j : Int) : sub (.int i) (.int j) = .ok (.int (i - j)) := rfl
theorem neg_i (i : Int) : neg (.int i) = .ok (.int (-i)) := rfl
theorem mul_i {i j : Int} (hi : Sz i) (hj : Sz j) : mul (.int i) (.int j) = .ok (.int (i * j)) := by
  unfold Sz at hi hj
  have : bigM i j = true := by unfold bigM; simp only [Bool.or_eq_true, decide_eq_true_eq]; exact .inr (by omega)
  simp [mul, this]
theorem mul_l {i j : Int} (hi : i.natAbs < 2 ^ 64) : mul (.int i) (.int j) = .ok (.int (i * j)) := by
  have : bigM i j = true := by unfold bigM; rw [decide_eq_true hi]; rfl
  simp [mul, this]
theorem mul_r {i j : Int} (hj : j.natAbs < 2 ^ 64) : mul (.int i) (.int j) = .ok (.int (i * j)) := by
  have : bigM i j = true := by unfold bigM; rw [decide_eq_true hj]; simp
  simp [mul, this]
theorem fdiv_i {i j : Int} (hj : j ≠ 0) (hs : bigD j = true) : fdiv (.int i) (.int j) = .ok (.int (i.fdiv j)) := by simp [fdiv, hj, hs]
theorem fmod_i {i j : Int} (hj : j ≠ 0) : fmod (.int i) (.int j) = .ok (.int (i.fmod j)) := by simp [fmod, hj]
theorem lt_i (i j : Int) : ltD (.int i) (.int j) = .ok (decide (i < j)) := rfl
theorem gt_i (i j : Int) : gtD (.int i) (.int j) = .ok (decide (j < i)) := rfl
theorem le_i (i j : Int) : leD (.int i) (.int j) = .ok (decide (i ≤ j)) := rfl
theorem ge_i (i j : Int) : geD (.int i) (.int j) = .ok (decide (j ≤ i)) := rfl
theorem ok_i (i : Int) : okD (.int i) = true := by simp [okD, PyData.plain, PyData.depth]
theorem eqv_i (i j : Int) : PyData.eqv (.int i) (.int j) = decide (i = j) := by
  unfold PyData.eqv
  first | rfl | (by_cases h : i = j <;> simp [h])
theorem eq_i (i j : Int) : eqD (.int i) (.int j) = .ok (decide (i = j)) := by simp [eqD, ok_i, eqv_i]
theorem ne_i (i j : Int) : neD (.int i) (.int j) = .ok (!decide (i = j)) := by simp [neD, eq_i]
theorem abs_i (i : Int) : absD (.int i) = .ok (.int (i.natAbs : Int)) := by
  unfold absD
  split
  · rename_i h; cases h
    congr 2
    split <;> omega
  · rename_i h; exact absurd rfl (h i)
theorem int_i (i : Int) : intD (.int i) = .ok (.int i) := rfl
theorem toI_i (i : Int) : toI (.int i) = .ok i := rfl
theorem max2_i (i j : Int) : maxD2 (.int i) (.int j) = .ok (.int (max i j)) := by
  show R.ok (PyData.int (if j > i then j else i)) = _
  have : (if j > i then j else i) = max i j := by split <;> omega
  rw [this]
theorem item0 (a : D) (l : List D) : item (.tuple (a :: l)) (.int 0) = .ok a := by simp [item, atD, L2.atI, L2.ixN]
theorem item_n {l : List D} {n : Nat} {d : D} (h : l[n]? = some d) : item (.tuple l) (.int (n : Nat)) = .ok d := by
  have hl := (List.getElem?_eq_some_iff.mp h).1
  have : L2.ixN l.length (n : Int) = some n := by unfold L2.ixN; rw [if_pos (by omega), if_pos (by omega)]; simp
  simp [item, atD, L2.atI, this, h]
theorem item1 (a b : D) (l : List D) : item (.tuple (a :: b :: l)) (.int 1) = .ok b := item_n (n := 1) (by simp)
theorem item_ln {l : List D} {n : Nat} {d : D} (h : l[n]? = some d) : item (.list l) (.int (n : Nat)) = .ok d := by
  have hl := (List.getElem?_eq_some_iff.mp h).1
  have : L2.ixN l.length (n : Int) = some n := by unfold L2.ixN; rw [if_pos (by omega), if_pos (by omega)]; simp
  simp [item, atD, L2.atI, this, h]
theorem item_l0 (a : D) (l : List D) : item (.list (a :: l)) (.int 0) = .ok a := item_ln (n := 0) (by simp)
theorem item_l1 (a b : D) (l : List D) : item (.list (a :: b :: l)) (.int 1) = .ok b := item_ln (n := 1) (by simp)
theorem un2_t (a b : D) : un2 (.tuple [a, b]) = .ok (a, b) := rfl
theorem un3_t (a b c : D) : un3 (.tuple [a, b, c]) = .ok (a, b, c) := rfl
theorem gcd_i (i j : Int) : gcdD (.int i) (.int j) = .ok (.int (Nat.gcd i.natAbs j.natAbs : Nat)) := rfl
theorem iter_l (xs : List D) : iter (.list xs) = .ok xs := rfl
theorem iter_t (xs : List D) : iter (.tuple xs) = .ok xs := rfl
theorem iterL_l (xs : List D) : iterL (.list xs) = .ok xs := rfl
theorem iterL_t (xs : List D) : iterL (.tuple xs) = .ok xs := rfl
theorem len_l (xs : List D) : lenD (.list xs) = .ok (.int xs.length) := rfl
theorem len_t (xs : List D) : lenD (.tuple xs) = .ok (.int xs.length) := rfl
theorem tuple_l (xs : List D) : tupleD (.list xs) = .ok (.tuple xs) := rfl
theorem flat_i (i : Int) : flatR (.ok (.int i)) = .ok (.int i) := rfl
theorem range_i {n : Nat} (h : n < 2 ^ 62) : range1 (.int (n : Int)) = .ok (rangeD 0 n) := by
  unfold range1 range2
  have h1 : (-(2 ^ 62) : Int) ≤ 0 := by decide
  have h2 : (0 : Int) < 2 ^ 62 := by decide
  have h3 : (-(2 ^ 62) : Int) ≤ (n : Int) := by omega
  have h4 : (n : Int) < 2 ^ 62 := by omega
  show (if (decide ((-(2 ^ 62) : Int) ≤ 0) && decide ((0 : Int) < 2 ^ 62) && decide ((-(2 ^ 62) : Int) ≤ (n : Int)) && decide ((n : Int) < 2 ^ 62)) = true then R.ok (rangeD 0 n) else R.stuck) = _
  rw [decide_eq_true h1, decide_eq_true h2, decide_eq_true h3, decide_eq_true h4]
  rfl
theorem rangeD_eq (n : Nat) : rangeD 0 n = (List.range n).map fun (k : Nat) => PyData.int (k : Int) := by simp [rangeD]
theorem bigD_of {j : Int} {k : Nat} (h : j.natAbs < 2 ^ k) (hk : k ≤ 9000) : bigD j = true := by
  unfold bigD
  by_cases h0 : j.natAbs = 0
  · rw [h0]; decide
  · exact decide_eq_true (Nat.lt_of_lt_of_le ((Nat.log2_lt h0).mpr h) hk)

/-! ### loops -/
theorem forS_nil {τ : Type} (st : τ) (f : D → τ → R τ) : forS [] st f = .ok st := rfl
theorem forS_cons {τ : Type} (x : D) (xs : List D) (st : τ) (f : D → τ → R τ) : forS (x :: xs) st f = (f x st).bind fun s => forS xs s f := rfl
/-- a loop by an invariant over what has been walked -/
theorem forS_inv {τ : Type} {f : D → τ → R τ} (I : List D → τ → Prop) {xs : List D} {st : τ} (h0 : I [] st) (hs : ∀ ys x s, (∃ zs, xs = ys ++ x :: zs) → I ys s → ∃ s', f x s = .ok s' ∧ I (ys ++ [x]) s') : ∃ s, forS xs st f = .ok s ∧ I xs s := by
  have key : ∀ (zs ys : List D) (s : τ), xs = ys ++ zs → I ys s → ∃ s', forS zs s f = .ok s' ∧ I xs s' := by
    intro zs
    induction zs with
    | nil => intro ys s e hi; rw [List.append_nil] at e; subst e; exact ⟨s, rfl, hi⟩
    | cons x zs ih =>
      intro ys s e hi
      obtain ⟨s', e1, h1⟩ := hs ys x s ⟨zs, e⟩ hi
      obtain ⟨s2, e2, h2⟩ := ih (ys ++ [x]) s' (by simp [e]) h1
      exact ⟨s2, by rw [forS_cons, e1]; exact e2, h2⟩
  exact key xs [] st rfl h0
/-- a comprehension with a state, by an invariant over what it has made -/
theorem compT_inv {τ : Type} {f : D → τ → R (Option D × τ)} (I : List D → List D → τ → Prop) {xs : List D} {st : τ} (h0 : I [] [] st)
    (hs : ∀ ys x s out, (∃ zs, xs = ys ++ x :: zs) → I ys out s → ∃ o s', f x s = .ok (o, s') ∧ I (ys ++ [x]) (out ++ o.toList) s') : ∃ out s, compT xs st f = .ok (out, s) ∧ I xs out s := by
  have key : ∀ (zs ys out : List D) (s : τ), xs = ys ++ zs → I ys out s → ∃ o2 s', compT zs s f = .ok (o2, s') ∧ I xs (out ++ o2) s' := by
    intro zs
    induction zs with
    | nil => intro ys out s e hi; rw [List.append_nil] at e; subst e; exact ⟨[], s, rfl, by simpa using hi⟩
    | cons x zs ih =>
      intro ys out s e hi
      obtain ⟨o, s', e1, h1⟩ := hs ys x s out ⟨zs, e⟩ hi
      obtain ⟨o2, s2, e2, h2⟩ := ih (ys ++ [x]) (out ++ o.toList) s' (by simp [e]) h1
      refine ⟨o.toList ++ o2, s2, ?_, by simpa using h2⟩
      simp only [compT, e1, R.bind_ok, e2]
      cases o <;> rfl
  obtain ⟨o, s, e, h⟩ := key xs [] [] st rfl h0
  exact ⟨o, s, e, by simpa using h⟩
theorem compS_of {τ : Type} {f : D → τ → R (Option D × τ)} {xs : List D} {st : τ} (h : xs.length < 16777216) : compS xs st f = compT xs st f := by unfold compS; rw [decide_eq_true h]; rfl
theorem compL_of {f : D → R (Option D)} {xs : List D} (h : xs.length < 16777216) : compL xs f = compP xs f := by unfold compL; rw [decide_eq_true h]; rfl
/-- each item to some answer or none -/
theorem compP_map {f : D → R (Option D)} {g : D → Option D} : ∀ {xs : List D}, (∀ x ∈ xs, f x = .ok (g x)) → compP xs f = .ok (xs.filterMap g)
  | [], _ => rfl
  | x :: xs, h => by
    simp only [compP, h x (by simp), R.bind_ok, compP_map (xs := xs) (fun y hy => h y (by simp [hy]))]
    cases hg : g x <;> simp [hg]

theorem compP_all {ι : Type} {f : D → R (Option D)} {g h : ι → D} : ∀ {xs : List ι}, (∀ x ∈ xs, f (g x) = .ok (some (h x))) → compP (xs.map g) f = .ok (xs.map h)
  | [], _ => rfl
  | x :: xs, k => by
    simp only [List.map_cons, compP, k x (by simp), R.bind_ok, compP_all (xs := xs) (fun y hy => k y (by simp [hy]))]
theorem compL_all {ι : Type} {f : D → R (Option D)} {g h : ι → D} {xs : List ι} (hl : xs.length < 16777216) (k : ∀ x ∈ xs, f (g x) = .ok (some (h x))) : compL (xs.map g) f = .ok (xs.map h) := by
  rw [compL_of (by rw [List.length_map]; exact hl), compP_all k]
theorem intsD_map : ∀ ns : List Int, intsD (ns.map .int) = some ns
  | [] => rfl
  | n :: ns => by simp [intsD, intsD_map ns]
/-! ### the source's budget -/
/-- n choices may be asked yet -/
def Ok (n : Nat) (s : Src) : Prop := 0 ≤ s.turn ∧ s.turn + (n : Int) ≤ 1000000000000
theorem Ok.le {n m : Nat} {s : Src} (h : Ok n s) (hm : m ≤ n) : Ok m s := ⟨h.1, by have := h.2; omega⟩
end Z

set_option Elab.async false
set_option linter.all false
set_option maxRecDepth 100000
set_option autoImplicit false
/-! # Z17: the plane: tables, lots, rows, fractions -/
namespace Z
open PySem

abbrev Vc := Int × Int
structure Tb where
  a : Int
  b : Int
  c : Int
  d : Int
deriving DecidableEq
def Tb.led (M : Tb) (v : Vc) : Vc := (M.a * v.1 + M.b * v.2, M.c * v.1 + M.d * v.2)
def Tb.det (M : Tb) : Int := M.a * M.d - M.b * M.c
def Tb.adj (M : Tb) : Tb := ⟨M.d, -M.b, -M.c, M.a⟩
def Tb.mul (M N : Tb) : Tb := ⟨M.a * N.a + M.b * N.c, M.a * N.b + M.b * N.d, M.c * N.a + M.d * N.c, M.c * N.b + M.d * N.d⟩
def Tb.one : Tb := ⟨1, 0, 0, 1⟩
def Tb.pw (M : Tb) : Nat → Tb
  | 0 => Tb.one
  | n + 1 => M.mul (M.pw n)
def Tb.less1 (M : Tb) : Tb := ⟨M.a - 1, M.b, M.c, M.d - 1⟩
def vadd (u v : Vc) : Vc := (u.1 + v.1, u.2 + v.2)
def vsub (u v : Vc) : Vc := (u.1 - v.1, u.2 - v.2)
def vmul (k : Int) (v : Vc) : Vc := (k * v.1, k * v.2)
def Tb.it (M : Tb) : Nat → Vc → Vc
  | 0, v => v
  | n + 1, v => M.led (M.it n v)
/-- a row of digits on a lot -/
def Tb.row (M : Tb) (v : Vc) : List Vc → Vc
  | [] => v
  | d :: r => M.row (vadd (M.led v) d) r
def lotD (v : Vc) : D := .tuple [.int v.1, .int v.2]
def tabD (M : Tb) : D := .tuple [.tuple [.int M.a, .int M.b], .tuple [.int M.c, .int M.d]]
def pointD (p : Vc × Int) : D := .tuple [lotD p.1, .int p.2]

theorem vext {u v : Vc} (h1 : u.1 = v.1) (h2 : u.2 = v.2) : u = v := Prod.ext h1 h2
section
variable (M N : Tb) (u v w : Vc) (k : Int)
theorem led_add : M.led (vadd u v) = vadd (M.led u) (M.led v) := by apply vext <;> simp only [Tb.led, vadd] <;> grind
theorem led_sub : M.led (vsub u v) = vsub (M.led u) (M.led v) := by apply vext <;> simp only [Tb.led, vsub] <;> grind
theorem led_mul : M.led (vmul k v) = vmul k (M.led v) := by apply vext <;> simp only [Tb.led, vmul] <;> grind
theorem led_adj : M.led (M.adj.led v) = vmul M.det v := by apply vext <;> simp only [Tb.led, vmul, Tb.adj, Tb.det] <;> grind
theorem adj_led : M.adj.led (M.led v) = vmul M.det v := by apply vext <;> simp only [Tb.led, vmul, Tb.adj, Tb.det] <;> grind
theorem mul_led : (M.mul N).led v = M.led (N.led v) := by apply vext <;> simp only [Tb.led, Tb.mul] <;> grind
theorem one_led : Tb.one.led v = v := by apply vext <;> simp [Tb.led, Tb.one]
theorem less1_led : M.less1.led v = vsub (M.led v) v := by apply vext <;> simp only [Tb.led, Tb.less1, vsub] <;> grind
theorem it_add : ∀ n, M.it n (vadd u v) = vadd (M.it n u) (M.it n v)
  | 0 => rfl
  | n + 1 => by rw [Tb.it, it_add n, led_add]; rfl
theorem it_sub : ∀ n, M.it n (vsub u v) = vsub (M.it n u) (M.it n v)
  | 0 => rfl
  | n + 1 => by rw [Tb.it, it_sub n, led_sub]; rfl
theorem it_mul : ∀ n, M.it n (vmul k v) = vmul k (M.it n v)
  | 0 => rfl
  | n + 1 => by rw [Tb.it, it_mul n, led_mul]; rfl
theorem it_led : ∀ n, M.it n (M.led v) = M.led (M.it n v)
  | 0 => rfl
  | n + 1 => by rw [Tb.it, it_led n]; rfl
theorem it_it : ∀ m n, M.it m (M.it n v) = M.it (m + n) v
  | 0, n => by rw [Nat.zero_add]; rfl
  | m + 1, n => by rw [Tb.it, it_it m n, Nat.add_right_comm]; rfl
theorem pw_led : ∀ n, (M.pw n).led v = M.it n v
  | 0 => one_led v
  | n + 1 => by rw [Tb.pw, mul_led, pw_led n]; rfl
theorem row_add : ∀ (r : List Vc) (u v : Vc), M.row (vadd u v) r = vadd (M.row u r) (M.it r.length v)
  | [], u, v => rfl
  | d :: r, u, v => by
    have e : vadd (M.led (vadd u v)) d = vadd (vadd (M.led u) d) (M.led v) := by rw [led_add]; apply vext <;> simp only [vadd] <;> omega
    rw [Tb.row, e, row_add r, it_led]; rfl
theorem row_append : ∀ (r q : List Vc) (v : Vc), M.row v (r ++ q) = M.row (M.row v r) q
  | [], q, v => rfl
  | d :: r, q, v => by rw [List.cons_append, Tb.row, row_append r]; rfl
theorem row_zero (r : List Vc) : M.row v r = vadd (M.row (0, 0) r) (M.it r.length v) := by
  rw [← row_add]
  congr 1
  apply vext <;> simp [vadd]
end
/-! ### least terms -/
/-- (X, Y)/C is the fraction (x, y)/c in least terms -/
structure IsLow (x y c X Y C : Int) : Prop where
  pos : 0 < C
  co : Nat.gcd (Nat.gcd X.natAbs Y.natAbs) C.natAbs = 1
  ex : X * c = x * C
  ey : Y * c = y * C
theorem IsLow.uniq {x y c X Y C x' y' c' X' Y' C' : Int} (h : IsLow x y c X Y C) (h' : IsLow x' y' c' X' Y' C') (hc : c ≠ 0) (hc' : c' ≠ 0) (ex : x * c' = x' * c) (ey : y * c' = y' * c) : X = X' ∧ Y = Y' ∧ C = C' := by
  have cross : ∀ {a A a' A' : Int}, A * c = a * C → A' * c' = a' * C' → a * c' = a' * c → A * C' = A' * C := fun {a A a' A'} e1 e2 e3 => by
    have : (A * C') * (c * c') = (A' * C) * (c * c') := by
      have h1 : (A * C') * (c * c') = (A * c) * (C' * c') := by grind
      have h2 : (A' * C) * (c * c') = (A' * c') * (C * c) := by grind
      rw [h1, h2, e1, e2]
      have h3 : a * C * (C' * c') = (a * c') * (C * C') := by grind
      have h4 : a' * C' * (C * c) = (a' * c) * (C * C') := by grind
      rw [h3, h4, e3]
    exact Int.eq_of_mul_eq_mul_right (Int.mul_ne_zero hc hc') this
  have qx := cross h.ex h'.ex ex
  have qy := cross h.ey h'.ey ey
  have dv : ∀ {X Y C X' Y' C' : Int}, 0 < C → 0 < C' → Nat.gcd (Nat.gcd X.natAbs Y.natAbs) C.natAbs = 1 → X * C' = X' * C → Y * C' = Y' * C → C.natAbs ∣ C'.natAbs := fun {X Y C X' Y' C'} p p' g a b => by
    have d1 : C.natAbs ∣ X.natAbs * C'.natAbs := by rw [← Int.natAbs_mul, a, Int.natAbs_mul]; exact Nat.dvd_mul_left _ _
    have d2 : C.natAbs ∣ Y.natAbs * C'.natAbs := by rw [← Int.natAbs_mul, b, Int.natAbs_mul]; exact Nat.dvd_mul_left _ _
    have d3 : C.natAbs ∣ C.natAbs * C'.natAbs := Nat.dvd_mul_right _ _
    have d4 := Nat.dvd_gcd (Nat.dvd_gcd d1 d2) d3
    rw [Nat.gcd_mul_right, Nat.gcd_mul_right, g, Nat.one_mul] at d4
    exact d4
  have e1 := dv h.pos h'.pos h.co qx qy
  have e2 := dv h'.pos h.pos h'.co qx.symm qy.symm
  have e3 := Nat.dvd_antisymm e1 e2
  have e4 : C = C' := by have := h.pos; have := h'.pos; omega
  subst e4
  have n0 : C ≠ 0 := by have := h.pos; omega
  exact ⟨Int.eq_of_mul_eq_mul_right n0 qx, Int.eq_of_mul_eq_mul_right n0 qy, rfl⟩
/-- by a common part -/
theorem IsLow.of {x y c : Int} (hc : c ≠ 0) (g : Int) (hg : g.natAbs = Nat.gcd (Nat.gcd x.natAbs y.natAbs) c.natAbs) (hs : 0 < g * c) : IsLow x y c (x / g) (y / g) (c / g) ∧ x.fdiv g = x / g ∧ y.fdiv g = y / g ∧ c.fdiv g = c / g := by
  have dx : g ∣ x := Int.natAbs_dvd_natAbs.mp (by rw [hg]; exact Nat.dvd_trans (Nat.gcd_dvd_left _ _) (Nat.gcd_dvd_left _ _))
  have dy : g ∣ y := Int.natAbs_dvd_natAbs.mp (by rw [hg]; exact Nat.dvd_trans (Nat.gcd_dvd_left _ _) (Nat.gcd_dvd_right _ _))
  have dc : g ∣ c := Int.natAbs_dvd_natAbs.mp (by rw [hg]; exact Nat.gcd_dvd_right _ _)
  have g0 : g ≠ 0 := fun e => by rw [e] at hs; simp at hs
  obtain ⟨X, rfl⟩ := dx
  obtain ⟨Y, rfl⟩ := dy
  obtain ⟨C, rfl⟩ := dc
  have f : ∀ z : Int, (g * z).fdiv g = g * z / g := fun z => by rw [Int.mul_fdiv_cancel_left _ g0, Int.mul_ediv_cancel_left _ g0]
  refine ⟨?_, f _, f _, f _⟩
  rw [Int.mul_ediv_cancel_left _ g0, Int.mul_ediv_cancel_left _ g0, Int.mul_ediv_cancel_left _ g0]
  have gp : 0 < g.natAbs := by omega
  refine ⟨?_, ?_, by grind, by grind⟩
  · have : g * (g * C) = (g * g) * C := by grind
    rw [this] at hs
    have sq : 0 < g * g := by
      rcases Int.lt_or_gt_of_ne g0 with q | q
      · exact Int.mul_pos_of_neg_of_neg q q
      · exact Int.mul_pos q q
    by_cases hC : 0 < C
    · exact hC
    · have : g * g * C ≤ 0 := Int.mul_nonpos_of_nonneg_of_nonpos (Int.le_of_lt sq) (by omega)
      omega
  · rw [Int.natAbs_mul, Int.natAbs_mul, Int.natAbs_mul, Nat.gcd_mul_left, Nat.gcd_mul_left] at hg
    have := Nat.eq_of_mul_eq_mul_left gp (hg.symm.trans (Nat.mul_one _).symm)
    exact this

/-! ### the common part by laps -/
def lap (p : Nat × Nat) : Nat × Nat := if p.2 ≠ 0 then (p.2, p.1 % p.2) else p
def laps : Nat → Nat × Nat → Nat × Nat
  | 0, p => p
  | n + 1, p => laps n (lap p)
theorem laps_zero (n a : Nat) : laps n (a, 0) = (a, 0) := by
  induction n with
  | zero => rfl
  | succ n ih => rw [laps]; simpa [lap] using ih
theorem laps_gcd : ∀ (k a b : Nat), b < 2 ^ k → laps (2 * k) (a, b) = (Nat.gcd a b, 0)
  | 0, a, b, h => by
    have : b = 0 := by simpa using h
    subst this; simp [laps]
  | k + 1, a, b, h => by
    show laps (2 * k + 1 + 1) (a, b) = _
    by_cases hb : b = 0
    · subst hb; rw [laps_zero]; simp
    · rw [laps, laps]
      have e1 : lap (a, b) = (b, a % b) := by simp [lap, hb]
      rw [e1]
      by_cases hr : a % b = 0
      · have e2 : lap (b, a % b) = (b, 0) := by simp [lap, hr]
        rw [e2, laps_zero, Nat.gcd_comm, Nat.gcd_rec, hr, Nat.gcd_zero_left]
      · have e2 : lap (b, a % b) = (a % b, b % (a % b)) := by simp [lap, hr]
        have l1 : a % b < b := Nat.mod_lt _ (by omega)
        have l2 : b % (a % b) < 2 ^ k := by
          have h3 : b % (a % b) < a % b := Nat.mod_lt _ (by omega)
          have h4 := Nat.div_add_mod b (a % b)
          have h5 : 1 ≤ b / (a % b) := (Nat.one_le_div_iff (by omega)).mpr (by omega)
          have h6 : a % b ≤ a % b * (b / (a % b)) := Nat.le_mul_of_pos_right _ h5
          have : 2 ^ (k + 1) = 2 * 2 ^ k := by rw [Nat.pow_succ]; omega
          omega
        rw [e2, laps_gcd k _ _ l2]
        congr 1
        have g1 : Nat.gcd a b = Nat.gcd (a % b) b := by rw [Nat.gcd_comm a b]; exact Nat.gcd_rec b a
        have g2 : Nat.gcd (a % b) b = Nat.gcd (b % (a % b)) (a % b) := Nat.gcd_rec _ _
        rw [g1, g2, Nat.gcd_comm]
end Z

set_option Elab.async false
set_option linter.all false
set_option maxRecDepth 100000
set_option autoImplicit false
set_option exponentiation.threshold 5000
/-! # Z18: what is small is shown; turns of a loop that goes on; slices at one -/
namespace Z
open PySem L2

structure Small (dp w : Nat) (d : D) : Prop where
  plain : d.plain = true
  depth : d.depth ≤ dp
  show' : d.showable = true
  nodict : d.hasDict = false
  leaf : d.leavesShort 202 = true
  weight : d.weight ≤ w
structure SmallAll (dp w : Nat) (ds : List D) : Prop where
  plain : PyData.plainAll ds = true
  depth : PyData.depthAll ds ≤ dp
  show' : PyData.showableAll ds = true
  nodict : PyData.hasDictAll ds = false
  leaf : PyData.leavesShortAll 202 ds = true
  weight : PyData.weightAll ds ≤ w
theorem Small.mono {dp w dp' w' : Nat} {d : D} (h : Small dp w d) (h1 : dp ≤ dp') (h2 : w ≤ w') : Small dp' w' d := ⟨h.plain, Nat.le_trans h.depth h1, h.show', h.nodict, h.leaf, Nat.le_trans h.weight h2⟩
theorem Small.int {i : Int} (h : i.natAbs < 2 ^ 200) : Small 0 200 (.int i) := by
  have l : i.natAbs.log2 < 200 := by
    by_cases z : i.natAbs = 0
    · rw [z]; decide
    · exact (Nat.log2_lt z).mpr h
  refine ⟨by simp [PyData.plain], by simp [PyData.depth], by simp only [PyData.showable]; exact decide_eq_true (by omega), by simp [PyData.hasDict], ?_, ?_⟩
  · simp only [PyData.leavesShort, PyData.shown]
    refine decide_eq_true ?_
    have q := int_text_length_le (by decide : 0 < 200) l
    have e : (Str.ofString (toString i)).length = (toString i).length := ofString_length _
    exact Nat.le_trans (Nat.le_of_eq e) (by omega)
  · simp only [PyData.weight]
    split <;> omega
theorem SmallAll.nil : SmallAll 0 0 [] := ⟨rfl, by simp [PyData.depthAll], rfl, rfl, rfl, by simp [PyData.weightAll]⟩
theorem SmallAll.cons {dp dp' w w' : Nat} {d : D} {ds : List D} (h : Small dp w d) (k : SmallAll dp' w' ds) : SmallAll (max dp dp') (w + 1 + w') (d :: ds) := by
  obtain ⟨a1, a2, a3, a4, a5, a6⟩ := h
  obtain ⟨b1, b2, b3, b4, b5, b6⟩ := k
  refine ⟨by simp [PyData.plainAll, a1, b1], ?_, by simp [PyData.showableAll, a3, b3], by simp [PyData.hasDictAll, a4, b4], by simp [PyData.leavesShortAll, a5, b5], ?_⟩
  · simp only [PyData.depthAll]; omega
  · simp only [PyData.weightAll]; omega
theorem SmallAll.mono {dp w dp' w' : Nat} {ds : List D} (h : SmallAll dp w ds) (h1 : dp ≤ dp') (h2 : w ≤ w') : SmallAll dp' w' ds := ⟨h.plain, Nat.le_trans h.depth h1, h.show', h.nodict, h.leaf, Nat.le_trans h.weight h2⟩
theorem SmallAll.all {dp w : Nat} : ∀ {ds : List D}, (∀ d ∈ ds, Small dp w d) → SmallAll dp (ds.length * (w + 1)) ds
  | [], _ => SmallAll.nil.mono (Nat.zero_le _) (Nat.zero_le _)
  | d :: ds, h => by
    have q := SmallAll.cons (h d (by simp)) (SmallAll.all (ds := ds) fun x hx => h x (by simp [hx]))
    refine q.mono (by omega) ?_
    rw [List.length_cons, Nat.add_mul]
    omega
theorem SmallAll.tuple {dp w : Nat} {ds : List D} (h : SmallAll dp w ds) : Small (dp + 1) w (.tuple ds) := by
  obtain ⟨b1, b2, b3, b4, b5, b6⟩ := h
  exact ⟨by simpa only [PyData.plain] using b1, by simp only [PyData.depth]; omega, by simpa only [PyData.showable] using b3, by simpa only [PyData.hasDict] using b4, by simpa only [PyData.leavesShort] using b5, by simpa only [PyData.weight] using b6⟩
theorem SmallAll.list {dp w : Nat} {ds : List D} (h : SmallAll dp w ds) : Small (dp + 1) w (.list ds) := by
  obtain ⟨b1, b2, b3, b4, b5, b6⟩ := h
  exact ⟨by simpa only [PyData.plain] using b1, by simp only [PyData.depth]; omega, by simpa only [PyData.showable] using b3, by simpa only [PyData.hasDict] using b4, by simpa only [PyData.leavesShort] using b5, by simpa only [PyData.weight] using b6⟩
theorem Small.repr {dp w : Nat} {d : D} (h : Small dp w d) (h1 : dp ≤ 40) (h2 : w ≤ 80000) : reprOk d = true := by
  have q := PyData.shown_le 202 (by decide) d h.leaf
  have hw := h.weight
  have h4 : (202 + 2) * d.weight ≤ (202 + 2) * 80000 := Nat.mul_le_mul (Nat.le_refl _) (by omega)
  have o : okD d = true := by
    unfold okD
    rw [h.plain, decide_eq_true (Nat.le_trans h.depth h1)]; rfl
  unfold reprOk
  rw [o, h.show', h.nodict, decide_eq_true (by omega)]; rfl
theorem repr_t {dp w : Nat} {ds : List D} (h : Small dp w (.tuple ds)) (h1 : dp ≤ 40 := by decide) (h2 : w ≤ 80000 := by decide) : reprD (.tuple ds) = .ok (.str (PyData.tuple ds).shown) := by
  show (if _ = true then _ else _) = _
  rw [if_pos (h.repr h1 h2)]
theorem repr_l {dp w : Nat} {ds : List D} (h : Small dp w (.list ds)) (h1 : dp ≤ 40 := by decide) (h2 : w ≤ 80000 := by decide) : reprD (.list ds) = .ok (.str (PyData.list ds).shown) := by
  show (if _ = true then _ else _) = _
  rw [if_pos (h.repr h1 h2)]
theorem okS (s : Str) : okD (.str s) = true := by simp [okD, PyData.plain, PyData.depth]
theorem eq_s (s : Str) : eqD (.str s) (.str s) = .ok true := by
  unfold eqD; rw [okS]; simp [PyData.eqv]
theorem ne_s (s : Str) : neD (.str s) (.str s) = .ok false := by unfold neD; rw [eq_s]; rfl
theorem forT_bind {τ β : Type} {f : D → τ → R (Fl τ)} {k : Fl τ → R β} {r : R β} (I : Nat → τ → Prop) (h : ∀ n x st, I (n + 1) st → ∃ st', f x st = .ok (.nx st') ∧ I n st') : ∀ {xs : List D} {st : τ}, I xs.length st → (∀ st', k (.nx st') = r) → (forT xs st f).bind k = r
  | [], st, _, hk => hk st
  | x :: xs, st, i, hk => by
    obtain ⟨s1, e1, i1⟩ := h xs.length x st i
    show ((f x st).bind _).bind k = r
    rw [e1]
    exact forT_bind I h i1 hk
theorem slice_1 (a : D) (l : List D) : slice (.tuple (a :: l)) none (some 1) = .ok (.tuple [a]) := by
  have e : HT.sIx (a :: l).length (a :: l).length (some 1) = 1 := by
    rw [show (some (1 : Int)) = some ((1 : Nat) : Int) from rfl, HT.sIx_nat]; simp
  simp only [slice, cut, HT.sIx_none, e]; rfl
theorem slice_2 (a : D) (l : List D) : slice (.tuple (a :: l)) (some 1) none = .ok (.tuple l) := by
  have e : HT.sIx (a :: l).length 0 (some 1) = 1 := by
    rw [show (some (1 : Int)) = some ((1 : Nat) : Int) from rfl, HT.sIx_nat]; simp
  simp only [slice, cut, HT.sIx_none, e]
  simp
theorem add_t {xs ys : List D} (h : xs.length + ys.length < 16777216) : add (.tuple xs) (.tuple ys) = .ok (.tuple (xs ++ ys)) := by
  have c1 : szOk (xs.length + ys.length) = true := by unfold szOk; exact decide_eq_true (by omega)
  simp only [add, c1, if_true]
theorem push1 (xs : List D) (d : D) (h : xs.length < 16777216) : pushM xs [d] = .ok (.none, xs ++ [d]) := by
  show (if _ = true then _ else _) = _
  rw [if_pos (decide_eq_true h)]
end Z

set_option Elab.async false
set_option linter.all false
set_option maxRecDepth 100000
set_option autoImplicit false
/-! # Z19: and, or, not as values; isinstance; zip; a list of one's own that is changed no more -/
namespace Z
open PySem L2
section
variable {α : Type} {C : Ct} {ρ : Env} {m : R α}

theorem truV_of {K : PySem.W.Frag} {F H : Hp} (e : Same F H) {v : V} {d : D} {t : Bool} (h : Rp K F v d) (et : truth d = .ok t) : TruV K v H t := by
  cases h with
  | non => cases et; rfl
  | bl b => cases et; rfl
  | int i => cases et; rfl
  | str y =>
    simp only [truth] at et
    split at et
    · rename_i hz
      cases et
      exact ⟨by rw [sizeLine_eq]; simpa [szOk] using hz, by cases hh : y.length <;> simp <;> omega⟩
    · cases et
  | lst a b =>
    have e0 := b.isEmpty
    cases et
    exact .inl ⟨_, .inl (.inl (e _ _ a)), by rw [e0]⟩
  | tup a _ b =>
    have e0 := b.isEmpty
    cases et
    exact .inr (.inl ⟨_, seqT e a, by rw [e0]⟩)
  | dct _ _ _ _ => cases et
  | dck _ _ _ => cases et
theorem de_and1 {κ : D → Env → R α → Prop} {e : Expr} {pos : Pos} {op : BoolOp} (h : DE C ρ e m κ) : DE C ρ (.BoolOp op [e] pos) m κ := fun X W Z x hK c z => pe_one (h X W Z x hK c z)
theorem de_and {κ : D → Env → R α → Prop} {a b : Expr} {rest : List Expr} {pos : Pos}
    (h : DE C ρ a m fun d ρ1 m1 => ∃ A B, m1 = ((truth d).bind fun t => if t = true then A else B) ∧ DE C ρ1 (.BoolOp .And (b :: rest) pos) A κ ∧ κ d ρ1 B) : DE C ρ (.BoolOp .And (a :: b :: rest) pos) m κ := by
  intro X W Z x hK c z
  have hb : PE X (.BoolOp .And (b :: rest) pos) fun σ H Q => ∃ i : R α × Env, (DE C i.2 (.BoolOp .And (b :: rest) pos) i.1 κ ∧ Z i.1) ∧ ∃ F, Rel W i.2 σ H F ∧ ∀ d ρ' m' v H' F', κ d ρ' m' → Z m' → Rel W ρ' σ H' F' → Same F F' → Rp W.K F' v d → Q v H' :=
    ⟨fun p s σ H Q I ⟨i, pi, q⟩ => (pi.1 X W Z x hK c pi.2).run p s σ H Q I q⟩
  refine PE_imp (pe_andT (h X W Z x hK c z) hb) fun σ H Q ⟨F, r, q⟩ => ⟨F, r, fun d ρ' m' v H' F' ⟨A, B, e, hA, hB⟩ h2 h3 h4 h5 => ?_⟩
  subst e
  obtain ⟨t, et, zt⟩ := c.bind h2
  refine ⟨t, by rw [x.K, ← hK]; exact truV_of h3.sub h5 et, ?_⟩
  cases t with
  | true => exact ⟨(A, ρ'), ⟨hA, zt⟩, F', h3, fun d ρ2 m2 v H2 F2 k1 k2 k3 k4 k5 => q d ρ2 m2 v H2 F2 k1 k2 k3 (h4.trans k4) k5⟩
  | false => exact q _ ρ' _ v H' F' hB zt h3 h4 h5
theorem de_or {κ : D → Env → R α → Prop} {a b : Expr} {rest : List Expr} {pos : Pos}
    (h : DE C ρ a m fun d ρ1 m1 => ∃ A B, m1 = ((truth d).bind fun t => if t = true then A else B) ∧ κ d ρ1 A ∧ DE C ρ1 (.BoolOp .Or (b :: rest) pos) B κ) : DE C ρ (.BoolOp .Or (a :: b :: rest) pos) m κ := by
  intro X W Z x hK c z
  have hb : PE X (.BoolOp .Or (b :: rest) pos) fun σ H Q => ∃ i : R α × Env, (DE C i.2 (.BoolOp .Or (b :: rest) pos) i.1 κ ∧ Z i.1) ∧ ∃ F, Rel W i.2 σ H F ∧ ∀ d ρ' m' v H' F', κ d ρ' m' → Z m' → Rel W ρ' σ H' F' → Same F F' → Rp W.K F' v d → Q v H' :=
    ⟨fun p s σ H Q I ⟨i, pi, q⟩ => (pi.1 X W Z x hK c pi.2).run p s σ H Q I q⟩
  refine PE_imp (pe_orT (h X W Z x hK c z) hb) fun σ H Q ⟨F, r, q⟩ => ⟨F, r, fun d ρ' m' v H' F' ⟨A, B, e, hA, hB⟩ h2 h3 h4 h5 => ?_⟩
  subst e
  obtain ⟨t, et, zt⟩ := c.bind h2
  refine ⟨t, by rw [x.K, ← hK]; exact truV_of h3.sub h5 et, ?_⟩
  cases t with
  | true => exact q _ ρ' _ v H' F' hA zt h3 h4 h5
  | false => exact ⟨(B, ρ'), ⟨hB, zt⟩, F', h3, fun d ρ2 m2 v H2 F2 k1 k2 k3 k4 k5 => q d ρ2 m2 v H2 F2 k1 k2 k3 (h4.trans k4) k5⟩
theorem de_notV {κ : D → Env → R α → Prop} {a : Expr} {pos : Pos} (h : DE C ρ a m fun d ρ1 m1 => ∃ g, m1 = (truth d).bind g ∧ ∀ t, κ (.bool (!t)) ρ1 (g t)) : DE C ρ (.UnaryOp .Not a pos) m κ := by
  intro X W Z x hK c z
  refine PE_imp (pe_notT (h X W Z x hK c z)) fun σ H Q ⟨F, r, q⟩ => ⟨F, r, fun d ρ' m' v H' F' ⟨g, e, hg⟩ h2 h3 h4 h5 => ?_⟩
  subst e
  obtain ⟨t, et, zt⟩ := c.bind h2
  exact ⟨t, by rw [x.K, ← hK]; exact truV_of h3.sub h5 et, q _ ρ' _ _ H' F' (hg t) zt h3 h4 (.bl _)⟩

/-! ### isinstance(e, T) -/
def tyN : D → String
  | .none => "NoneType"
  | .bool _ => "bool"
  | .int _ => "int"
  | .str _ => "str"
  | .list _ => "list"
  | .tuple _ => "tuple"
  | .dict _ => "dict"
def isTupD : D → Bool
  | .none => false
  | .bool _ => false
  | .int _ => false
  | .str _ => false
  | .list _ => false
  | .tuple _ => true
  | .dict _ => false
theorem isa_tuple : ∀ d : D, kitB (tyN d) "tuple" = some (isTupD d)
  | .none => (by decide +kernel : kitB "NoneType" "tuple" = some false)
  | .bool _ => (by decide +kernel : kitB "bool" "tuple" = some false)
  | .int _ => (by decide +kernel : kitB "int" "tuple" = some false)
  | .str _ => (by decide +kernel : kitB "str" "tuple" = some false)
  | .list _ => (by decide +kernel : kitB "list" "tuple" = some false)
  | .tuple _ => (by decide +kernel : kitB "tuple" "tuple" = some true)
  | .dict _ => (by decide +kernel : kitB "dict" "tuple" = some false)
def isIntD : D → Bool
  | .none => false
  | .bool _ => true
  | .int _ => true
  | .str _ => false
  | .list _ => false
  | .tuple _ => false
  | .dict _ => false
theorem isa_int : ∀ d : D, kitB (tyN d) "int" = some (isIntD d)
  | .none => (by decide +kernel : kitB "NoneType" "int" = some false)
  | .bool _ => (by decide +kernel : kitB "bool" "int" = some true)
  | .int _ => (by decide +kernel : kitB "int" "int" = some true)
  | .str _ => (by decide +kernel : kitB "str" "int" = some false)
  | .list _ => (by decide +kernel : kitB "list" "int" = some false)
  | .tuple _ => (by decide +kernel : kitB "tuple" "int" = some false)
  | .dict _ => (by decide +kernel : kitB "dict" "int" = some false)
def isBoolD : D → Bool
  | .none => false
  | .bool _ => true
  | .int _ => false
  | .str _ => false
  | .list _ => false
  | .tuple _ => false
  | .dict _ => false
theorem isa_bool : ∀ d : D, kitB (tyN d) "bool" = some (isBoolD d)
  | .none => (by decide +kernel : kitB "NoneType" "bool" = some false)
  | .bool _ => (by decide +kernel : kitB "bool" "bool" = some true)
  | .int _ => (by decide +kernel : kitB "int" "bool" = some false)
  | .str _ => (by decide +kernel : kitB "str" "bool" = some false)
  | .list _ => (by decide +kernel : kitB "list" "bool" = some false)
  | .tuple _ => (by decide +kernel : kitB "tuple" "bool" = some false)
  | .dict _ => (by decide +kernel : kitB "dict" "bool" = some false)
def isStrD : D → Bool
  | .none => false
  | .bool _ => false
  | .int _ => false
  | .str _ => true
  | .list _ => false
  | .tuple _ => false
  | .dict _ => false
theorem isa_str : ∀ d : D, kitB (tyN d) "str" = some (isStrD d)
  | .none => (by decide +kernel : kitB "NoneType" "str" = some false)
  | .bool _ => (by decide +kernel : kitB "bool" "str" = some false)
  | .int _ => (by decide +kernel : kitB "int" "str" = some false)
  | .str _ => (by decide +kernel : kitB "str" "str" = some true)
  | .list _ => (by decide +kernel : kitB "list" "str" = some false)
  | .tuple _ => (by decide +kernel : kitB "tuple" "str" = some false)
  | .dict _ => (by decide +kernel : kitB "dict" "str" = some false)
def isLstD : D → Bool
  | .none => false
  | .bool _ => false
  | .int _ => false
  | .str _ => false
  | .list _ => true
  | .tuple _ => false
  | .dict _ => false
theorem isa_list : ∀ d : D, kitB (tyN d) "list" = some (isLstD d)
  | .none => (by decide +kernel : kitB "NoneType" "list" = some false)
  | .bool _ => (by decide +kernel : kitB "bool" "list" = some false)
  | .int _ => (by decide +kernel : kitB "int" "list" = some false)
  | .str _ => (by decide +kernel : kitB "str" "list" = some false)
  | .list _ => (by decide +kernel : kitB "list" "list" = some true)
  | .tuple _ => (by decide +kernel : kitB "tuple" "list" = some false)
  | .dict _ => (by decide +kernel : kitB "dict" "list" = some false)
def isDctD : D → Bool
  | .none => false
  | .bool _ => false
  | .int _ => false
  | .str _ => false
  | .list _ => false
  | .tuple _ => false
  | .dict _ => true
theorem isa_dict : ∀ d : D, kitB (tyN d) "dict" = some (isDctD d)
  | .none => (by decide +kernel : kitB "NoneType" "dict" = some false)
  | .bool _ => (by decide +kernel : kitB "bool" "dict" = some false)
  | .int _ => (by decide +kernel : kitB "int" "dict" = some false)
  | .str _ => (by decide +kernel : kitB "str" "dict" = some false)
  | .list _ => (by decide +kernel : kitB "list" "dict" = some false)
  | .tuple _ => (by decide +kernel : kitB "tuple" "dict" = some false)
  | .dict _ => (by decide +kernel : kitB "dict" "dict" = some true)
def isaD (f : D → Bool) (d : D) : R Bool := if isDctD d then .stuck else .ok (f d)
theorem tyX {X : Cx} {pins : List (Addr × Obj)} {σ : L2.St} {H F : Hp} {s : Shared} (I : Inv X pins σ H s) (e : Same F H) {v : V} {d : D} (h : Rp X.K F v d) (hn : isDctD d = false) : TyX X.K H v (.type (tyN d)) := by
  cases h with
  | non => exact .base .non
  | bl b => exact .base (.bl b)
  | int i => exact .base (.int i)
  | str y => exact .base (.str y)
  | lst a b => exact .base (.lst (e _ _ a))
  | tup a _ b =>
    rcases seqT e a with (q | ⟨o, q⟩) | q
    · exact .base (.tup q)
    · exact .fTuple q
    · obtain ⟨o, its, n, h1, h2, _⟩ := q
      exact .kTuple h1 h2
  | dct _ _ _ _ => cases hn
  | dck _ _ _ => cases hn
/-- isinstance(e, T), T a built-in type -/
theorem de_isa {κ : D → Env → R α → Prop} {a : Expr} {n : Str} {T : String} {f : D → Bool} {p p2 pos : Pos} (hT : ∀ d : D, kitB (tyN d) T = some (f d)) (hm : C.mg ("isinstance" : Str) = none) (hm2 : C.mg n = none) (hb : bootBuiltins n = some (.type T))
    (h : DE C ρ a m fun d ρ1 m1 => ∃ g, m1 = (isaD f d).bind g ∧ ∀ t, κ (.bool t) ρ1 (g t)) (hg : C.sc.names.lookup ("isinstance" : Str) = some .globalImplicit := by rfl) (hg2 : C.sc.names.lookup n = some .globalImplicit := by rfl)
    (hn : n ≠ "__name__" := by decide) (hdb : (n == ("__debug__" : Str)) = false := by decide) (he : ∀ env : PySem.Env, starEach [a, .Name n p2] env = (false, eval a env) :: starEach [.Name n p2] env := by intro _; rfl)
    (he2 : ∀ env : PySem.Env, starEach [.Name n p2] env = (false, eval (.Name n p2) env) :: starEach [] env := by intro _; rfl) (hpl : ∀ env : PySem.Env, (backTo pos (starEach [.Name n p2] env)).any (·.1) = false := by intro _; rfl) :
    DE C ρ (.Call (.Name "isinstance" p) [a, .Name n p2] [] pos) m κ := by
  intro X W Z x hK c z
  have pa := pa_cons (h X W Z x hK c z) (pa_cons (pe_bltn (v := .ty T) (pos := p2) (x.gl hg2) (x.mg0 hm2) hb rfl hn hdb) pa_nil (he2 _)) (he _)
  have hc : CallR X (.builtin "isinstance") fun vs H Q => ∃ F v d, vs = [v, .ty T] ∧ Same F H ∧ Rp X.K F v d ∧ isDctD d = false ∧ Q (.bl (f d)) H := by
    intro pins s σ H vs us Q I rv ⟨F, v, d, e, sub, rd, hd, q⟩
    exact call_isi pins s σ H vs us Q I rv ⟨v, .ty T, _, _, f d, e, .ty T, tyX I sub rd hd, kit_ty (hT d), q⟩
  refine PE_imp (pe_callB hc (x.gl hg) (x.mg0 hm) (by decide +kernel) pa (by decide) (by decide) (he _) (hpl _)) fun σ H Q ⟨F, r, q⟩ => ⟨F, r, fun d ρ' m' v H' F' ⟨g, e, hgg⟩ h2 h3 h4 h5 => ?_⟩
  subst e
  obtain ⟨t, et, zt⟩ := c.bind h2
  unfold isaD at et
  by_cases hd : isDctD d = true
  · rw [if_pos hd] at et; cases et
  · rw [if_neg hd] at et; cases et
    show ∃ F0 v0 d0, [v, V.ty T] = [v0, .ty T] ∧ _
    exact ⟨F', v, d, rfl, h3.sub, by rw [x.K, ← hK]; exact h5, by simpa using hd, q _ ρ' _ _ H' F' (hgg _) zt h3 h4 (.bl _)⟩

/-! ### is True, is not True -/
def isBD : D → D → R Bool
  | .bool a, .bool b => .ok (decide (a = b))
  | _, _ => .stuck
def isNotBD : D → D → R Bool
  | .bool a, .bool b => .ok (!decide (a = b))
  | _, _ => .stuck
theorem cs_isB : CmpS .Is isBD := by
  intro X k hr pins s σ H x y v u Q I rx ry ⟨F, a, b, c, sub, ra, rb, e, q⟩
  unfold isBD at e
  split at e
  · cases e
    rw [ra.toBool] at rx; rw [rb.toBool] at ry
    exact op_isBl pins s σ H _ _ v u Q I rx ry ⟨_, _, rfl, rfl, q⟩
  · cases e
theorem cs_isNotB : CmpS .IsNot isNotBD := by
  intro X k hr pins s σ H x y v u Q I rx ry ⟨F, a, b, c, sub, ra, rb, e, q⟩
  unfold isNotBD at e
  split at e
  · cases e
    rw [ra.toBool] at rx; rw [rb.toBool] at ry
    exact op_notBl pins s σ H _ _ v u Q I rx ry ⟨_, _, rfl, rfl, q⟩
  · cases e

/-! ### a list of one's own that nobody changes any more -/
theorem ds_keep {J : Jd α} {sts : List Stmt} (i : Nat) {xs : List D} (hρ : ρ[i]? = some (some (.own xs))) (k : DSs C (ρ.set i (some (.val (.list xs)))) sts m J) : DSs C ρ sts m J := by
  intro X W Z x hK c z
  refine PSs_imp (k X W Z x hK c z) fun D σ H ⟨F, r, l⟩ => ?_
  obtain ⟨p, F', h1, r', ss, rp⟩ := r.freeze hρ
  exact ⟨F', r', l⟩
end
end Z

set_option Elab.async false
set_option linter.all false
set_option maxRecDepth 100000
set_option autoImplicit false
/-! # Z20: what is shown of points tells them apart -/
namespace Z
open PySem L2 TL

def intL (i : Int) : List Nat := if 0 ≤ i then numL i.toNat else 45 :: numL i.natAbs
theorem tl_int (i : Int) : tl (PyData.int i).shown = intL i := by
  show tl (Str.ofString (toString i)) = _
  unfold intL
  by_cases h : 0 ≤ i
  · rw [if_pos h]
    obtain ⟨n, rfl⟩ := Int.eq_ofNat_of_zero_le h
    exact tl_num n
  · rw [if_neg h]
    obtain ⟨n, rfl⟩ : ∃ n : Nat, i = Int.negSucc n := by
      cases i with
      | ofNat n => exact absurd (Int.natCast_nonneg n) h
      | negSucc n => exact ⟨n, rfl⟩
    rw [tl_ofString]
    have e : toString (Int.negSucc n) = "-" ++ Nat.repr (n + 1) := rfl
    rw [e, String.toList_append, List.map_append]
    have e2 := tl_num (n + 1)
    rw [tl_ofString] at e2
    have e3 : toString ((n + 1 : Nat) : Int) = Nat.repr (n + 1) := rfl
    rw [e3] at e2
    rw [e2]; rfl
theorem intL_free {i : Int} {s : Nat} (h : s = 44 ∨ s = 41) : s ∉ intL i := by
  unfold intL
  split
  · exact numL_free (by omega)
  · intro hm
    rcases List.mem_cons.mp hm with q | q
    · omega
    · exact numL_free (by omega) q
theorem intL_inj {i j : Int} (h : intL i = intL j) : i = j := by
  unfold intL at h
  have no : ∀ {n : Nat} {l : List Nat}, numL n = 45 :: l → False := fun {n l} e => numL_free (n := n) (s := 45) (by omega) (by rw [e]; simp)
  split at h <;> split at h
  · have := numL_inj h; omega
  · exact (no h).elim
  · exact (no h.symm).elim
  · have := numL_inj (List.cons.inj h).2; omega
theorem split_at {s : Nat} : ∀ {a b c d : List Nat}, s ∉ a → s ∉ b → a ++ s :: c = b ++ s :: d → a = b ∧ c = d
  | [], [], c, d, _, _, h => ⟨rfl, (List.cons.inj h).2⟩
  | [], y :: b, c, d, _, hb, h => absurd (List.cons.inj h).1 (fun q => hb (by rw [q]; simp))
  | x :: a, [], c, d, ha, _, h => absurd (List.cons.inj h).1 (fun q => ha (by rw [← q]; simp))
  | x :: a, y :: b, c, d, ha, hb, h => by
    obtain ⟨h1, h2⟩ := List.cons.inj h
    obtain ⟨e1, e2⟩ := split_at (fun q => ha (by simp [q])) (fun q => hb (by simp [q])) h2
    exact ⟨by rw [h1, e1], e2⟩
theorem tl_pair (a b : D) : tl (PyData.tuple [a, b]).shown = 40 :: (tl a.shown ++ 44 :: 32 :: (tl b.shown ++ [41])) := by
  have e : (PyData.tuple [a, b]).shown = ("(" : Str) ++ (a.shown ++ (", " : Str) ++ b.shown) ++ (")" : Str) := by
    simp only [PyData.shown, PyData.shownAll]; rfl
  rw [e, tl_append, tl_append, tl_append, tl_append]
  have e1 : tl ("(" : Str) = [40] := by decide +kernel
  have e2 : tl (", " : Str) = [44, 32] := by decide +kernel
  have e3 : tl (")" : Str) = [41] := by decide +kernel
  rw [e1, e2, e3]; simp
theorem lot_inj {u v : Vc} (h : (lotD u).shown = (lotD v).shown) : u = v := by
  have e := congrArg tl h
  unfold lotD at e
  rw [tl_pair, tl_pair, tl_int, tl_int, tl_int, tl_int] at e
  obtain ⟨_, e⟩ := List.cons.inj e
  obtain ⟨e1, e2⟩ := split_at (intL_free (.inl rfl)) (intL_free (.inl rfl)) e
  obtain ⟨_, e2⟩ := List.cons.inj e2
  obtain ⟨e3, _⟩ := split_at (intL_free (.inr rfl)) (intL_free (.inr rfl)) e2
  exact Prod.ext (intL_inj e1) (intL_inj e3)
theorem point_inj {p q : Vc × Int} (h : (pointD p).shown = (pointD q).shown) : p = q := by
  have e := congrArg tl h
  unfold pointD lotD at e
  rw [tl_pair, tl_pair, tl_pair, tl_pair, tl_int, tl_int, tl_int, tl_int, tl_int, tl_int] at e
  simp only [List.cons_append, List.append_assoc] at e
  obtain ⟨_, e⟩ := List.cons.inj e
  obtain ⟨_, e⟩ := List.cons.inj e
  obtain ⟨e1, e⟩ := split_at (intL_free (.inl rfl)) (intL_free (.inl rfl)) e
  obtain ⟨_, e⟩ := List.cons.inj e
  obtain ⟨e2, e⟩ := split_at (intL_free (.inr rfl)) (intL_free (.inr rfl)) e
  simp only [List.nil_append, List.cons_append] at e
  obtain ⟨_, e⟩ := List.cons.inj e
  obtain ⟨_, e⟩ := List.cons.inj e
  obtain ⟨e3, _⟩ := split_at (intL_free (.inr rfl)) (intL_free (.inr rfl)) e
  exact Prod.ext (Prod.ext (intL_inj e1) (intL_inj e2)) (intL_inj e3)
end Z

set_option Elab.async false
set_option linter.all false
set_option maxRecDepth 100000
set_option autoImplicit false
/-! # Z21: comparisons in a chain; a def that calls itself; the greatest of numbers -/
namespace Z
open PySem L2
section
variable {α : Type} {C : Ct} {ρ : Env} {m : R α}
theorem dt_chain {κ : Bool → Env → R α → Prop} {op op' : CmpOp} {f f' : D → D → R Bool} {a b e : Expr} {pos : Pos} (ho : CmpS op f) (ho' : CmpS op' f')
    (h : DE C ρ a m fun x ρ1 m1 => DE C ρ1 b m1 fun y ρ2 m2 => ∃ A B, m2 = ((f x y).bind fun t => if t = true then A else B) ∧ (DE C ρ2 e A fun z ρ3 m3 => ∃ g, m3 = (f' y z).bind g ∧ ∀ t, κ t ρ3 (g t)) ∧ κ false ρ2 B)
    (hm : lastMarks [op, op'] [b, e] = false := by with_unfolding_all rfl) : DT C ρ (.Compare a [op, op'] [b, e] pos) m κ := by
  intro X W Z x hK c0 z
  have hb : PE X b fun σ H Q => ∃ i : R α × Env × D, (DE C i.2.1 b i.1 (fun y ρ2 m2 => ∃ A B, m2 = ((f i.2.2 y).bind fun t => if t = true then A else B) ∧ (DE C ρ2 e A fun z ρ3 m3 => ∃ g, m3 = (f' y z).bind g ∧ ∀ t, κ t ρ3 (g t)) ∧ κ false ρ2 B) ∧ Z i.1) ∧
      ∃ F, Rel W i.2.1 σ H F ∧ ∀ d ρ' m' v H' F', (∃ A B, m' = ((f i.2.2 d).bind fun t => if t = true then A else B) ∧ (DE C ρ' e A fun z ρ3 m3 => ∃ g, m3 = (f' d z).bind g ∧ ∀ t, κ t ρ3 (g t)) ∧ κ false ρ' B) → Z m' → Rel W ρ' σ H' F' → Same F F' → Rp W.K F' v d → Q v H' :=
    ⟨fun p s σ H Q I ⟨i, pi, q⟩ => (pi.1 X W Z x hK c0 pi.2).run p s σ H Q I q⟩
  have he : PE X e fun σ H Q => ∃ i : R α × Env × D, (DE C i.2.1 e i.1 (fun z ρ3 m3 => ∃ g, m3 = (f' i.2.2 z).bind g ∧ ∀ t, κ t ρ3 (g t)) ∧ Z i.1) ∧
      ∃ F, Rel W i.2.1 σ H F ∧ ∀ d ρ' m' v H' F', (∃ g, m' = (f' i.2.2 d).bind g ∧ ∀ t, κ t ρ' (g t)) → Z m' → Rel W ρ' σ H' F' → Same F F' → Rp W.K F' v d → Q v H' :=
    ⟨fun p s σ H Q I ⟨i, pi, q⟩ => (pi.1 X W Z x hK c0 pi.2).run p s σ H Q I q⟩
  refine PT_imp (pt_chain (ho X _ x.room) (ho' X _ x.room) (h X W Z x hK c0 z) hb he hm) fun σ H Q ⟨F, r, q⟩ => ⟨F, r, fun dx ρ1 m1 vx H1 F1 h1 h2 h3 h4 h5 => ?_⟩
  refine ⟨(m1, ρ1, dx), ⟨h1, h2⟩, F1, h3, fun dy ρ2 m2 vy H2 F2 ⟨A, B, e2, hA, hB⟩ k2 k3 k4 k5 => ?_⟩
  subst e2
  obtain ⟨t, et, zt⟩ := c0.bind k2
  refine ⟨F2, dx, dy, t, k3.sub, by rw [x.K, ← hK]; exact h5.mono k4, by rw [x.K, ← hK]; exact k5, et, t, rfl, ?_⟩
  cases t with
  | true =>
    rw [if_pos rfl] at zt ⊢
    refine ⟨(A, ρ2, dy), ⟨hA, zt⟩, F2, k3, fun dz ρ3 m3 vz H3 F3 ⟨g, e3, hg⟩ j2 j3 j4 j5 => ?_⟩
    subst e3
    obtain ⟨t2, et2, zt2⟩ := c0.bind j2
    exact ⟨F3, dy, dz, t2, j3.sub, by rw [x.K, ← hK]; exact k5.mono j4, by rw [x.K, ← hK]; exact j5, et2, t2, rfl, q t2 ρ3 _ H3 F3 (hg t2) zt2 j3 ((h4.trans k4).trans j4)⟩
  | false =>
    rw [if_neg Bool.false_ne_true] at zt ⊢
    exact ⟨false, rfl, q false ρ2 _ H2 F2 hB zt k3 (h4.trans k4)⟩
/-- nothing is said -/
theorem dss_stuck {J : Jd α} {sts : List Stmt} : DSs C ρ sts (.stuck : R α) J := fun X W Z x hK c z => (c.st z).elim
end
def maxI : D → R D
  | .list xs => match intsD xs with
    | some (n :: ns) => .ok (.int (ns.foldl max n))
    | _ => .stuck
  | _ => .stuck
theorem foldl_max (ns : List Int) : ∀ n : Int, (ns.foldl max n ∈ n :: ns) ∧ ∀ y ∈ n :: ns, y ≤ ns.foldl max n := by
  induction ns with
  | nil => intro n; simp
  | cons a ns ih =>
    intro n
    obtain ⟨h1, h2⟩ := ih (max n a)
    rw [List.foldl_cons]
    refine ⟨?_, fun y hy => ?_⟩
    · rcases List.mem_cons.mp h1 with h | h
      · rw [h]
        rcases Int.le_total n a with q | q
        · rw [Int.max_eq_right q]; simp
        · rw [Int.max_eq_left q]; simp
      · simp [h]
    · have h0 := h2 (max n a) (by simp)
      rcases List.mem_cons.mp hy with rfl | hy
      · exact Int.le_trans (Int.le_max_left _ _) h0
      · rcases List.mem_cons.mp hy with rfl | hy
        · exact Int.le_trans (Int.le_max_right _ _) h0
        · exact h2 y (by simp [hy])
theorem bl_maxI : CallS (.builtin "max") (fn1 maxI) := by
  intro X k hc hr gd pins s σ H vs us Q I rv ⟨F, ds, c, sub, ra0, e0, q⟩
  obtain ⟨a, rfl, e⟩ := fn1_ok e0
  obtain ⟨v, rfl, ra⟩ := ra0.one
  unfold maxI at e
  split at e
  · split at e
    · rename_i n ns hn; cases e
      obtain ⟨p, xs, rfl, hp, rxs⟩ := ra.toList
      have ex := ints_of rxs hn
      subst ex
      refine cr_max hc pins s σ H _ us Q I rv ⟨_, n :: ns, rfl, SqL.of (sub _ _ hp), by simp, fun m hm hm2 => ?_⟩
      obtain ⟨h1, h2⟩ := foldl_max ns n
      have : m = ns.foldl max n := Int.le_antisymm (h2 m hm) (hm2 _ h1)
      rw [this]
      exact q _ H F (Fx.refl sub) (.int _)
    · cases e
  · cases e
end Z

set_option Elab.async false
set_option linter.all false
set_option maxRecDepth 100000
set_option autoImplicit false
/-! # Z22: dicts of their own (keys: nested tuples of whole numbers), constants that are whole numbers -/
namespace Z
open PySem L2

def setDM (kvs : List (D × D)) (k d : D) : R (List (D × D)) := match keyN k with
  | some n => if decide (kvs.length < 16777216) then .ok (dSet kvs k n d) else .stuck
  | none => .stuck

/-- what was made ahead gets its slot later -/
theorem Rel.laterG {W : Wd} {ρ ρ1 : Env} {σ σ1 : L2.St} {H F H1 F1 : Hp} {io : List Addr} {p : Addr} {u : HO} {sl : Sl} (r : Rel ⟨W.K, F1, upd H1 p u, io⟩ ρ σ H F) (r1 : Rel W ρ1 σ1 H1 F1) (hio : ∀ b ∈ io, b ∈ W.io ∨ W.H0 b = none) (hn : p ∉ io) (hp : H1 p = none)
    (mk : Same F1 F → H p = some u → F p = none → SlR W.K F H sl (.ref p) [p]) (i : Nat) : Rel W (ρ.set i (some sl)) (σ.set i (some (.ref p))) H F := by
  have h0 : upd H1 p u p = some u := upd_same
  have hF : F p = none := r.free0 h0 hn (r1.sub.free hp)
  have hH : H p = some u := r.keep p _ h0 hn
  have no : ∀ b, upd H1 p u b = none → W.H0 b = none := fun b q => by
    by_cases hb : b = p
    · subst hb; rw [upd_same] at q; cases q
    · rw [upd_ne hb] at q; exact r1.base q
  have up : ∀ b o, H1 b = some o → upd H1 p u b = some o := fun b o h => by rw [upd_ne (ne_of_none h hp)]; exact h
  refine ⟨r.sub, r1.sub0.trans r.sub0, fun b o h n => ?_, fun b o h => ?_, ?_, by rw [List.length_set, List.length_set]; exact r.len, fun b o h => ?_⟩
  · refine r.keep b o (up b o (r1.keep b o h n)) fun hb => ?_
    rcases hio b hb with q | q
    · exact n q
    · rw [h] at q; cases q
  · rcases r.fresh b o h with q | q | q
    · exact r1.fresh b o q
    · exact .inr (.inl (no b q))
    · exact .inr ((hio b q).elim .inr .inl)
  · obtain ⟨ad, k⟩ := r.env
    have nad : ∀ j sl, ρ[j]? = some (some sl) → p ∉ ad j := fun j sl e hb => by
      obtain ⟨v, _, _, h3, _⟩ := k j sl e
      rcases h3 p hb with z | z
      · exact hn z
      · replace z : upd H1 p u p = none := z
        rw [upd_same] at z; cases z
    refine ⟨fun j => if j = i then [p] else ad j, fun j sl e => ?_⟩
    rcases get_set e with ⟨e1, e2, e3⟩ | ⟨e1, e2⟩
    · subst e1; cases e3
      refine ⟨.ref p, by rw [List.getElem?_set_self (Nat.lt_of_lt_of_le e2 r.len)], by simpa using mk r.sub0 hH hF, by simp [r1.base hp], fun l sl' hl e' b hb => ?_⟩
      have hb' : b = p := by simpa using hb
      subst hb'
      have ne : l ≠ i := fun q => hl q.symm
      simp only [if_neg ne]
      rcases get_set e' with ⟨z1, _, _⟩ | ⟨z1, z2⟩
      · exact absurd z1 hl
      · exact nad l sl' z2
    · have ne : j ≠ i := fun q => e1 q.symm
      simp only [if_neg ne]
      obtain ⟨v', k1, k2, k3, k4⟩ := k j sl e2
      refine ⟨v', by rw [List.getElem?_set_ne e1]; exact k1, k2, fun b hb => (k3 b hb).elim (hio b) fun q => .inr (no b q), fun l sl'' hl e' b hb => ?_⟩
      rcases get_set e' with ⟨z1, z2, z3⟩ | ⟨z1, z2⟩
      · subst z1; cases z3
        simp only [if_true]
        intro hbl
        have hb' : b = p := by simpa using hbl
        subst hb'
        exact nad j sl e2 hb
      · have ne' : l ≠ i := fun q => z1 q.symm
        simp only [if_neg ne']
        exact k4 l sl'' hl z2 b hb
  · obtain ⟨o1, h1⟩ := r1.trk b o h
    exact r.trk b o1 (up b o1 h1)

/-- {}, a dict of one's own -/
def tDNewX : TE := fun _ H Q => ∀ p, H p = none → ∀ o, Q (.ref p) (upd H p (dctO p o []))
theorem pe_dnewX {X : Cx} {pos : Pos} : PE X (.Dict [] [] pos) tDNewX := ⟨fun pins s σ H Q I h =>
  wpAny_Dict_empty ⟨.ref s.heap.objs.size, _, I.laid (a := s.heap.objs.size) (o := dctO s.heap.objs.size { cls := .type "dict", data := .dict #[] } []) (t' := s.toks) (fun _ _ q => Heap.get?_push_of_some _ q) (Nat.le_refl _)
    (dctO_ok ⟨beq_eq_false_iff_ne.mpr (Ne.symm (Nat.ne_of_lt I.big)), Nat.zero_le _, List.nodup_nil, by simp, X.w, #[], 0, Heap.get?_push_size _ rfl, ⟨rfl, rfl, rfl⟩, rfl, .nil⟩), rfl, h _ (I.hok.fresh (Nat.le_refl _)) _⟩⟩

section
variable {X : Cx} {pins : List (Addr × Obj)} {σ : L2.St} {H F : Hp} {s : Shared}
theorem dctO_get (I : Inv X pins σ H s) (e : Same F H) {a : Addr} {o0 : Obj} {xs : List DEnt} {kvs : List (D × D)} (hH : H a = some (dctO a o0 xs)) (r : DcR X.K F xs kvs) : (a == sysModules) = false ∧ kvs.length ≤ sizeLine ∧
    ∃ ys : List (NestedKey × Addr × Value), s.heap.DictOfH (nestedKind X.prog X.w) a ys ∧ Paired (DR X.K F) kvs ys ∧ ys.length = kvs.length := by
  obtain ⟨⟨z1, z2, z3, z4, w, es, ep, ho, hx, hd, pr⟩, _⟩ := (show ObjOk X.prog X.w H s.heap a (dctO a o0 xs) from I.hok a _ hH)
  obtain ⟨ys, y1, y2, y3, y4⟩ := ents I e w r.ks r.nk r.vs pr z4
  rw [zip_self] at y3
  have l1 := paired_len y3
  have l2 : ys.length = xs.length := by rw [← List.length_map (f := (·.1)), y2, List.length_map]
  exact ⟨z1, by omega, ys, ⟨o0, es, ep, ho, hx, hd, y1, y4, by rw [y2]; exact z3⟩, y3, l1.symm⟩
end
def rSetX (K : PySem.W.Frag) : V → V → V → Hp → (Hp → Prop) → Prop := fun o i v H Q => ∃ F p b oo xs kvs kd n d, o = .ref p ∧ i = .ref b ∧ H p = some (dctO p oo xs) ∧ Same F H ∧ DcR K F xs kvs ∧ Rp K F (.ref b) kd ∧ keyN kd = some n ∧ Rp K F v d ∧ kvs.length < 16777216 ∧
  ∀ o' xs', DcR K F xs' (dSet kvs kd n d) → Q (upd H p (dctO p o' xs'))
theorem set_dictX {X : Cx} {k : Nat} (hr : Room k X.A) : PSet X (rSetX X.K) := by
  intro pins s σ H o i v ov iv u Q I ro ri rv ⟨F, p, b, oo, xs, kvs, kd, n, d, e1, e2, hH, sub, r, rk, hk, rd, hz, q⟩
  subst e1 e2
  cases ro
  cases ri
  obtain ⟨z1, z2, ys, hd, pr, hl⟩ := dctO_get I sub hH r
  obtain ⟨hk1, hk2, _⟩ := keyN_nk hk
  refine wpAny_setItem_heap (knd := nestedKind X.prog X.w) (k := n) (by have := hr.units; show X.A.units + 1 + 8 < cLine; omega) (key_is I sub rk hk1 hk2) hd (fun h' hd' hs => ?_) (by rw [sizeLine_eq] at z2 ⊢; omega)
  have pr' := dset_rel pr rk hk1 rv rd
  have hz' : (dSet kvs kd n d).length ≤ sizeLine := by
    have := dset_length kvs kd n d
    rw [sizeLine_eq]; omega
  obtain ⟨o', xs', d1, d2, d3, d4⟩ := dct_put z1 hz' hd' pr'
  exact ⟨_, d_write I (by rw [hH]; exact True.intro) hs (let ⟨q, _, _, hq, _⟩ := hd'; ⟨q, hq⟩) (dctO_ok d1), q o' xs' ⟨d2, d3, d4⟩⟩

section
variable {α : Type} {C : Ct} {ρ : Env} {m : R α}
/-- an expression that makes a new dict -/
def DND {α : Type} (C : Ct) (ρ : Env) (e : Expr) (m : R α) (κ : List (D × D) → Env → R α → Prop) : Prop :=
  ∀ (X : Cx) (W : Wd) (Z : R α → Prop), XOk C X → W.K = C.K → ClX X W Z → Z m →
    PE X e fun σ H Q => ∃ F, Rel W ρ σ H F ∧ ∀ kvs ρ' m' o xs p H' F', κ kvs ρ' m' → Z m' → Rel W ρ' σ H' F' → Same F F' → H' p = none → DcR W.K F' xs kvs → Q (.ref p) (upd H' p (dctO p o xs))
theorem dnd_empty {κ : List (D × D) → Env → R α → Prop} {pos : Pos} (k : κ [] ρ m) : DND C ρ (.Dict [] [] pos) m κ := by
  intro X W Z x hK c z
  refine PE_imp pe_dnewX fun σ H Q ⟨F, r, q⟩ => fun p hp o => ?_
  exact q [] ρ m o [] p H F k z r (Same.refl _) hp ⟨.nil, rfl, .nil⟩
theorem ds_dct {J : Jd α} {n : Str} {e : Expr} {p pos : Pos} {rest : List Stmt} (i : Nat) (h : DND C ρ e m fun kvs ρ1 m1 => DSs C (ρ1.set i (some (.dct kvs))) rest m1 J) (hN : C.N[i]? = some n := by rfl)
    (hx : Loc C.sc n := by first | exact Or.inl rfl | exact Or.inr rfl) (hfn : C.fn n = true ∨ C.sc.names.lookup n = some .local := by first | exact Or.inl rfl | exact Or.inr rfl) (hs : ∀ env : PySem.Env, env.scope = C.sc → swapsWith e (some (.Name n p)) pos.line env = pure false := by intro env he; rfl) : DSs C ρ (.Assign [.Name n p] e pos :: rest) m J := by
  intro X W Z x hK c z
  have hf : X.fn n = true ∨ X.env.scope.names.lookup n = some .local := hfn.elim (fun h => .inl (x.fnl n h)) fun h => .inr (by rw [x.sc]; exact h)
  refine PSs_imp (pss_cons (ps_set (i := i) (by rw [x.N]; exact x.nd) (by rw [x.N]; exact hN) (by rw [x.sc]; exact hx) (h X W Z x hK c z) (hs _ x.sc) hf) (rest_run (J := J) x hK c)) fun D σ H ⟨F, r, l⟩ => ?_
  refine ⟨F, r, fun kvs ρ' m' oo xs p H' F' h1 h2 h3 h4 h5 h6 => ⟨(m', _), ⟨h1, h2⟩, F', ?_, l⟩⟩
  refine h3.give (F' := F') (H' := upd H' p (dctO p oo xs)) ⟨Same.refl _, fun b o q => by rw [upd_ne (ne_of_none (h3.sub b o q) h5)]; exact h3.sub b o q, fun b o q => by rw [upd_ne (ne_of_none q h5)]; exact q, fun _ _ q => .inl q⟩ i (as := [p]) ⟨p, oo, xs, rfl, rfl, upd_same, h3.sub.free h5, h6⟩ (by simpa using h5)
theorem dps_dct {κ : Env → R α → Prop} {e : Expr} {es : List Expr} {is : List Nat} (i : Nat) (h : DND C ρ e m fun kvs ρ1 m1 => DPs C ρ1 es is m1 fun ρ2 m2 => κ (ρ2.set i (some (.dct kvs))) m2) (hi : i ∉ is := by decide)
    (hs : ∀ env : PySem.Env, starEach (e :: es) env = (false, eval e env) :: starEach es env := by intro _; rfl) : DPs C ρ (e :: es) (i :: is) m κ := by
  intro X W Z x hK c z
  have rest : PA X es fun σ H Q => ∃ (W' : Wd) (j : R α × Env × List (D × D)), (W'.K = C.K ∧ ClX X W' Z) ∧ (DPs C j.2.1 es is j.1 (fun ρ2 m2 => κ (ρ2.set i (some (.dct j.2.2))) m2) ∧ Z j.1) ∧ ∃ F, Rel W' j.2.1 σ H F ∧ ∀ vs ρ' m' H' F', κ (ρ'.set i (some (.dct j.2.2))) m' → Z m' → vs.length = is.length → Rel W' ρ' (setAll σ is vs) H' F' → Same F F' → Q vs H' :=
    ⟨fun po p s σ H Q I ⟨W', j, ⟨hK', c'⟩, pj, q⟩ => (pj.1 X W' Z x hK' c' pj.2).run po p s σ H Q I q⟩
  refine PA_imp (pa_cons (h X W Z x hK c z) rest (hs _)) fun σ H Q ⟨F, r, q⟩ => ⟨F, r, fun kvs ρ1 m1 oo xs p H1 F1 h1 h2 h3 h4 hp h5 => ?_⟩
  obtain ⟨io, rt, hio, hth⟩ := h3.turn
  have hnio : p ∉ io := fun hb => by obtain ⟨o, e⟩ := hth p hb; rw [hp] at e; cases e
  refine ⟨⟨W.K, F1, upd H1 p (dctO p oo xs), io⟩, (m1, ρ1, kvs), ⟨hK, c.turned h3 hio hp⟩, ⟨h1, h2⟩, F1, rt.newAt hp hp _, fun vs ρ2 m2 H2 F2 k1 k2 k3 k4 k5 => q (.ref p :: vs) _ m2 H2 F2 k1 k2 (by simp [k3]) ?_ (h4.trans k5)⟩
  show Rel W _ (setAll (σ.set i (some (.ref p))) is vs) H2 F2
  rw [← setAll_set hi]
  exact k4.laterG (sl := .dct kvs) h3 hio hnio hp (fun sF hH hF => ⟨p, oo, xs, rfl, rfl, hH, hF, h5.mono sF⟩) i
/-- it is read, and from now on a value -/
theorem de_takeD {κ : D → Env → R α → Prop} {n : Str} {pos : Pos} (i : Nat) {kvs : List (D × D)} (hρ : ρ[i]? = some (some (.dct kvs))) (k : κ (.dict kvs) (ρ.set i (some (.val (.dict kvs)))) m) (hN : C.N[i]? = some n := by rfl)
    (hv : Vis C.sc n := by first | exact Or.inl rfl | exact Or.inr (Or.inl rfl) | exact Or.inr (Or.inr rfl)) (hd : (n == ("__debug__" : Str)) = false := by decide) (hcd : (n == ("__classdict__" : Str)) = false := by decide) : DE C ρ (.Name n pos) m κ := by
  intro X W Z x hK c z
  refine PE_imp (pe_var (i := i) (by rw [x.N]; exact hN) (x.vis hv) hd hcd) fun σ H Q ⟨F, r, q⟩ => ?_
  obtain ⟨p, F', h1, h2, h3, h4⟩ := r.freezeD hρ
  exact ⟨_, h1, q _ _ m _ H F' k z h2 h3 h4⟩
theorem ds_keepD {J : Jd α} {sts : List Stmt} (i : Nat) {kvs : List (D × D)} (hρ : ρ[i]? = some (some (.dct kvs))) (k : DSs C (ρ.set i (some (.val (.dict kvs)))) sts m J) : DSs C ρ sts m J := by
  intro X W Z x hK c z
  refine PSs_imp (k X W Z x hK c z) fun D σ H ⟨F, r, l⟩ => ?_
  obtain ⟨p, F', h1, r', ss, rp⟩ := r.freezeD hρ
  exact ⟨F', r', l⟩
/-- d[e1] = e2 -/
theorem ds_setD {J : Jd α} {n : Str} {e1 e2 : Expr} {np sp pos : Pos} {rest : List Stmt} (i : Nat) (h : DE C ρ e2 m fun d ρ1 m1 => (∃ kvs0, ρ1[i]? = some (some (.dct kvs0))) ∧ DE C ρ1 e1 m1 fun j ρ2 m2 => ∃ kvs g, ρ2[i]? = some (some (.dct kvs)) ∧ m2 = (setDM kvs j d).bind g ∧ ∀ ys, DSs C (ρ2.set i (some (.dct ys))) rest (g ys) J) (hN : C.N[i]? = some n := by rfl)
    (hv : Vis C.sc n := by first | exact Or.inl rfl | exact Or.inr (Or.inl rfl) | exact Or.inr (Or.inr rfl)) (hd : (n == ("__debug__" : Str)) = false := by decide) (hcd : (n == ("__classdict__" : Str)) = false := by decide)
    (ha : ∀ (env : PySem.Env) v, assign (.Subscript (.Name n np) e1 sp) env v = (do
      let ov ← holding [v] (eval (.Name n np) env)
      let iv ← holding [v, ov] (eval e1 env)
      standAt sp
      holding [v, ov, iv] (setItem ov iv v)
      release [v, ov, iv] []) := by intro _ _; rfl)
    (hs : ∀ env : PySem.Env, env.scope = C.sc → swapsWithSole [.Subscript (.Name n np) e1 sp] e2 pos.line env = pure false := by intro env he; rfl) (hw : ∀ env : PySem.Env, env.scope = C.sc → swappedStores [.Subscript (.Name n np) e1 sp] e2 env = pure none := by intro env he; rfl)
    (h1 : ∀ env : PySem.Env, (assignEach [.Subscript (.Name n np) e1 sp] env).map (·.2) = [assign (.Subscript (.Name n np) e1 sp) env] := by intro _; rfl) : DSs C ρ (.Assign [.Subscript (.Name n np) e1 sp] e2 pos :: rest) m J := by
  intro X W Z x hK c z
  have hi : PE X e1 fun σ H Q => ∃ (q : R α × Env) (κ : D → Env → R α → Prop), (DE C q.2 e1 q.1 κ ∧ Z q.1) ∧ ∃ F, Rel W q.2 σ H F ∧ ∀ d ρ' m' v H' F', κ d ρ' m' → Z m' → Rel W ρ' σ H' F' → Same F F' → Rp W.K F' v d → Q v H' :=
    ⟨fun p s σ H Q I ⟨i, κ, pi, q⟩ => (pi.1 X W Z x hK c pi.2).run p s σ H Q I q⟩
  refine PSs_imp (pss_cons (ps_asg (h X W Z x hK c z) (pg_sub (own_name x hN hv hd hcd) hi (set_dictX x.room) (ha _)) (hs _ x.sc) (hw _ x.sc) (h1 _)) (rest_run (J := J) x hK c)) fun Dn σ H ⟨F, r, l⟩ => ?_
  refine ⟨F, r, fun d ρ1 m1 v H1 F1 ⟨⟨kvs0, e0⟩, k1⟩ k2 k3 k4 k5 => ?_⟩
  obtain ⟨p, _, xs, a1, a2, _, _, _⟩ := k3.dctAt e0
  refine ⟨_, a1, (m1, ρ1), _, ⟨k1, k2⟩, F1, k3, fun j ρ2 m2 w H2 F2 ⟨kvs, g, b1, b2, b3⟩ j2 j3 j4 j5 => ?_⟩
  subst b2
  obtain ⟨p', oo, xs', c1, c2, _, c4, c5⟩ := j3.dctAt b1
  rw [a1] at c1; cases c1
  obtain ⟨ys, ey, zy⟩ := c.bind j2
  unfold setDM at ey
  split at ey
  · rename_i n' hn
    split at ey
    · rename_i hz; cases ey
      obtain ⟨b, rfl⟩ := key_ref j5 hn
      refine ⟨F2, p, b, oo, xs', kvs, j, n', d, rfl, rfl, c2, j3.sub, by rw [x.K, ← hK]; exact c4, by rw [x.K, ← hK]; exact j5, hn, by rw [x.K, ← hK]; exact k5.mono j4, by simpa using hz, fun o2 xs2 hx2 => ⟨(_, _), ⟨b3 _, zy⟩, F2, c5 o2 _ _ (by rw [x.K, ← hK] at hx2; exact hx2), l⟩⟩
    · cases ey
  · cases ey
/-- a constant of the module that is a whole number -/
theorem con_int {n : Str} {i : Int} {t : Tok} (h : C.mg n = some (.int i t)) : ConD C n (.int i) := ⟨.int i, _, h, ⟨t, rfl⟩, .int i⟩
end
end Z

set_option Elab.async false
set_option linter.all false
set_option maxRecDepth 100000
set_option autoImplicit false
/-! # Z23: comprehensions over a list of one's own that stays one's own -/
namespace Z
open PySem L2
section
variable {α : Type} {C : Ct} {ρ : Env} {m : R α}
theorem lcO_main {κ : D → Env → R α → Prop} {tg elt : Expr} {n : Str} {np : Pos} {ifs : List Expr} {scope : Scope} {vs : List Nat} {X : Cx} {W : Wd} {Z : R α → Prop} (x : XOk C X) (hK : W.K = C.K) (c : ClX X W Z) (z : Z m) (i0 : Nat) {items : List D} (hρ : ρ[i0]? = some (some (.own items))) (hN : C.N[i0]? = some n) (hvv : Vis C.sc n) (hdd : (n == ("__debug__" : Str)) = false) (hcd : (n == ("__classdict__" : Str)) = false)
    (h : ∃ ρb f g, Le ρb (wipeE ρ vs) ∧ valB ρb = true ∧ m = (compL items f).bind g ∧
      (∀ y, DG (C.blk scope) (fun i => i ∈ vs) ρb tg y (f y) fun ρ2 m2 => DTs (C.blk scope) ρ2 ifs m2 fun t ρ3 m3 =>
        (t = true → DE (C.blk scope) ρ3 elt m3 fun d ρ4 m4 => m4 = .ok (some d)) ∧ (t = false → m3 = .ok none)) ∧
      ∀ ys, κ (.list ys) ρ (g ys)) :
    ∃ wi g tt te, PI X tg (.Name n np) wi ∧ (∀ (s : Shared) (H : Hp) (Ca : Addr) (cl : List (Str × Addr)) (fp : List Addr), PG (X.blk s H scope (compEnvC scope cl Ca X.env) fp) tg g) ∧
      (∀ (s : Shared) (H : Hp) (Ca : Addr) (cl : List (Str × Addr)) (fp : List Addr), PTs (X.blk s H scope (compEnvC scope cl Ca X.env) fp) ifs tt) ∧
      (∀ (s : Shared) (H : Hp) (Ca : Addr) (cl : List (Str × Addr)) (fp : List Addr), PE (X.blk s H scope (compEnvC scope cl Ca X.env) fp) elt te) ∧
      ∀ σ H Q, (∃ F, Rel W ρ σ H F ∧ ∀ d ρ' m' v H' F', κ d ρ' m' → Z m' → Rel W ρ' σ H' F' → Same F F' → Rp W.K F' v d → Q v H') → tLc wi g tt te vs σ H Q := by
  refine ⟨_, fun v σ H Q => ∃ (W' : Wd) (τ' : Type) (Z' : R τ' → Prop) (i : R τ' × Env × D) (κ : Env → R τ' → Prop), (DG (C.blk scope) (fun i => i ∈ vs) i.2.1 tg i.2.2 i.1 κ ∧ W'.K = C.K ∧ Cl Z' ∧ Z' i.1) ∧ ∃ F, Rel W' i.2.1 σ H F ∧ Rp W'.K F v i.2.2 ∧ ∀ ρ' m' σ' H' F', κ ρ' m' → Z' m' → Rel W' ρ' σ' H' F' → Same F F' → (∀ us, (∀ i, i ∈ vs → i ∈ us) → wipe σ' us = wipe σ us) → Q σ' H',
    fun σ H Q => ∃ (W' : Wd) (τ' : Type) (Z' : R τ' → Prop) (i : R τ' × Env) (κ : Bool → Env → R τ' → Prop), (DTs (C.blk scope) i.2 ifs i.1 κ ∧ W'.K = C.K ∧ Cl Z' ∧ Z' i.1) ∧ ∃ F, Rel W' i.2 σ H F ∧ ∀ b ρ' m' H' F', κ b ρ' m' → Z' m' → Rel W' ρ' σ H' F' → Same F F' → Q b H',
    fun σ H Q => ∃ (W' : Wd) (τ' : Type) (Z' : R τ' → Prop) (i : R τ' × Env) (κ : D → Env → R τ' → Prop), (DE (C.blk scope) i.2 elt i.1 κ ∧ W'.K = C.K ∧ Cl Z' ∧ Z' i.1) ∧ ∃ F, Rel W' i.2 σ H F ∧ ∀ d ρ' m' v H' F', κ d ρ' m' → Z' m' → Rel W' ρ' σ H' F' → Same F F' → Rp W'.K F' v d → Q v H', pi_list (own_name x hN hvv hdd hcd), ?_, ?_, ?_, ?_⟩
  · exact fun s H Ca cl fp => ⟨fun p s' σ H v u Q I r ⟨W', _, Z', i, κ, ⟨pi, hK', c', z'⟩, q⟩ => (pi _ W' Z' (x.blk s _ Ca cl fp) hK' c' z').run p s' σ H v u Q I r q⟩
  · exact fun s H Ca cl fp => ⟨fun p s' σ H Q I ⟨W', _, Z', i, κ, ⟨pi, hK', c', z'⟩, q⟩ => (pi _ W' Z' (x.blk s _ Ca cl fp) hK' c' z').run p s' σ H Q I q⟩
  · exact fun s H Ca cl fp => ⟨fun p s' σ H Q I ⟨W', _, Z', i, κ, ⟨pi, hK', c', z'⟩, q⟩ => (pi _ W' Z' (x.blk s _ Ca cl fp) hK' c' z').run p s' σ H Q I q⟩
  rintro σ H1 Q ⟨F1, rel1, q⟩
  obtain ⟨ρb, f, g, hle, hv, em, hf, hk⟩ := h
  obtain ⟨pl, vl, s1, hpl, _, rdl, _⟩ := rel1.ownAt hρ
  refine ⟨.ref pl, s1, pl, rfl, ⟨_, SqL.of hpl⟩, fun Da hDa => ?_⟩
  subst em
  obtain ⟨qs0, eq0, zq0⟩ := c.bind z
  obtain ⟨hlen, eq0⟩ := compL_ok eq0
  have vo := valOnly_of hv
  have hF1D : F1 Da = none := rel1.sub.free hDa
  have v1 : VRel W.K F1 ρb (wipe σ vs) := ((rel1.wipe vs).le hle).vrel
  refine ⟨fun i n H => n = items.length - i ∧ i ≤ items.length ∧ ∃ Fi acc ds qs, H Da = some (.lst acc) ∧ Fi Da = none ∧ RpAll W.K Fi acc ds ∧ acc.length ≤ i ∧ Same F1 Fi ∧ Same Fi H ∧ Same H1 H ∧ (∀ b o, Fi b = some o → F1 b = some o ∨ H1 b = none) ∧ compP (items.drop i) f = .ok qs ∧ Z (g (ds ++ qs)),
    ⟨items.length, by simp, Nat.zero_le _, F1, [], [], qs0, upd_same, hF1D, .nil, Nat.le_refl _, Same.refl _, fun b o e => by rw [upd_ne (ne_of_none e hF1D)]; exact rel1.sub b o e, fun b o e => by rw [upd_ne (ne_of_none e hDa)]; exact e, fun _ _ e => .inl e, by simpa using eq0, by simpa using zq0⟩, ?_⟩
  rintro i n H2 ⟨rfl, hi, Fi, acc, ds, qs, hD, hFD, racc, hal, s1i, sih, s1h, fri, eqs, zqs⟩
  by_cases hlt : i < items.length
  · refine .inr ⟨walk_list.goes i H2 (by rw [rdl.length]; exact hlt) (SqL.of (s1h _ _ hpl)), fun H => ∃ Fi acc ds qs, H Da = some (.lst acc) ∧ Fi Da = none ∧ RpAll W.K Fi acc ds ∧ acc.length ≤ i + 1 ∧ Same F1 Fi ∧ Same Fi H ∧ Same H1 H ∧ (∀ b o, Fi b = some o → F1 b = some o ∨ H1 b = none) ∧ compP (items.drop (i + 1)) f = .ok qs ∧ Z (g (ds ++ qs)),
      fun H' hh => ⟨_, by omega, rfl, hlt, hh⟩, fun v H3 y => ?_⟩
    obtain ⟨F3, d, hd, fx, pd⟩ : ∃ F' d, items[i]? = some d ∧ Fx Fi H2 F' H3 ∧ Rp W.K F' v d := by
      obtain ⟨e, hx⟩ := walk_list.yields i H2 v H3 (by rw [rdl.length]; exact hlt) (SqL.of (s1h _ _ hpl)) y
      subst e
      obtain ⟨d, h1, h2⟩ := rdl.at' hx
      exact ⟨Fi, d, h1, Fx.refl sih, h2.mono s1i⟩
    rw [compP_step hd] at eqs
    obtain ⟨p, ep, eqs⟩ := R.bind_eq_ok eqs
    obtain ⟨q2, eq2, eqs⟩ := R.bind_eq_ok eqs
    have clp : Cl fun r : R (Option D) => r = .ok p := ⟨(fun e => nomatch e), (fun _ _ e => nomatch e)⟩
    refine ⟨⟨W.K, F3, H3, []⟩, Option D, fun r => r = .ok p, (f d, ρb, d), _, ⟨hf d, hK, clp, ep⟩, F3, (v1.mono (s1i.trans fx.ff)).rel vo fx.fh, pd, fun ρ2 m2 σ4 H4 F4 h1 h2 h3 h4 hw => ⟨(hw vs fun _ h => h).trans wipe_wipe, ?_⟩⟩
    refine ⟨⟨W.K, F3, H3, []⟩, Option D, fun r => r = .ok p, (m2, ρ2), _, ⟨h1, hK, clp, h2⟩, F4, h3, fun b ρ3 m3 H5 F5 k1 k2 k3 k4 => ?_⟩
    have grow : ∀ {H6 F6 : Hp}, Fx F3 H3 F6 H6 → H6 Da = some (.lst acc) ∧ F6 Da = none ∧ Same F1 F6 ∧ Same H1 H6 ∧ (∀ b o, F6 b = some o → F1 b = some o ∨ H1 b = none) ∧ Same Fi F6 := fun {H6 F6} f6 => by
      have fa := fx.trans f6
      exact ⟨fa.hh _ _ hD, fa.none hFD hD, s1i.trans fa.ff, s1h.trans fa.hh, fun b o e => (fa.new b o e).elim (fun q => fri b o q) fun q => .inr (s1h.free q), fa.ff⟩
    cases b with
    | false =>
      show (if false = true then _ else _)
      rw [if_neg Bool.false_ne_true]
      obtain ⟨g1, g2, g3, g4, g5, g6⟩ := grow k3.fx
      have e3 := k1.2 rfl
      rw [k2] at e3
      cases e3
      cases eqs
      exact ⟨F5, acc, ds, _, g1, g2, racc.mono g6, Nat.le_succ_of_le hal, g3, k3.sub, g4, g5, eq2, zqs⟩
    | true =>
      show (if true = true then _ else _)
      rw [if_pos rfl]
      refine ⟨⟨W.K, F3, H3, []⟩, Option D, fun r => r = .ok p, (m3, ρ3), _, ⟨k1.1 rfl, hK, clp, k2⟩, F5, k3, fun dd ρ4 m4 vv H6 F6 j1 j2 j3 j4 j5 => ?_⟩
      obtain ⟨g1, g2, g3, g4, g5, g6⟩ := grow j3.fx
      rw [j2] at j1
      cases j1
      cases eqs
      have hz : acc.length < 16777216 := by omega
      refine ⟨acc, g1, by rw [sizeLine_eq]; exact hz, F6, acc ++ [vv], ds ++ [dd], q2, upd_same, g2, (racc.mono g6).snoc j5, by simp; omega, g3, fun b o e => by rw [upd_ne (ne_of_none e g2)]; exact j3.sub b o e, fun b o e => by rw [upd_ne (ne_of_none e hDa)]; exact g4 b o e, g5, eq2, by simpa using zqs⟩
  · have e : i = items.length := by omega
    subst e
    rw [List.drop_length] at eqs
    cases eqs
    rw [List.append_nil] at zqs
    refine .inl ⟨by rw [← rdl.length]; exact walk_list.stops H2 (SqL.of (s1h _ _ hpl)), ?_⟩
    have fx : Fx F1 H1 (upd Fi Da (.lst acc)) H2 := ⟨fun b o e => by rw [upd_ne (ne_of_none e hF1D)]; exact s1i b o e, fun b o e => by
      by_cases hb : b = Da
      · subst hb; rw [upd_same] at e; rw [hD]; exact e
      · rw [upd_ne hb] at e; exact sih b o e, s1h, fun b o e => by
      by_cases hb : b = Da
      · subst hb; exact .inr hDa
      · rw [upd_ne hb] at e; exact fri b o e⟩
    exact q _ ρ _ _ H2 _ (hk ds) zqs (rel1.step fx) fx.ff (.lst upd_same (racc.mono fun b o e => by rw [upd_ne (ne_of_none e hFD)]; exact e))

/-- [e for tg in it if ..], the element changes nothing -/
theorem de_lcO {κ : D → Env → R α → Prop} {tg elt : Expr} {n0 : Str} {np : Pos} {ifs : List Expr} {scope : Scope} {pos : Pos} (i0 : Nat) (own : List (Str × Nat)) {items : List D} (hρ : ρ[i0]? = some (some (.own items))) (ok : blkC C.N C.sc scope own = true)
    (h : ∃ ρb f g, Le ρb (wipeE ρ (own.map (·.2))) ∧ valB ρb = true ∧ m = (compL items f).bind g ∧
      (∀ y, DG (C.blk scope) (fun i => i ∈ own.map (·.2)) ρb tg y (f y) fun ρ2 m2 => DTs (C.blk scope) ρ2 ifs m2 fun t ρ3 m3 =>
        (t = true → DE (C.blk scope) ρ3 elt m3 fun d ρ4 m4 => m4 = .ok (some d)) ∧ (t = false → m3 = .ok none)) ∧
      ∀ ys, κ (.list ys) ρ (g ys)) (hN0 : C.N[i0]? = some n0 := by rfl) (hvv : Vis C.sc n0 := by first | exact Or.inl rfl | exact Or.inr (Or.inl rfl) | exact Or.inr (Or.inr rfl)) (hdd : (n0 == ("__debug__" : Str)) = false := by decide) (hcd : (n0 == ("__classdict__" : Str)) = false := by decide) (hs : ∀ (env : PySem.Env) (x : Value), foldedSetIterable (.Name n0 np) env x = pure x := by intro _ _; rfl) : DE C ρ (.ListComp elt [⟨tg, .Name n0 np, ifs, 0⟩] scope pos) m κ := by
  intro X W Z x hK c z
  obtain ⟨wi, g, tt, te, h1, h2, h3, h4, h5⟩ := lcO_main (vs := own.map (·.2)) x hK c z i0 hρ hN0 hvv hdd hcd h
  exact PE_imp (pe_lc x.calm (by rw [x.N]; exact x.nd) h1 (blkOk_by (by rw [x.N, x.sc]; exact ok)) h2 h3 h4 (hs _)) h5
/-- y = [..], y a local, on one line -/
theorem ds_setLcO {J : Jd α} {n : Str} {tg elt : Expr} {n0 : Str} {np : Pos} {ifs : List Expr} {scope : Scope} {p pos cpos : Pos} {rest : List Stmt} (i : Nat) (i0 : Nat) (own : List (Str × Nat)) {items : List D} (hρ : ρ[i0]? = some (some (.own items))) (ok : blkC C.N C.sc scope own = true)
    (h : ∃ ρb f g, Le ρb (wipeE ρ (own.map (·.2))) ∧ valB ρb = true ∧ m = (compL items f).bind g ∧
      (∀ y, DG (C.blk scope) (fun i => i ∈ own.map (·.2)) ρb tg y (f y) fun ρ2 m2 => DTs (C.blk scope) ρ2 ifs m2 fun t ρ3 m3 =>
        (t = true → DE (C.blk scope) ρ3 elt m3 fun d ρ4 m4 => m4 = .ok (some d)) ∧ (t = false → m3 = .ok none)) ∧
      ∀ ys, DSs C (ρ.set i (some (.val (.list ys)))) rest (g ys) J) (hN : C.N[i]? = some n := by rfl) (hy : C.sc.names.lookup n = some .local := by rfl)
    (hsw : ∀ env : PySem.Env, env.scope = C.sc → swapsWith (.ListComp elt [⟨tg, .Name n0 np, ifs, 0⟩] scope cpos) (some (.Name n p)) pos.line env = pure true)
    (hN0 : C.N[i0]? = some n0 := by rfl) (hvv : Vis C.sc n0 := by first | exact Or.inl rfl | exact Or.inr (Or.inl rfl) | exact Or.inr (Or.inr rfl)) (hdd : (n0 == ("__debug__" : Str)) = false := by decide) (hcd : (n0 == ("__classdict__" : Str)) = false := by decide) (hs : ∀ (env : PySem.Env) (x : Value), foldedSetIterable (.Name n0 np) env x = pure x := by intro _ _; rfl) : DSs C ρ (.Assign [.Name n p] (.ListComp elt [⟨tg, .Name n0 np, ifs, 0⟩] scope cpos) pos :: rest) m J := by
  intro X W Z x hK c z
  obtain ⟨wi, g, tt, te, h1, h2, h3, h4, h5⟩ := lcO_main (κ := fun d ρ1 m1 => DSs C (ρ1.set i (some (.val d))) rest m1 J) (vs := own.map (·.2)) x hK c z i0 hρ hN0 hvv hdd hcd h
  refine PSs_imp (pss_cons (ps_setLc (i := i) x.calm (by rw [x.N]; exact x.nd) (by rw [x.N]; exact hN) (by rw [x.sc]; exact hy) (hsw _ x.sc) h1 (blkOk_by (by rw [x.N, x.sc]; exact ok)) h2 h3 h4 (hs _)) (rest_run (J := J) x hK c)) fun Dn σ H ⟨F, r, l⟩ => ?_
  exact h5 σ H (fun y H1 => ∃ j : R α × Env, (DSs C j.2 rest j.1 J ∧ Z j.1) ∧ ∃ F, Rel W j.2 (σ.set i (some y)) H1 F ∧ Lk W J Z Dn) ⟨F, r, fun d ρ' m' v H' F' k1 k2 k3 k4 k5 => ⟨(m', _), ⟨k1, k2⟩, F', k3.set i k5, l⟩⟩
end
end Z

set_option Elab.async false
set_option linter.all false
set_option maxRecDepth 100000
set_option maxHeartbeats 0
set_option autoImplicit false
/-! # Z24: dicts walked by keys, by items -/
namespace Z
open PySem L2

/-- four parts -/
def un4 (d : D) : R (D × D × D × D) := (unpack 4 d).bind fun
  | [a, b, c, e] => .ok (a, b, c, e)
  | _ => .stuck
section
variable {α : Type} {C : Ct} {ρ : Env} {m : R α}
theorem dg_tup4 {L : Nat → Prop} {κ : Env → R α → Prop} {e1 e2 e3 e4 : Expr} {k : Nat} {pos : Pos} {d : D} {g : D × D × D × D → R α} (hm : m = (un4 d).bind g) (h : ∀ a b c d4, DGs C L ρ [e1, e2, e3, e4] [a, b, c, d4] (g (a, b, c, d4)) κ)
    (hn : ∀ env : PySem.Env, (assignEach [e1, e2, e3, e4] env).length = 4 := by intro _; rfl) (hst : ∀ env : PySem.Env, (assignEach [e1, e2, e3, e4] env).findIdx? (·.1) = none := by intro _; rfl) : DG C L ρ (.Tuple [e1, e2, e3, e4] k pos) d m κ := by
  unfold un4 at hm
  rw [R.bind_assoc] at hm
  refine dg_tup hm (fun ds hl => ?_) hn hst
  match ds, hl with
  | [a, b, c, d4], _ => exact h a b c d4
end

/-! ### the entries of a dict whose object is known -/
theorem dctP_raw {d : Addr} {o : Obj} {xs : List DEnt} {h : Heap} {es : Array DictEntry} {ep : Nat} (x : dctP d o xs h) (ho : o.data = .dict es ep) :
    (d == sysModules) = false ∧ h.DictRaw d es ep ∧ es.size = xs.length ∧ ∀ i (hi : i < es.size), ∃ e, xs[i]? = some e ∧ es[i].key = .ref e.2.1 ∧ RelV e.2.2 es[i].val := by
  obtain ⟨z1, z2, z3, z4, w, es', ep', hg, hx, hd, pr⟩ := x
  rw [ho] at hd
  cases hd
  have l := paired_len pr
  refine ⟨z1, ⟨o, hg, hx, ho⟩, by rw [l, Array.length_toList], fun i hi => ?_⟩
  have hi' : i < xs.length := by rw [l, Array.length_toList]; exact hi
  obtain ⟨en, e1, e2, e3, e4⟩ := paired_get pr (List.getElem?_eq_getElem hi')
  rw [Array.getElem?_toList, Array.getElem?_eq_getElem hi] at e1
  cases e1
  exact ⟨xs[i], List.getElem?_eq_getElem hi', e3, e4⟩
theorem dctP_ep {d : Addr} {o : Obj} {xs : List DEnt} {h : Heap} (x : dctP d o xs h) : ∃ es ep, o.data = .dict es ep := by
  obtain ⟨_, _, _, _, _, es, ep, _, _, hd, _⟩ := x
  exact ⟨es, ep, hd⟩

/-- the keys, one by one -/
def Jkeys (d : Addr) (o : Obj) (xs : List DEnt) : It where
  go := fun n H => n < xs.length ∧ H d = some (dctO d o xs)
  yld := fun n H y H' => (∃ e, xs[n]? = some e ∧ y = .ref e.2.1) ∧ H' = H
  stop := fun n H => xs.length ≤ n ∧ H d = some (dctO d o xs)
/-- the items, each a new pair -/
def Jitems (d : Addr) (o : Obj) (xs : List DEnt) : It where
  go := fun n H => n < xs.length ∧ H d = some (dctO d o xs)
  yld := fun n H y H' => ∃ (T : Addr) (e : DEnt), xs[n]? = some e ∧ y = .ref T ∧ H T = none ∧ H' = upd H T (.tup [.ref e.2.1, e.2.2])
  stop := fun n H => xs.length ≤ n ∧ H d = some (dctO d o xs)

section
variable {P : Program} {w : World} {K : PySem.W.Frag} {d : Addr} {o : Obj} {es : Array DictEntry} {ep : Nat} {xs : List DEnt}
theorem turn_keysX {tg : Expr} (iter : Addr) (hod : o.data = .dict es ep) : Turn P w K tg (Jkeys d o xs) [iter] iter (fun n h => h.IsKeyIter iter d n es.size ep) where
  mem := List.mem_singleton.mpr rfl
  obj := fun n h q b hb => by
    cases List.mem_singleton.mp hb
    obtain ⟨oo, g1, _, g3⟩ := q
    exact ⟨oo, g1, fun v z => by rw [g3] at z; cases z⟩
  keep := fun n h h' q kk => q.at fun oo g => kk iter (List.mem_singleton.mpr rfl) oo g
  item := by
    intro X eP ew eK hc n pins s σ H E I hf q ⟨hn, hd⟩
    subst eP ew eK
    have hfi := hf iter (List.mem_singleton.mpr rfl)
    obtain ⟨hs, raw, hsz, ent⟩ := dctP_raw ((show ObjOk X.prog X.w H s.heap d (dctO d o xs) from I.hok d _ hd).1) hod
    have hlt : n < es.size := by omega
    obtain ⟨e, e1, e2, _⟩ := ent n hlt
    refine wpAny_pyNext_keys_item_raw q raw hlt fun h' q' sb => ?_
    have I' : Inv X pins σ H { s with heap := h' } := I.turned (t' := s.toks) (fun b ob hb g => (sb.2 b hb).trans g) hfi.1 hfi.2.1 hfi.2.2.2.1 hfi.2.2.2.2.1 hfi.2.2.2.2.2
    obtain ⟨oo, g1, g2, g3⟩ := id q'
    refine ⟨_, rfl, go_of (s := { s with heap := h' }) g1 g2 g3 (by decide) ⟨.ref e.2.1, H, I', e2, ⟨⟨e, e1, rfl⟩, rfl⟩, q', fun b hb => (hf b hb).1⟩⟩
  done := by
    intro X eP ew eK hc n pins s σ H E I hf q ⟨hn, hd⟩
    subst eP ew eK
    have hfi := hf iter (List.mem_singleton.mpr rfl)
    obtain ⟨hs, raw, hsz, ent⟩ := dctP_raw ((show ObjOk X.prog X.w H s.heap d (dctO d o xs) from I.hok d _ hd).1) hod
    exact wpAny_pyNext_keys_end_raw (I.ok.hd hc) q raw (by omega) fun h' eb => ⟨rfl, I.turned (t' := s.toks) (fun b ob hb g => eb b ob hb g) hfi.1 hfi.2.1 hfi.2.2.2.1 hfi.2.2.2.2.1 hfi.2.2.2.2.2⟩
  self := fun A n s Q E q hQ => wpAny_pyIter_keyiter q hQ
theorem turn_itemsX {elts : List Expr} {kk : Nat} {tp : Pos} (iter : Addr) (hod : o.data = .dict es ep) :
    Turn P w K (.Tuple elts kk tp) (Jitems d o xs) [iter] iter (fun n h => ∃ u1 u2, IsItemIter h iter d n es.size ep u1 u2) where
  mem := List.mem_singleton.mpr rfl
  obj := fun n h ⟨u1, u2, q⟩ b hb => by
    cases List.mem_singleton.mp hb
    exact ⟨_, q, fun v z => nomatch z⟩
  keep := fun n h h' ⟨u1, u2, q⟩ kk => ⟨u1, u2, kk iter (List.mem_singleton.mpr rfl) _ q⟩
  item := by
    intro X eP ew eK hc n pins s σ H E I hf ⟨u1, u2, q⟩ ⟨hn, hd⟩
    subst eP ew eK
    have li : iter < s.heap.objs.size := Heap.lt_size q
    obtain ⟨hs, raw, hsz, ent⟩ := dctP_raw ((show ObjOk X.prog X.w H s.heap d (dctO d o xs) from I.hok d _ hd).1) hod
    have hlt : n < es.size := by omega
    obtain ⟨e, e1, e2, e3⟩ := ent n hlt
    refine wpAny_pyNext_items_item_raw q raw hlt fun h' out hT hz hk => ?_
    refine ⟨_, rfl, wpAny_letOwnedTupleGo_items (s := { s with heap := h' }) out fun h2 q2 sb => ?_⟩
    have hT2 : h2.get? s.heap.objs.size = some { cls := .type "tuple", data := .seq #[es[n].key, es[n].val] } := (sb.2 _ (Nat.ne_of_gt li)).trans hT
    have new : ObjOk X.prog X.w (upd H s.heap.objs.size (.tup [.ref e.2.1, e.2.2])) h2 s.heap.objs.size (.tup [.ref e.2.1, e.2.2]) :=
      ⟨by show (2 : Nat) ≤ sizeLine; decide, [es[n].key, es[n].val], .cons e2 (.cons e3 .nil), _, hT2, rfl, _, rfl⟩
    have I2 : Inv X pins σ (upd H s.heap.objs.size (.tup [.ref e.2.1, e.2.2])) { s with heap := h2 } :=
      I.turnedNew (t' := s.toks) (ch := [iter]) (fun b ob hb g => (sb.2 b fun z => hb (by simp [z])).trans (hk b ob (fun z => hb (by simp [z])) g)) hf (Nat.le_refl _) new
    refine ⟨.ref s.heap.objs.size, _, I2, rfl, ⟨_, e, e1, rfl, I.hok.fresh (Nat.le_refl _), rfl⟩, ⟨_, _, q2⟩, fun b hb => ?_⟩
    cases List.mem_singleton.mp hb
    rw [upd_ne (Nat.ne_of_lt li)]
    exact (hf iter (List.mem_singleton.mpr rfl)).1
  done := by
    intro X eP ew eK hc n pins s σ H E I hf ⟨u1, u2, q⟩ ⟨hn, hd⟩
    subst eP ew eK
    have hfi := hf iter (List.mem_singleton.mpr rfl)
    obtain ⟨hs, raw, hsz, ent⟩ := dctP_raw ((show ObjOk X.prog X.w H s.heap d (dctO d o xs) from I.hok d _ hd).1) hod
    exact wpAny_pyNext_items_end_raw (I.ok.hd hc) q raw (by omega) fun h' eb => ⟨rfl, I.turned (t' := s.toks) (fun b ob hb g => eb b ob hb g) hfi.1 hfi.2.1 hfi.2.2.2.1 hfi.2.2.2.2.1 hfi.2.2.2.2.2⟩
  self := fun A n s Q E ⟨u1, u2, q⟩ hQ => PySem.W.kcp_self q hQ
end

theorem itd_keys {K : PySem.W.Frag} {d : Addr} {o : Obj} {xs : List DEnt} {ks : List D} {F : Hp} (h : F d = some (dctO d o xs)) (r : RpAll K F (xs.map fun x => .ref x.2.1) ks) : ItD K (Jkeys d o xs) ks F where
  goes := fun n F1 H hn s1 s2 => ⟨by rw [← r.length, List.length_map] at hn; exact hn, s2 _ _ (s1 _ _ h)⟩
  stops := fun F1 H s1 s2 => ⟨by rw [← r.length, List.length_map]; exact Nat.le_refl _, s2 _ _ (s1 _ _ h)⟩
  yields := fun n F1 H y H' hn s1 s2 ⟨⟨e, e1, e2⟩, e3⟩ => by
    subst e2 e3
    obtain ⟨kd, k1, k2⟩ := r.at' (i := n) (v := .ref e.2.1) (by rw [List.getElem?_map, e1]; rfl)
    exact ⟨F1, kd, k1, Fx.refl s2, k2.mono s1⟩
def pairD (p : D × D) : D := .tuple [p.1, p.2]
def keysI : D → R (List D)
  | .dict kvs => .ok (kvs.map (·.1))
  | _ => .stuck
def itemsI : D → R (List D)
  | .dict kvs => .ok (kvs.map pairD)
  | _ => .stuck
/-- a dict that is read stands there -/
theorem Rp.dctAt {K : PySem.W.Frag} {F : Hp} {v : V} {kvs : List (D × D)} (h : Rp K F v (.dict kvs)) : (∃ (d : Addr) (o : Obj) (xs : List DEnt), v = .ref d ∧ F d = some (dctO d o xs) ∧ RpAll K F (xs.map fun x => .ref x.2.1) (kvs.map (·.1)) ∧ RpAll K F (xs.map fun x => x.2.2) (kvs.map (·.2))) ∨
    ∃ (d : Addr) (o : Obj) (kv : List (L2.Key × V)), v = .ref d ∧ F d = some (.frz o (.dK kv)) ∧ FcR K F kv kvs := by
  generalize hd : PyData.dict kvs = dd at h
  cases h with
  | non | bl | int | str | lst | tup => cases hd
  | dct hF hk hn hv =>
    cases hd
    have l1 := hk.length
    have l2 := hv.length
    simp only [List.length_map] at l1 l2
    refine .inl ⟨_, _, _, rfl, hF, ?_, ?_⟩
    · rw [List.map_fst_zip (by omega)]; exact hk
    · rw [List.map_snd_zip (by omega)]; exact hv
  | dck hF hk hv => cases hd; exact .inr ⟨_, _, _, rfl, hF, hk, hv⟩
theorem FcR.len {K : PySem.W.Frag} {F : Hp} {kv : List (L2.Key × V)} {kvs : List (D × D)} (r : FcR K F kv kvs) : kvs.length = kv.length := by
  have := congrArg List.length r.ks
  simpa using this
theorem FcR.at' {K : PySem.W.Frag} {F : Hp} {kv : List (L2.Key × V)} {kvs : List (D × D)} (r : FcR K F kv kvs) {n : Nat} {k : L2.Key} {v : V} (e : kv[n]? = some (k, v)) : ∃ d, kvs[n]? = some (keyD k, d) ∧ Rp K F v d := by
  obtain ⟨vd, v1, v2⟩ := r.vs.at' (i := n) (v := v) (by rw [List.getElem?_map, e]; rfl)
  rw [List.getElem?_map] at v1
  obtain ⟨p, hp, e2⟩ := Option.map_eq_some_iff.mp v1
  have hk : (kvs.map (·.1))[n]? = (kv.map fun k => keyD k.1)[n]? := by rw [r.ks]
  rw [List.getElem?_map, List.getElem?_map, e, hp] at hk
  simp only [Option.map_some, Option.some.injEq] at hk
  refine ⟨vd, ?_, v2⟩
  rw [hp]
  obtain ⟨a, b⟩ := p
  simp only at hk e2
  rw [hk, e2]
theorem key_rp {K : PySem.W.Frag} {F : Hp} : ∀ k : L2.Key, Rp K F (kV k) (keyD k)
  | .inl i => .int i
  | .inr x => .str x
theorem itd_keysF {K : PySem.W.Frag} {d : Addr} {o : Obj} {kv : List (L2.Key × V)} {kvs : List (D × D)} {F : Hp} (h : F d = some (.frz o (.dK kv))) (r : FcR K F kv kvs) : ItD K (Itk d o kv) (kvs.map (·.1)) F where
  goes := fun n F1 H hn s1 s2 => ⟨s2 _ _ (s1 _ _ h), by rw [List.length_map, r.len] at hn; exact hn⟩
  stops := fun F1 H s1 s2 => ⟨s2 _ _ (s1 _ _ h), by rw [List.length_map, r.len]; exact Nat.le_refl _⟩
  yields := fun n F1 H y H' hn s1 s2 ⟨e3, k, v, e1, e2⟩ => by
    subst e2 e3
    obtain ⟨d', k1, _⟩ := r.at' e1
    exact ⟨F1, keyD k, by rw [List.getElem?_map, k1]; rfl, Fx.refl s2, key_rp k⟩
section
variable {α : Type} {C : Ct} {ρ : Env} {m : R α}
/-- a dict is walked -/
theorem di_keys {κ : List D → Env → R α → Prop} {tg it : Expr} (h : DE C ρ it m fun d ρ1 m1 => ∃ g, m1 = (keysI d).bind g ∧ ∀ items, κ items ρ1 (g items)) : DI C ρ tg it m κ := by
  intro X W Z x hK c z
  refine ⟨fun pins s σ H Rr I ⟨F, r, q⟩ => ?_⟩
  refine thn ((h X W Z x hK c z).run pins s σ H (fun v H1 => ∃ F1 d ρ1 m1, (∃ g, m1 = (keysI d).bind g ∧ ∀ items, κ items ρ1 (g items)) ∧ Z m1 ∧ Rel W ρ1 σ H1 F1 ∧ Same F F1 ∧ Rp W.K F1 v d) I
    ⟨F, r, fun d ρ' m' v H' F' h1 h2 h3 h4 h5 => ⟨F', d, ρ', m', h1, h2, h3, h4, h5⟩⟩) fun v s1 ⟨vx, H1, I1, r1, F1, d, ρ1, m1, ⟨g, e, hg⟩, z1, rel1, ss, p⟩ => ?_
  subst e
  obtain ⟨items, ei, zi⟩ := c.bind z1
  unfold keysI at ei
  split at ei
  · cases ei
    rcases p.dctAt with ⟨a, o, xs, rfl, hF, rk, _⟩ | ⟨a, o, kv, rfl, hF, rf⟩
    case inr =>
      cases r1
      obtain ⟨hs, hgd, hx, es, ep, vs, hod, hsz, _, _⟩ := I1.frzK (rel1.sub _ _ hF)
      refine wpAny_pyIter_dict_raw hs (es := es) (ep := ep) ⟨o, hgd, hx, hod⟩ (pi_one (tk := s1.toks) I1 _ (turn_keys (kvs := kv) _ hod) (by rw [hsz]; exact ⟨_, Heap.get?_push_size _ rfl, rfl, rfl⟩) ?_)
      refine q _ ρ1 _ _ H1 F1 (hg _) zi rel1 ss ?_
      exact itd_keysF hF rf
    cases r1
    obtain ⟨dp, _⟩ := (show ObjOk X.prog X.w H1 s1.heap a (dctO a o xs) from I1.hok a _ (rel1.sub _ _ hF))
    obtain ⟨es, ep, hod⟩ := dctP_ep dp
    obtain ⟨hs, raw, hsz, _⟩ := dctP_raw dp hod
    refine wpAny_pyIter_dict_raw hs raw (pi_one (tk := s1.toks) I1 _ (turn_keysX (xs := xs) _ hod) ⟨_, Heap.get?_push_size _ rfl, rfl, rfl⟩ ?_)
    refine q _ ρ1 _ _ H1 F1 (hg _) zi rel1 ss ?_
    exact itd_keys hF rk
  · cases ei
end
end Z

set_option Elab.async false
set_option linter.all false
set_option maxRecDepth 100000
set_option maxHeartbeats 0
set_option autoImplicit false
/-! # Z25: an own exception class whose __init__ says super().__init__(x), then self.f = x: it is made -/
namespace Z
open PySem PySem.W PySem.Calls PyProof.Rows PySem.HandSPX

/-! ### its text -/
def sArgs (p1 p2 : Pos) : Arguments := { posonlyargs := [], args := [{ arg := "self", annotation := none, pos := p1 }, { arg := "number", annotation := none, pos := p2 }], vararg := none, kwonlyargs := [], kw_defaults := [], kwarg := none, defaults := [] }
def sBody (a1 a2 a3 a4 a5 a6 b1 b2 b3 b4 : Pos) : List Stmt :=
  [.Expr (.Call (.Attribute (.Call (.Name "super" a1) [] [] a2) "__init__" a3) [.Name "number" a4] [] a5) a6, .Assign [.Attribute (.Name "self" b1) "number" b2] (.Name "number" b3) b4]
def sScope : Scope := { kind := .function, names := [(PySem.Str.ofString "self", .local), (PySem.Str.ofString "number", .local), (PySem.Str.ofString "__class__", .free), (PySem.Str.ofString "super", .globalImplicit)], isGenerator := false, isCoroutine := false, more := [] }
/-- what the top has left of the class at C, its __init__ at g, the cell __class__ at cc, the code at cda -/
structure SupC (prog : Program) (K : Frag) (mg : Str → Option Value) (cn : Str) (C g cc cda : Addr) : Prop where
  gC : mg cn = some (.ref C)
  cls : ∃ nm q N bs bm sn sub ab col dd k0 k1 k2 k3 k5, K.lookup C = some (excClassObj nm q C N bs bm true sn sub ab col dd k0 k1 k2 k3 k5 "ValueError.__new__") ∧ refsVE bm = true
  sa : findIn K (.ref C) "__setattr__" = some (some (.builtin "object.__setattr__"))
  ga : findIn K (.ref C) "__getattribute__" = some (some (.builtin "BaseException.__getattribute__"))
  gg : findIn K (.ref C) "__getattr__" = some none
  noF : findIn K (.ref C) "number" = some none
  iC : findIn K (.ref C) "__init__" = some (some (.ref g))
  tg : typeIn K (.ref g) = some (.type "function")
  kC : keepIn K (.ref C) = true
  exC : subIn K (.ref C) (.type "BaseException") = some true
  veC : subIn K (.ref C) (.type "ValueError") = some true
  tyC : typeIn K (.ref C) = some (.type "type")
  hdC : hasDictIn K C = true
  te : exmOne K (.ref C) (.ref C) = some true
  up : ks_superIn K C C "__init__" = some (some (.builtin "ValueError.__init__"))
  self : mroIn K C (.ref C) = some true
  opq : nsIn K cStatics "thirdparty.any" = some none
  noS : mg "super" = none
  top : (prog.main.scope.names.lookup ("super" : Str)).isSome = false
  cell : ∃ (cl : Value) (cld : Option Addr) (csl : Array (Option Value)), K.lookup cc = some ⟨cl, cld, .cell (some (.ref C)), csl⟩
  code : ∃ (ccl : Value) (cdd : Option Addr) (vs : Array Value) (ccs : Array (Option Value)) (file : Str) (tf : Tok), K.lookup cda = some ⟨ccl, cdd, .fields vs, ccs⟩ ∧ vs[2]? = some (.str file tf) ∧ ((prog.main.file : Str) == file) = true
  fn : ∃ (oc : Value) (od : Option Addr) (doc pm : Value) (an : Option Addr) (ct : Value) (osl : Array (Option Value)) (qual : Str) (p1 p2 a1 a2 a3 a4 a5 a6 b1 b2 b3 b4 : Pos), (a3.endLine == a5.line) = true ∧ (a1.endLine == a1.endLine) = true ∧
    K.lookup g = some ⟨oc, od, .func (fnX "__init__" qual (sArgs p1 p2) (sBody a1 a2 a3 a4 a5 a6 b1 b2 b3 b4) sScope [("__class__", cc)] .none .none doc pm an (.ref cda) ct), osl⟩ ∧ codeIn K (.ref cda) qual = true

theorem one_fits (v : Value) : [v].length ≤ sizeLine := by rw [sizeLine_eq]; show 1 ≤ 16777216; decide
/-- a fresh exception behind its __init__ -/
structure Inited (h h' : Heap) (x C dx t1 : Addr) (v : Value) : Prop where
  keep : ∀ b o, b ≠ x → h.get? b = some o → h'.get? b = some o
  obj : h'.get? x = some { cls := .ref C, dict := some dx, data := .fields #[.ref t1, .none, .none, .none, .bool false, .none] }
  big : h.objs.size ≤ dx
  ne : dx ≠ x
  ns : h'.Ns1 dx (fun y => if y = "number" then some v else none)

section
variable {prog : Program} {w : World} {A : Around} {E : Value → Shared → Prop} {R : Result → Shared → Prop} {s : Shared} {K : Frag} {mg : Str → Option Value} {cn : Str} {C g cc cda : Addr} {base : Heap}

theorem loadL {M : Model} {env : PySem.Env} {m : Str → Option Value} {x : Str} {pos : Pos} {v : Value} {Q : Value → Shared → Prop} (hn : s.heap.Ns env.locals m) (hv : m x = some v) (q : Q v s) (hk : env.scope.kind = .function) (hl : env.kindOf x = some .local) (hd : (x == ("__debug__" : Str)) = false) : wpAny M A (eval (.Name x pos) env) Q E s :=
  wpAny_Name (wpAny_loadName_local hk hl hn hv q) hd
/-- ValueError.__init__ bound to the exception at x, called -/
theorem callUp {x u t0 : Addr} {rest : List Value} {Q : Value → Shared → Prop} {nm q : Str} {N : Addr} {bs bm : List Value} {hdct : Bool} {sn : List Str} {sub : List Value} {ab : Bool} {col : Option Bool} {dd : Option Addr} {k0 k1 k2 k3 k5 : Option Value}
    (hC : s.heap.get? C = some (excClassObj nm q C N bs bm hdct sn sub ab col dd k0 k1 k2 k3 k5 "ValueError.__new__")) (hx : s.heap.get? x = some (excO C t0)) (hu : s.heap.get? u = some (kxs_mw "ValueError.__init__" x)) (hz : rest.length ≤ sizeLine)
    (hq : ∀ h', (∀ b o, b ≠ x → s.heap.get? b = some o → h'.get? b = some o) → h'.get? x = some (excO C s.heap.objs.size) → Q .none { s with heap := h' }) :
    wpAny (model prog w) A (call (.ref u) rest) Q E s := by
  obtain ⟨hp, gs, dr, tk, os⟩ := s
  refine wpAny_call (codeAny_of_tree ?_)
  show wpAny _ A.in1 (callAny (.ref u) ⟨rest, []⟩) _ _ _
  simp only [callAny]
  refine wpAny_bind (wpAny_load hu ?_)
  simp only [kxs_mw, show (Value.type "method-wrapper" == Value.type "method" || Value.type "method-wrapper" == Value.type "builtin_function_or_method" || Value.type "method-wrapper" == Value.type "method-wrapper") = true by decide, if_true]
  refine KFB.if_so (by decide) (wpAny_bind (check_bound_init PySem.F.excBase_ValueError.toExcCallFacts hC hx rfl ?_))
  refine wpAny_bind (wpAny_pure (wpAny_pure ⟨plainId_quiet PySem.F.excBase_ValueError.init.plain _, codeAny_builtin PySem.F.excBase_ValueError.initEntry ?_⟩))
  exact exc_init_tree (cls := .ref C) (t0 := t0) (dv := none) (c2 := .none) (c3 := .none) (b4 := .bool false) hx hz fun h' k e' _ => hq h' k e'
/-- o.n(e), its parts on one line -/
theorem eval_meth {o e : Expr} {nm : Str} {ap cp : Pos} {env : PySem.Env} (hl : (ap.endLine == cp.line) = true) (hs : starEach [e] env = [(false, eval e env)]) :
    eval (.Call (.Attribute o nm ap) [e] [] cp) env = (do
      let ov ← attributeBase o nm env (eval o env)
      standAt ap.atName
      let (f, first) ← holding [ov] (getMethod ov nm (do return (← importBound o env).getD true))
      callWith cp f first (backTo cp (starEach [e] env)) []) := by
  rw [arm_eval_Call]
  have form : methodCallForm (([e] : List Expr).length + ([] : List Keyword).length) (backTo cp (starEach [e] env)) (backToKw cp (keywordEach [] env)) = true := by rw [hs]; rfl
  have hp : methodCallPos true o env ap cp = pure cp := by unfold methodCallPos; simp [hl]
  unfold methodCall calleeOf
  rw [form, hp]
  rfl
/-- self, the number: __init__ -/
theorem sup_init (T : SupC prog K mg cn C g cc cda) (md : L2.Mod K mg base) (k0 : ∀ b o, base.get? b = some o → s.heap.get? b = some o) {x t0 : Addr} {v : Value} (hx : s.heap.get? x = some (excO C t0)) (hnx : K.lookup x = none) (hroom : A.depth < recursionLimit)
    (hq : ∀ h' tk dx t1, Inited s.heap h' x C dx t1 v → R (.ok (.ret .none)) { s with heap := h', toks := tk }) :
    codeAny (model prog w) A (.call (.ref g) ⟨[.ref x, v], []⟩) R s := by
  obtain ⟨oc, od, doc, pm, an, ct, osl, qual, p1, p2, a1, a2, a3, a4, a5, a6, b1, b2, b3, b4, hline, _, ho, hcd⟩ := T.fn
  obtain ⟨nm, q, N, bs, bm, sn, sub, ab, col, dd, e0, e1, e2, e3, e5, hC, hbm⟩ := T.cls
  obtain ⟨cl, cld, csl, hcell⟩ := T.cell
  obtain ⟨ccl, cdd, vs, ccs, file, tf, hcode, hvs, hfile⟩ := T.code
  obtain ⟨mb, hmb, hboot⟩ := md.blt
  have kin : K.In s.heap := md.kin.keeps k0
  have hcl : clsIn K C = some { name := nm, bases := bs, mro := .ref C :: bm, ns := N, qualname := q, hasDict := true, slotNames := sn, subclasses := sub, abstract := ab, collection := col, hasDel := false } := by unfold clsIn; rw [hC] <;> rfl
  have hxC : x ≠ C := fun z => by rw [z, hC] at hnx; cases hnx
  refine ks_codeAny_call_defAt (fd := fnX "__init__" qual (sArgs p1 p2) (sBody a1 a2 a3 a4 a5 a6 b1 b2 b3 b4) sScope [("__class__", cc)] .none .none doc pm an (.ref cda) ct) (body := sBody a1 a2 a3 a4 a5 a6 b1 b2 b3 b4) (binds := [("self", .ref x), ("number", v)])
    (args := ⟨[.ref x, v], []⟩) hroom (kin _ _ ho) rfl (md.nolimit.keeps k0) (codeRec_of kin hcd) rfl (BindsTo.of_eq (by first | rfl | with_unfolding_all rfl)) (show ∀ z ∈ sScope.names, z.2 ≠ .cell by decide) (fun z hz => ?_) (fun h1 hns hk => ?_) rfl rfl rfl
  · rcases List.mem_cons.mp hz with rfl | hz
    · exact (rfl : sScope.names.lookup ("self" : Str) = some .local)
    · rcases List.mem_cons.mp hz with rfl | hz
      · exact (rfl : sScope.names.lookup ("number" : Str) = some .local)
      · cases hz
  have kin1 : K.In h1 := kin.keeps hk
  have hx1 := hk _ _ hx
  have xL : s.heap.objs.size ≠ x := Nat.ne_of_gt (Heap.lt_size hx)
  have hxC' : (excO C t0).cls = .ref C := rfl
  have I1 : W.InstAt h1 x (excO C t0) C none := ⟨hx1, rfl, rfl, trivial⟩
  have hD := kin1 _ _ hC
  refine ks_wpAt_execs_cons (ks_wpAt_Expr_any (ks_wpAt_MethodCall (ks_wpAt_super_base (attr := "__init__") (ar := { arg := "self", annotation := none, pos := p1 }) (show sScope.names.lookup ("super" : Str) = _ from rfl) (show sScope.names.lookup ("__class__" : Str) = _ from rfl) (by decide) rfl (kin1 _ _ ho) rfl rfl rfl (kin1 _ _ hcode) rfl hvs hfile T.top ?_) (eval_meth hline rfl)))
  refine ks_loadName_global rfl (show sScope.names.lookup ("super" : Str) = _ from rfl) (loadGlobal_builtin ((md.glob.keeps k0).keeps hk) T.noS ((hmb.keeps k0).keeps hk) ((hboot "super" (by decide)).trans (by first | rfl | decide +kernel)) ⟨rfl, ?_⟩)
  refine wpAny_loadName_free (v := .ref C) rfl (show sScope.names.lookup ("__class__" : Str) = _ from rfl) (c := cc) rfl ⟨_, kin1 _ _ hcell, rfl⟩ ?_
  refine wpAny_loadName_local (v := .ref x) rfl (show sScope.names.lookup ("self" : Str) = _ from rfl) hns (by first | rfl | with_unfolding_all rfl | kernel_rfl) ?_
  refine ks_wpAny_isType_cls hD rfl ⟨rfl, ?_⟩
  refine ks_wpAny_call_super hD rfl hx1 rfl (fun c z => nomatch z) (looks_mroIn kin1 T.self) (fun h2 hso k2 => ?_)
  have kin2 : K.In h2 := kin1.keeps k2
  have I2 : W.InstAt h2 x (excO C t0) C none := ⟨k2 _ _ hx1, rfl, rfl, trivial⟩
  have hmro : W.Looks (model prog w) h2 (mroOf (.ref C)) (.ref C :: bm) := fun A Q E s k q => wpAny_bind ((looks_clsIn kin2 hcl) A _ E s k (wpAny_pure q))
  have hal : alongIn K "__init__" (((Value.ref C :: bm).dropWhile (· != .ref C)).drop 1) = some (some (.builtin "ValueError.__init__")) := by
    have z := T.up
    unfold ks_superIn at z
    rw [hcl] at z
    exact z
  have his : W.Looks (model prog w) h2 (isInstance (.ref x) (.type "ValueError")) true := I2.type.andThen (looks_subIn kin2 T.veC)
  refine kxs_getMethod kxs_ValueError hso (looks_opaque kin2 T.opq) hmro rfl kin2 hal his hxC (by decide) ?_
  refine kxs_callWith (i := "ValueError.__init__") (x := x) rfl (evalArgs_plain ?_)
  have k3 : ∀ b o, h2.get? b = some o → (h2.push (kxs_mw "ValueError.__init__" x)).get? b = some o := fun b o e => Heap.get?_push_of_some _ e
  show wpAny _ _ (spliced ((false, eval (.Name "number" a4) _) :: backTo a5 (starEach [] _))) _ _ _
  refine Calls.spliced_cons (loadL (v := v) ((hns.keeps k2).keeps k3) (by first | rfl | with_unfolding_all rfl | kernel_rfl) ?_ rfl rfl (by decide))
  refine Calls.spliced_nil ⟨Heap.get?_push_size _ rfl, ?_⟩
  refine callUp (hC := (kin2.keeps k3) _ _ hC) (hx := k3 _ _ (k2 _ _ hx1)) (hu := Heap.get?_push_size _ rfl) (one_fits v) (fun h4 k4 hx4 => ?_)
  have kin4 : K.In h4 := fun b o e => k4 b o (fun z => by rw [z, hnx] at e; cases e) ((kin2.keeps k3) b o e)
  have hns4 := ((hns.keeps k2).keeps k3).at (h' := h4) fun o e => k4 _ o xL e
  show _root_.PySem.wpAt _ _ _ _ _ _ _
  refine ks_wpAt_execs_cons (ks_wpAt_Assign_Attr (wpAt_of_wpAny (loadL (v := v) hns4 (by first | rfl | with_unfolding_all rfl | kernel_rfl) (loadL (v := .ref x) hns4 (by first | rfl | with_unfolding_all rfl | kernel_rfl) ?_ rfl rfl (by decide)) rfl rfl (by decide))))
  refine set_plain kin4 (ox := excO C _) (od := none) ⟨hx4, rfl, rfl, trivial⟩ T.sa ?_
  refine exc_osa kin4 hx4 hcl (show refsVE (.ref C :: bm) = true from hbm) rfl T.noF (fun h5 tk5 dx k5 dn dne hx5 hn5 => ?_)
  have up : s.heap.objs.size ≤ dx := by
    have z : s.heap.objs.size < h4.objs.size := hns4.lt
    exact Nat.le_of_lt (Nat.lt_of_lt_of_le z dn)
  show _root_.PySem.wpAt _ _ _ _ _ _ _
  exact wpAt_of_wpAny (wpAny_execs_nil (hq h5 tk5 dx _ ⟨fun b o hb e => k5 b o hb (k4 b o hb (k3 b o (k2 b o (hk b o e)))), hx5, up, dne, hn5⟩))
/-- C(v) -/
structure Made (h h' : Heap) (e C d : Addr) (v : Value) : Prop where
  keep : ∀ b o, h.get? b = some o → h'.get? b = some o
  new : h.objs.size ≤ e
  obj : ∃ oe vs, h'.get? e = some oe ∧ oe.cls = .ref C ∧ oe.dict = some d ∧ oe.data = .fields vs ∧ vs[1]? = some .none
  big : h.objs.size ≤ d
  ne : d ≠ e
  ns : h'.Ns1 d (fun y => if y = "number" then some v else none)
theorem sup_made (T : SupC prog K mg cn C g cc cda) (md : L2.Mod K mg base) (k0 : ∀ b o, base.get? b = some o → s.heap.get? b = some o) {v : Value} (hroom : A.depth + 1 < recursionLimit)
    (hq : ∀ h' tk e d, Made s.heap h' e C d v → R (.ok (.ret (.ref e))) { s with heap := h', toks := tk }) : codeAny (model prog w) A (.call (.ref C) ⟨[v], []⟩) R s := by
  obtain ⟨nm, q, N, bs, bm, sn, sub, ab, col, dd, e0, e1, e2, e3, e5, hC, hbm⟩ := T.cls
  have kin : K.In s.heap := md.kin.keeps k0
  obtain ⟨hp, gs, dr, tk, os⟩ := s
  have up2 : ∀ b o, hp.get? b = some o → ((hp.push (kdv_tup [v])).push (excO C hp.objs.size)).get? b = some o := fun b o e => Heap.get?_push_of_some _ (Heap.get?_push_of_some _ e)
  have at2 : ((hp.push (kdv_tup [v])).push (excO C hp.objs.size)).get? (hp.objs.size + 1) = some (excO C hp.objs.size) := by heap_get
  have free2 : K.lookup (hp.objs.size + 1) = none := by
    cases z : K.lookup (hp.objs.size + 1) with
    | none => rfl
    | some o => exact absurd (Nat.lt_of_succ_lt (Heap.lt_size (kin _ _ z))) (Nat.lt_irrefl _)
  refine call_own PySem.F.excBase_ValueError (fun Y => refsVE_contains Y bm hbm) (kin _ _ hC) (looks_findIn kin T.iC) (fun self => bind_fn kin self T.tg) (one_fits v) ?_
  refine sup_init (s := ⟨(hp.push (kdv_tup [v])).push (excO C hp.objs.size), gs, dr, tk, os⟩) T md (fun b o e => up2 b o (k0 b o e)) at2 free2 (show A.depth + 1 < recursionLimit from hroom) fun h' tk' dx t1 M => ⟨rfl, hq h' tk' (hp.objs.size + 1) dx ?_⟩
  have big : hp.objs.size + 1 + 1 ≤ dx := by
    have z := M.big
    first
      | (simpa only [Heap.size_push] using z)
      | exact z
      | (rw [Heap.size_push, Heap.size_push] at z; exact z)
  exact ⟨fun b o e => M.keep b o (Nat.ne_of_lt (Nat.lt_succ_of_lt (Heap.lt_size e))) (up2 b o e), Nat.le_succ _, ⟨_, _, M.obj, rfl, rfl, rfl, rfl⟩, Nat.le_trans (Nat.le_trans (Nat.le_succ _) (Nat.le_succ _)) big, M.ne, M.ns⟩
end
end Z
namespace Z
open PySem L2
theorem relO_one {v : V} {u : Value} (r : RelV v u) (f : Str) : RelO (List.lookup f [(("number" : Str), v)]) (if f = "number" then some u else none) := by
  by_cases h : f = "number"
  · subst h
    rw [if_pos rfl, show List.lookup ("number" : Str) [(("number" : Str), v)] = some v by simp [List.lookup]]
    exact r
  · rw [if_neg h, show List.lookup f [(("number" : Str), v)] = none by simp [List.lookup, show (f == ("number" : Str)) = false by simpa using h]]
    trivial
section
variable {X : Cx} {C g cc cda : Addr} {cn : Str}
/-- C(e): the exception that is made -/
def tSup (C : Addr) (ta : TA) : L2.St → Hp → XK → Prop := fun σ H Q => ta σ H fun vs H1 => ∃ v, vs = [v] ∧ ∀ d, H1 d = none → Q (.ref C) (some d) (upd H1 d (.xd [(("number" : Str), v)]))
theorem pmk_sup {a : Expr} {ta : TA} {p pos : Pos} {k : Nat} (T : SupC X.prog X.K X.mg cn C g cc cda) (rm : Room k X.A) (ha : PA X [a] ta) (hg : Gl X cn) (hdb : (cn == ("__debug__" : Str)) = false) (he : starEach (a :: []) X.env = (false, eval a X.env) :: starEach [] X.env) (hpl : (backTo pos (starEach [] X.env)).any (·.1) = false) :
    PMk X (.Call (.Name cn p) [a] [] pos) (tSup C ta) := by
  intro pins s σ H Q I ask
  refine wpAny_Call_Name_kw (ld_glob I hg T.gC ?_ hdb)
  refine PySem.W.callWith_K (h₀ := X.base) I.ok.mod.kin T.kC (thn (ha.run pos pins s σ H _ I ask) fun us s1 ⟨vs, H1, I1, r1, v, ev, q1⟩ => ?_) he hpl
  subst ev
  refine ⟨I1.kIn, ?_⟩
  obtain ⟨u, rfl, rv⟩ := Vals.one r1
  show wpAny _ _ (call (.ref C) [u]) _ _ _
  have k0 : ∀ b o, X.base.get? b = some o → s1.heap.get? b = some o := I1.bk
  obtain ⟨hp, gs, dr, tk, os⟩ := s1
  refine wpAny_call (sup_made T I1.ok.mod k0 (by have := rm.dp; omega) fun h' tk' e d M => ?_)
  show MkP X pins σ Q (.ref e) ⟨h', gs, dr, tk', os⟩
  obtain ⟨oe, fv, hoe, hc, hd, hdat, h1⟩ := M.obj
  obtain ⟨G', g1, g2⟩ := restrict h' fun b => decide (b ≠ e)
  have gk : ∀ b, b ≠ e → G'.get? b = h'.get? b := fun b hb => g1 b (decide_eq_true hb)
  have ge : G'.get? e = none := g2 e (by simp)
  have old : ∀ b o, hp.get? b = some o → G'.get? b = some o := fun b o q => (gk b (Nat.ne_of_lt (Nat.lt_of_lt_of_le (Heap.lt_size q) M.new))).trans (M.keep b o q)
  have J : Inv X pins σ (upd H1 d (.xd [(("number" : Str), v)])) ⟨G', gs, dr, tk', os⟩ := I1.laid (t' := tk') old M.big ⟨_, M.ns.at (fun o q => (gk d M.ne).trans q), fun f => relO_one rv f⟩
  refine ⟨e, oe, fv, ⟨G', gs, dr, tk', os⟩, _, .ref C, some d, rfl, J, fun b o q => ?_, ge, hoe, ⟨hc, hd⟩, hdat, h1, ?_, rfl, I1.bare, raises_own T.exC T.tyC, q1 d (I1.hok.fresh M.big)⟩
  · by_cases hb : b = e
    · have q' : G'.get? b = some o := q
      rw [hb, ge] at q'; cases q'
    · exact (gk b hb).symm.trans q
  · rw [upd_ne (Ne.symm M.ne)]
    exact I1.hok.fresh M.new
end
end Z

set_option Elab.async false
set_option linter.all false
set_option maxRecDepth 100000
set_option maxHeartbeats 0
set_option autoImplicit false
/-! # Z26: dicts of their own with flat keys; stars in displays; methods of values (dict.get, list.index) -/
namespace Z
open PySem L2

section
variable {α : Type} {C : Ct} {ρ : Env} {m : R α}
/-! ### stars -/
theorem da_star {κ : List D → Env → R α → Prop} {e : Expr} {p : Pos} {es : List Expr} (h : DE C ρ e m fun d ρ1 m1 => ∃ g, m1 = (iterL d).bind g ∧ ∀ xs, DA C ρ1 es (g xs) fun ds ρ2 m2 => κ (xs ++ ds) ρ2 m2)
    (hs : ∀ env : PySem.Env, starEach (.Starred e p :: es) env = (true, eval e env) :: starEach es env := by intro _; rfl) : DA C ρ (.Starred e p :: es) m κ := by
  intro X W Z x hK c z
  have rest : PA X es fun σ H Q => ∃ i : R α × Env × List D, (DA C i.2.1 es i.1 (fun ds ρ2 m2 => κ (i.2.2 ++ ds) ρ2 m2) ∧ Z i.1) ∧ ∃ F, Rel W i.2.1 σ H F ∧ ∀ ds ρ' m' vs H' F', κ (i.2.2 ++ ds) ρ' m' → Z m' → Rel W ρ' σ H' F' → Same F F' → RpAll W.K F' vs ds → Q vs H' :=
    ⟨fun po p s σ H Q I ⟨i, pi, q⟩ => (pi.1 X W Z x hK c pi.2).run po p s σ H Q I q⟩
  refine PA_imp (StX.pa_star (h X W Z x hK c z) rest (hs _)) fun σ H Q ⟨F, r, q⟩ => ⟨F, r, fun d ρ' m' v H' F' ⟨g, e, hg⟩ h2 h3 h4 h5 => ?_⟩
  subst e
  obtain ⟨xs, ex, zx⟩ := c.bind h2
  have sub := h3.sub
  unfold iterL at ex
  split at ex
  · cases ex
    obtain ⟨p, ys, rfl, hp, rys⟩ := h5.toTup
    refine ⟨p, ys, rfl, .inl (by rw [x.K, ← hK]; exact seqT sub hp), (_, ρ', _), ⟨hg _, zx⟩, F', h3, fun ds ρ2 m2 vs H2 F2 k1 k2 k3 k4 k5 => q _ ρ2 m2 _ H2 F2 k1 k2 k3 (h4.trans k4) ((rys.mono k4).append k5)⟩
  · cases ex
    obtain ⟨p, ys, rfl, hp, rys⟩ := h5.toList
    refine ⟨p, ys, rfl, .inr (SqL.of (sub _ _ hp)), (_, ρ', _), ⟨hg _, zx⟩, F', h3, fun ds ρ2 m2 vs H2 F2 k1 k2 k3 k4 k5 => q _ ρ2 m2 _ H2 F2 k1 k2 k3 (h4.trans k4) ((rys.mono k4).append k5)⟩
  · cases ex

/-! ### a flat dict of one's own -/
theorem de_takeF {κ : D → Env → R α → Prop} {n : Str} {pos : Pos} (i : Nat) {kvs : List (D × D)} (hρ : ρ[i]? = some (some (.dck kvs))) (k : κ (.dict kvs) (ρ.set i (some (.val (.dict kvs)))) m) (hN : C.N[i]? = some n := by rfl)
    (hv : Vis C.sc n := by first | exact Or.inl rfl | exact Or.inr (Or.inl rfl) | exact Or.inr (Or.inr rfl)) (hd : (n == ("__debug__" : Str)) = false := by decide) (hcd : (n == ("__classdict__" : Str)) = false := by decide) : DE C ρ (.Name n pos) m κ := by
  intro X W Z x hK c z
  refine ⟨fun pins s σ H Q I ⟨F, r, q⟩ => ?_⟩
  obtain ⟨p, kv, h1, h2, h3, h4, _, h6⟩ := r.dckAt hρ
  refine thn ((own_name x hN hv hd hcd).run pins s σ H (fun v H1 => v = .ref p ∧ H1 = H) I ⟨_, h1, rfl, rfl⟩) fun v s1 ⟨vx, H1, I1, r1, e1, e2⟩ => ?_
  subst e1 e2
  obtain ⟨od, I2⟩ := I1.lock h2 trivial
  obtain ⟨F', r', ss, rp⟩ := h6 od
  exact ⟨_, _, I2, r1, q _ _ m _ _ F' k z r' ss rp⟩
theorem ds_keepF {J : Jd α} {sts : List Stmt} (i : Nat) {kvs : List (D × D)} (hρ : ρ[i]? = some (some (.dck kvs))) (k : DSs C (ρ.set i (some (.val (.dict kvs)))) sts m J) : DSs C ρ sts m J := by
  intro X W Z x hK c z
  refine ⟨fun pins s σ H D I ⟨F, r, l⟩ => ?_⟩
  obtain ⟨p, kv, h1, h2, h3, h4, _, h6⟩ := r.dckAt hρ
  obtain ⟨od, I2⟩ := I.lock h2 trivial
  obtain ⟨F', r', ss, rp⟩ := h6 od
  exact (k X W Z x hK c z).run pins s σ _ D I2 ⟨F', r', l⟩
/-- an expression that makes a new dict with flat keys -/
def DNK {α : Type} (C : Ct) (ρ : Env) (e : Expr) (m : R α) (κ : List (D × D) → Env → R α → Prop) : Prop :=
  ∀ (X : Cx) (W : Wd) (Z : R α → Prop), XOk C X → W.K = C.K → ClX X W Z → Z m →
    PE X e fun σ H Q => ∃ F, Rel W ρ σ H F ∧ ∀ kvs ρ' m' kv p H' F', κ kvs ρ' m' → Z m' → Rel W ρ' σ H' F' → Same F F' → H' p = none → FcR W.K F' kv kvs → Q (.ref p) (upd H' p (.dK kv))
theorem dnk_empty {κ : List (D × D) → Env → R α → Prop} {pos : Pos} (k : κ [] ρ m) : DNK C ρ (.Dict [] [] pos) m κ := by
  intro X W Z x hK c z
  refine PE_imp pe_dnewK fun σ H Q ⟨F, r, q⟩ => fun p hp => ?_
  exact q [] ρ m [] p H F k z r (Same.refl _) hp ⟨rfl, .nil⟩
def rDk (K : PySem.W.Frag) : List V → Hp → VK → Prop := fun vs H Q => ∃ F ps qs, Same F H ∧ RpAll K F vs [.list ps] ∧ pairsF ps = some qs ∧ szOk ps.length = true ∧ ∀ p kv, H p = none → FcR K F kv (fMerge [] qs) → Q (.ref p) (upd H p (.dK kv))
theorem bl_dictK {X : Cx} (hc : X.calm = true) : CallR X (.type "dict") (rDk X.K) := by
  intro pins s σ H vs us Q I rv ⟨F, ps, qs, sub, ra0, hq, hz, q⟩
  obtain ⟨v, rfl, ra⟩ := ra0.one
  obtain ⟨p, xs, rfl, hp, rxs⟩ := ra.toList
  obtain ⟨u, rfl, ru⟩ := Vals.one rv
  cases ru
  obtain ⟨its, ri, ⟨o, n, ho, h1, h2, h3⟩, hsz⟩ := I.list (SqL.of (sub _ _ hp))
  obtain ⟨kv, prs, t0, t1, t2, t3, t4, t5⟩ := pairs_getF I sub rxs ri hq
  have hz' := szOk_line hz
  have lx := rxs.length
  have li : xs.length = its.length := ri.length
  have hm : (s.heap.objs.size == sysModules) = false := beq_eq_false_iff_ne.mpr (Nat.ne_of_gt I.big)
  have hlen : (mergeK [] kv).length ≤ sizeLine := by
    refine Nat.le_trans (length_mergeK kv []) ?_
    rw [List.length_nil, Nat.zero_add, t0.length, ← t1, ← li, lx]
    exact hz'
  refine L2.call_dict_pairs (prs := prs) (I.ok.hd hc) ho h1 h2 h3 (by simp [t1]) (by rw [← t1, ← li, lx]; exact hz') (fun j q' e => ?_) fun h' tk hd' kk => ?_
  · obtain ⟨b, u, e1, e2, e3⟩ := t5 j q' e
    exact ⟨b, u, by simp [e1], e2, e3⟩
  · exact ⟨.ref s.heap.objs.size, upd H s.heap.objs.size (.dK (mergeK [] kv)), I.laid (t' := tk) kk (Nat.le_refl _) (show ObjOk X.prog X.w _ _ _ (.dK (mergeK [] kv)) from ⟨hlen, hm, merged [] prs, KV.merge t0 .nil, hd'⟩), rfl, q _ _ (I.hok.fresh (Nat.le_refl _)) (fmerge_rel t2 t3 t4 ⟨rfl, .nil⟩)⟩
def pairsFR : D → R (List (D × D))
  | .list ps => match pairsF ps with
    | some qs => if szOk ps.length then .ok (fMerge [] qs) else .stuck
    | none => .stuck
  | _ => .stuck
/-- dict(pairs) -/
theorem dnk_dict {κ : List (D × D) → Env → R α → Prop} {e : Expr} {p pos : Pos} (hm : C.mg ("dict" : Str) = none) (h : DE C ρ e m fun d ρ1 m1 => ∃ g, m1 = (pairsFR d).bind g ∧ ∀ kvs, κ kvs ρ1 (g kvs))
    (hg : C.sc.names.lookup ("dict" : Str) = some .globalImplicit := by rfl) (he : ∀ env : PySem.Env, starEach [e] env = (false, eval e env) :: starEach [] env := by intro _; rfl) (hpl : ∀ env : PySem.Env, (backTo pos (starEach [] env)).any (·.1) = false := by intro _; rfl) : DNK C ρ (.Call (.Name "dict" p) [e] [] pos) m κ := by
  intro X W Z x hK c z
  have ha : DA C ρ [e] m fun ds ρ1 m1 => ∃ d, ds = [d] ∧ ∃ g, m1 = (pairsFR d).bind g ∧ ∀ xs, κ xs ρ1 (g xs) :=
    da_cons (fun X W Z x hK c z => PE_imp (h X W Z x hK c z) fun σ H Q ⟨F, r, q⟩ => ⟨F, r, fun d ρ' m' v H' F' k1 => q d ρ' m' v H' F' (da_nil ⟨d, rfl, k1⟩)⟩) he
  refine PE_imp (pe_callTy (bl_dictK x.calm) (x.gl hg) (x.mg0 hm) rfl (ha X W Z x hK c z) (by decide) (by decide) (he _) (hpl _)) fun σ H Q ⟨F, r, q⟩ => ⟨F, r, fun ds ρ' m' vs H' F' ⟨d, e1, g, e2, hgg⟩ h2 h3 h4 h5 => ?_⟩
  subst e1 e2
  obtain ⟨kvs, ex, zx⟩ := c.bind h2
  unfold pairsFR at ex
  split at ex
  · split at ex
    · rename_i qs hq
      split at ex
      · rename_i hz; cases ex
        exact ⟨F', _, qs, h3.sub, by rw [x.K, ← hK]; exact h5, hq, hz, fun p kv hp hr => q _ ρ' _ kv p H' F' (hgg _) zx h3 h4 hp (by rw [hK, ← x.K]; exact hr)⟩
      · cases ex
    · cases ex
  · cases ex
theorem Rel.newK {W : Wd} {ρ : Env} {σ : L2.St} {H F : Hp} (h3 : Rel W ρ σ H F) {p : Addr} {kv : List (L2.Key × V)} {kvs : List (D × D)} (h5 : H p = none) (h6 : FcR W.K F kv kvs) (i : Nat) : Rel W (ρ.set i (some (.dck kvs))) (σ.set i (some (.ref p))) (upd H p (.dK kv)) F :=
  h3.give (F' := F) (H' := upd H p (.dK kv)) ⟨Same.refl _, fun b o q => by rw [upd_ne (ne_of_none (h3.sub b o q) h5)]; exact h3.sub b o q, fun b o q => by rw [upd_ne (ne_of_none q h5)]; exact q, fun _ _ q => .inl q⟩ i (as := [p]) ⟨p, kv, rfl, rfl, upd_same, h3.sub.free h5, h6⟩ (by simpa using h5)
theorem ds_dck {J : Jd α} {n : Str} {e : Expr} {p pos : Pos} {rest : List Stmt} (i : Nat) (h : DNK C ρ e m fun kvs ρ1 m1 => DSs C (ρ1.set i (some (.dck kvs))) rest m1 J) (hN : C.N[i]? = some n := by rfl)
    (hx : Loc C.sc n := by first | exact Or.inl rfl | exact Or.inr rfl) (hfn : C.fn n = true ∨ C.sc.names.lookup n = some .local := by first | exact Or.inl rfl | exact Or.inr rfl) (hs : ∀ env : PySem.Env, env.scope = C.sc → swapsWith e (some (.Name n p)) pos.line env = pure false := by intro env he; rfl) : DSs C ρ (.Assign [.Name n p] e pos :: rest) m J := by
  intro X W Z x hK c z
  have hf : X.fn n = true ∨ X.env.scope.names.lookup n = some .local := hfn.elim (fun h => .inl (x.fnl n h)) fun h => .inr (by rw [x.sc]; exact h)
  refine PSs_imp (pss_cons (ps_set (i := i) (by rw [x.N]; exact x.nd) (by rw [x.N]; exact hN) (by rw [x.sc]; exact hx) (h X W Z x hK c z) (hs _ x.sc) hf) (rest_run (J := J) x hK c)) fun D σ H ⟨F, r, l⟩ => ?_
  exact ⟨F, r, fun kvs ρ' m' kv p H' F' h1 h2 h3 h4 h5 h6 => ⟨(m', _), ⟨h1, h2⟩, F', h3.newK h5 h6 i, l⟩⟩
theorem dps_dck {κ : Env → R α → Prop} {e : Expr} {es : List Expr} {is : List Nat} (i : Nat) (h : DNK C ρ e m fun kvs ρ1 m1 => DPs C ρ1 es is m1 fun ρ2 m2 => κ (ρ2.set i (some (.dck kvs))) m2) (hi : i ∉ is := by decide)
    (hs : ∀ env : PySem.Env, starEach (e :: es) env = (false, eval e env) :: starEach es env := by intro _; rfl) : DPs C ρ (e :: es) (i :: is) m κ := by
  intro X W Z x hK c z
  have rest : PA X es fun σ H Q => ∃ (W' : Wd) (j : R α × Env × List (D × D)), (W'.K = C.K ∧ ClX X W' Z) ∧ (DPs C j.2.1 es is j.1 (fun ρ2 m2 => κ (ρ2.set i (some (.dck j.2.2))) m2) ∧ Z j.1) ∧ ∃ F, Rel W' j.2.1 σ H F ∧ ∀ vs ρ' m' H' F', κ (ρ'.set i (some (.dck j.2.2))) m' → Z m' → vs.length = is.length → Rel W' ρ' (setAll σ is vs) H' F' → Same F F' → Q vs H' :=
    ⟨fun po p s σ H Q I ⟨W', j, ⟨hK', c'⟩, pj, q⟩ => (pj.1 X W' Z x hK' c' pj.2).run po p s σ H Q I q⟩
  refine PA_imp (pa_cons (h X W Z x hK c z) rest (hs _)) fun σ H Q ⟨F, r, q⟩ => ⟨F, r, fun kvs ρ1 m1 kv p H1 F1 h1 h2 h3 h4 hp h5 => ?_⟩
  obtain ⟨io, rt, hio, hth⟩ := h3.turn
  have hnio : p ∉ io := fun hb => by obtain ⟨o, e⟩ := hth p hb; rw [hp] at e; cases e
  refine ⟨⟨W.K, F1, upd H1 p (.dK kv), io⟩, (m1, ρ1, kvs), ⟨hK, c.turned h3 hio hp⟩, ⟨h1, h2⟩, F1, rt.newAt hp hp _, fun vs ρ2 m2 H2 F2 k1 k2 k3 k4 k5 => q (.ref p :: vs) _ m2 H2 F2 k1 k2 (by simp [k3]) ?_ (h4.trans k5)⟩
  show Rel W _ (setAll (σ.set i (some (.ref p))) is vs) H2 F2
  rw [← setAll_set hi]
  exact k4.laterG (sl := .dck kvs) h3 hio hnio hp (fun sF hH hF => ⟨p, kv, rfl, rfl, hH, hF, h5.mono sF⟩) i

def setFM (kvs : List (D × D)) (k d : D) : R (List (D × D)) := match keyF k with
  | some n => if decide (kvs.length < 16777216) then .ok (fSet kvs k n d) else .stuck
  | none => .stuck
def rSetF (K : PySem.W.Frag) : V → V → V → Hp → (Hp → Prop) → Prop := fun o i v H Q => ∃ F p kv kvs kd n d, o = .ref p ∧ H p = some (.dK kv) ∧ Same F H ∧ FcR K F kv kvs ∧ Rp K F i kd ∧ keyF kd = some n ∧ Rp K F v d ∧ kvs.length < 16777216 ∧
  ∀ kv', FcR K F kv' (fSet kvs kd n d) → Q (upd H p (.dK kv'))
theorem set_dictF {X : Cx} {k : Nat} (hr : Room k X.A) : PSet X (rSetF X.K) := by
  intro pins s σ H o i v ov iv u Q I ro ri rv ⟨F, p, kv, kvs, kd, n, d, e1, hH, sub, r, rk, hk, rd, hz, q⟩
  subst e1
  cases ro
  obtain ⟨rfl, rfl⟩ := key_flat rk hk
  have hl : kvs.length = kv.length := by
    have := congrArg List.length r.ks
    simpa using this
  exact d_setItem (by have := hr.units; omega) I (DPut.k hH (by rw [← hl, sizeLine_eq]; exact hz)) ri rv fun s' I' => ⟨_, I', q _ (fset_rel r rd)⟩
/-- d[e1] = e2 -/
theorem ds_setF {J : Jd α} {n : Str} {e1 e2 : Expr} {np sp pos : Pos} {rest : List Stmt} (i : Nat) (h : DE C ρ e2 m fun d ρ1 m1 => (∃ kvs0, ρ1[i]? = some (some (.dck kvs0))) ∧ DE C ρ1 e1 m1 fun j ρ2 m2 => ∃ kvs g, ρ2[i]? = some (some (.dck kvs)) ∧ m2 = (setFM kvs j d).bind g ∧ ∀ ys, DSs C (ρ2.set i (some (.dck ys))) rest (g ys) J) (hN : C.N[i]? = some n := by rfl)
    (hv : Vis C.sc n := by first | exact Or.inl rfl | exact Or.inr (Or.inl rfl) | exact Or.inr (Or.inr rfl)) (hd : (n == ("__debug__" : Str)) = false := by decide) (hcd : (n == ("__classdict__" : Str)) = false := by decide)
    (ha : ∀ (env : PySem.Env) v, assign (.Subscript (.Name n np) e1 sp) env v = (do
      let ov ← holding [v] (eval (.Name n np) env)
      let iv ← holding [v, ov] (eval e1 env)
      standAt sp
      holding [v, ov, iv] (setItem ov iv v)
      release [v, ov, iv] []) := by intro _ _; rfl)
    (hs : ∀ env : PySem.Env, env.scope = C.sc → swapsWithSole [.Subscript (.Name n np) e1 sp] e2 pos.line env = pure false := by intro env he; rfl) (hw : ∀ env : PySem.Env, env.scope = C.sc → swappedStores [.Subscript (.Name n np) e1 sp] e2 env = pure none := by intro env he; rfl)
    (h1 : ∀ env : PySem.Env, (assignEach [.Subscript (.Name n np) e1 sp] env).map (·.2) = [assign (.Subscript (.Name n np) e1 sp) env] := by intro _; rfl) : DSs C ρ (.Assign [.Subscript (.Name n np) e1 sp] e2 pos :: rest) m J := by
  intro X W Z x hK c z
  have hi : PE X e1 fun σ H Q => ∃ (q : R α × Env) (κ : D → Env → R α → Prop), (DE C q.2 e1 q.1 κ ∧ Z q.1) ∧ ∃ F, Rel W q.2 σ H F ∧ ∀ d ρ' m' v H' F', κ d ρ' m' → Z m' → Rel W ρ' σ H' F' → Same F F' → Rp W.K F' v d → Q v H' :=
    ⟨fun p s σ H Q I ⟨i, κ, pi, q⟩ => (pi.1 X W Z x hK c pi.2).run p s σ H Q I q⟩
  refine PSs_imp (pss_cons (ps_asg (h X W Z x hK c z) (pg_sub (own_name x hN hv hd hcd) hi (set_dictF x.room) (ha _)) (hs _ x.sc) (hw _ x.sc) (h1 _)) (rest_run (J := J) x hK c)) fun Dn σ H ⟨F, r, l⟩ => ?_
  refine ⟨F, r, fun d ρ1 m1 v H1 F1 ⟨⟨kvs0, e0⟩, k1⟩ k2 k3 k4 k5 => ?_⟩
  obtain ⟨p, _, a1, a2, _⟩ := k3.dckAt e0
  refine ⟨_, a1, (m1, ρ1), _, ⟨k1, k2⟩, F1, k3, fun j ρ2 m2 w H2 F2 ⟨kvs, g, b1, b2, b3⟩ j2 j3 j4 j5 => ?_⟩
  subst b2
  obtain ⟨p', kv', c1, c2, _, c4, c5, _⟩ := j3.dckAt b1
  rw [a1] at c1; cases c1
  obtain ⟨ys, ey, zy⟩ := c.bind j2
  unfold setFM at ey
  split at ey
  · rename_i n' hn
    split at ey
    · rename_i hz; cases ey
      refine ⟨F2, p, kv', kvs, j, n', d, rfl, c2, j3.sub, by rw [x.K, ← hK]; exact c4, by rw [x.K, ← hK]; exact j5, hn, by rw [x.K, ← hK]; exact k5.mono j4, by simpa using hz, fun kv2 hx2 => ⟨(_, _), ⟨b3 _, zy⟩, F2, c5 _ _ (by rw [x.K, ← hK] at hx2; exact hx2), l⟩⟩
    · cases ey
  · cases ey
theorem FcR.valK {K : PySem.W.Frag} {F : Hp} {k : L2.Key} {d : D} : ∀ {kv : List (L2.Key × V)} {kvs : List (D × D)}, FcR K F kv kvs → fGet kvs k = some d → ∃ v', valV kv k = some v' ∧ Rp K F v' d
  | [], [], _, h => by simp [fGet] at h
  | [], _ :: _, r, _ => by have := r.ks; simp at this
  | _ :: _, [], r, _ => by have := r.ks; simp at this
  | pp :: kv, q :: kvs, r, h => by
    obtain ⟨ks, vs⟩ := r
    simp only [List.map_cons, List.cons.injEq] at ks
    simp only [List.map_cons] at vs
    cases vs with
    | cons v1 v2 =>
      unfold fGet at h
      rw [List.find?_cons] at h
      by_cases cc : pp.1 = k
      · have c2 : keyF q.1 = some k := by rw [ks.1, keyF_keyD, cc]
        rw [decide_eq_true c2] at h
        cases h
        exact ⟨pp.2, valV_pos cc, v1⟩
      · have c2 : ¬ keyF q.1 = some k := fun z => cc (by rw [ks.1, keyF_keyD] at z; exact Option.some.inj z)
        rw [decide_eq_false c2] at h
        obtain ⟨v', e1, e2⟩ := FcR.valK (kv := kv) (kvs := kvs) ⟨ks.2, v2⟩ h
        exact ⟨v', by rw [valV_neg cc]; exact e1, e2⟩
/-- what is there -/
def itemF (kvs : List (D × D)) (y : D) : R D := match keyF y with
  | some k => match fGet kvs k with
    | some d => .ok d
    | none => .stuck
  | none => .stuck
theorem de_ixF {κ : D → Env → R α → Prop} {n : Str} {b : Expr} {np pos : Pos} {kvs0 : List (D × D)} (i : Nat) (hρ : ρ[i]? = some (some (.dck kvs0))) (h : DE C ρ b m fun y ρ2 m2 => ∃ kvs g, ρ2[i]? = some (some (.dck kvs)) ∧ m2 = (itemF kvs y).bind g ∧ ∀ z, κ z ρ2 (g z)) (hN : C.N[i]? = some n := by rfl)
    (hv : Vis C.sc n := by first | exact Or.inl rfl | exact Or.inr (Or.inl rfl) | exact Or.inr (Or.inr rfl)) (hd : (n == ("__debug__" : Str)) = false := by decide) (hcd : (n == ("__classdict__" : Str)) = false := by decide) (hs : NoSl b := by intro _ _; rfl) : DE C ρ (.Subscript (.Name n np) b pos) m κ := by
  intro X W Z x hK c z
  refine PE_imp (pe_dget (by have := x.room.units; omega) (own_name x hN hv hd hcd) (h X W Z x hK c z) hs) fun σ H Q ⟨F, r, q⟩ => ?_
  obtain ⟨p, kv, a1, a2, _⟩ := r.dckAt hρ
  refine ⟨_, a1, F, r, fun y ρ2 m2 w H2 F2 ⟨kvs, g, b1, b2, b3⟩ j2 j3 j4 j5 => ?_⟩
  subst b2
  obtain ⟨p', kv', c1, c2, _, c4, _⟩ := j3.dckAt b1
  rw [a1] at c1; cases c1
  obtain ⟨ys, ey, zy⟩ := c.bind j2
  unfold itemF at ey
  split at ey
  · rename_i k hk
    split at ey
    · rename_i d hd'; cases ey
      obtain ⟨rfl, rfl⟩ := key_flat j5 hk
      obtain ⟨v', hv', rv'⟩ := c4.valK hd'
      exact ⟨p, v', rfl, hv' ▸ DGet.k c2, q _ ρ2 _ v' H2 F2 (b3 _) zy j3 j4 rv'⟩
    · cases ey
  · cases ey
/-- a look at what is one's own, a flat dict among it -/
theorem Rel.unlockF {W : Wd} {ρ ρ' : Env} {σ σ' : L2.St} {H F F2 H' F' : Hp} {K : PySem.W.Frag} {p : Addr} {od : Obj} {kv : List (L2.Key × V)} (r : Rel W ρ σ H F) (hp : H p = some (.dK kv)) (hf : F p = none) (ss : Same F F2) (r' : Rel ⟨K, F2, upd H p (.frz od (.dK kv)), []⟩ ρ' σ' H' F') :
    H' p = some (.frz od (.dK kv)) ∧ Rel W ρ σ (upd H' p (.dK kv)) F := by
  refine ⟨r'.keep p _ upd_same (by simp), r.step ⟨Same.refl _, fun b o h => ?_, fun b o h => ?_, fun b o h => .inl h⟩⟩
  · rw [upd_ne (ne_of_none h hf)]
    exact r'.sub b o (r'.sub0 b o (ss b o h))
  · by_cases hb : b = p
    · subst hb; rw [hp] at h; cases h; exact upd_same
    · rw [upd_ne hb]
      exact r'.keep b o (by show upd H p _ b = _; rw [upd_ne hb]; exact h) (by simp)
theorem dt_peekF {κ : Bool → Env → R α → Prop} {e : Expr} {r : R Bool} {g : Bool → R α} (i : Nat) {kvs : List (D × D)} (hρ : ρ[i]? = some (some (.dck kvs))) (h : DT C (viewE (ρ.set i (some (.val (.dict kvs))))) e r fun b ρ' m' => m' = .ok b) (k : ∀ b, κ b ρ (g b)) : DT C ρ e (r.bind g) κ := by
  intro X W Z x hK c z
  obtain ⟨b, e1, z1⟩ := c.bind z
  refine ⟨fun pins s σ H Q I ⟨F, rl, q⟩ => ?_⟩
  obtain ⟨p, kv, h1, h2, h3, h4, _, h6⟩ := rl.dckAt hρ
  obtain ⟨od, I2⟩ := I.lock h2 trivial
  obtain ⟨F', r', ss, rp⟩ := h6 od
  obtain ⟨F2, r2, ss2⟩ := r'.view
  refine thn ((h X ⟨W.K, F2, upd H p (.frz od (.dK kv)), []⟩ _ x hK (c.at g).x ⟨b, e1, z1⟩).run pins s σ _ (fun b' H' => (∃ p', R.ok b' = R.ok p' ∧ Z (g p')) ∧ H' p = some (.frz od (.dK kv)) ∧ Rel W ρ σ (upd H' p (.dK kv)) F) I2
    ⟨F2, r2, fun b' ρ' m' H' F3 e2 e3 h3' h4' => ?_⟩) fun b' s1 ⟨H1, I3, ⟨p', e3, z3⟩, hq, rel⟩ => ?_
  · subst e2
    obtain ⟨u1, u2⟩ := rl.unlockF h2 h3 (ss.trans ss2) h3'
    exact ⟨e3, u1, u2⟩
  · cases e3
    exact ⟨_, I3.unlock hq (I.nofrz h2 trivial), q _ ρ _ _ F (k _) z3 rel (Same.refl _)⟩
theorem de_peekF {κ : D → Env → R α → Prop} {e : Expr} {r : R D} {g : D → R α} (i : Nat) {kvs : List (D × D)} (hρ : ρ[i]? = some (some (.dck kvs))) (h : DE C (viewE (ρ.set i (some (.val (.dict kvs))))) e r fun d ρ' m' => m' = .ok d) (k : ∀ d, κ d ρ (g d)) : DE C ρ e ((flatR r).bind g) κ := by
  intro X W Z x hK c z
  obtain ⟨b, e1, z1⟩ := c.bind z
  unfold flatR at e1
  obtain ⟨b', e0, e1⟩ := R.bind_eq_ok e1
  split at e1
  · rename_i hfl; cases e1
    refine ⟨fun pins s σ H Q I ⟨F, rl, q⟩ => ?_⟩
    obtain ⟨p, kv, h1, h2, h3, h4, _, h6⟩ := rl.dckAt hρ
    obtain ⟨od, I2⟩ := I.lock h2 trivial
    obtain ⟨F', r', ss, rp⟩ := h6 od
    obtain ⟨F2, r2, ss2⟩ := r'.view
    refine thn ((h X ⟨W.K, F2, upd H p (.frz od (.dK kv)), []⟩ (fun m' => m' = .ok b) x hK ⟨(fun e => nomatch e), (fun _ _ e => nomatch e)⟩ e0).run pins s σ _ (fun v H' => Rp W.K F v b ∧ H' p = some (.frz od (.dK kv)) ∧ Rel W ρ σ (upd H' p (.dK kv)) F) I2
      ⟨F2, r2, fun d ρ' m' v H' F3 e2 e3 h3' h4' h5' => ?_⟩) fun v s1 ⟨vx, H1, I3, rv, hr, hq, rel⟩ => ?_
    · subst e2; cases e3
      obtain ⟨u1, u2⟩ := rl.unlockF h2 h3 (ss.trans ss2) h3'
      refine ⟨?_, u1, u2⟩
      cases h5' <;> first | exact .non | exact .bl _ | exact .int _ | exact .str _ | (simp [flatB] at hfl)
    · exact ⟨vx, _, I3.unlock hq (I.nofrz h2 trivial), rv, q _ ρ _ _ _ F (k _) z1 rel (Same.refl _) hr⟩
  · cases e1
end
end Z

set_option Elab.async false
set_option linter.all false
set_option maxRecDepth 100000
set_option maxHeartbeats 0
set_option autoImplicit false
/-! # Z27: constants that are texts, tuples of texts, tables of such; methods of values (dict.get, list.index) -/
namespace Z
open PySem L2

/-! ### constants -/
def strTup (K : PySem.W.Frag) (a : Addr) (ss : List Str) : Bool := match K.lookup a with
  | some o => o.cls == .type "tuple" && (match o.data with | .seq vs _ => decide (vs.size ≤ 1000) && PyProof.Rows.KTD.strsLook vs.toList ss | _ => false)
  | none => false
theorem rp_strs {K : PySem.W.Frag} {F : Hp} : ∀ {ss : List Str}, RpAll K F (ss.map V.str) (ss.map PyData.str)
  | [] => .nil
  | s :: ss => .cons (.str s) rp_strs
theorem vals_strs : ∀ {ss : List Str} {vs : List Value}, PyProof.Rows.StrsAre vs ss → Vals (ss.map V.str) vs
  | [], _, h => by cases h; exact .nil
  | s :: ss, _, h => by
    cases h with
    | cons _ t h => exact .cons ⟨_, rfl⟩ (vals_strs h)
theorem rp_strTup {K : PySem.W.Frag} {F : Hp} {a : Addr} {ss : List Str} (h : strTup K a ss = true) : Rp K F (.ref a) (.tuple (ss.map PyData.str)) := by
  unfold strTup at h
  split at h
  · rename_i o ho
    simp only [Bool.and_eq_true] at h
    obtain ⟨hc, h⟩ := h
    split at h
    · rename_i vs n hd
      simp only [Bool.and_eq_true, decide_eq_true_eq] at h
      refine .tup (.inr ⟨o, vs, n, ho, beq_iff_eq.mp hc, hd, by rw [sizeLine_eq]; omega, vals_strs (PyProof.Rows.KTD.strs_of_look h.2)⟩) (fun m => by cases ss <;> simp [mkd, stD] at m) rp_strs
    · cases h
  · cases h
section
variable {α : Type} {C : Ct} {ρ : Env} {m : R α}
theorem con_str {n : Str} {x : Str} {t : Tok} (h : C.mg n = some (.str x t)) : ConD C n (.str x) := ⟨.str x, _, h, ⟨t, rfl⟩, .str x⟩
theorem con_strs {n : Str} {a : Addr} (ss : List Str) (h : C.mg n = some (.ref a)) (hk : strTup C.K a ss = true) : ConD C n (.tuple (ss.map PyData.str)) := ⟨.ref a, _, h, rfl, rp_strTup hk⟩
end
/-- a table of the module: texts to tuples of texts -/
def tabRows (K : PySem.W.Frag) : List DictEntry → List (Str × List Str) → Bool
  | [], [] => true
  | e :: es, (x, ss) :: D => (match e.key with | .str y _ => y == x | _ => false) && (match e.val with | .ref b => strTup K b ss | _ => false) && tabRows K es D
  | _, _ => false
def tabS (K : PySem.W.Frag) (a : Addr) (D : List (Str × List Str)) : Bool := !(a == sysModules) && (match K.lookup a with
  | some o => o.cls == .type "dict" && o.dict.isNone && o.slots.isEmpty && (match o.data with | .dict es _ => tabRows K es.toList D | _ => false)
  | none => false)
theorem tabRows_of {K : PySem.W.Frag} : ∀ {es : List DictEntry} {D : List (Str × List Str)}, tabRows K es D = true → PyProof.Rows.KTD.Rows (fun (ss : List Str) v => ∃ b, v = Value.ref b ∧ strTup K b ss = true) es D
  | [], [], _ => .nil
  | e :: es, (x, ss) :: D, h => by
    simp only [tabRows, Bool.and_eq_true] at h
    obtain ⟨⟨h1, h2⟩, h3⟩ := h
    split at h1
    · rename_i y t hk
      obtain rfl := beq_iff_eq.mp h1
      split at h2
      · rename_i b hb
        exact .cons hk ⟨b, hb, h2⟩ (tabRows_of h3)
      · cases h2
    · cases h1
  | [], _ :: _, h => by simp [tabRows] at h
  | _ :: _, [], h => by simp [tabRows] at h
theorem tabS_of {K : PySem.W.Frag} {a : Addr} {D : List (Str × List Str)} (h : tabS K a D = true) {hp : Heap} (X : K.In hp) : PyProof.Rows.KTD.TabOf (fun (ss : List Str) v => ∃ b, v = Value.ref b ∧ strTup K b ss = true) hp a D := by
  unfold tabS at h
  simp only [Bool.and_eq_true] at h
  obtain ⟨h0, hl⟩ := h
  split at hl
  · rename_i o ho
    simp only [Bool.and_eq_true] at hl
    obtain ⟨⟨⟨e1, e2⟩, e3⟩, e4⟩ := hl
    split at e4
    · rename_i es ep hd
      exact ⟨by simpa using h0, o, es, ep, X _ _ ho, ⟨beq_iff_eq.mp e1, by simpa using e2, by simpa using e3⟩, hd, tabRows_of e4⟩
    · cases e4
  · cases hl
section
open PySem.Spec PyProof.Rows PyProof.Rows.KTD
variable {prog : Program} {w : World} {A : Around} {E : Value → Shared → Prop} {s : Shared} {a : Addr} {δ : Type} {R : δ → Value → Prop} {D : List (Str × δ)} {k : Str} {tk : Tok}
theorem TabOf.tyIs (T : TabOf R s.heap a D) : s.TypeIs (.ref a) "dict" := let ⟨_, o, _, _, ho, hc, _⟩ := T; ⟨o, ho, hc.1⟩
theorem dictGet_rows {Q : Option Value → Shared → Prop} (T : TabOf R s.heap a D) (h1 : ∀ d v, datumAt k D = some d → R d v → Q (some v) { s with toks := s.toks + 1 }) (h2 : datumAt k D = none → Q none { s with toks := s.toks + 1 }) :
    wpAny (model prog w) A (dictGet a (.str k tk)) Q E s := by
  obtain ⟨_, o, es, ep, ho, hc, hd, hr⟩ := T
  unfold dictGet
  try with_reducible refine wpAny_holding ?_
  refine wpAny_bind (wpAny_pyHash_str (wpAny_bind (kt_dictFind_strs (s := { s with toks := s.toks + 1 }) ho hd (by obtain ⟨l⟩ := es; simpa using hr.exact) ?_)))
  have hq : Q (findBy (fun k v => v.isStr k) es k) { s with toks := s.toks + 1 } := by
    have hf : findBy (fun k v => v.isStr k) es k = (es.toList.find? fun e => e.key.isStr k).map (·.val) := by
      obtain ⟨l⟩ := es
      simp [findBy]
    rw [hf]
    cases hat : datumAt k D with
    | some d => obtain ⟨v, hv, hfl⟩ := hr.find_some hat; rw [hv]; exact h1 d v hat hfl
    | none => rw [hr.find_none hat]; exact h2 hat
  rw [findBy_of_findIdx?] at hq
  cases hi : es.findIdx? fun e => e.key.isStr k with
  | none => rw [hi] at hq; exact wpAny_pure hq
  | some i => rw [hi] at hq; exact wpAny_bind (wpAny_dictEntries (s := { s with toks := s.toks + 1 }) ho hd (wpAny_pure hq))
theorem in_rows {Q : Value → Shared → Prop} (T : TabOf R s.heap a D) (h : Q (.bool (inKeys k D)) { s with toks := s.toks + 1 }) : wpAny (model prog w) A (compareOp .In (.str k tk) (.ref a)) Q E s := by
  show wpAny _ _ (do return .bool (← contains (.ref a) (.str k tk))) Q E s
  refine wpAny_bind ?_
  unfold contains
  try with_reducible refine wpAny_holding ?_
  refine wpAny_bind (wpAny_specialOf (TabOf.tyIs T) slot_dict_contains.lookup ?_)
  show wpAny _ _ (if (some (Value.builtin "dict.__contains__") == some Value.none) = true then _ else _) _ E s
  rw [if_neg (by rw [beq_builtin_none]; exact Bool.false_ne_true)]
  refine wpAny_bind (wpAny_callSpecialUnlessNone?_slot (name := Str.ofString "__contains__") (TabOf.tyIs T) slot_dict_contains
    (wpAny_call_entry slot_dict_contains (TabOf.tyIs T) entry_dict_contains ?_ (args_dict_contains _ _)))
  show wpAny _ _ (dictGet a (.str k tk) >>= _) _ _ s
  refine wpAny_bind (dictGet_rows T (fun d v ha _ => ?_) fun hn => ?_)
  · have hb : inKeys k D = true := by rw [← isSome_datumAt, ha]; rfl
    rw [hb] at h
    show wpAny _ _ (ret (.bool true)) _ _ _
    exact wpAny_pure ⟨_, rfl, wpAny_truthy_bool (wpAny_pure h)⟩
  · have hb : inKeys k D = false := by rw [← isSome_datumAt, hn]; rfl
    rw [hb] at h
    show wpAny _ _ (Builtin.Dict.pendingKey? a (.str k tk) >>= _) _ _ _
    exact wpAny_bind (wpAny_pendingKey_other T.1 (wpAny_pure ⟨_, rfl, wpAny_truthy_bool (wpAny_pure h)⟩))
theorem meets_get_rows {dflt : Value} : MeetsIn prog w (Builtin.«dict.get» ⟨[.ref a, .str k tk, dflt], []⟩) (fun _ Rr s => TabOf R s.heap a D ∧ (∀ d v, datumAt k D = some d → R d v → Rr (.ok (.ret v)) { s with toks := s.toks + 1 }) ∧ (datumAt k D = none → Rr (.ok (.ret dflt)) { s with toks := s.toks + 1 })) :=
  .of_wp fun A Rr s ⟨T, h1, h2⟩ => by
    show wpAny _ _ (dictGet a (.str k tk) >>= _) _ _ s
    refine wpAny_bind (dictGet_rows T (fun d v hd hv => wpAny_pure ⟨v, rfl, h1 d v hd hv⟩) fun hn => ?_)
    show wpAny _ _ (Builtin.Dict.missed a (.str k tk) >>= _) _ _ _
    exact wpAny_bind (wpAny_missed_other T.1 (wpAny_pure ⟨dflt, rfl, h2 hn⟩))
end
def inTab (T : List (Str × List Str)) : D → R Bool
  | .str k => .ok (PyProof.Rows.KTD.inKeys k T)
  | _ => .stuck
def getTab (T : List (Str × List Str)) (y d : D) : R D := match y with
  | .str k => match PyProof.Rows.KTD.datumAt k T with
    | some ss => .ok (.tuple (ss.map PyData.str))
    | none => .ok d
  | _ => .stuck
section
variable {α : Type} {C : Ct} {ρ : Env} {m : R α}
/-- e in T, a table of the module -/
theorem dt_tabIn {κ : Bool → Env → R α → Prop} {n : Str} {a : Addr} {T : List (Str × List Str)} {e : Expr} {p pos : Pos} (hm : C.mg n = some (.ref a)) (hk : tabS C.K a T = true) (h : DE C ρ e m fun y ρ1 m1 => ∃ g, m1 = (inTab T y).bind g ∧ ∀ t, κ t ρ1 (g t))
    (hg : C.sc.names.lookup n = some .globalImplicit := by rfl) (hd : (n == ("__debug__" : Str)) = false := by decide) (hmk : behindInMarks .In (.Name n p) = false := by rfl) : DT C ρ (.Compare e [.In] [.Name n p] pos) m κ := by
  intro X W Z x hK c z
  have hpc : PC X .In e (.Name n p) fun σ H Q => ∃ F, Rel W ρ σ H F ∧ ∀ t ρ' m' H' F', κ t ρ' m' → Z m' → Rel W ρ' σ H' F' → Same F F' → Q (.bl t) H' := by
    refine ⟨fun pins s σ H Q I ⟨F, r, q⟩ => ?_⟩
    refine thn ((h X W Z x hK c z).run pins s σ H (fun vx H1 => ∃ F1 dx ρ1 m1, (∃ g, m1 = (inTab T dx).bind g ∧ ∀ t, κ t ρ1 (g t)) ∧ Z m1 ∧ Rel W ρ1 σ H1 F1 ∧ Same F F1 ∧ Rp W.K F1 vx dx) I
      ⟨F, r, fun d ρ' m' v H' F' h1 h2 h3 h4 h5 => ⟨F', d, ρ', m', h1, h2, h3, h4, h5⟩⟩) fun v s1 ⟨vx, H1, I1, r1, F1, dx, ρ1, m1, ⟨g, e1, hg'⟩, z1, rel1, s1', p1⟩ => ?_
    subst e1
    obtain ⟨w, ew, zw⟩ := c.bind z1
    refine thn ((pe_glob (x.gl hg) (by rw [x.mg]; exact hm) (v := .ref a) rfl hd).run pins s1 σ H1 (fun v H2 => v = .ref a ∧ H2 = H1) I1 ⟨rfl, rfl⟩) fun u s2 ⟨vy, H2, I2, r2, e2, e3⟩ => ?_
    subst e2 e3
    cases r2
    unfold inTab at ew
    split at ew
    · cases ew
      rw [p1.toStr] at r1
      obtain ⟨t, rfl⟩ := r1
      exact in_rows (tabS_of (by rw [x.K]; exact hk) I2.kIn) ⟨.bl _, _, I2.tok _, rfl, q _ ρ1 _ _ F1 (hg' _) zw rel1 s1'⟩
    · cases ew
  refine PT_imp (pt_cmp hpc hmk) fun σ H Q ⟨F, r, q⟩ => ⟨F, r, fun t ρ' m' H' F' h1 h2 h3 h4 => ⟨t, rfl, q t ρ' m' H' F' h1 h2 h3 h4⟩⟩

/-! ### methods of values -/
def rMtD (K : PySem.W.Frag) (f : D → List D → R D) : V → List V → Hp → VK → Prop := fun x vs H Q => ∃ F d ds c, Same F H ∧ Rp K F x d ∧ RpAll K F vs ds ∧ f d ds = .ok c ∧ ∀ v H' F', Fx F H F' H' → Rp K F' v c → Q v H'
def MtD (id : String) (f : D → List D → R D) : Prop := ∀ (X : Cx) (k : Nat), X.calm = true → Room k X.A → MtR X id (rMtD X.K f)
/-- what the receiver is -/
def shapeR (sh : D → Bool) (d : D) : R Unit := if sh d then .ok () else .stuck
def TyS (T : String) (sh : D → Bool) : Prop := ∀ (X : Cx) (pins : List (Addr × Obj)) (σ : L2.St) (H F : Hp) (s : Shared) (v : V) (u : Value) (d : D), Inv X pins σ H s → Same F H → Rp X.K F v d → RelV v u → sh d = true → s.TypeIs u T ∧ ∀ a, u = .ref a → ∃ ob, s.heap.get? a = some ob ∧ ob.dict = none
theorem tys_dict : TyS "dict" isDctD := by
  intro X pins σ H F s v u d I sub p r h
  cases d with
  | dict kvs =>
    obtain ⟨a, es, ep, _, _, rfl, _, _, ⟨o, ho, hx, hd⟩, _⟩ := dict_raw I sub p
    cases r
    exact ⟨⟨o, ho, hx.1⟩, fun b e => by cases e; exact ⟨o, ho, hx.2.1⟩⟩
  | _ => simp [isDctD] at h
theorem tys_list : TyS "list" isLstD := by
  intro X pins σ H F s v u d I sub p r h
  cases d with
  | list ds =>
    obtain ⟨a, xs, rfl, ha, _⟩ := p.toList
    cases r
    obtain ⟨its, _, pl, _⟩ := I.list (SqL.of (sub _ _ ha))
    refine ⟨pl.isList.typeIs, fun b e => ?_⟩
    cases e
    obtain ⟨o, n, e, c, hd, _⟩ := pl
    exact ⟨o, e, hd⟩
  | _ => simp [isLstD] at h
theorem de_meth {κ : D → Env → R α → Prop} {T : String} {name : Str} {id : String} {sh : D → Bool} {f : D → List D → R D} {o e : Expr} {es : List Expr} {ap cp : Pos} (pa : PlainAttrs T) (slot : Slot T name id) (hty : typeOf (.builtin id) = pure (.type "method_descriptor")) (hsh : TyS T sh) (hm : MtD id f)
    (h : DE C ρ o m fun x ρ1 m1 => ∃ g1 : Unit → R α, m1 = (shapeR sh x).bind g1 ∧ DA C ρ1 (e :: es) (g1 ()) fun ds ρ2 m2 => ∃ g, m2 = (f x ds).bind g ∧ ∀ z, κ z ρ2 (g z))
    (hbase : ∀ env : PySem.Env, env.scope = C.sc → attributeBase o name env (eval o env) = eval o env := by intro env he; rfl)
    (hfew : ∀ env : PySem.Env, ((backTo cp (starEach (e :: es) env)).all (fun x => !x.1) && (backToKw cp (keywordEach [] env)).all (fun x => x.1.isSome)
      && decide ((e :: es).length + ([] : List Keyword).length + (if ([] : List Keyword).isEmpty then 0 else 1) < 30)) = true := by intro _; rfl)
    (hline : (ap.endLine == cp.line) = true := by rfl) (he : ∀ env : PySem.Env, starEach (e :: es) env = (false, eval e env) :: starEach es env := by intro _; rfl) (hpl : ∀ env : PySem.Env, (backTo cp (starEach es env)).any (·.1) = false := by intro _; rfl) :
    DE C ρ (.Call (.Attribute o name ap) (e :: es) [] cp) m κ := by
  intro X W Z x hK c z
  refine ⟨fun pins s σ H Q I ⟨F, r, q⟩ => ?_⟩
  refine wpAny_Call_method_late (hbase _ x.sc) (hfew _) hline rfl (thn ((h X W Z x hK c z).run pins s σ H (fun vx H1 => ∃ F1 dx ρ1 m1, (∃ g1 : Unit → R α, m1 = (shapeR sh dx).bind g1 ∧ DA C ρ1 (e :: es) (g1 ()) fun ds ρ2 m2 => ∃ g, m2 = (f dx ds).bind g ∧ ∀ z, κ z ρ2 (g z)) ∧ Z m1 ∧ Rel W ρ1 σ H1 F1 ∧ Same F F1 ∧ Rp W.K F1 vx dx) I
    ⟨F, r, fun d ρ' m' v H' F' h1 h2 h3 h4 h5 => ⟨F', d, ρ', m', h1, h2, h3, h4, h5⟩⟩) fun v s1 ⟨vx, H1, I1, r1, F1, dx, ρ1, m1, ⟨g1, e1, ha⟩, z1, rel1, s1', p1⟩ => ?_)
  subst e1
  obtain ⟨_, ew, zw⟩ := c.bind z1
  unfold shapeR at ew
  split at ew
  case isFalse => cases ew
  rename_i hs
  obtain ⟨t1, t2⟩ := hsh X pins σ H1 F1 s1 vx v dx I1 rel1.sub (by rw [x.K, ← hK]; exact p1) r1 hs
  refine ⟨T, id, pa, slot, hty, t1, t2, ?_⟩
  have hA := (ha X W Z x hK c zw).run cp pins s1 σ H1 (fun vs H2 => ∃ F2 ds ρ2 m2, (∃ g, m2 = (f dx ds).bind g ∧ ∀ z, κ z ρ2 (g z)) ∧ Z m2 ∧ Rel W ρ2 σ H2 F2 ∧ Same F1 F2 ∧ RpAll W.K F2 vs ds) I1
    ⟨F1, rel1, fun ds ρ' m' vs H' F' h1 h2 h3 h4 h5 => ⟨F', ds, ρ', m', h1, h2, h3, h4, h5⟩⟩
  rw [he] at hA ⊢
  refine Calls.callWith_builtin (by show (false || (backTo cp (starEach es X.env)).any (·.1)) = false; rw [hpl] <;> rfl) (Calls.evalArgs_plain ?_)
  refine thn hA fun us s2 ⟨vs, H2, I2, r2, F2, ds, ρ2, m2, ⟨g, e2, hg⟩, z2, rel2, s2', p2⟩ => ?_
  subst e2
  obtain ⟨w, ew2, zw2⟩ := c.bind z2
  refine hm X _ x.calm x.room pins s2 σ H2 vx vs v us Q I2 r1 r2 ⟨F2, dx, ds, w, rel2.sub, by rw [x.K, ← hK]; exact p1.mono s2', by rw [x.K, ← hK]; exact p2, ew2, fun v' H' F' fx p' => ?_⟩
  exact q _ ρ2 _ v' H' F' (hg w) zw2 (rel2.step fx) ((s1'.trans s2').trans fx.ff) (by rw [hK, ← x.K]; exact p')
end
def getD : D → List D → R D
  | .dict kvs, k :: r => match r with
    | [] => getE kvs k .none
    | [x] => getE kvs k x
    | _ => .stuck
  | _, _ => .stuck
where getE (kvs : List (D × D)) (k x : D) : R D := match keyN k with
  | some n => if nestK kvs then .ok ((dGet kvs n).getD x) else .stuck
  | none => match keyF k with
    | some n => if flatK kvs then .ok ((fGet kvs n).getD x) else .stuck
    | none => .stuck
theorem mt_get : MtD "dict.get" getD := by
  intro X k hc hr pins s σ H x vs v us Q I rx rv ⟨F, d, ds, c, sub, p, pa, e, q⟩
  unfold getD at e
  split at e
  case h_2 => cases e
  rename_i kvs kd r
  -- one or two arguments
  obtain ⟨dv, us', eus, hdv, eE⟩ : ∃ (y : D) (us' : List Value), (us = [us'.headD .none] ∧ us'.length = 1 ∧ r = [] ∧ y = .none ∨ (∃ u2, us = [us'.headD .none, u2] ∧ us'.length = 1 ∧ r = [y] ∧ ∃ v2, RelV v2 u2 ∧ Rp X.K F v2 y)) ∧ (∃ v1, RelV v1 (us'.headD .none) ∧ Rp X.K F v1 kd) ∧ getD.getE kvs kd y = .ok c := by
    cases pa with
    | cons p1 pt =>
      cases rv with
      | cons r1 rt =>
        cases pt with
        | nil =>
          cases rt
          exact ⟨.none, [_], .inl ⟨rfl, rfl, rfl, rfl⟩, ⟨_, r1, p1⟩, e⟩
        | cons p2 pt =>
          cases pt with
          | nil =>
            cases rt with
            | cons r2 rt =>
              cases rt
              exact ⟨_, [_], .inr ⟨_, rfl, rfl, rfl, _, r2, p2⟩, ⟨_, r1, p1⟩, e⟩
          | cons _ _ => cases e
  obtain ⟨v1, r1, p1⟩ := hdv
  unfold getD.getE at eE
  split at eE
  · rename_i n hn
    split at eE
    case isFalse => cases eE
    rename_i hnk
    cases eE
    obtain ⟨a, rfl, hs, hz, ys, hd, pr, hl⟩ := dct_get I sub p hnk
    cases rx
    obtain ⟨b, rfl⟩ := key_ref p1 hn
    obtain ⟨k1, k2, _⟩ := keyN_nk hn
    have e1 : us'.headD Value.none = .ref b := r1
    have ki := key_is I sub p1 k1 k2
    have hu : (nestedKind X.prog X.w).room X.A.in1 := by have := hr.units; show X.A.units + 1 + 8 < cLine; omega
    have fin : ∀ (dfl : Value) (dd : D) (vd : V), RelV vd dfl → Rp X.K F vd dd → (∀ v H' F', Fx F H F' H' → Rp X.K F' v ((dGet kvs n).getD dd) → Q v H') → EP X pins σ Q ((valueAt (pairsH ys) n).getD dfl) { s with toks := s.toks + (nestedKind X.prog X.w).draws n } := by
      intro dfl dd vd hr1 hr2 q
      rcases dget_rel (k := n) pr with ⟨e1, e2⟩ | ⟨d', b', u', v', e1, e2, e3, e4⟩
      · rw [valueAt_pairsH, e2]
        rw [e1] at q
        exact ⟨vd, H, I.tok _, hr1, q _ H F (Fx.refl sub) hr2⟩
      · rw [valueAt_pairsH, e2]
        rw [e1] at q
        exact ⟨v', H, I.tok _, e3, q _ H F (Fx.refl sub) e4⟩
    rcases eus with ⟨rfl, _, rfl, rfl⟩ | ⟨u2, rfl, _, rfl, v2, q1, q2⟩
    · rw [e1]
      exact get_keyed hu ki hs ⟨ys, hd, rfl⟩ (fin .none .none .non rfl .non q)
    · rw [e1]
      exact getOr_keyed hu ki hs ⟨ys, hd, rfl⟩ (fin u2 _ v2 q1 q2 q)
  · split at eE
    case h_2 => cases eE
    rename_i n hn
    split at eE
    case isFalse => cases eE
    rename_i hfk
    cases eE
    obtain ⟨a, rfl, hs, hz, kv, vs', fr, rel, dd⟩ := dck_get I sub p hfk
    cases rx
    obtain ⟨rfl, rfl⟩ := key_flat p1 hn
    have fin : ∀ (dfl : Value) (ddd : D) (vd : V), RelV vd dfl → Rp X.K F vd ddd → (∀ v H' F', Fx F H F' H' → Rp X.K F' v ((fGet kvs n).getD ddd) → Q v H') → EP X pins σ Q ((valueAt vs' n).getD dfl) { s with toks := s.toks + 1 } := by
      intro dfl ddd vd hr1 hr2 q
      rcases fget_rel (k := n) fr rel with ⟨e1, e2⟩ | ⟨d', v', u', e1, e2, e3, e4⟩
      · rw [e2]; rw [e1] at q
        exact ⟨vd, H, I.tok _, hr1, q _ H F (Fx.refl sub) hr2⟩
      · rw [e2]; rw [e1] at q
        exact ⟨v', H, I.tok _, e3, q _ H F (Fx.refl sub) e4⟩
    rcases eus with ⟨rfl, _, rfl, rfl⟩ | ⟨u2, rfl, _, rfl, v2, q1, q2⟩
    · exact call_meetsIn PySem.F.slot_dict_get dd.typeIs PySem.F.entry_dict_get (PySem.F.args_dict_get_2 _ _) (meets_dict_get (mixKind X.prog X.w) a (kV_is r1) hs) ⟨_, dd.mapOf, fin .none .none .non rfl .non q⟩
    · exact call_meetsIn PySem.F.slot_dict_get dd.typeIs PySem.F.entry_dict_get (PySem.F.args_dict_get_3 _ _ _) (meets_dict_get_default (mixKind X.prog X.w) a (kV_is r1) hs u2) ⟨_, dd.mapOf, fin u2 _ v2 q1 q2 q⟩
def indexD : D → List D → R D
  | .list xs, [d] => if okD (.list xs) && okD d then match xs.findIdx? (fun z => PyData.eqv z d) with
    | some j => .ok (.int (j : Nat))
    | none => .stuck
    else .stuck
  | _, _ => .stuck
theorem mt_index : MtD "list.index" indexD := by
  intro X k hc hr pins s σ H x vs v us Q I rx rv ⟨F, d, ds, c, sub, p, pa, e, q⟩
  unfold indexD at e
  split at e
  case h_2 => cases e
  rename_i xs dd
  split at e
  case isFalse => cases e
  rename_i hok
  simp only [Bool.and_eq_true] at hok
  split at e
  case h_2 => cases e
  rename_i j hj
  cases e
  obtain ⟨y, rfl, py⟩ := pa.one
  obtain ⟨a, ys, rfl, ha, rxs⟩ := p.toList
  obtain ⟨uy, rfl, ry⟩ := Vals.one rv
  cases rx
  obtain ⟨h1, h2, h3⟩ := List.findIdx?_eq_some_iff_getElem.mp hj
  obtain ⟨bs, rd1⟩ := py.reads I sub ry (okD_plain hok.2)
  have hxs : PyData.plainAll xs = true := plain_list hok.1
  have hroom : X.A.units + 1 + min (PyData.depthAll xs) dd.depth < cLine := by
    have := room_in hr (n := dd.depth) (d := PyData.depthAll xs) (okD_depth hok.2)
    rw [Nat.min_comm] at this; exact this
  obtain ⟨its, rv', ⟨⟨cls, dct, data, sls⟩, n, ho, hcl, hdn, hdt⟩, hlen⟩ := I.list (SqL.of (sub _ _ ha))
  simp only at hcl hdt
  subst hcl hdt
  obtain ⟨as, h4⟩ := rxs.reads I sub rv' hxs
  have hn : its.length = xs.length := SeqAt.ReadsAll.length xs its as h4
  have hmap : its.map (SeqAt.readOf s.heap) = xs := SeqAt.readsAll_map_plain xs its as hxs h4
  have hvl := rv'.length
  have hsl := sizeLine_eq
  have hjl : j < its.length := by omega
  have hj' : j < its.toArray.size := by simpa using hjl
  have at_ : ∀ (m : Nat) (hm : m < its.toArray.size) (hx : m < xs.length), SeqAt.readOf s.heap its.toArray[m] = xs[m] := by
    intro m hm hx
    have hml : m < its.length := by simpa using hm
    have e0 : (its.map (SeqAt.readOf s.heap))[m]? = xs[m]? := by rw [hmap]
    rw [List.getElem?_map, List.getElem?_eq_getElem hml, List.getElem?_eq_getElem hx] at e0
    have e1 := Option.some.inj e0
    simpa using e1
  refine call_meets PySem.F.slot_list_index ⟨_, ho, rfl⟩ PySem.F.entry_list_index (PySem.F.args_list_index_2 _ _)
    (SeqAt.list_indexAt a its.toArray n dct sls uy (fun u => PyData.eqv (SeqAt.readOf s.heap u) dd) j hj' (by omega) ?_ ?_) ⟨ho, SeqAt.items_plain (vs := its.toArray) (show ReadsAll s.heap its.toArray.toList xs as from h4) rd1 hxs (okD_plain hok.2) hroom, ?_⟩
  · show PyData.eqv (SeqAt.readOf s.heap its.toArray[j]) dd = true
    rw [at_ j hj' h1]
    exact h2
  · intro m hm hmj
    have hmd : m < xs.length := by omega
    show PyData.eqv (SeqAt.readOf s.heap its.toArray[m]) dd = false
    rw [at_ m hm hmd]
    have := h3 m hmj
    simpa using this
  · exact ⟨.int (j : Nat), H, I.tok _, ⟨_, rfl⟩, q _ H F (Fx.refl sub) (.int _)⟩
end Z

set_option Elab.async false
set_option linter.all false
set_option maxRecDepth 100000
set_option maxHeartbeats 0
set_option autoImplicit false
/-! # Z28: lists of one's own that a comprehension makes; what is never reached -/
namespace Z
open PySem L2
theorem Rel.unwipeSet {W : Wd} {ρ : Env} {σ : L2.St} {H F : Hp} {vs : List Nat} {i : Nat} {v : Option V} (r : Rel W ρ ((L2.wipe σ vs).set i v) H F) : Rel W ρ (σ.set i v) H F := by
  refine ⟨r.sub, r.sub0, r.keep, r.fresh, ?_, by have := r.len; rw [List.length_set, wipe_length] at this; rw [List.length_set]; exact this, r.trk⟩
  obtain ⟨ad, k⟩ := r.env
  refine ⟨ad, fun j sl e => ?_⟩
  obtain ⟨u, h1, h2, h3, h4⟩ := k j sl e
  refine ⟨u, ?_, h2, h3, h4⟩
  rcases get_set h1 with ⟨e1, e2, e3⟩ | ⟨e1, e2⟩
  · subst e1
    rw [wipe_length] at e2
    rw [List.getElem?_set_self e2, e3]
  · rw [List.getElem?_set_ne e1]
    exact wipe_get e2
section
variable {α : Type} {C : Ct} {ρ : Env} {m : R α}
theorem de_stuck {κ : D → Env → R α → Prop} {e : Expr} : DE C ρ e .stuck κ := fun X W Z x hK c z => absurd z c.st
theorem dt_stuck {κ : Bool → Env → R α → Prop} {e : Expr} : DT C ρ e .stuck κ := fun X W Z x hK c z => absurd z c.st
theorem lcTN_main {κ : List D → Env → R α → Prop} {tg it elt : Expr} {ifs : List Expr} {scope : Scope} {vs : List Nat} {X : Cx} {W : Wd} {Z : R α → Prop} (x : XOk C X) (hK : W.K = C.K) (c : ClX X W Z) (z : Z m) {τ : Type} (pack : τ → Env)
    (h : DI C ρ tg it m fun items ρ1 m1 => ∃ st0 f g, Le (pack st0) (wipeE ρ1 vs) ∧ m1 = (compS items st0 f).bind g ∧
      (∀ y st, DG (C.blk scope) (fun i => i ∈ vs) (pack st) tg y (f y st) fun ρ2 m2 => DTs (C.blk scope) ρ2 ifs m2 fun t ρ3 m3 =>
        (t = true → DE (C.blk scope) ρ3 elt m3 fun d ρ4 m4 => ∃ st', Le (pack st') (wipeE ρ4 vs) ∧ m4 = .ok (some d, st')) ∧ (t = false → ∃ st', Le (pack st') (wipeE ρ3 vs) ∧ m3 = .ok (none, st'))) ∧
      ∀ ys st, κ ys (pack st) (g (ys, st))) :
    ∃ wi g tt te, PI X tg it wi ∧ (∀ (s : Shared) (H : Hp) (Ca : Addr) (cl : List (Str × Addr)) (fp : List Addr), PG (X.blk s H scope (compEnvC scope cl Ca X.env) fp) tg g) ∧
      (∀ (s : Shared) (H : Hp) (Ca : Addr) (cl : List (Str × Addr)) (fp : List Addr), PTs (X.blk s H scope (compEnvC scope cl Ca X.env) fp) ifs tt) ∧
      (∀ (s : Shared) (H : Hp) (Ca : Addr) (cl : List (Str × Addr)) (fp : List Addr), PE (X.blk s H scope (compEnvC scope cl Ca X.env) fp) elt te) ∧
      ∀ σ H Q, (∃ F, Rel W ρ σ H F ∧ ∀ ds ρ' m' v H' F', κ ds ρ' m' → Z m' → (∀ i, Rel W (ρ'.set i (some (.own ds))) (σ.set i (some v)) H' F') → Same F F' → Q v H') → tLc wi g tt te vs σ H Q := by
  refine ⟨_, fun v σ H Q => ∃ (W' : Wd) (τ' : Type) (Z' : R τ' → Prop) (i : R τ' × Env × D) (κ : Env → R τ' → Prop), (DG (C.blk scope) (fun i => i ∈ vs) i.2.1 tg i.2.2 i.1 κ ∧ W'.K = C.K ∧ Cl Z' ∧ Z' i.1) ∧ ∃ F, Rel W' i.2.1 σ H F ∧ Rp W'.K F v i.2.2 ∧ ∀ ρ' m' σ' H' F', κ ρ' m' → Z' m' → Rel W' ρ' σ' H' F' → Same F F' → (∀ us, (∀ i, i ∈ vs → i ∈ us) → wipe σ' us = wipe σ us) → Q σ' H',
    fun σ H Q => ∃ (W' : Wd) (τ' : Type) (Z' : R τ' → Prop) (i : R τ' × Env) (κ : Bool → Env → R τ' → Prop), (DTs (C.blk scope) i.2 ifs i.1 κ ∧ W'.K = C.K ∧ Cl Z' ∧ Z' i.1) ∧ ∃ F, Rel W' i.2 σ H F ∧ ∀ b ρ' m' H' F', κ b ρ' m' → Z' m' → Rel W' ρ' σ H' F' → Same F F' → Q b H',
    fun σ H Q => ∃ (W' : Wd) (τ' : Type) (Z' : R τ' → Prop) (i : R τ' × Env) (κ : D → Env → R τ' → Prop), (DE (C.blk scope) i.2 elt i.1 κ ∧ W'.K = C.K ∧ Cl Z' ∧ Z' i.1) ∧ ∃ F, Rel W' i.2 σ H F ∧ ∀ d ρ' m' v H' F', κ d ρ' m' → Z' m' → Rel W' ρ' σ H' F' → Same F F' → Rp W'.K F' v d → Q v H', h X W Z x hK c z, ?_, ?_, ?_, ?_⟩
  · exact fun s H Ca cl fp => ⟨fun p s' σ H v u Q I r ⟨W', _, Z', i, κ, ⟨pi, hK', c', z'⟩, q⟩ => (pi _ W' Z' (x.blk s _ Ca cl fp) hK' c' z').run p s' σ H v u Q I r q⟩
  · exact fun s H Ca cl fp => ⟨fun p s' σ H Q I ⟨W', _, Z', i, κ, ⟨pi, hK', c', z'⟩, q⟩ => (pi _ W' Z' (x.blk s _ Ca cl fp) hK' c' z').run p s' σ H Q I q⟩
  · exact fun s H Ca cl fp => ⟨fun p s' σ H Q I ⟨W', _, Z', i, κ, ⟨pi, hK', c', z'⟩, q⟩ => (pi _ W' Z' (x.blk s _ Ca cl fp) hK' c' z').run p s' σ H Q I q⟩
  rintro σ H Q ⟨F, rl, q⟩
  refine ⟨F, rl, fun items ρ1 m1 J H1 F1 ⟨st0, f, g, hle, em, hf, hk⟩ zm rel1 ss itd Da hDa => ?_⟩
  subst em
  obtain ⟨qs0, eq0, zq0⟩ := c.bind zm
  obtain ⟨hlen, eq0⟩ := compS_ok eq0
  have hF1D : F1 Da = none := rel1.sub.free hDa
  obtain ⟨io, relt, hio, hth⟩ := rel1.turn
  have hnio : Da ∉ io := fun hb => by obtain ⟨o, e⟩ := hth Da hb; rw [hDa] at e; cases e
  have relw : Rel ⟨W.K, F1, upd H1 Da (.lst []), io⟩ (pack st0) (wipe σ vs) (upd H1 Da (.lst [])) F1 := ((relt.wipe vs).le hle).newAt hDa hDa _
  refine ⟨fun i n H => n = items.length - i ∧ i ≤ items.length ∧ ∃ st Fi acc ds qs, Rel ⟨W.K, F1, upd H1 Da (.lst acc), io⟩ (pack st) (wipe σ vs) H Fi ∧ RpAll W.K Fi acc ds ∧ acc.length ≤ i ∧ compT (items.drop i) st f = .ok qs ∧ Z (g (ds ++ qs.1, qs.2)),
    ⟨items.length, by simp, Nat.zero_le _, st0, F1, [], [], qs0, relw, .nil, Nat.le_refl _, by simpa using eq0, by simpa using zq0⟩, ?_⟩
  rintro i n H2 ⟨rfl, hi, st, Fi, acc, ds, qs, rel2, racc, hal, eqs, zqs⟩
  have at0 : ∀ {acc : List V}, upd H1 Da (.lst acc) Da = some (.lst acc) := upd_same
  by_cases hlt : i < items.length
  · refine .inr ⟨itd.goes i Fi H2 hlt rel2.sub0 rel2.sub, fun H => ∃ st Fi acc ds qs, Rel ⟨W.K, F1, upd H1 Da (.lst acc), io⟩ (pack st) (wipe σ vs) H Fi ∧ RpAll W.K Fi acc ds ∧ acc.length ≤ i + 1 ∧ compT (items.drop (i + 1)) st f = .ok qs ∧ Z (g (ds ++ qs.1, qs.2)),
      fun H' hh => ⟨_, by omega, rfl, hlt, hh⟩, fun v H3 y => ?_⟩
    obtain ⟨F3, d, hd, fx, pd⟩ := itd.yields i Fi H2 v H3 hlt rel2.sub0 rel2.sub y
    rw [compT_step hd] at eqs
    obtain ⟨p, ep, eqs⟩ := R.bind_eq_ok eqs
    obtain ⟨q2, eq2, eqs⟩ := R.bind_eq_ok eqs
    have clp : Cl fun r : R (Option D × τ) => r = .ok p := ⟨(fun e => nomatch e), (fun _ _ e => nomatch e)⟩
    refine ⟨⟨W.K, F1, upd H1 Da (.lst acc), io⟩, Option D × τ, fun r => r = .ok p, (f d st, pack st, d), _, ⟨hf d st, hK, clp, ep⟩, F3, rel2.step fx, pd, fun ρ2 m2 σ4 H4 F4 h1 h2 h3 h4 hw => ⟨(hw vs fun _ h => h).trans wipe_wipe, ?_⟩⟩
    have hws : wipe σ4 vs = wipe σ vs := (hw vs fun _ h => h).trans wipe_wipe
    refine ⟨⟨W.K, F1, upd H1 Da (.lst acc), io⟩, Option D × τ, fun r => r = .ok p, (m2, ρ2), _, ⟨h1, hK, clp, h2⟩, F4, h3, fun b ρ3 m3 H5 F5 k1 k2 k3 k4 => ?_⟩
    cases b with
    | false =>
      show (if false = true then _ else _)
      rw [if_neg Bool.false_ne_true]
      obtain ⟨st', hl', e3⟩ := k1.2 rfl
      rw [k2] at e3
      cases e3
      cases eqs
      refine ⟨st', F5, acc, ds, _, ?_, racc.mono ((fx.ff.trans h4).trans k4), Nat.le_succ_of_le hal, eq2, zqs⟩
      rw [← hws]; exact (k3.wipe vs).le hl'
    | true =>
      show (if true = true then _ else _)
      rw [if_pos rfl]
      refine ⟨⟨W.K, F1, upd H1 Da (.lst acc), io⟩, Option D × τ, fun r => r = .ok p, (m3, ρ3), _, ⟨k1.1 rfl, hK, clp, k2⟩, F5, k3, fun dd ρ4 m4 vv H6 F6 ⟨st', hl', e4⟩ j2 j3 j4 j5 => ?_⟩
      rw [j2] at e4
      cases e4
      cases eqs
      have hz : acc.length < 16777216 := by omega
      have pk := j3.poke at0 hnio hF1D (.lst (acc ++ [vv]))
      rw [upd_upd] at pk
      refine ⟨acc, j3.keep Da _ at0 hnio, by rw [sizeLine_eq]; exact hz, st', F6, acc ++ [vv], ds ++ [dd], q2, ?_, (racc.mono (((fx.ff.trans h4).trans k4).trans j4)).snoc j5, by simp; omega, eq2, by simpa using zqs⟩
      rw [← hws]; exact (pk.wipe vs).le hl'
  · have e : i = items.length := by omega
    subst e
    rw [List.drop_length] at eqs
    cases eqs
    rw [List.append_nil] at zqs
    refine .inl ⟨itd.stops Fi H2 rel2.sub0 rel2.sub, ?_⟩
    refine q _ _ _ _ H2 _ (hk ds st) zqs (fun j => Rel.unwipeSet (vs := vs) ?_) (ss.trans rel2.sub0)
    exact rel2.laterG (sl := .own ds) rel1 hio hnio hDa (fun sF hH hF => ⟨Da, acc, rfl, rfl, hH, hF, racc⟩) j
/-- y = [..], y a local that is changed later -/
theorem ds_ownLcT {J : Jd α} {n : Str} {tg it elt : Expr} {ifs : List Expr} {scope : Scope} {p pos cpos : Pos} {rest : List Stmt} {τ : Type} (pack : τ → Env) (i : Nat) (own : List (Str × Nat)) (ok : blkC C.N C.sc scope own = true)
    (h : DI C ρ tg it m fun items ρ1 m1 => ∃ st0 f g, Le (pack st0) (wipeE ρ1 (own.map (·.2))) ∧ m1 = (compS items st0 f).bind g ∧
      (∀ y st, DG (C.blk scope) (fun i => i ∈ own.map (·.2)) (pack st) tg y (f y st) fun ρ2 m2 => DTs (C.blk scope) ρ2 ifs m2 fun t ρ3 m3 =>
        (t = true → DE (C.blk scope) ρ3 elt m3 fun d ρ4 m4 => ∃ st', Le (pack st') (wipeE ρ4 (own.map (·.2))) ∧ m4 = .ok (some d, st')) ∧ (t = false → ∃ st', Le (pack st') (wipeE ρ3 (own.map (·.2))) ∧ m3 = .ok (none, st'))) ∧
      ∀ ys st, DSs C ((pack st).set i (some (.own ys))) rest (g (ys, st)) J) (hN : C.N[i]? = some n := by rfl) (hy : C.sc.names.lookup n = some .local := by rfl)
    (hsw : ∀ env : PySem.Env, env.scope = C.sc → swapsWith (.ListComp elt [⟨tg, it, ifs, 0⟩] scope cpos) (some (.Name n p)) pos.line env = pure true)
    (hs : ∀ (env : PySem.Env) (x : Value), foldedSetIterable it env x = pure x := by intro _ _; rfl) : DSs C ρ (.Assign [.Name n p] (.ListComp elt [⟨tg, it, ifs, 0⟩] scope cpos) pos :: rest) m J := by
  intro X W Z x hK c z
  obtain ⟨wi, g, tt, te, h1, h2, h3, h4, h5⟩ := lcTN_main (κ := fun ds ρ1 m1 => DSs C (ρ1.set i (some (.own ds))) rest m1 J) (vs := own.map (·.2)) x hK c z pack h
  refine PSs_imp (pss_cons (ps_setLc (i := i) x.calm (by rw [x.N]; exact x.nd) (by rw [x.N]; exact hN) (by rw [x.sc]; exact hy) (hsw _ x.sc) h1 (blkOk_by (by rw [x.N, x.sc]; exact ok)) h2 h3 h4 (hs _)) (rest_run (J := J) x hK c)) fun Dn σ H ⟨F, r, l⟩ => ?_
  exact h5 σ H (fun y H1 => ∃ j : R α × Env, (DSs C j.2 rest j.1 J ∧ Z j.1) ∧ ∃ F, Rel W j.2 (σ.set i (some y)) H1 F ∧ Lk W J Z Dn) ⟨F, r, fun ds ρ' m' v H' F' k1 k2 k3 k4 => ⟨(m', _), ⟨k1, k2⟩, F', k3 i, l⟩⟩

/-- stars in a display: how long it is is looked at -/
def szR (n : Nat) : R Unit := if decide (n ≤ 16777216) then .ok () else .stuck
theorem de_tupS {κ : D → Env → R α → Prop} {es : List Expr} {k : Nat} {pos : Pos} (h : DA C ρ es m fun ds ρ1 m1 => ∃ g : Unit → R α, m1 = (szR ds.length).bind g ∧ κ (.tuple ds) ρ1 (g ())) : DE C ρ (.Tuple es k pos) m κ := by
  intro X W Z x hK c z
  refine PE_imp (pe_tupF (h X W Z x hK c z)) fun σ H Q ⟨F, r, q⟩ => ⟨F, r, fun ds ρ' m' vs H' F' ⟨g, e, h1⟩ h2 h3 h4 h5 => ?_⟩
  subst e
  obtain ⟨_, e1, z1⟩ := c.bind h2
  unfold szR at e1
  split at e1
  case isFalse => cases e1
  rename_i hz
  refine ⟨by rw [h5.length, sizeLine_eq]; exact of_decide_eq_true hz, fun o p ho hp => ?_⟩
  have fx : Fx F' H' _ _ := Fx.alloc (u := .frz o (.tup vs)) h3.sub hp
  exact q _ ρ' _ _ _ _ h1 z1 (h3.step fx) (h4.trans fx.ff) (.tup (.inl (.inr ⟨o, upd_same⟩)) (fun _ => ⟨o, vs, upd_same, ho⟩) (h5.mono fx.ff))
theorem de_lstS {κ : D → Env → R α → Prop} {es : List Expr} {pos : Pos} (h : DA C ρ es m fun ds ρ1 m1 => ∃ g : Unit → R α, m1 = (szR ds.length).bind g ∧ κ (.list ds) ρ1 (g ())) : DE C ρ (.List es pos) m κ := by
  intro X W Z x hK c z
  refine PE_imp (pe_lst (h X W Z x hK c z)) fun σ H Q ⟨F, r, q⟩ => ⟨F, r, fun ds ρ' m' vs H' F' ⟨g, e, h1⟩ h2 h3 h4 h5 => ?_⟩
  subst e
  obtain ⟨_, e1, z1⟩ := c.bind h2
  unfold szR at e1
  split at e1
  case isFalse => cases e1
  rename_i hz
  refine ⟨by rw [h5.length, sizeLine_eq]; exact of_decide_eq_true hz, fun p hp => ?_⟩
  have fx : Fx F' H' _ _ := Fx.alloc (u := .lst vs) h3.sub hp
  exact q _ ρ' _ _ _ _ h1 z1 (h3.step fx) (h4.trans fx.ff) (.lst upd_same (h5.mono fx.ff))
/-- T.get(e1, e2), T a table of the module -/
theorem de_tabGet {κ : D → Env → R α → Prop} {n : Str} {a : Addr} {T : List (Str × List Str)} {e1 e2 : Expr} {p ap cp : Pos} (hm : C.mg n = some (.ref a)) (hk : tabS C.K a T = true) (h : DA C ρ [e1, e2] m fun ds ρ1 m1 => ∃ y d g, ds = [y, d] ∧ m1 = (getTab T y d).bind g ∧ ∀ t, κ t ρ1 (g t))
    (hg : C.sc.names.lookup n = some .globalImplicit := by rfl) (hd : (n == ("__debug__" : Str)) = false := by decide)
    (hbase : ∀ env : PySem.Env, env.scope = C.sc → attributeBase (.Name n p) "get" env (eval (.Name n p) env) = eval (.Name n p) env := by intro env he; rfl)
    (hfew : ∀ env : PySem.Env, ((backTo cp (starEach [e1, e2] env)).all (fun x => !x.1) && (backToKw cp (keywordEach [] env)).all (fun x => x.1.isSome)
      && decide (([e1, e2] : List Expr).length + ([] : List Keyword).length + (if ([] : List Keyword).isEmpty then 0 else 1) < 30)) = true := by intro _; rfl)
    (hline : (ap.endLine == cp.line) = true := by rfl) (he : ∀ env : PySem.Env, starEach [e1, e2] env = (false, eval e1 env) :: starEach [e2] env := by intro _; rfl) (hpl : ∀ env : PySem.Env, (backTo cp (starEach [e2] env)).any (·.1) = false := by intro _; rfl) :
    DE C ρ (.Call (.Attribute (.Name n p) "get" ap) [e1, e2] [] cp) m κ := by
  intro X W Z x hK c z
  refine ⟨fun pins s σ H Q I ⟨F, r, q⟩ => ?_⟩
  refine wpAny_Call_method_late (hbase _ x.sc) (hfew _) hline rfl (thn ((pe_glob (x.gl hg) (by rw [x.mg]; exact hm) (v := .ref a) rfl hd).run pins s σ H (fun v H2 => v = .ref a ∧ H2 = H) I ⟨rfl, rfl⟩) fun u s1 ⟨vy, H1, I1, r1, e3, e4⟩ => ?_)
  subst e3 e4
  cases r1
  have T1 := tabS_of (K := X.K) (a := a) (D := T) (by rw [x.K]; exact hk) I1.kIn
  refine ⟨"dict", "dict.get", PySem.F.plainAttrs_dict, PySem.F.slot_dict_get, PySem.F.type_dict_get, TabOf.tyIs T1, fun b eb => by
    cases eb
    obtain ⟨_, o, es, ep, ho, hx, _⟩ := T1
    exact ⟨o, ho, hx.2.1⟩, ?_⟩
  have hA := (h X W Z x hK c z).run cp pins s1 σ H1 (fun vs H2 => ∃ F2 ds ρ2 m2, (∃ y d g, ds = [y, d] ∧ m2 = (getTab T y d).bind g ∧ ∀ t, κ t ρ2 (g t)) ∧ Z m2 ∧ Rel W ρ2 σ H2 F2 ∧ Same F F2 ∧ RpAll W.K F2 vs ds) I1
    ⟨F, r, fun ds ρ' m' vs H' F' h1 h2 h3 h4 h5 => ⟨F', ds, ρ', m', h1, h2, h3, h4, h5⟩⟩
  rw [he] at hA ⊢
  refine Calls.callWith_builtin (by show (false || (backTo cp (starEach [e2] X.env)).any (·.1)) = false; rw [hpl] <;> rfl) (Calls.evalArgs_plain ?_)
  refine thn hA fun us s2 ⟨vs, H2, I2, r2, F2, ds, ρ2, m2, ⟨y, d, g, ed, e2, hg'⟩, z2, rel2, s2', p2⟩ => ?_
  subst ed e2
  obtain ⟨w, ew, zw⟩ := c.bind z2
  obtain ⟨v1, v2, rfl, p1, p3⟩ := p2.two
  obtain ⟨u1, u2, rfl, q1, q2⟩ := vals2 r2
  unfold getTab at ew
  split at ew
  case h_2 => cases ew
  rename_i k
  rw [p1.toStr] at q1
  obtain ⟨t, rfl⟩ := q1
  have T2 := tabS_of (K := X.K) (a := a) (D := T) (by rw [x.K]; exact hk) I2.kIn
  refine call_meetsIn PySem.F.slot_dict_get (TabOf.tyIs T2) PySem.F.entry_dict_get (PySem.F.args_dict_get_3 _ _ _) meets_get_rows ⟨T2, fun ss v hd hv => ?_, fun hn => ?_⟩
  · rw [hd] at ew
    cases ew
    obtain ⟨b, rfl, hb⟩ := hv
    exact ⟨.ref b, H2, I2.tok _, rfl, q _ ρ2 _ _ H2 F2 (hg' _) zw rel2 s2' (by rw [hK, ← x.K]; exact rp_strTup hb)⟩
  · rw [hn] at ew
    cases ew
    exact ⟨v2, H2, I2.tok _, q2, q _ ρ2 _ _ H2 F2 (hg' _) zw rel2 s2' p3⟩
end
theorem strTup_mk {K : PySem.W.Frag} {a : Addr} {od : Option Addr} {sl : Array (Option Value)} {vs : Array Value} {n : Nat} {ss : List Str} (h : K.lookup a = some ⟨.type "tuple", od, .seq vs n, sl⟩) (hv : (decide (vs.size ≤ 1000) && PyProof.Rows.KTD.strsLook vs.toList ss) = true) : strTup K a ss = true := by
  unfold strTup
  rw [h]
  show ((Value.type "tuple" == .type "tuple") && _) = true
  rw [show (Value.type "tuple" == Value.type "tuple") = true from by decide, Bool.true_and]
  exact hv
theorem tabRows_nil {K : PySem.W.Frag} : tabRows K [] [] = true := rfl
theorem tabRows_cons {K : PySem.W.Frag} {hh : Int} {t : Tok} {b : Addr} {x : Str} {ss : List Str} {es : List DictEntry} {T : List (Str × List Str)} (hs : strTup K b ss = true) (hr : tabRows K es T = true) : tabRows K (⟨hh, .str x t, .ref b⟩ :: es) ((x, ss) :: T) = true := by
  simp only [tabRows, hs, hr, beq_self_eq_true, Bool.and_self]
theorem tabS_mk {K : PySem.W.Frag} {a : Addr} {es : List DictEntry} {ep : Nat} {T : List (Str × List Str)} (h : K.lookup a = some ⟨.type "dict", none, .dict es.toArray ep, #[]⟩) (h0 : (a == sysModules) = false) (hr : tabRows K es T = true) : tabS K a T = true := by
  unfold tabS
  rw [h, h0]
  show (!false && ((Value.type "dict" == .type "dict") && _ && _ && _)) = true
  rw [show (Value.type "dict" == Value.type "dict") = true from by decide]
  simpa using hr
end Z

set_option Elab.async false
set_option linter.all false
set_option maxRecDepth 100000
set_option maxHeartbeats 0
set_option autoImplicit false
/-! # Z29: a list of one's own, read without being given away -/
namespace Z
open PySem L2
section
variable {α : Type} {C : Ct} {ρ : Env} {m : R α}
/-- x + e -/
theorem de_addOwn {κ : D → Env → R α → Prop} {n : Str} {b : Expr} {np pos : Pos} {xs0 : List D} (i : Nat) (hρ : ρ[i]? = some (some (.own xs0))) (h : DE C ρ b m fun y ρ2 m2 => ∃ xs g, ρ2[i]? = some (some (.own xs)) ∧ m2 = (add (.list xs) y).bind g ∧ ∀ z, κ z ρ2 (g z)) (hN : C.N[i]? = some n := by rfl)
    (hv : Vis C.sc n := by first | exact Or.inl rfl | exact Or.inr (Or.inl rfl) | exact Or.inr (Or.inr rfl)) (hd : (n == ("__debug__" : Str)) = false := by decide) (hcd : (n == ("__classdict__" : Str)) = false := by decide) : DE C ρ (.BinOp (.Name n np) .Add b pos) m κ := by
  intro X W Z x hK c z
  refine ⟨fun pins s σ H Q I ⟨F, r, q⟩ => ?_⟩
  obtain ⟨p, vs, a1, a2, _⟩ := r.ownAt hρ
  refine wpAny_BinOp (thn ((own_name x hN hv hd hcd).run pins s σ H (fun v H1 => v = .ref p ∧ H1 = H) I ⟨_, a1, rfl, rfl⟩) fun v s1 ⟨vx, H1, I1, r1, e1, e2⟩ => ?_)
  subst e1 e2
  refine thn ((h X W Z x hK c z).run pins s1 σ H1 (fun vy H2 => ∃ F2 dy ρ2 m2, (∃ xs g, ρ2[i]? = some (some (.own xs)) ∧ m2 = (add (.list xs) dy).bind g ∧ ∀ z, κ z ρ2 (g z)) ∧ Z m2 ∧ Rel W ρ2 σ H2 F2 ∧ Same F F2 ∧ Rp W.K F2 vy dy) I1
    ⟨F, r, fun d ρ' m' v H' F' h1 h2 h3 h4 h5 => ⟨F', d, ρ', m', h1, h2, h3, h4, h5⟩⟩) fun u s2 ⟨vy, H2, I2, r2, F2, dy, ρ2, m2, ⟨xs, g, b1, e2, hg⟩, z2, rel2, s2', p2⟩ => ?_
  subst e2
  obtain ⟨w, ew, zw⟩ := c.bind z2
  obtain ⟨p', vs', c1, c2, c3, c4, _⟩ := rel2.ownAt b1
  rw [a1] at c1; cases c1
  cases dy with
  | list ys =>
    simp only [add] at ew
    split at ew
    · rename_i hz; cases ew
      obtain ⟨p2', ws, rfl, hp2, rys⟩ := p2.toList
      refine op_cat pins s2 σ H2 _ _ v u Q I2 r1 r2 ⟨_, _, vs', ws, rfl, rfl, c2, rel2.sub _ _ hp2, ?_, fun q' hq' => ?_⟩
      · rw [c4.length, rys.length]; exact szOk_line hz
      · have fx : Fx F2 H2 _ _ := Fx.alloc (u := .lst (vs' ++ ws)) rel2.sub hq'
        exact q _ ρ2 _ _ _ _ (hg _) zw (rel2.step fx) (s2'.trans fx.ff) (.lst upd_same ((c4.append rys).mono fx.ff))
    · cases ew
  | _ => simp only [add] at ew; cases ew
end
/-- y = [..], y a cell -/
theorem sw_false {elt : Expr} {gs : List Comprehension} {scope : Scope} {pos py : Pos} {y : Str} {l : Nat} {env : PySem.Env} (hy : env.scope.names.lookup y = some .cell) : swapsWith (.ListComp elt gs scope pos) (some (.Name y py)) l env = pure false := by
  have ky : env.kindOf y = some .cell := hy
  unfold swapsWith
  simp only [ky]
  have e : ((some NameKind.cell : Option NameKind) == some .local) = false := by decide
  rw [e, Bool.and_false, Bool.false_and, Bool.false_and]
end Z

set_option Elab.async false
set_option linter.all false
set_option maxRecDepth 100000
set_option autoImplicit false
/-! # Z30: an own flat dict that is lent; str of a whole number; own lists made by + -/
namespace Z
open PySem L2
mutual
theorem Rp.without {K : PySem.W.Frag} {F F' : Hp} {p : Addr} {od : Obj} {kv : List (L2.Key × V)} (hp : F p = some (.frz od (.dK kv))) (hF : ∀ b, b ≠ p → F' b = F b) : ∀ {v : V} {d : D}, d.hasDict = false → Rp K F v d → Rp K F' v d
  | _, _, _, .non => .non
  | _, _, _, .bl b => .bl b
  | _, _, _, .int i => .int i
  | _, _, _, .str x => .str x
  | _, _, n, .lst (a := a) h r => .lst (by rw [hF a (fun q => by subst q; rw [hp] at h; cases h)]; exact h) (RpAll.without hp hF (by simpa only [PyData.hasDict] using n) r)
  | _, _, n, .tup (a := a) h pl r => .tup (by
      rcases h with (h | ⟨o, h⟩) | h
      · exact .inl (.inl (by rw [hF a (fun q => by subst q; rw [hp] at h; cases h)]; exact h))
      · exact .inl (.inr ⟨o, by rw [hF a (fun q => by subst q; rw [hp] at h; cases h)]; exact h⟩)
      · exact .inr h) (fun m => by
      obtain ⟨o, xs, x, y⟩ := pl m
      exact ⟨o, xs, by rw [hF a (fun q => by subst q; rw [hp] at x; cases x)]; exact x, y⟩) (RpAll.without hp hF (by simpa only [PyData.hasDict] using n) r)
  | _, _, n, .dct _ _ _ _ => by simp [PyData.hasDict] at n
  | _, _, n, .dck _ _ _ => by simp [PyData.hasDict] at n
theorem RpAll.without {K : PySem.W.Frag} {F F' : Hp} {p : Addr} {od : Obj} {kv : List (L2.Key × V)} (hp : F p = some (.frz od (.dK kv))) (hF : ∀ b, b ≠ p → F' b = F b) : ∀ {vs : List V} {ds : List D}, PyData.hasDictAll ds = false → RpAll K F vs ds → RpAll K F' vs ds
  | _, _, _, .nil => .nil
  | _, _, n, .cons h r => by
    simp only [PyData.hasDictAll, Bool.or_eq_false_iff] at n
    exact .cons (Rp.without hp hF n.1 h) (RpAll.without hp hF n.2 r)
end
def lendS : Option Sl → Option Sl
  | some (.val d) => some (.val d)
  | _ => none
/-- what a body sees to which a flat dict of one's own is lent -/
def lendE (i : Nat) (kvs : List (D × D)) (ρ : Env) : Env := (ρ.set i (some (.val (.dict kvs)))).map lendS
/-- what holds no dict -/
def plainR (r : R D) : R D := r.bind fun d => if d.hasDict = false then .ok d else .stuck
theorem Rel.lendF {W : Wd} {ρ : Env} {σ : L2.St} {H F : Hp} (r : Rel W ρ σ H F) {i : Nat} {kvs : List (D × D)} {p : Addr} {kv : List (L2.Key × V)} (h1 : σ[i]? = some (some (.ref p))) (hH : H p = some (.dK kv)) (hF : F p = none) (rd : FcR W.K F kv kvs) (od : Obj) :
    Rel ⟨W.K, upd F p (.frz od (.dK kv)), upd H p (.frz od (.dK kv)), []⟩ (lendE i kvs ρ) σ (upd H p (.frz od (.dK kv))) (upd F p (.frz od (.dK kv))) := by
  have ss : Same F (upd F p (.frz od (.dK kv))) := fun b o h => by rw [upd_ne (ne_of_none h hF)]; exact h
  refine VRel.rel (K := W.K) ⟨fun j d e => ?_, ?_⟩ (fun j sl e => ?_) (fun b o h => ?_)
  · unfold lendE at e
    rw [List.getElem?_map] at e
    cases e1 : (ρ.set i (some (.val (.dict kvs))))[j]? with
    | none => rw [e1] at e; cases e
    | some q =>
      rw [e1] at e
      cases q with
      | none => cases e
      | some sl =>
        cases sl with
        | val d' =>
          cases e
          rcases get_set e1 with ⟨z1, z2, z3⟩ | ⟨z1, z2⟩
          · subst z1; cases z3
            exact ⟨_, h1, .dck upd_same rd.ks (rd.mono ss).vs⟩
          · obtain ⟨v, k1, k2⟩ := r.val z2
            exact ⟨v, k1, k2.mono ss⟩
        | _ => cases e
  · unfold lendE; rw [List.length_map, List.length_set]; exact r.len
  · unfold lendE at e
    rw [List.getElem?_map] at e
    cases e1 : (ρ.set i (some (.val (.dict kvs))))[j]? with
    | none => rw [e1] at e; cases e
    | some q =>
      rw [e1] at e
      cases q with
      | none => cases e
      | some sl => cases sl <;> cases e <;> exact ⟨_, rfl⟩
  · by_cases hb : b = p
    · subst hb; rw [upd_same] at h ⊢; exact h
    · rw [upd_ne hb] at h ⊢; exact r.sub b o h
theorem Rel.unlend {W : Wd} {ρ ρ' : Env} {σ σ' : L2.St} {H F H' F' : Hp} {K : PySem.W.Frag} {p : Addr} {od : Obj} {kv : List (L2.Key × V)} (r : Rel W ρ σ H F) (hp : H p = some (.dK kv)) (hf : F p = none) (r' : Rel ⟨K, upd F p (.frz od (.dK kv)), upd H p (.frz od (.dK kv)), []⟩ ρ' σ' H' F') :
    H' p = some (.frz od (.dK kv)) ∧ ∃ F4, Rel W ρ σ (upd H' p (.dK kv)) F4 ∧ Same F F4 ∧ ∀ v d, d.hasDict = false → Rp W.K F' v d → Rp W.K F4 v d := by
  have hF' : F' p = some (.frz od (.dK kv)) := r'.sub0 p _ upd_same
  refine ⟨r'.keep p _ upd_same (by simp), fun b => if b = p then none else F' b, r.step ⟨fun b o h => ?_, fun b o h => ?_, fun b o h => ?_, fun b o h => ?_⟩, fun b o h => ?_, fun v d n h => Rp.without hF' (fun b hb => by simp only [if_neg hb]) n h⟩
  · simp only [if_neg (ne_of_none h hf)]
    exact r'.sub0 b o (by show upd F p _ b = _; rw [upd_ne (ne_of_none h hf)]; exact h)
  · by_cases hb : b = p
    · simp only [if_pos hb] at h; cases h
    · simp only [if_neg hb] at h
      rw [upd_ne hb]; exact r'.sub b o h
  · by_cases hb : b = p
    · subst hb; rw [hp] at h; cases h; exact upd_same
    · rw [upd_ne hb]
      exact r'.keep b o (by show upd H p _ b = _; rw [upd_ne hb]; exact h) (by simp)
  · by_cases hb : b = p
    · simp only [if_pos hb] at h; cases h
    · simp only [if_neg hb] at h
      rcases r'.fresh b o h with q | q | q
      · have q' : upd F p (.frz od (.dK kv)) b = some o := q
        rw [upd_ne hb] at q'; exact .inl q'
      · have q' : upd H p (.frz od (.dK kv)) b = none := q
        rw [upd_ne hb] at q'; exact .inr q'
      · simp at q
  · simp only [if_neg (ne_of_none h hf)]
    exact r'.sub0 b o (by show upd F p _ b = _; rw [upd_ne (ne_of_none h hf)]; exact h)
section
variable {α : Type} {C : Ct} {ρ : Env} {m : R α}
theorem de_lendF {κ : D → Env → R α → Prop} {e : Expr} {r : R D} {g : D → R α} (i : Nat) {kvs : List (D × D)} (hρ : ρ[i]? = some (some (.dck kvs))) (h : DE C (lendE i kvs ρ) e r fun d ρ' m' => m' = .ok d) (k : ∀ d, κ d ρ (g d)) : DE C ρ e ((plainR r).bind g) κ := by
  intro X W Z x hK c z
  obtain ⟨b, e1, z1⟩ := c.bind z
  unfold plainR at e1
  obtain ⟨b', e0, e1⟩ := R.bind_eq_ok e1
  split at e1
  · rename_i hfl; cases e1
    refine ⟨fun pins s σ H Q I ⟨F, rl, q⟩ => ?_⟩
    obtain ⟨p, kv, h1, h2, h3, h4, _⟩ := rl.dckAt hρ
    obtain ⟨od, I2⟩ := I.lock h2 trivial
    have r2 := rl.lendF h1 h2 h3 h4 od
    refine thn ((h X ⟨W.K, upd F p (.frz od (.dK kv)), upd H p (.frz od (.dK kv)), []⟩ (fun m' => m' = .ok b) x hK ⟨(fun e => nomatch e), (fun _ _ e => nomatch e)⟩ e0).run pins s σ _ (fun v H' => H' p = some (.frz od (.dK kv)) ∧ ∃ F4, Rel W ρ σ (upd H' p (.dK kv)) F4 ∧ Same F F4 ∧ Rp W.K F4 v b) I2
      ⟨_, r2, fun d ρ' m' v H' F3 e2 e3 h3' h4' h5' => ?_⟩) fun v s1 ⟨vx, H1, I3, rv, hq, F4, rel, ss, rp⟩ => ?_
    · subst e2; cases e3
      obtain ⟨u1, F4, u2, u3, u4⟩ := rl.unlend h2 h3 h3'
      exact ⟨u1, F4, u2, u3, u4 _ _ hfl h5'⟩
    · exact ⟨vx, _, I3.unlock hq (I.nofrz h2 trivial), rv, q _ ρ _ _ _ F4 (k _) z1 rel ss rp⟩
  · cases e1
/-! ### x + y, a new list of one's own -/
def addL2 (x y : D) : R (List D) := match x, y with
  | .list xs, .list ys => if szOk (xs.length + ys.length) then .ok (xs ++ ys) else .stuck
  | _, _ => .stuck
theorem dn_addOwn {κ : List D → Env → R α → Prop} {n : Str} {b : Expr} {np pos : Pos} {xs0 : List D} (i : Nat) (hρ : ρ[i]? = some (some (.own xs0))) (h : DE C ρ b m fun y ρ2 m2 => ∃ xs g, ρ2[i]? = some (some (.own xs)) ∧ m2 = (addL2 (.list xs) y).bind g ∧ ∀ z, κ z ρ2 (g z)) (hN : C.N[i]? = some n := by rfl)
    (hv : Vis C.sc n := by first | exact Or.inl rfl | exact Or.inr (Or.inl rfl) | exact Or.inr (Or.inr rfl)) (hd : (n == ("__debug__" : Str)) = false := by decide) (hcd : (n == ("__classdict__" : Str)) = false := by decide) : DN C ρ (.BinOp (.Name n np) .Add b pos) m κ := by
  intro X W Z x hK c z
  refine ⟨fun pins s σ H Q I ⟨F, r, q⟩ => ?_⟩
  obtain ⟨p, vs, a1, a2, _⟩ := r.ownAt hρ
  refine wpAny_BinOp (thn ((own_name x hN hv hd hcd).run pins s σ H (fun v H1 => v = .ref p ∧ H1 = H) I ⟨_, a1, rfl, rfl⟩) fun v s1 ⟨vx, H1, I1, r1, e1, e2⟩ => ?_)
  subst e1 e2
  refine thn ((h X W Z x hK c z).run pins s1 σ H1 (fun vy H2 => ∃ F2 dy ρ2 m2, (∃ xs g, ρ2[i]? = some (some (.own xs)) ∧ m2 = (addL2 (.list xs) dy).bind g ∧ ∀ z, κ z ρ2 (g z)) ∧ Z m2 ∧ Rel W ρ2 σ H2 F2 ∧ Same F F2 ∧ Rp W.K F2 vy dy) I1
    ⟨F, r, fun d ρ' m' v H' F' h1 h2 h3 h4 h5 => ⟨F', d, ρ', m', h1, h2, h3, h4, h5⟩⟩) fun u s2 ⟨vy, H2, I2, r2, F2, dy, ρ2, m2, ⟨xs, g, b1, e2, hg⟩, z2, rel2, s2', p2⟩ => ?_
  subst e2
  obtain ⟨w, ew, zw⟩ := c.bind z2
  obtain ⟨p', vs', c1, c2, c3, c4, _⟩ := rel2.ownAt b1
  rw [a1] at c1; cases c1
  cases dy with
  | list ys =>
    simp only [addL2] at ew
    split at ew
    · rename_i hz; cases ew
      obtain ⟨p2', ws, rfl, hp2, rys⟩ := p2.toList
      refine op_cat pins s2 σ H2 _ _ v u Q I2 r1 r2 ⟨_, _, vs', ws, rfl, rfl, c2, rel2.sub _ _ hp2, ?_, fun q' hq' => ?_⟩
      · rw [c4.length, rys.length]; exact szOk_line hz
      · exact q _ ρ2 _ _ q' H2 F2 (hg _) zw rel2 s2' hq' (c4.append rys)
    · cases ew
  | _ => simp only [addL2] at ew; cases ew
theorem dn_add {κ : List D → Env → R α → Prop} {a b : Expr} {pos : Pos} (h : DE C ρ a m fun x ρ1 m1 => DE C ρ1 b m1 fun y ρ2 m2 => ∃ g, m2 = (addL2 x y).bind g ∧ ∀ z, κ z ρ2 (g z)) : DN C ρ (.BinOp a .Add b pos) m κ := by
  intro X W Z x hK c z
  refine ⟨fun pins s σ H Q I ⟨F, r, q⟩ => ?_⟩
  refine wpAny_BinOp (thn ((h X W Z x hK c z).run pins s σ H (fun vx H1 => ∃ F1 dx ρ1 m1, DE C ρ1 b m1 (fun y ρ2 m2 => ∃ g, m2 = (addL2 dx y).bind g ∧ ∀ z, κ z ρ2 (g z)) ∧ Z m1 ∧ Rel W ρ1 σ H1 F1 ∧ Same F F1 ∧ Rp W.K F1 vx dx) I
    ⟨F, r, fun d ρ' m' v H' F' h1 h2 h3 h4 h5 => ⟨F', d, ρ', m', h1, h2, h3, h4, h5⟩⟩) fun v s1 ⟨vx, H1, I1, r1, F1, dx, ρ1, m1, h1, z1, rel1, ss1, p1⟩ => ?_)
  refine thn ((h1 X W Z x hK c z1).run pins s1 σ H1 (fun vy H2 => ∃ F2 dy ρ2 m2, (∃ g, m2 = (addL2 dx dy).bind g ∧ ∀ z, κ z ρ2 (g z)) ∧ Z m2 ∧ Rel W ρ2 σ H2 F2 ∧ Same F1 F2 ∧ Rp W.K F2 vy dy) I1
    ⟨F1, rel1, fun d ρ' m' v H' F' h1 h2 h3 h4 h5 => ⟨F', d, ρ', m', h1, h2, h3, h4, h5⟩⟩) fun u s2 ⟨vy, H2, I2, r2, F2, dy, ρ2, m2, ⟨g, e2, hg⟩, z2, rel2, s2', p2⟩ => ?_
  subst e2
  obtain ⟨w, ew, zw⟩ := c.bind z2
  unfold addL2 at ew
  split at ew
  · rename_i xs ys
    split at ew
    · rename_i hz; cases ew
      obtain ⟨p1', vs', rfl, hp1, rxs⟩ := (p1.mono s2').toList
      obtain ⟨p2', ws, rfl, hp2, rys⟩ := p2.toList
      refine op_cat pins s2 σ H2 _ _ v u Q I2 r1 r2 ⟨_, _, vs', ws, rfl, rfl, rel2.sub _ _ hp1, rel2.sub _ _ hp2, ?_, fun q' hq' => ?_⟩
      · rw [rxs.length, rys.length]; exact szOk_line hz
      · exact q _ ρ2 _ _ q' H2 F2 (hg _) zw rel2 (ss1.trans s2') hq' (rxs.append rys)
    · cases ew
  · cases ew
end
/-! ### str(n) -/
def strD : D → R D
  | .int i => if decide (i.natAbs.log2 < 1920) = true then .ok (.str (toString i)) else .stuck
  | _ => .stuck
theorem bl_str : CallS (.type "str") (fn1 strD) := by
  intro X k hc hr gd pins s σ H vs us Q I rv ⟨F, ds, c, sub, ra0, e0, q⟩
  obtain ⟨a, rfl, e⟩ := fn1_ok e0
  obtain ⟨v, rfl, ra⟩ := ra0.one
  unfold strD at e
  split at e
  · split at e
    · rename_i hz; cases e
      rw [ra.toInt] at rv
      exact call_str_int pins s σ H _ us Q I rv ⟨_, rfl, of_decide_eq_true hz, q _ H F (Fx.refl sub) (.str _)⟩
    · cases e
  · cases e
/-! ### list(d.values()) -/
def valsL : D → R (List D)
  | .dict kvs => .ok (kvs.map (·.2))
  | _ => .stuck
section
variable {α : Type} {C : Ct} {ρ : Env} {m : R α}
theorem dn_vals {κ : List D → Env → R α → Prop} {o : Expr} {p ap mp pos : Pos} (hm : C.mg ("list" : Str) = none) (h : DE C ρ o m fun d ρ1 m1 => ∃ g, m1 = (valsL d).bind g ∧ ∀ xs, κ xs ρ1 (g xs))
    (hg : C.sc.names.lookup ("list" : Str) = some .globalImplicit := by rfl) (hbase : ∀ env : PySem.Env, env.scope = C.sc → attributeBase o "values" env (eval o env) = eval o env := by intro env he; rfl) (hline : (ap.endLine == mp.line) = true := by rfl)
    (hse : ∀ env : PySem.Env, starEach [Expr.Call (.Attribute o "values" ap) [] [] mp] env = [(false, eval (Expr.Call (.Attribute o "values" ap) [] [] mp) env)] := by intro _; rfl) : DN C ρ (.Call (.Name "list" p) [.Call (.Attribute o "values" ap) [] [] mp] [] pos) m κ := by
  intro X W Z x hK c z
  refine ⟨fun pins s σ H Q I ⟨F, r, q⟩ => ?_⟩
  refine wpAny_Call_Name_kw (ld_blt I (x.gl hg) (x.mg0 hm) (u := .type "list") rfl ?_ (by decide) (by decide))
  rw [hse]
  refine PySem.callWith_type1 (wpAny_Call_method0_late (hbase _ x.sc) hline (thn ((h X W Z x hK c z).run pins s σ H (fun v H1 => ∃ F1 d ρ1 m1, (∃ g, m1 = (valsL d).bind g ∧ ∀ xs, κ xs ρ1 (g xs)) ∧ Z m1 ∧ Rel W ρ1 σ H1 F1 ∧ Same F F1 ∧ Rp W.K F1 v d) I
    ⟨F, r, fun d ρ' m' v H' F' h1 h2 h3 h4 h5 => ⟨F', d, ρ', m', h1, h2, h3, h4, h5⟩⟩) fun v s1 ⟨vx, H1, I1, r1, F1, d, ρ1, m1, ⟨g, e, hgg⟩, z1, rel1, ss, pd⟩ => ?_))
  subst e
  obtain ⟨xs, ei, zi⟩ := c.bind z1
  unfold valsL at ei
  split at ei
  · rename_i kvs
    cases ei
    obtain ⟨a, es, ep, kV, vV, rfl, hsys, hz, ⟨ob, ho, hx, hdat⟩, hsz, _, _, rv, rvv⟩ := dict_raw I1 rel1.sub (show Rp X.K F1 vx (.dict kvs) by rw [x.K, ← hK]; exact pd)
    cases r1
    have raw : s1.heap.DictRaw a es ep := ⟨ob, ho, hx, hdat⟩
    refine ⟨"dict", "dict.values", PySem.F.plainAttrs_dict, PySem.F.slot_dict_values, PySem.F.type_dict_values, raw.typeIs, fun b e => ?_, Calls.callWith_builtin rfl (PySem.evalArgs_none ?_)⟩
    · cases e
      exact ⟨ob, ho, hx.2.1⟩
    refine call_meetsIn PySem.F.slot_dict_values raw.typeIs PySem.F.entry_dict_values (PySem.F.args_dict_values_1 _) (meets_dict_values_raw a hsys) ⟨⟨es, ep, raw⟩, ?_⟩
    have k1 : ∀ b u, s1.heap.get? b = some u → (s1.heap.push { cls := .type "dict_values", data := .fields #[.ref a] }).get? b = some u := fun b u e => Heap.get?_push_of_some _ e
    refine PySem.W.kdl_call (PySem.KdlSrc.rawValues (r := s1.heap.objs.size) (d := a) (es := es) (ep := ep)) (I.ok.hd x.calm) ⟨⟨_, Heap.get?_push_size _ rfl, rfl, rfl⟩, raw.at fun o e => k1 a o e⟩ (by rw [hsz]; exact hz) fun h' tk acc' c' hk hS hacc => ?_
    have hlen : s1.heap.objs.size ≤ (s1.heap.push { cls := .type "dict_values", data := .fields #[.ref a] }).objs.size := by rw [Heap.size_push]; exact Nat.le_succ _
    have el : acc'.toList = es.toList.map (·.val) := by
      refine List.ext_getElem? fun j => ?_
      by_cases hj : j < es.size
      · have h1 : j < acc'.size := by rw [hacc.1]; exact hj
        obtain ⟨hi, e2⟩ := hacc.2 j acc'[j] (Array.getElem?_eq_getElem h1)
        rw [Array.getElem?_toList, Array.getElem?_eq_getElem h1, e2, List.getElem?_map, Array.getElem?_toList, Array.getElem?_eq_getElem hi]; rfl
      · have h1 : ¬ j < acc'.size := by rw [hacc.1]; exact hj
        rw [Array.getElem?_toList, Array.getElem?_eq_none (by omega), List.getElem?_map, Array.getElem?_toList, Array.getElem?_eq_none (by omega)]; rfl
    have rV : Vals vV acc'.toList := by rw [el]; exact rvv
    have lV : vV.length ≤ sizeLine := by
      have := rv.length
      rw [List.length_map] at this
      omega
    have hfree : H1 (s1.heap.push { cls := .type "dict_values", data := .fields #[.ref a] }).objs.size = none := I1.hok.fresh hlen
    refine ⟨.ref _, _, I1.laid (t' := tk) (o := .lst vV) (fun b ob' q' => hk b ob' (k1 b ob' q')) hlen ⟨lV, acc'.toList, c', rV, ?_⟩, rfl, q _ ρ1 _ vV _ H1 F1 (hgg _) zi rel1 ss hfree (by rw [hK, ← x.K]; exact rv)⟩
    simpa using hS
  · cases ei
/-- d[e1] as a target -/
theorem dg_setF {L : Nat → Prop} {κ : Env → R α → Prop} {n : Str} {e1 : Expr} {np sp : Pos} {d : D} (i : Nat) {kvs0 : List (D × D)} (hρ : ρ[i]? = some (some (.dck kvs0))) (h : DE C ρ e1 m fun j ρ2 m2 => ∃ kvs g, ρ2[i]? = some (some (.dck kvs)) ∧ m2 = (setFM kvs j d).bind g ∧ ∀ ys, κ (ρ2.set i (some (.dck ys))) (g ys)) (hN : C.N[i]? = some n := by rfl)
    (hv : Vis C.sc n := by first | exact Or.inl rfl | exact Or.inr (Or.inl rfl) | exact Or.inr (Or.inr rfl)) (hd : (n == ("__debug__" : Str)) = false := by decide) (hcd : (n == ("__classdict__" : Str)) = false := by decide)
    (ha : ∀ (env : PySem.Env) v, assign (.Subscript (.Name n np) e1 sp) env v = (do
      let ov ← holding [v] (eval (.Name n np) env)
      let iv ← holding [v, ov] (eval e1 env)
      standAt sp
      holding [v, ov, iv] (setItem ov iv v)
      release [v, ov, iv] []) := by intro _ _; rfl) : DG C L ρ (.Subscript (.Name n np) e1 sp) d m κ := by
  intro X W Z x hK c z
  have hi : PE X e1 fun σ H Q => ∃ (q : R α × Env) (κ : D → Env → R α → Prop), (DE C q.2 e1 q.1 κ ∧ Z q.1) ∧ ∃ F, Rel W q.2 σ H F ∧ ∀ d ρ' m' v H' F', κ d ρ' m' → Z m' → Rel W ρ' σ H' F' → Same F F' → Rp W.K F' v d → Q v H' :=
    ⟨fun p s σ H Q I ⟨i, κ, pi, q⟩ => (pi.1 X W Z x hK c pi.2).run p s σ H Q I q⟩
  refine PG_imp (pg_sub (own_name x hN hv hd hcd) hi (set_dictF x.room) (ha _)) fun v σ H Q ⟨F, r, k5, q⟩ => ?_
  obtain ⟨p, _, a1, a2, _⟩ := r.dckAt hρ
  refine ⟨_, a1, (m, ρ), _, ⟨h, z⟩, F, r, fun j ρ2 m2 w H2 F2 ⟨kvs, g, b1, b2, b3⟩ j2 j3 j4 j5 => ?_⟩
  subst b2
  obtain ⟨p', kv', c1, c2, _, c4, c5, _⟩ := j3.dckAt b1
  rw [a1] at c1; cases c1
  obtain ⟨ys, ey, zy⟩ := c.bind j2
  unfold setFM at ey
  split at ey
  · rename_i n' hn
    split at ey
    · rename_i hz; cases ey
      refine ⟨F2, p, kv', kvs, j, n', d, rfl, c2, j3.sub, by rw [x.K, ← hK]; exact c4, by rw [x.K, ← hK]; exact j5, hn, by rw [x.K, ← hK]; exact k5.mono j4, by simpa using hz, fun kv2 hx2 => q _ _ _ _ F2 (b3 _) zy (c5 _ _ (by rw [x.K, ← hK] at hx2; exact hx2)) j4 fun _ _ => rfl⟩
    · cases ey
  · cases ey
end
end Z

set_option Elab.async false
set_option linter.all false
set_option maxRecDepth 100000
set_option autoImplicit false
/-! # Z31: defs that hand out a new list -/
namespace Z
open PySem L2
/-- the promise of a def that hands out a list that nobody else has -/
def spO (K : PySem.W.Frag) (n : Nat) (fm : List D → R (List D)) : Sp := fun vs H Q _ => ∃ F ds r, vs.length = n ∧ Same F H ∧ RpAll K F vs ds ∧ fm ds = .ok r ∧
  ∀ v as H' F', Fx F H F' H' → SlR K F' H' (.own r) v as → (∀ b ∈ as, H b = none) → Q v H'
structure FnO (C : Ct) (n : Str) (k : Nat) (fm : List D → R (List D)) : Prop where
  ex : ∃ f fd ps j, j ≤ C.k ∧ FnG C.P C.w C.K C.mg C.base CX0 j f fd ps (spO C.K k fm) ∧ C.mg n = some (.ref f) ∧ PySem.W.keepIn C.K (.ref f) = true ∧ Binds C.K fd ps []
def JfO : Jd (List D) := { nx := fun _ _ => False, rt := fun _ _ _ => False, bk := fun _ _ => False, ct := fun _ _ => False, rn := fun ow _ m => ∃ xs, ow = .own xs ∧ m = .ok xs }
theorem Rel.bare {W : Wd} {ρ : Env} {σ : L2.St} {H F : Hp} (r : Rel W ρ σ H F) : Rel W [] [] H F :=
  ⟨r.sub, r.sub0, r.keep, r.fresh, ⟨fun _ => [], fun i sl e => by simp at e⟩, Nat.le_refl _, r.trk⟩
theorem fnO_of {P : Program} {w : World} {K : PySem.W.Frag} {mg : Str → Option Value} {base : Heap} {x qual : Str} {st : Stmt} {f : Addr} {fd : FuncData} {N ps : List Str} {k n : Nat} {fm : List D → R (List D)} (F : Fun K x qual st f fd) (S : FnScope N ps (defScope st)) (hn : ps.length = n)
    (h : ∀ ds : List D, ds.length = n → DSs ⟨P, w, K, mg, base, k, N, defScope st, fun _ => true⟩ (startE N (ds.map .val)) (defBody st) (fm ds) JfO) : FnG P w K mg base CX0 (k + 1) f fd ps (spO K n fm) := by
  refine okG F S (fun vs H Q E h => ?_) (fun cdv A outer s H vs Q E gd hr hsp => ?_)
  · obtain ⟨_, _, _, hl, _⟩ := h
    rw [hl, hn]
  · obtain ⟨F0, ds, r, hl, sub, rd, er, q⟩ := hsp
    have hds : ds.length = n := by rw [← rd.length]; exact hl
    have xo : XOk ⟨P, w, K, mg, base, k, N, defScope st, fun _ => true⟩ (cxOf CX0 P w K mg base N qual (defScope st) f cdv A outer s H E).nox :=
      ⟨rfl, rfl, rfl, rfl, rfl, rfl, S.nd, rfl, rfl, hr, gd, PassesOwn.never, fun _ _ => rfl⟩
    have cl : Cl fun r' : R (List D) => r' = .ok r := ⟨(fun e => nomatch e), (fun _ _ e => nomatch e)⟩
    refine ⟨_, (h ds hds _ ⟨K, F0, H, []⟩ _ xo rfl cl.x er).nox, F0, ?_, ⟨fun _ _ _ _ _ h => h.elim, fun _ _ _ _ _ _ _ h => h.elim, fun _ _ _ _ _ h => h.elim, fun _ _ _ _ _ h => h.elim, fun ow ρ m v as H' F' ⟨s', e1, e2⟩ h2 h3 h4 h5 => ?_⟩⟩
    · refine VRel.rel (K := K) ⟨fun i d e => ?_, ?_⟩ (fun i sl e => ?_) sub
      · have e1 := startE_get e
        rw [List.getElem?_map] at e1
        cases e2 : ds[i]? with
        | none => rw [e2] at e1; cases e1
        | some d' =>
          rw [e2] at e1; cases e1
          obtain ⟨v, h1, h2⟩ := rd.at e2
          exact ⟨v, start_get h1, h2⟩
      · unfold startE L2.start; simp; omega
      · have e1 := startE_get e
        rw [List.getElem?_map] at e1
        cases e2 : ds[i]? with
        | none => rw [e2] at e1; cases e1
        | some d' => rw [e2] at e1; cases e1; exact ⟨d', rfl⟩
    · subst e1
      rw [h2] at e2; cases e2
      exact q v as H' F' h3.fx h4 fun b hb => (h5 b hb).elim (fun q => by simp at q) id
def HasO (P : Program) (w : World) (K : PySem.W.Frag) (mg : Str → Option Value) (base : Heap) (k : Nat) (n : Str) (ar : Nat) (fm : List D → R (List D)) : Prop := ∀ N sc fn, FnO ⟨P, w, K, mg, base, k, N, sc, fn⟩ n ar fm
theorem At.o {P : Program} {w : World} {K : PySem.W.Frag} {mg : Str → Option Value} {base : Heap} {n : Str} {st : Stmt} {ps N : List Str} {fm : List D → R (List D)} {lv ar : Nat} (A : At K mg n st ps) (S : FnScope N ps (defScope st)) (hn : ps.length = ar)
    (h : ∀ ds : List D, ds.length = ar → DSs ⟨P, w, K, mg, base, lv, N, defScope st, fun _ => true⟩ (startE N (ds.map .val)) (defBody st) (fm ds) JfO) (k : Nat) (hk : lv + 1 ≤ k) : HasO P w K mg base k n ar fm := fun _ _ _ =>
  let ⟨f, fd, F, hm, b⟩ := A
  ⟨⟨f, fd, ps, lv + 1, hk, fnO_of F S hn h, hm, F.kp, b⟩⟩
def on1 (f : D → R (List D)) : List D → R (List D)
  | [a] => f a
  | _ => .stuck
def on2 (f : D → D → R (List D)) : List D → R (List D)
  | [a, b] => f a b
  | _ => .stuck
def on3 (f : D → D → D → R (List D)) : List D → R (List D)
  | [a, b, c] => f a b c
  | _ => .stuck
def on4 (f : D → D → D → D → R (List D)) : List D → R (List D)
  | [a, b, c, d] => f a b c d
  | _ => .stuck
theorem on1_eq (f : D → R (List D)) (a : D) : on1 f [a] = f a := rfl
theorem on2_eq (f : D → D → R (List D)) (a b : D) : on2 f [a, b] = f a b := rfl
theorem on3_eq (f : D → D → D → R (List D)) (a b c : D) : on3 f [a, b, c] = f a b c := rfl
theorem on4_eq (f : D → D → D → D → R (List D)) (a b c d : D) : on4 f [a, b, c, d] = f a b c d := rfl
section
variable {α : Type} {C : Ct} {ρ : Env} {m : R α}
/-- return x, a list of one's own -/
theorem ds_retOwn {J : Jd α} {n : Str} {np pos : Pos} {rest : List Stmt} {xs : List D} (i : Nat) (hρ : ρ[i]? = some (some (.own xs))) (k : J.rn (.own xs) ρ m) (hN : C.N[i]? = some n := by rfl)
    (hv : Vis C.sc n := by first | exact Or.inl rfl | exact Or.inr (Or.inl rfl) | exact Or.inr (Or.inr rfl)) (hd : (n == ("__debug__" : Str)) = false := by decide) (hcd : (n == ("__classdict__" : Str)) = false := by decide) : DSs C ρ (.Return (some (.Name n np)) pos :: rest) m J := by
  intro X W Z x hK c z
  refine PSs_imp (pss_cons (ps_ret (own_name x hN hv hd hcd)) pss_never) fun D σ H ⟨F, r, l⟩ => ?_
  obtain ⟨v, as, h1, h2, h3, _⟩ := r.slot hρ
  exact ⟨v, h1, l.rn (.own xs) ρ m v as H F k z r.bare h2 h3⟩
/-- f(..), a list of one's own -/
theorem dn_callO {κ : List D → Env → R α → Prop} {n : Str} {k : Nat} {fm : List D → R (List D)} {p pos : Pos} {e : Expr} {es : List Expr} (G : FnO C n k fm)
    (h : DA C ρ (e :: es) m fun ds ρ1 m1 => ds.length = k ∧ ∃ (rr : R (List D)) (g : List D → R α), fm ds = rr ∧ m1 = rr.bind g ∧ ∀ r, κ r ρ1 (g r)) (hg : C.sc.names.lookup n = some .globalImplicit := by rfl) (hdb : (n == ("__debug__" : Str)) = false := by decide)
    (he : ∀ env : PySem.Env, starEach (e :: es) env = (false, eval e env) :: starEach es env := by intro _; rfl) (hpl : ∀ env : PySem.Env, (backTo pos (starEach es env)).any (·.1) = false := by intro _; rfl) : DN C ρ (.Call (.Name n p) (e :: es) [] pos) m κ := by
  intro X W Z x hK c z
  obtain ⟨f, fd, ps, j, hj, ok, hm, kp, b⟩ := G.ex
  refine PE_imp (pe_callG (fnAt x ok hj) x.grd x.room (x.gl hg) (by rw [x.mg]; exact hm) (by rw [x.K]; exact kp) (by rw [x.K]; exact b) pass0 (h X W Z x hK c z) hdb (he _) (hpl _)) fun σ H Q ⟨F, r, q⟩ => ⟨F, r, fun ds ρ' m' vs H' F' ⟨hl, r0, g, e0, e1, hg⟩ h2 h3 h4 h5 => ?_⟩
  subst e0 e1
  obtain ⟨rr, er, zr⟩ := c.bind h2
  show spO C.K k fm vs H' Q E0
  refine ⟨F', ds, rr, by rw [h5.length]; exact hl, h3.sub, by rw [← hK]; exact h5, er, fun v as H2 F2 fx hs hn => ?_⟩
  obtain ⟨pp, ws, rfl, rfl, hp, hf, rd⟩ := hs
  have hp0 : H' pp = none := hn pp (by simp)
  have e1 : upd (fun b => if b = pp then none else H2 b) pp (.lst ws) = H2 := funext fun b => by
    by_cases hb : b = pp
    · subst hb; rw [upd_same]; exact hp.symm
    · rw [upd_ne hb]; simp only [if_neg hb]
  have fx' : Fx F' H' F2 (fun b => if b = pp then none else H2 b) := ⟨fx.ff, fun b o hb => by simp only [if_neg (ne_of_none hb hf)]; exact fx.fh b o hb, fun b o hb => by simp only [if_neg (ne_of_none hb hp0)]; exact fx.hh b o hb, fx.new⟩
  rw [← e1]
  exact q rr ρ' _ ws pp _ F2 (hg rr) zr (h3.step fx') (h4.trans fx.ff) (by simp) (by rw [hK]; exact rd)
end
end Z

set_option Elab.async false
set_option linter.all false
set_option maxRecDepth 100000
set_option autoImplicit false
/-! # Z32: a local name that holds a def -/
namespace Z
open PySem L2
section
variable {X : Cx} {Cy : CXT} {k i : Nat} {f : Addr} {fd : FuncData} {ps : List Str} {sp : Sp} {E : XK} {x : Str} {p pos : Pos} {e : Expr} {es : List Expr} {t : TA}
theorem pe_callLG (G : FnG X.prog X.w X.K X.mg X.base Cy k f fd ps sp) (gd : X.A.guards = some []) (rm : Room k X.A) (hN : X.N[i]? = some x) (hv : Vis X.env.scope x) (kp : PySem.W.keepIn X.K (.ref f) = true) (bd : Binds X.K fd ps []) (pass : Passes Cy X E)
    (ha : PA X (e :: es) t) (hdb : (x == ("__debug__" : Str)) = false) (hcd : (x == ("__classdict__" : Str)) = false) (he : starEach (e :: es) X.env = (false, eval e X.env) :: starEach es X.env) (hpl : (backTo pos (starEach es X.env)).any (·.1) = false) :
    PE X (.Call (.Name x p) (e :: es) [] pos) (fun σ H Q => σ[i]? = some (some (.ref f)) ∧ t σ H fun vs H1 => sp vs H1 Q E) where
  run := fun pins s σ H Q I ⟨hs, ht⟩ => wpAny_Call_Name_kw (thn ((pe_var (pos := p) hN hv hdb hcd).run pins s σ H (fun v H1 => v = .ref f ∧ H1 = H) I ⟨.ref f, hs, rfl, rfl⟩) fun u s1 ⟨v, H1, I1, r1, q1⟩ => by
    obtain ⟨rfl, rfl⟩ := q1
    cases r1
    exact PySem.W.callWith_K (h₀ := X.base) I.ok.mod.kin kp (thn (ha.run pos pins s1 σ _ _ I1 ht) fun us s2 ⟨vs, H2, I2, rel, q⟩ => ⟨I2.kIn, runG G gd rm bd pass I2 rel q⟩) he hpl)
end
theorem At.has {K : PySem.W.Frag} {mg : Str → Option Value} {n : Str} {st : Stmt} {ps : List Str} (A : At K mg n st ps) : ∃ a, mg n = some (.ref a) := let ⟨f, _, _, hm, _⟩ := A; ⟨f, hm⟩
section
variable {α : Type} {C : Ct} {ρ : Env} {m : R α}
/-- x(..), x holds a def -/
theorem de_callV {κ : D → Env → R α → Prop} {n x0 : Str} {k : Nat} {fm : List D → R D} {p pos : Pos} {e : Expr} {es : List Expr} (i : Nat) {a : Addr} (hρ : ρ[i]? = some (some (.fn a))) (G : FnP C n k fm) (hmg : C.mg n = some (.ref a))
    (h : DA C ρ (e :: es) m fun ds ρ1 m1 => ds.length = k ∧ ∃ (rr : R D) (g : D → R α), fm ds = rr ∧ m1 = rr.bind g ∧ ∀ r, κ r ρ1 (g r)) (hN : C.N[i]? = some x0 := by rfl)
    (hv : Vis C.sc x0 := by first | exact Or.inl rfl | exact Or.inr (Or.inl rfl) | exact Or.inr (Or.inr rfl)) (hdb : (x0 == ("__debug__" : Str)) = false := by decide) (hcd : (x0 == ("__classdict__" : Str)) = false := by decide)
    (he : ∀ env : PySem.Env, starEach (e :: es) env = (false, eval e env) :: starEach es env := by intro _; rfl) (hpl : ∀ env : PySem.Env, (backTo pos (starEach es env)).any (·.1) = false := by intro _; rfl) : DE C ρ (.Call (.Name x0 p) (e :: es) [] pos) m κ := by
  intro X W Z x hK c z
  obtain ⟨f, fd, ps, j, hj, ok, hm, kp, b⟩ := G.ex
  have ef : f = a := by rw [hm] at hmg; cases hmg; rfl
  subst ef
  refine PE_imp (pe_callLG (i := i) (fnAt x ok hj) x.grd x.room (by rw [x.N]; exact hN) (x.vis hv) (by rw [x.K]; exact kp) (by rw [x.K]; exact b) pass0 (h X W Z x hK c z) hdb hcd (he _) (hpl _)) fun σ H Q ⟨F, r, q⟩ => ?_
  obtain ⟨v, as, h1, ⟨rfl, _⟩, _⟩ := r.slot hρ
  refine ⟨h1, F, r, fun ds ρ' m' vs H' F' ⟨hl, r0, g, e0, e1, hg⟩ h2 h3 h4 h5 => ?_⟩
  subst e0 e1
  obtain ⟨rr, er, zr⟩ := c.bind h2
  show spP C.K k fm vs H' Q E0
  exact ⟨F', ds, rr, by rw [h5.length]; exact hl, h3.sub, by rw [← hK]; exact h5, er, fun v H2 F2 fx p => q _ ρ' _ v H2 F2 (hg rr) zr (h3.step fx) (h4.trans fx.ff) (by rw [hK]; exact p)⟩
/-- x = f if t else g -/
theorem ds_setFn {J : Jd α} {n n1 n2 : Str} {t : Expr} {p p1 p2 pe pos : Pos} {rest : List Stmt} (i : Nat) (hm1 : ∃ a, C.mg n1 = some (.ref a)) (hm2 : ∃ b, C.mg n2 = some (.ref b))
    (h : DT C ρ t m fun t ρ1 m1 => ∃ A B, m1 = (if t = true then A else B) ∧ (∀ a, C.mg n1 = some (.ref a) → DSs C (ρ1.set i (some (.fn a))) rest A J) ∧ (∀ b, C.mg n2 = some (.ref b) → DSs C (ρ1.set i (some (.fn b))) rest B J)) (hN : C.N[i]? = some n := by rfl)
    (hx : Loc C.sc n := by first | exact Or.inl rfl | exact Or.inr rfl) (hfn : C.fn n = true ∨ C.sc.names.lookup n = some .local := by first | exact Or.inl rfl | exact Or.inr rfl)
    (hg1 : C.sc.names.lookup n1 = some .globalImplicit := by rfl) (hg2 : C.sc.names.lookup n2 = some .globalImplicit := by rfl) (hd1 : (n1 == ("__debug__" : Str)) = false := by decide) (hd2 : (n2 == ("__debug__" : Str)) = false := by decide)
    (hs : ∀ env : PySem.Env, env.scope = C.sc → swapsWith (.IfExp t (.Name n1 p1) (.Name n2 p2) pe) (some (.Name n p)) pos.line env = pure false := by intro env he; rfl) : DSs C ρ (.Assign [.Name n p] (.IfExp t (.Name n1 p1) (.Name n2 p2) pe) pos :: rest) m J := by
  intro X W Z x hK c z
  obtain ⟨a, ha⟩ := hm1
  obtain ⟨b, hb⟩ := hm2
  have hf : X.fn n = true ∨ X.env.scope.names.lookup n = some .local := hfn.elim (fun h => .inl (x.fnl n h)) fun h => .inr (by rw [x.sc]; exact h)
  refine PSs_imp (pss_cons (ps_set (i := i) (by rw [x.N]; exact x.nd) (by rw [x.N]; exact hN) (by rw [x.sc]; exact hx) (pe_ifExp (h X W Z x hK c z) (pe_glob (x.gl hg1) (by rw [x.mg]; exact ha) (v := .ref a) rfl hd1) (pe_glob (x.gl hg2) (by rw [x.mg]; exact hb) (v := .ref b) rfl hd2)) (hs _ x.sc) hf) (rest_run (J := J) x hK c)) fun D σ H ⟨F, r, l⟩ => ?_
  refine ⟨F, r, fun t ρ' m' H' F' ⟨A, B, e, hA, hB⟩ h2 h3 h4 => ?_⟩
  subst e
  cases t with
  | true => exact ⟨(A, _), ⟨hA a ha, h2⟩, F', h3.give (Fx.refl h3.sub) i (as := []) ⟨rfl, rfl⟩ (by simp), l⟩
  | false => exact ⟨(B, _), ⟨hB b hb, h2⟩, F', h3.give (Fx.refl h3.sub) i (as := []) ⟨rfl, rfl⟩ (by simp), l⟩
end
end Z

set_option Elab.async false
set_option linter.all false
set_option maxRecDepth 100000
set_option maxHeartbeats 0
set_option autoImplicit false
/-! # Z25: an own exception class whose __init__ says super().__init__(x), then self.f = x: it is made -/
namespace ZPl
open Z PySem PySem.W PySem.Calls PyProof.Rows PySem.HandSPX

/-! ### its text -/
def sArgs (p1 p2 : Pos) : Arguments := { posonlyargs := [], args := [{ arg := "self", annotation := none, pos := p1 }, { arg := "place", annotation := none, pos := p2 }], vararg := none, kwonlyargs := [], kw_defaults := [], kwarg := none, defaults := [] }
def sBody (a1 a2 a3 a4 a5 a6 b1 b2 b3 b4 : Pos) : List Stmt :=
  [.Expr (.Call (.Attribute (.Call (.Name "super" a1) [] [] a2) "__init__" a3) [.Name "place" a4] [] a5) a6, .Assign [.Attribute (.Name "self" b1) "place" b2] (.Name "place" b3) b4]
def sScope : Scope := { kind := .function, names := [(PySem.Str.ofString "self", .local), (PySem.Str.ofString "place", .local), (PySem.Str.ofString "__class__", .free), (PySem.Str.ofString "super", .globalImplicit)], isGenerator := false, isCoroutine := false, more := [] }
/-- what the top has left of the class at C, its __init__ at g, the cell __class__ at cc, the code at cda -/
structure SupC (prog : Program) (K : Frag) (mg : Str → Option Value) (cn : Str) (C g cc cda : Addr) : Prop where
  gC : mg cn = some (.ref C)
  cls : ∃ nm q N bs bm sn sub ab col dd k0 k1 k2 k3 k5, K.lookup C = some (excClassObj nm q C N bs bm true sn sub ab col dd k0 k1 k2 k3 k5 "ValueError.__new__") ∧ refsVE bm = true
  sa : findIn K (.ref C) "__setattr__" = some (some (.builtin "object.__setattr__"))
  ga : findIn K (.ref C) "__getattribute__" = some (some (.builtin "BaseException.__getattribute__"))
  gg : findIn K (.ref C) "__getattr__" = some none
  noF : findIn K (.ref C) "place" = some none
  iC : findIn K (.ref C) "__init__" = some (some (.ref g))
  tg : typeIn K (.ref g) = some (.type "function")
  kC : keepIn K (.ref C) = true
  exC : subIn K (.ref C) (.type "BaseException") = some true
  veC : subIn K (.ref C) (.type "ValueError") = some true
  tyC : typeIn K (.ref C) = some (.type "type")
  hdC : hasDictIn K C = true
  te : exmOne K (.ref C) (.ref C) = some true
  up : ks_superIn K C C "__init__" = some (some (.builtin "ValueError.__init__"))
  self : mroIn K C (.ref C) = some true
  opq : nsIn K cStatics "thirdparty.any" = some none
  noS : mg "super" = none
  top : (prog.main.scope.names.lookup ("super" : Str)).isSome = false
  cell : ∃ (cl : Value) (cld : Option Addr) (csl : Array (Option Value)), K.lookup cc = some ⟨cl, cld, .cell (some (.ref C)), csl⟩
  code : ∃ (ccl : Value) (cdd : Option Addr) (vs : Array Value) (ccs : Array (Option Value)) (file : Str) (tf : Tok), K.lookup cda = some ⟨ccl, cdd, .fields vs, ccs⟩ ∧ vs[2]? = some (.str file tf) ∧ ((prog.main.file : Str) == file) = true
  fn : ∃ (oc : Value) (od : Option Addr) (doc pm : Value) (an : Option Addr) (ct : Value) (osl : Array (Option Value)) (qual : Str) (p1 p2 a1 a2 a3 a4 a5 a6 b1 b2 b3 b4 : Pos), (a3.endLine == a5.line) = true ∧ (a1.endLine == a1.endLine) = true ∧
    K.lookup g = some ⟨oc, od, .func (fnX "__init__" qual (sArgs p1 p2) (sBody a1 a2 a3 a4 a5 a6 b1 b2 b3 b4) sScope [("__class__", cc)] .none .none doc pm an (.ref cda) ct), osl⟩ ∧ codeIn K (.ref cda) qual = true

theorem one_fits (v : Value) : [v].length ≤ sizeLine := by rw [sizeLine_eq]; show 1 ≤ 16777216; decide
/-- a fresh exception behind its __init__ -/
structure Inited (h h' : Heap) (x C dx t1 : Addr) (v : Value) : Prop where
  keep : ∀ b o, b ≠ x → h.get? b = some o → h'.get? b = some o
  obj : h'.get? x = some { cls := .ref C, dict := some dx, data := .fields #[.ref t1, .none, .none, .none, .bool false, .none] }
  big : h.objs.size ≤ dx
  ne : dx ≠ x
  ns : h'.Ns1 dx (fun y => if y = "place" then some v else none)

section
variable {prog : Program} {w : World} {A : Around} {E : Value → Shared → Prop} {R : Result → Shared → Prop} {s : Shared} {K : Frag} {mg : Str → Option Value} {cn : Str} {C g cc cda : Addr} {base : Heap}

theorem loadL {M : Model} {env : PySem.Env} {m : Str → Option Value} {x : Str} {pos : Pos} {v : Value} {Q : Value → Shared → Prop} (hn : s.heap.Ns env.locals m) (hv : m x = some v) (q : Q v s) (hk : env.scope.kind = .function) (hl : env.kindOf x = some .local) (hd : (x == ("__debug__" : Str)) = false) : wpAny M A (eval (.Name x pos) env) Q E s :=
  wpAny_Name (wpAny_loadName_local hk hl hn hv q) hd
/-- ValueError.__init__ bound to the exception at x, called -/
theorem callUp {x u t0 : Addr} {rest : List Value} {Q : Value → Shared → Prop} {nm q : Str} {N : Addr} {bs bm : List Value} {hdct : Bool} {sn : List Str} {sub : List Value} {ab : Bool} {col : Option Bool} {dd : Option Addr} {k0 k1 k2 k3 k5 : Option Value}
    (hC : s.heap.get? C = some (excClassObj nm q C N bs bm hdct sn sub ab col dd k0 k1 k2 k3 k5 "ValueError.__new__")) (hx : s.heap.get? x = some (excO C t0)) (hu : s.heap.get? u = some (kxs_mw "ValueError.__init__" x)) (hz : rest.length ≤ sizeLine)
    (hq : ∀ h', (∀ b o, b ≠ x → s.heap.get? b = some o → h'.get? b = some o) → h'.get? x = some (excO C s.heap.objs.size) → Q .none { s with heap := h' }) :
    wpAny (model prog w) A (call (.ref u) rest) Q E s := by
  obtain ⟨hp, gs, dr, tk, os⟩ := s
  refine wpAny_call (codeAny_of_tree ?_)
  show wpAny _ A.in1 (callAny (.ref u) ⟨rest, []⟩) _ _ _
  simp only [callAny]
  refine wpAny_bind (wpAny_load hu ?_)
  simp only [kxs_mw, show (Value.type "method-wrapper" == Value.type "method" || Value.type "method-wrapper" == Value.type "builtin_function_or_method" || Value.type "method-wrapper" == Value.type "method-wrapper") = true by decide, if_true]
  refine KFB.if_so (by decide) (wpAny_bind (check_bound_init PySem.F.excBase_ValueError.toExcCallFacts hC hx rfl ?_))
  refine wpAny_bind (wpAny_pure (wpAny_pure ⟨plainId_quiet PySem.F.excBase_ValueError.init.plain _, codeAny_builtin PySem.F.excBase_ValueError.initEntry ?_⟩))
  exact exc_init_tree (cls := .ref C) (t0 := t0) (dv := none) (c2 := .none) (c3 := .none) (b4 := .bool false) hx hz fun h' k e' _ => hq h' k e'
/-- o.n(e), its parts on one line -/
theorem eval_meth {o e : Expr} {nm : Str} {ap cp : Pos} {env : PySem.Env} (hl : (ap.endLine == cp.line) = true) (hs : starEach [e] env = [(false, eval e env)]) :
    eval (.Call (.Attribute o nm ap) [e] [] cp) env = (do
      let ov ← attributeBase o nm env (eval o env)
      standAt ap.atName
      let (f, first) ← holding [ov] (getMethod ov nm (do return (← importBound o env).getD true))
      callWith cp f first (backTo cp (starEach [e] env)) []) := by
  rw [arm_eval_Call]
  have form : methodCallForm (([e] : List Expr).length + ([] : List Keyword).length) (backTo cp (starEach [e] env)) (backToKw cp (keywordEach [] env)) = true := by rw [hs]; rfl
  have hp : methodCallPos true o env ap cp = pure cp := by unfold methodCallPos; simp [hl]
  unfold methodCall calleeOf
  rw [form, hp]
  rfl
/-- self, the number: __init__ -/
theorem sup_init (T : SupC prog K mg cn C g cc cda) (md : L2.Mod K mg base) (k0 : ∀ b o, base.get? b = some o → s.heap.get? b = some o) {x t0 : Addr} {v : Value} (hx : s.heap.get? x = some (excO C t0)) (hnx : K.lookup x = none) (hroom : A.depth < recursionLimit)
    (hq : ∀ h' tk dx t1, Inited s.heap h' x C dx t1 v → R (.ok (.ret .none)) { s with heap := h', toks := tk }) :
    codeAny (model prog w) A (.call (.ref g) ⟨[.ref x, v], []⟩) R s := by
  obtain ⟨oc, od, doc, pm, an, ct, osl, qual, p1, p2, a1, a2, a3, a4, a5, a6, b1, b2, b3, b4, hline, _, ho, hcd⟩ := T.fn
  obtain ⟨nm, q, N, bs, bm, sn, sub, ab, col, dd, e0, e1, e2, e3, e5, hC, hbm⟩ := T.cls
  obtain ⟨cl, cld, csl, hcell⟩ := T.cell
  obtain ⟨ccl, cdd, vs, ccs, file, tf, hcode, hvs, hfile⟩ := T.code
  obtain ⟨mb, hmb, hboot⟩ := md.blt
  have kin : K.In s.heap := md.kin.keeps k0
  have hcl : clsIn K C = some { name := nm, bases := bs, mro := .ref C :: bm, ns := N, qualname := q, hasDict := true, slotNames := sn, subclasses := sub, abstract := ab, collection := col, hasDel := false } := by unfold clsIn; rw [hC] <;> rfl
  have hxC : x ≠ C := fun z => by rw [z, hC] at hnx; cases hnx
  refine ks_codeAny_call_defAt (fd := fnX "__init__" qual (sArgs p1 p2) (sBody a1 a2 a3 a4 a5 a6 b1 b2 b3 b4) sScope [("__class__", cc)] .none .none doc pm an (.ref cda) ct) (body := sBody a1 a2 a3 a4 a5 a6 b1 b2 b3 b4) (binds := [("self", .ref x), ("place", v)])
    (args := ⟨[.ref x, v], []⟩) hroom (kin _ _ ho) rfl (md.nolimit.keeps k0) (codeRec_of kin hcd) rfl (BindsTo.of_eq (by first | rfl | with_unfolding_all rfl)) (show ∀ z ∈ sScope.names, z.2 ≠ .cell by decide) (fun z hz => ?_) (fun h1 hns hk => ?_) rfl rfl rfl
  · rcases List.mem_cons.mp hz with rfl | hz
    · exact (rfl : sScope.names.lookup ("self" : Str) = some .local)
    · rcases List.mem_cons.mp hz with rfl | hz
      · exact (rfl : sScope.names.lookup ("place" : Str) = some .local)
      · cases hz
  have kin1 : K.In h1 := kin.keeps hk
  have hx1 := hk _ _ hx
  have xL : s.heap.objs.size ≠ x := Nat.ne_of_gt (Heap.lt_size hx)
  have hxC' : (excO C t0).cls = .ref C := rfl
  have I1 : W.InstAt h1 x (excO C t0) C none := ⟨hx1, rfl, rfl, trivial⟩
  have hD := kin1 _ _ hC
  refine ks_wpAt_execs_cons (ks_wpAt_Expr_any (ks_wpAt_MethodCall (ks_wpAt_super_base (attr := "__init__") (ar := { arg := "self", annotation := none, pos := p1 }) (show sScope.names.lookup ("super" : Str) = _ from rfl) (show sScope.names.lookup ("__class__" : Str) = _ from rfl) (by decide) rfl (kin1 _ _ ho) rfl rfl rfl (kin1 _ _ hcode) rfl hvs hfile T.top ?_) (eval_meth hline rfl)))
  refine ks_loadName_global rfl (show sScope.names.lookup ("super" : Str) = _ from rfl) (loadGlobal_builtin ((md.glob.keeps k0).keeps hk) T.noS ((hmb.keeps k0).keeps hk) ((hboot "super" (by decide)).trans (by first | rfl | decide +kernel)) ⟨rfl, ?_⟩)
  refine wpAny_loadName_free (v := .ref C) rfl (show sScope.names.lookup ("__class__" : Str) = _ from rfl) (c := cc) rfl ⟨_, kin1 _ _ hcell, rfl⟩ ?_
  refine wpAny_loadName_local (v := .ref x) rfl (show sScope.names.lookup ("self" : Str) = _ from rfl) hns (by first | rfl | with_unfolding_all rfl | kernel_rfl) ?_
  refine ks_wpAny_isType_cls hD rfl ⟨rfl, ?_⟩
  refine ks_wpAny_call_super hD rfl hx1 rfl (fun c z => nomatch z) (looks_mroIn kin1 T.self) (fun h2 hso k2 => ?_)
  have kin2 : K.In h2 := kin1.keeps k2
  have I2 : W.InstAt h2 x (excO C t0) C none := ⟨k2 _ _ hx1, rfl, rfl, trivial⟩
  have hmro : W.Looks (model prog w) h2 (mroOf (.ref C)) (.ref C :: bm) := fun A Q E s k q => wpAny_bind ((looks_clsIn kin2 hcl) A _ E s k (wpAny_pure q))
  have hal : alongIn K "__init__" (((Value.ref C :: bm).dropWhile (· != .ref C)).drop 1) = some (some (.builtin "ValueError.__init__")) := by
    have z := T.up
    unfold ks_superIn at z
    rw [hcl] at z
    exact z
  have his : W.Looks (model prog w) h2 (isInstance (.ref x) (.type "ValueError")) true := I2.type.andThen (looks_subIn kin2 T.veC)
  refine kxs_getMethod kxs_ValueError hso (looks_opaque kin2 T.opq) hmro rfl kin2 hal his hxC (by decide) ?_
  refine kxs_callWith (i := "ValueError.__init__") (x := x) rfl (evalArgs_plain ?_)
  have k3 : ∀ b o, h2.get? b = some o → (h2.push (kxs_mw "ValueError.__init__" x)).get? b = some o := fun b o e => Heap.get?_push_of_some _ e
  show wpAny _ _ (spliced ((false, eval (.Name "place" a4) _) :: backTo a5 (starEach [] _))) _ _ _
  refine Calls.spliced_cons (loadL (v := v) ((hns.keeps k2).keeps k3) (by first | rfl | with_unfolding_all rfl | kernel_rfl) ?_ rfl rfl (by decide))
  refine Calls.spliced_nil ⟨Heap.get?_push_size _ rfl, ?_⟩
  refine callUp (hC := (kin2.keeps k3) _ _ hC) (hx := k3 _ _ (k2 _ _ hx1)) (hu := Heap.get?_push_size _ rfl) (one_fits v) (fun h4 k4 hx4 => ?_)
  have kin4 : K.In h4 := fun b o e => k4 b o (fun z => by rw [z, hnx] at e; cases e) ((kin2.keeps k3) b o e)
  have hns4 := ((hns.keeps k2).keeps k3).at (h' := h4) fun o e => k4 _ o xL e
  show _root_.PySem.wpAt _ _ _ _ _ _ _
  refine ks_wpAt_execs_cons (ks_wpAt_Assign_Attr (wpAt_of_wpAny (loadL (v := v) hns4 (by first | rfl | with_unfolding_all rfl | kernel_rfl) (loadL (v := .ref x) hns4 (by first | rfl | with_unfolding_all rfl | kernel_rfl) ?_ rfl rfl (by decide)) rfl rfl (by decide))))
  refine set_plain kin4 (ox := excO C _) (od := none) ⟨hx4, rfl, rfl, trivial⟩ T.sa ?_
  refine exc_osa kin4 hx4 hcl (show refsVE (.ref C :: bm) = true from hbm) rfl T.noF (fun h5 tk5 dx k5 dn dne hx5 hn5 => ?_)
  have up : s.heap.objs.size ≤ dx := by
    have z : s.heap.objs.size < h4.objs.size := hns4.lt
    exact Nat.le_of_lt (Nat.lt_of_lt_of_le z dn)
  show _root_.PySem.wpAt _ _ _ _ _ _ _
  exact wpAt_of_wpAny (wpAny_execs_nil (hq h5 tk5 dx _ ⟨fun b o hb e => k5 b o hb (k4 b o hb (k3 b o (k2 b o (hk b o e)))), hx5, up, dne, hn5⟩))
/-- C(v) -/
structure Made (h h' : Heap) (e C d : Addr) (v : Value) : Prop where
  keep : ∀ b o, h.get? b = some o → h'.get? b = some o
  new : h.objs.size ≤ e
  obj : ∃ oe vs, h'.get? e = some oe ∧ oe.cls = .ref C ∧ oe.dict = some d ∧ oe.data = .fields vs ∧ vs[1]? = some .none
  big : h.objs.size ≤ d
  ne : d ≠ e
  ns : h'.Ns1 d (fun y => if y = "place" then some v else none)
theorem sup_made (T : SupC prog K mg cn C g cc cda) (md : L2.Mod K mg base) (k0 : ∀ b o, base.get? b = some o → s.heap.get? b = some o) {v : Value} (hroom : A.depth + 1 < recursionLimit)
    (hq : ∀ h' tk e d, Made s.heap h' e C d v → R (.ok (.ret (.ref e))) { s with heap := h', toks := tk }) : codeAny (model prog w) A (.call (.ref C) ⟨[v], []⟩) R s := by
  obtain ⟨nm, q, N, bs, bm, sn, sub, ab, col, dd, e0, e1, e2, e3, e5, hC, hbm⟩ := T.cls
  have kin : K.In s.heap := md.kin.keeps k0
  obtain ⟨hp, gs, dr, tk, os⟩ := s
  have up2 : ∀ b o, hp.get? b = some o → ((hp.push (kdv_tup [v])).push (excO C hp.objs.size)).get? b = some o := fun b o e => Heap.get?_push_of_some _ (Heap.get?_push_of_some _ e)
  have at2 : ((hp.push (kdv_tup [v])).push (excO C hp.objs.size)).get? (hp.objs.size + 1) = some (excO C hp.objs.size) := by heap_get
  have free2 : K.lookup (hp.objs.size + 1) = none := by
    cases z : K.lookup (hp.objs.size + 1) with
    | none => rfl
    | some o => exact absurd (Nat.lt_of_succ_lt (Heap.lt_size (kin _ _ z))) (Nat.lt_irrefl _)
  refine call_own PySem.F.excBase_ValueError (fun Y => refsVE_contains Y bm hbm) (kin _ _ hC) (looks_findIn kin T.iC) (fun self => bind_fn kin self T.tg) (one_fits v) ?_
  refine sup_init (s := ⟨(hp.push (kdv_tup [v])).push (excO C hp.objs.size), gs, dr, tk, os⟩) T md (fun b o e => up2 b o (k0 b o e)) at2 free2 (show A.depth + 1 < recursionLimit from hroom) fun h' tk' dx t1 M => ⟨rfl, hq h' tk' (hp.objs.size + 1) dx ?_⟩
  have big : hp.objs.size + 1 + 1 ≤ dx := by
    have z := M.big
    first
      | (simpa only [Heap.size_push] using z)
      | exact z
      | (rw [Heap.size_push, Heap.size_push] at z; exact z)
  exact ⟨fun b o e => M.keep b o (Nat.ne_of_lt (Nat.lt_succ_of_lt (Heap.lt_size e))) (up2 b o e), Nat.le_succ _, ⟨_, _, M.obj, rfl, rfl, rfl, rfl⟩, Nat.le_trans (Nat.le_trans (Nat.le_succ _) (Nat.le_succ _)) big, M.ne, M.ns⟩
end
end ZPl
namespace ZPl
open Z PySem L2
theorem relO_one {v : V} {u : Value} (r : RelV v u) (f : Str) : RelO (List.lookup f [(("place" : Str), v)]) (if f = "place" then some u else none) := by
  by_cases h : f = "place"
  · subst h
    rw [if_pos rfl, show List.lookup ("place" : Str) [(("place" : Str), v)] = some v by simp [List.lookup]]
    exact r
  · rw [if_neg h, show List.lookup f [(("place" : Str), v)] = none by simp [List.lookup, show (f == ("place" : Str)) = false by simpa using h]]
    trivial
section
variable {X : Cx} {C g cc cda : Addr} {cn : Str}
/-- C(e): the exception that is made -/
def tSup (C : Addr) (ta : TA) : L2.St → Hp → XK → Prop := fun σ H Q => ta σ H fun vs H1 => ∃ v, vs = [v] ∧ ∀ d, H1 d = none → Q (.ref C) (some d) (upd H1 d (.xd [(("place" : Str), v)]))
theorem pmk_sup {a : Expr} {ta : TA} {p pos : Pos} {k : Nat} (T : SupC X.prog X.K X.mg cn C g cc cda) (rm : Room k X.A) (ha : PA X [a] ta) (hg : Gl X cn) (hdb : (cn == ("__debug__" : Str)) = false) (he : starEach (a :: []) X.env = (false, eval a X.env) :: starEach [] X.env) (hpl : (backTo pos (starEach [] X.env)).any (·.1) = false) :
    PMk X (.Call (.Name cn p) [a] [] pos) (tSup C ta) := by
  intro pins s σ H Q I ask
  refine wpAny_Call_Name_kw (ld_glob I hg T.gC ?_ hdb)
  refine PySem.W.callWith_K (h₀ := X.base) I.ok.mod.kin T.kC (thn (ha.run pos pins s σ H _ I ask) fun us s1 ⟨vs, H1, I1, r1, v, ev, q1⟩ => ?_) he hpl
  subst ev
  refine ⟨I1.kIn, ?_⟩
  obtain ⟨u, rfl, rv⟩ := Vals.one r1
  show wpAny _ _ (call (.ref C) [u]) _ _ _
  have k0 : ∀ b o, X.base.get? b = some o → s1.heap.get? b = some o := I1.bk
  obtain ⟨hp, gs, dr, tk, os⟩ := s1
  refine wpAny_call (sup_made T I1.ok.mod k0 (by have := rm.dp; omega) fun h' tk' e d M => ?_)
  show MkP X pins σ Q (.ref e) ⟨h', gs, dr, tk', os⟩
  obtain ⟨oe, fv, hoe, hc, hd, hdat, h1⟩ := M.obj
  obtain ⟨G', g1, g2⟩ := restrict h' fun b => decide (b ≠ e)
  have gk : ∀ b, b ≠ e → G'.get? b = h'.get? b := fun b hb => g1 b (decide_eq_true hb)
  have ge : G'.get? e = none := g2 e (by simp)
  have old : ∀ b o, hp.get? b = some o → G'.get? b = some o := fun b o q => (gk b (Nat.ne_of_lt (Nat.lt_of_lt_of_le (Heap.lt_size q) M.new))).trans (M.keep b o q)
  have J : Inv X pins σ (upd H1 d (.xd [(("place" : Str), v)])) ⟨G', gs, dr, tk', os⟩ := I1.laid (t' := tk') old M.big ⟨_, M.ns.at (fun o q => (gk d M.ne).trans q), fun f => relO_one rv f⟩
  refine ⟨e, oe, fv, ⟨G', gs, dr, tk', os⟩, _, .ref C, some d, rfl, J, fun b o q => ?_, ge, hoe, ⟨hc, hd⟩, hdat, h1, ?_, rfl, I1.bare, raises_own T.exC T.tyC, q1 d (I1.hok.fresh M.big)⟩
  · by_cases hb : b = e
    · have q' : G'.get? b = some o := q
      rw [hb, ge] at q'; cases q'
    · exact (gk b hb).symm.trans q
  · rw [upd_ne (Ne.symm M.ne)]
    exact I1.hok.fresh M.new
end
end ZPl
namespace ZPl
open Z PySem L2
/-- an error of the class at S is what «except S» names -/
theorem exm_self {K : PySem.W.Frag} {S : Addr} (h1 : PySem.W.subIn K (.ref S) (.type "BaseException") = some true) (h2 : PySem.W.isClsIn K S = true) (h3 : PySem.W.typeIn K (.ref S) = some (.type "type")) (h4 : PySem.W.subIn K (.ref S) (.ref S) = some true) :
    PySem.W.exmOne K (.ref S) (.ref S) = some true := by
  have e1 : (PySem.W.subIn K (.ref S) (.type "BaseException") == some true) = true := by rw [h1] <;> rfl
  have h2' : (PySem.W.clsIn K S).isSome = true := h2
  have e2 : ((PySem.W.clsIn K S).isSome && PySem.W.typeIn K (.ref S) == some (.type "type")) = true := by rw [h2', h3] <;> rfl
  show (if (PySem.W.subIn K (.ref S) (.type "BaseException") == some true) = true then (if ((PySem.W.clsIn K S).isSome && PySem.W.typeIn K (.ref S) == some (.type "type")) = true then PySem.W.subIn K (.ref S) (.ref S) else none) else none) = some true
  rw [if_pos e1, if_pos e2]
  exact h4
theorem hasC_mk {P : Program} {K : PySem.W.Frag} {h : Heap} {mg : Str → Option Value} {cn : Str} {C g cc da N : Addr} {nm q file qual : Str} {bs bm sub : List Value} {sn : List Str} {ab : Bool} {col : Option Bool} {dd cld cdd od an : Option Addr} {k0 k1 k2 k3 k5 : Option Value} {cl ccl oc doc pm ct : Value} {csl ccs osl : Array (Option Value)} {vs : Array Value} {tf : Tok} {p1 p2 a1 a2 a3 a4 a5 a6 b1 b2 b3 b4 : Pos} (X : K.In h) (G : h.Ns mainGlobals mg)
    (gC : PySem.W.nsIn K mainGlobals cn = some (some (.ref C)))
    (cL : K.lookup C = some (PySem.excClassObj nm q C N bs bm true sn sub ab col dd k0 k1 k2 k3 k5 "ValueError.__new__"))
    (rb : PySem.HandSPX.refsVE bm = true)
    (sa : PySem.W.findIn K (.ref C) "__setattr__" = some (some (.builtin "object.__setattr__")))
    (ga : PySem.W.findIn K (.ref C) "__getattribute__" = some (some (.builtin "BaseException.__getattribute__")))
    (gg : PySem.W.findIn K (.ref C) "__getattr__" = some none)
    (nF : PySem.W.findIn K (.ref C) "place" = some none)
    (iC : PySem.W.findIn K (.ref C) "__init__" = some (some (.ref g)))
    (fn : K.lookup g = some ⟨oc, od, .func (PySem.W.fnX "__init__" qual (ZPl.sArgs p1 p2) (ZPl.sBody a1 a2 a3 a4 a5 a6 b1 b2 b3 b4) ZPl.sScope [("__class__", cc)] .none .none doc pm an (.ref da) ct), osl⟩)
    (hl : (a3.endLine == a5.line) = true)
    (cq : PySem.W.codeIn K (.ref da) qual = true)
    (tg : PySem.W.typeIn K (.ref g) = some (.type "function"))
    (kC : PySem.W.keepIn K (.ref C) = true)
    (eC : PySem.W.subIn K (.ref C) (.type "BaseException") = some true)
    (vC : PySem.W.subIn K (.ref C) (.type "ValueError") = some true)
    (tC : PySem.W.typeIn K (.ref C) = some (.type "type"))
    (dC : PySem.W.hasDictIn K C = true)
    (ic : PySem.W.isClsIn K C = true)
    (sc : PySem.W.subIn K (.ref C) (.ref C) = some true)
    (up : PySem.W.ks_superIn K C C "__init__" = some (some (.builtin "ValueError.__init__")))
    (sf : PySem.W.mroIn K C (.ref C) = some true)
    (oq : PySem.W.nsIn K PySem.cStatics "thirdparty.any" = some none)
    (nS : PySem.W.nsIn K mainGlobals "super" = some none)
    (tp : (P.main.scope.names.lookup ("super" : Str)).isSome = false)
    (ce : K.lookup cc = some ⟨cl, cld, .cell (some (.ref C)), csl⟩)
    (co : K.lookup da = some ⟨ccl, cdd, .fields vs, ccs⟩)
    (cv : vs[2]? = some (.str file tf))
    (cf : ((P.main.file : Str) == file) = true)
    : ∃ Ca g cc cda, SupC P K mg cn Ca g cc cda :=
  ⟨C, g, cc, da, PySem.W.mg_of X G gC, ⟨_, _, _, _, _, _, _, _, _, _, _, _, _, _, _, cL, rb⟩, sa, ga, gg, nF, iC, tg, kC, eC, vC, tC, dC, exm_self eC ic tC sc, up, sf, oq, PySem.W.mg_none_of X G nS, tp, ⟨_, _, _, ce⟩, ⟨_, _, _, _, _, _, co, cv, cf⟩, ⟨_, _, _, _, _, _, _, _, _, _, _, _, _, _, _, _, _, _, _, _, hl, by simp, fn, cq⟩⟩
end ZPl

set_option Elab.async false
set_option linter.all false
set_option maxRecDepth 100000
set_option maxHeartbeats 1000000
set_option autoImplicit false
/-! # Z35: a def that raises an own exception, a call of it, try and except -/
namespace Z
open PySem L2

theorem takes_all {X : Cx} : Takes X (fun cls d σ H => ∃ Wi : WX, Takes X Wi ∧ Wi cls d σ H) := fun u s' ⟨a, B, sI, pins, σ, H, cls, d, e, I, nb, up, sky, na, os, ag, Wi, tk, w⟩ => tk u s' ⟨a, B, sI, pins, σ, H, cls, d, e, I, nb, up, sky, na, os, ag, w⟩
theorem Rel.barS {W : Wd} {ρ : Env} {σ : L2.St} {H F : Hp} (r : Rel W ρ σ H F) : Rel W [] σ H F :=
  ⟨r.sub, r.sub0, r.keep, r.fresh, ⟨fun _ => [], fun i sl e => by cases e⟩, Nat.zero_le _, r.trk⟩
theorem Rel.side {W : Wd} {σ : L2.St} {H F : Hp} (r : Rel W [] σ H F) {p : Addr} {u : HO} (hp : H p = none) : Rel W [] σ (upd H p u) F := by
  have ne : ∀ {b : Addr} {o : HO}, H b = some o → b ≠ p := fun h q => by rw [q, hp] at h; cases h
  refine ⟨fun b o h => ?_, r.sub0, fun b o h n => ?_, fun b o h => r.fresh b o h, ⟨fun _ => [], fun i sl e => by cases e⟩, Nat.zero_le _, fun b o h => ?_⟩
  · have := r.sub b o h
    rw [upd_ne (ne this)]; exact this
  · have := r.keep b o h n
    rw [upd_ne (ne this)]; exact this
  · obtain ⟨o', q⟩ := r.trk b o h
    exact ⟨o', by rw [upd_ne (ne q)]; exact q⟩
/-- the class of the text, as the top has left it -/
def HasC (P : Program) (K : PySem.W.Frag) (mg : Str → Option Value) (cn : Str) : Prop := ∃ Ca g cc cda, ZPl.SupC P K mg cn Ca g cc cda

section
variable {α : Type} {C : Ct} {ρ : Env} {m : R α}
/-- raise C(e) -/
theorem ds_raise {J : Jd α} {cn : Str} {e : Expr} {p pos pos' : Pos} (T : HasC C.P C.K C.mg cn) (h : DE C ρ e m fun d ρ1 m1 => ρ1.length = C.N.length ∧ m1 = .exc cn [.tuple [.str "place", d]]) (hg : C.sc.names.lookup cn = some .globalImplicit := by rfl) (hdb : (cn == ("__debug__" : Str)) = false := by decide)
    (he : ∀ env : PySem.Env, starEach [e] env = (false, eval e env) :: starEach [] env := by intro _; rfl) (hpl : ∀ env : PySem.Env, (backTo pos (starEach [] env)).any (·.1) = false := by intro _; rfl) : DSs C ρ [.Raise (some (.Call (.Name cn p) [e] [] pos)) none pos'] m J := by
  intro X W Z x hK c z
  obtain ⟨Ca, g, cc, cda, T⟩ := T
  have T' : ZPl.SupC X.prog X.K X.mg cn Ca g cc cda := by rw [x.prog, x.K, x.mg]; exact T
  have ha : DA C ρ [e] m fun ds ρ1 m1 => ρ1.length = C.N.length ∧ ∃ d, ds = [d] ∧ m1 = .exc cn [.tuple [.str "place", d]] :=
    da_cons (fun X W Z x hK c z => PE_imp (h X W Z x hK c z) fun σ H Q ⟨F, r, q⟩ => ⟨F, r, fun d ρ' m' v H' F' k1 => q d ρ' m' v H' F' (da_nil ⟨k1.1, d, rfl, k1.2⟩)⟩) he
  refine PSs_imp (pss_one (ps_raise x.calm takes_all (ZPl.pmk_sup T' x.room (ha X W Z x hK c z) (x.gl hg) hdb (he _) (hpl _)))) fun D σ H ⟨F, r, _⟩ => ?_
  refine ⟨F, r, fun ds ρ' m' vs H' F' ⟨hl, d, ed, em⟩ z' r' s' rp => ?_⟩
  subst ed em
  cases rp with
  | cons rv t =>
    cases t
    obtain ⟨Wi, tk, hw⟩ := c.ex _ _ z'
    refine ⟨_, rfl, fun dd hd => ⟨Wi, tk, hw σ _ F' _ _ (by rw [x.N, ← hl]; exact r'.len) (r'.barS.side hd) ⟨T'.gC, dd, _, rfl, upd_same, r'.sub.free hd, ?_⟩⟩⟩
    exact .cons ⟨d, rfl, rv⟩ .nil
end

/-! ### defs that may raise -/
/-- the promise of a def that changes nothing and may raise -/
def spX (K : PySem.W.Frag) (mg : Str → Option Value) (n : Nat) (fm : List D → R D) : Sp := fun vs H Q E => ∃ F ds, vs.length = n ∧ Same F H ∧ RpAll K F vs ds ∧
  ((∃ r, fm ds = .ok r ∧ ∀ v H' F', Fx F H F' H' → Rp K F' v r → Q v H') ∨ (∃ cn as, fm ds = .exc cn as ∧ ∀ cls d H' F', (∀ b o, H b = some o → H' b = some o) → Same F F' → Same F' H' → (∀ b o, F' b = some o → F b = some o ∨ H b = none) → ExcIs mg K F' H' cn as cls d → E cls d H'))
structure FnX (C : Ct) (n : Str) (k : Nat) (fm : List D → R D) : Prop where
  ex : ∃ f fd ps j, j ≤ C.k ∧ FnG C.P C.w C.K C.mg C.base (L2.CX C.P C.w) j f fd ps (spX C.K C.mg k fm) ∧ C.mg n = some (.ref f) ∧ PySem.W.keepIn C.K (.ref f) = true ∧ Binds C.K fd ps []
theorem fnX_of {P : Program} {w : World} {K : PySem.W.Frag} {mg : Str → Option Value} {base : Heap} {x qual : Str} {st : Stmt} {f : Addr} {fd : FuncData} {N ps : List Str} {k n : Nat} {fm : List D → R D} (F : Fun K x qual st f fd) (S : FnScope N ps (defScope st)) (hn : ps.length = n)
    (h : ∀ ds : List D, ds.length = n → DSs ⟨P, w, K, mg, base, k, N, defScope st, fun _ => true⟩ (startE N (ds.map .val)) (defBody st) (fm ds) Jf) : FnG P w K mg base (L2.CX P w) (k + 1) f fd ps (spX K mg n fm) := by
  refine okG F S (fun vs H Q E h => ?_) (fun cdv A outer s H vs Q E gd hr hsp => ?_)
  · obtain ⟨_, _, hl, _⟩ := h
    rw [hl, hn]
  · obtain ⟨F0, ds, hl, sub, rd, out⟩ := hsp
    have hds : ds.length = n := by rw [← rd.length]; exact hl
    have xo : XOk ⟨P, w, K, mg, base, k, N, defScope st, fun _ => true⟩ (cxOf (L2.CX P w) P w K mg base N qual (defScope st) f cdv A outer s H E) :=
      ⟨rfl, rfl, rfl, rfl, rfl, rfl, S.nd, rfl, rfl, hr, gd, passes_of rfl, fun _ _ => rfl⟩
    have cl : ClX (cxOf (L2.CX P w) P w K mg base N qual (defScope st) f cdv A outer s H E) ⟨K, F0, H, []⟩ fun r' : R D => r' = fm ds := ⟨fun e => by
        rcases out with ⟨r, er, _⟩ | ⟨cn, as, er, _⟩ <;> (rw [er] at e; cases e), fun cn as e => by
        rcases out with ⟨r, er, _⟩ | ⟨cn', as', er, q⟩
        · rw [er] at e; cases e
        · rw [er] at e; cases e
          refine ⟨_, takes_of rfl rfl rfl rfl, fun σ H' F' cls d _ rl ex => q cls d H' F' (fun b o hb => rl.keep b o hb (by simp)) rl.sub0 rl.sub (fun b o hb => ?_) ex⟩
          rcases rl.fresh b o hb with z | z | z
          · exact .inl z
          · exact .inr z
          · cases z⟩
    refine ⟨_, h ds hds _ ⟨K, F0, H, []⟩ _ xo rfl cl rfl, F0, ?_, ⟨fun ρ m σ H' F' h1 h2 h3 => ?_, fun d ρ m v σ H' F' h1 h2 h3 h4 => ?_, fun _ _ _ _ _ h => h.elim, fun _ _ _ _ _ h => h.elim, fun _ _ _ _ _ _ _ h => h.elim⟩⟩
    · refine VRel.rel (K := K) ⟨fun i d e => ?_, ?_⟩ (fun i sl e => ?_) sub
      · have e1 := startE_get e
        rw [List.getElem?_map] at e1
        cases e2 : ds[i]? with
        | none => rw [e2] at e1; cases e1
        | some d' =>
          rw [e2] at e1; cases e1
          obtain ⟨v, h1, h2⟩ := rd.at e2
          exact ⟨v, start_get h1, h2⟩
      · unfold startE L2.start; simp; omega
      · have e1 := startE_get e
        rw [List.getElem?_map] at e1
        cases e2 : ds[i]? with
        | none => rw [e2] at e1; cases e1
        | some d' => rw [e2] at e1; cases e1; exact ⟨d', rfl⟩
    · rcases out with ⟨r, er, q⟩ | ⟨cn, as, er, _⟩
      · have h2' : m = fm ds := h2
        rw [h2', er] at h1; cases h1
        exact q .non H' F' h3.fx .non
      · have h2' : m = fm ds := h2
        rw [h2', er] at h1; cases h1
    · rcases out with ⟨r, er, q⟩ | ⟨cn, as, er, _⟩
      · have h2' : m = fm ds := h2
        rw [h2', er] at h1; cases h1
        exact q v H' F' h3.fx h4
      · have h2' : m = fm ds := h2
        rw [h2', er] at h1; cases h1
/-- a def that may raise, at hand for calls -/
def HasX (P : Program) (w : World) (K : PySem.W.Frag) (mg : Str → Option Value) (base : Heap) (k : Nat) (n : Str) (ar : Nat) (fm : List D → R D) : Prop := ∀ N sc fn, FnX ⟨P, w, K, mg, base, k, N, sc, fn⟩ n ar fm
theorem At.x {P : Program} {w : World} {K : PySem.W.Frag} {mg : Str → Option Value} {base : Heap} {n : Str} {st : Stmt} {ps N : List Str} {fm : List D → R D} {lv ar : Nat} (A : At K mg n st ps) (S : FnScope N ps (defScope st)) (hn : ps.length = ar)
    (h : ∀ ds : List D, ds.length = ar → DSs ⟨P, w, K, mg, base, lv, N, defScope st, fun _ => true⟩ (startE N (ds.map .val)) (defBody st) (fm ds) Jf) (k : Nat) (hk : lv + 1 ≤ k) : HasX P w K mg base k n ar fm := fun _ _ _ =>
  let ⟨f, fd, F, hm, b⟩ := A
  ⟨⟨f, fd, ps, lv + 1, hk, fnX_of F S hn h, hm, F.kp, b⟩⟩

/-! ### calls of them -/
section
variable {X : Cx} {Cy : CXT} {k : Nat} {f : Addr} {fd : FuncData} {ps : List Str} {sp : Sp} {E : L2.St → XK} {x : Str} {p pos : Pos} {e : Expr} {es : List Expr} {t : TA}
theorem pe_callGS (G : FnG X.prog X.w X.K X.mg X.base Cy k f fd ps sp) (gd : X.A.guards = some []) (rm : Room k X.A) (hg : Gl X x) (hm : X.mg x = some (.ref f)) (kp : PySem.W.keepIn X.K (.ref f) = true) (bd : Binds X.K fd ps []) (pass : ∀ σ, PassesAt Cy X σ (E σ))
    (ha : PA X (e :: es) t) (nd : (x == ("__debug__" : Str)) = false) (he : starEach (e :: es) X.env = (false, eval e X.env) :: starEach es X.env) (hpl : (backTo pos (starEach es X.env)).any (·.1) = false) :
    PE X (.Call (.Name x p) (e :: es) [] pos) (fun σ H Q => t σ H fun vs H1 => sp vs H1 Q (E σ)) where
  run := fun pins s σ H Q I ask => wpAny_Call_Name_kw (ld_glob I hg hm (PySem.W.callWith_K (h₀ := X.base) I.ok.mod.kin kp (thn (ha.run pos pins s σ H _ I ask) fun us s1 ⟨vs, H1, I1, rel, q⟩ => ⟨I1.kIn, by
    have nus : us.length = ps.length := by rw [← rel.length]; exact G.len _ _ _ _ q
    have bs := bd s1 us I1.kIn (by rw [List.append_nil]; exact nus)
    rw [List.append_nil] at bs
    refine wpAny_call (codeAny_mono (G.run X.A X.stack s1 H1 ⟨us, []⟩ us vs Q (E σ) gd rm I1.env0 bs rel q) fun r s2 done => ?_)
    match r, done with
    | .error e, z => exact pass σ pins H1 s1 e s2 I1 z
    | .ok (.ret u), z => exact I1.after z⟩) he hpl) nd)
end
section
variable {α : Type} {C : Ct} {ρ : Env} {m : R α}
theorem ClX.bindX {β : Type} {X : Cx} {W : Wd} {Z : R α → Prop} (c : ClX X W Z) {m : R β} {f : β → R α} (h : Z (m.bindX f)) : (∃ b, m = .ok b ∧ Z (f b)) ∨ ∃ cn as, m = .exc cn as ∧ Z (.exc cn as) := by
  cases m with
  | ok b => exact .inl ⟨b, rfl, h⟩
  | exc x a => exact .inr ⟨x, a, rfl, h⟩
  | stuck => exact (c.st h).elim
theorem de_callX {κ : D → Env → R α → Prop} {n : Str} {k : Nat} {fm : List D → R D} {p pos : Pos} {e : Expr} {es : List Expr} (G : FnX C n k fm)
    (h : DA C ρ (e :: es) m fun ds ρ1 m1 => ds.length = k ∧ ρ1.length = C.N.length ∧ ∃ (rr : R D) (g : D → R α), fm ds = rr ∧ m1 = rr.bindX g ∧ ∀ r, κ r ρ1 (g r)) (hg : C.sc.names.lookup n = some .globalImplicit := by rfl) (hdb : (n == ("__debug__" : Str)) = false := by decide)
    (he : ∀ env : PySem.Env, starEach (e :: es) env = (false, eval e env) :: starEach es env := by intro _; rfl) (hpl : ∀ env : PySem.Env, (backTo pos (starEach es env)).any (·.1) = false := by intro _; rfl) : DE C ρ (.Call (.Name n p) (e :: es) [] pos) m κ := by
  intro X W Z x hK c z
  obtain ⟨f, fd, ps, j, hj, ok, hm, kp, b⟩ := G.ex
  have ok' := fnAt x ok hj
  rw [← x.prog, ← x.w] at ok'
  refine PE_imp (pe_callGS (E := WE fun cls d σ H => ∃ Wi : WX, Takes X Wi ∧ Wi cls d σ H) ok' x.grd x.room (x.gl hg) (by rw [x.mg]; exact hm) (by rw [x.K]; exact kp) (by rw [x.K]; exact b) (fun σ => passAt takes_all σ) (h X W Z x hK c z) hdb (he _) (hpl _)) fun σ H Q ⟨F, r, q⟩ => ⟨F, r, fun ds ρ' m' vs H' F' ⟨hl, hlen, r0, g, e0, e1, hg⟩ h2 h3 h4 h5 => ?_⟩
  subst e0 e1
  show spX C.K C.mg k fm vs H' Q _
  refine ⟨F', ds, by rw [h5.length]; exact hl, h3.sub, by rw [← hK]; exact h5, ?_⟩
  rcases c.bindX h2 with ⟨rr, er, zr⟩ | ⟨cn, as, er, zr⟩
  · exact .inl ⟨rr, er, fun v H2 F2 fx p => q _ ρ' _ v H2 F2 (hg rr) zr (h3.step fx) (h4.trans fx.ff) (by rw [hK]; exact p)⟩
  · refine .inr ⟨cn, as, er, fun cls d H2 F2 hh ff fh nw ex => ?_⟩
    obtain ⟨Wi, tk, hw⟩ := c.ex _ _ zr
    have fx : Fx F' H' F2 H2 := ⟨ff, fh, hh, nw⟩
    refine ⟨Wi, tk, hw σ H2 F2 cls d (by rw [x.N, ← hlen]; exact h3.len) (h3.step fx).barS ?_⟩
    rw [x.mg, hK]; exact ex

/-! ### a loop in which something is raised -/
def whileX {τ : Type} : Nat → τ → (τ → R (Wl τ)) → R (Fl τ)
  | 0, _, _ => .stuck
  | n + 1, st, f => (f st).bindX fun
    | .go s => whileX n s f
    | .done s => .ok (.nx s)
    | .rt d s => .ok (.rt d s)
theorem bindX_assoc {α β γ : Type} (m : R α) (f : α → R β) (g : β → R γ) : (m.bindX f).bindX g = m.bindX fun a => (f a).bindX g := by
  cases m <;> rfl
theorem ds_whileX {J : Jd α} {t : Expr} {body rest : List Stmt} {pos : Pos} {τ : Type} (pack : τ → Env) (n : Nat) (st0 : τ) {f : τ → R (Wl τ)} {g : Fl τ → R α} (hle : Le (pack st0) ρ) (hm : m = (whileX n st0 f).bindX g)
    (h : ∀ st, DT C (pack st) t (f st) fun t ρ1 m1 => ∃ A B, m1 = (if t = true then A else B) ∧ DSs C ρ1 body A (Jw pack) ∧ ∃ st', Le (pack st') ρ1 ∧ B = .ok (.done st'))
    (hnx : ∀ st, DSs C (pack st) rest (g (.nx st)) J) (hrt : ∀ d st ρ', Le (pack st) ρ' → J.rt d ρ' (g (.rt d st)) ∨ g (.rt d st) = .stuck) : DSs C ρ (.While t body [] pos :: rest) m J := by
  intro X W Z x hK c z
  subst hm
  have ht : PT X t fun σ H Q => ∃ (W' : Wd) (τ' : Type) (Z' : R τ' → Prop) (i : R τ' × Env) (κ : Bool → Env → R τ' → Prop), (DT C i.2 t i.1 κ ∧ W'.K = C.K ∧ ClX X W' Z' ∧ Z' i.1) ∧ ∃ F, Rel W' i.2 σ H F ∧ ∀ b ρ' m' H' F', κ b ρ' m' → Z' m' → Rel W' ρ' σ H' F' → Same F F' → Q b H' :=
    ⟨fun p s σ H Q I ⟨W', _, Z', i, κ, ⟨pi, hK', c', z'⟩, q⟩ => (pi X W' Z' x hK' c' z').run p s σ H Q I q⟩
  have hb : PSs X body fun D σ H => ∃ (W' : Wd) (τ' : Type) (Z' : R τ' → Prop) (i : R τ' × Env) (J' : Jd τ'), (DSs C i.2 body i.1 J' ∧ W'.K = C.K ∧ ClX X W' Z' ∧ Z' i.1) ∧ ∃ F, Rel W' i.2 σ H F ∧ Lk W' J' Z' D :=
    ⟨fun p s σ H D I ⟨W', _, Z', i, J', ⟨pi, hK', c', z'⟩, q⟩ => (pi X W' Z' x hK' c' z').run p s σ H D I q⟩
  refine PSs_imp (pss_cons (ps_while x.own ht hb) (rest_run (J := J) x hK c)) fun Dn σ H ⟨F, rl, lk⟩ => ?_
  refine ⟨fun k σ H => ∃ st F2, Rel W (pack st) σ H F2 ∧ Z ((whileX k st f).bindX g), ⟨n, st0, F, rl.le hle, z⟩, ?_⟩
  rintro k σ2 H2 ⟨st, F2, rel2, z2⟩
  cases k with
  | zero => exact (c.st z2).elim
  | succ k =>
    rw [whileX, bindX_assoc] at z2
    let Z' : R (Wl τ) → Prop := fun r => (∃ p, r = .ok p ∧ Z ((match p with | .go s => whileX k s f | .done s => .ok (.nx s) | .rt d s => .ok (.rt d s)).bindX g)) ∨ ∃ cn as, r = .exc cn as ∧ Z (.exc cn as)
    have cz : ClX X W Z' := by
      refine ⟨fun e => ?_, fun cn as e => ?_⟩
      · rcases e with ⟨p, e, _⟩ | ⟨cn, as, e, _⟩
        · cases e
        · cases e
      · rcases e with ⟨p, e, _⟩ | ⟨cn', as', e, z'⟩
        · cases e
        · cases e; exact c.ex _ _ z'
    have zf : Z' (f st) := c.bindX z2
    refine ⟨W, Wl τ, Z', (f st, pack st), _, ⟨h st, hK, cz, zf⟩, F2, rel2, fun b ρ3 m3 H3 F3 ⟨A, B, e, hA, st', hl, hB⟩ z3 rel3 s3 => ?_⟩
    subst e
    cases b with
    | false =>
      rw [if_neg Bool.false_ne_true] at z3
      rw [hB] at z3
      rcases z3 with ⟨p, e2, zp⟩ | ⟨cn, as, e2, _⟩
      · cases e2
        rw [if_neg Bool.false_ne_true]
        exact ⟨(g (.nx st'), pack st'), ⟨hnx st', zp⟩, F3, rel3.le hl, lk⟩
      · cases e2
    | true =>
      rw [if_pos rfl] at z3 ⊢
      refine ⟨fun σ H => ∃ st F2, Rel W (pack st) σ H F2 ∧ Z ((whileX k st f).bindX g), fun σ' H' q => ⟨k, Nat.lt_succ_self k, q⟩, W, Wl τ, _, (A, ρ3), Jw pack, ⟨hA, hK, cz, z3⟩, F3, rel3, ⟨fun ρ m σ H F ⟨st', hl, e⟩ zz h3 => ?_, fun d ρ m v σ H F ⟨st', hl, e⟩ zz h3 h5 => ?_, fun ρ m σ H F ⟨st', hl, e⟩ zz h3 => ?_, fun ρ m σ H F ⟨st', hl, e⟩ zz h3 => ?_, fun _ _ _ _ _ _ _ h => h.elim⟩⟩
      · subst e
        rcases zz with ⟨p, e2, zp⟩ | ⟨_, _, e2, _⟩
        · cases e2; exact ⟨st', F, h3.le hl, zp⟩
        · cases e2
      · subst e
        rcases zz with ⟨p, e2, zp⟩ | ⟨_, _, e2, _⟩
        · cases e2
          rcases hrt d st' ρ hl with h | h
          · exact lk.rt d ρ _ v σ H F h zp h3 h5
          · have zp' : Z (g (.rt d st')) := zp
            rw [h] at zp'
            exact (c.st zp').elim
        · cases e2
      · subst e
        rcases zz with ⟨p, e2, zp⟩ | ⟨_, _, e2, _⟩
        · cases e2; exact ⟨(g (.nx st'), pack st'), ⟨hnx st', zp⟩, F, h3.le hl, lk⟩
        · cases e2
      · subst e
        rcases zz with ⟨p, e2, zp⟩ | ⟨_, _, e2, _⟩
        · cases e2; exact ⟨st', F, h3.le hl, zp⟩
        · cases e2
end

/-! ### try: .. except C as n: return (w, n.place) -/
def tryR (m1 : R D) (cn fl : Str) (hnd : D → R D) : R D := match m1 with
  | .ok d => .ok d
  | .exc c [.tuple [.str f, v]] => if c = cn ∧ f = fl then hnd v else .stuck
  | _ => .stuck
theorem tryR_ok {m1 : R D} {cn fl : Str} {hnd : D → R D} {r : D} (h : tryR m1 cn fl hnd = .ok r) : m1 = .ok r ∨ ∃ v, m1 = .exc cn [.tuple [.str fl, v]] ∧ hnd v = .ok r := by
  unfold tryR at h
  split at h
  · cases h; exact .inl rfl
  · split at h
    · rename_i c f v e; obtain ⟨rfl, rfl⟩ := e; exact .inr ⟨v, rfl, h⟩
    · cases h
  · cases h
theorem fnT_of {P : Program} {w : World} {K : PySem.W.Frag} {mg : Str → Option Value} {base : Heap} {x qual : Str} {st : Stmt} {f : Addr} {fd : FuncData} {N ps : List Str} {k n : Nat} {fm fb : List D → R D} {cn nm wd : Str} (i : Nat) {body : List Stmt} {kk : Nat} {jt : Tok} {np p1 p2 p3 p4 p5 p6 p7 : Pos}
    (F : Fun K x qual st f fd) (S : FnScope N ps (defScope st)) (hn : ps.length = n) (T : HasC P K mg cn) (hbd : defBody st = [.Try body [.ExceptHandler (some (.Name cn np)) (some nm) [.Return (some (.Tuple [.Constant (.str wd) jt p1, .Attribute (.Name nm p2) "place" p3] kk p4)) p5] p6] [] [] p7])
    (hi : N[i]? = some nm) (hln : (defScope st).names.lookup nm = some .local) (hg : (defScope st).names.lookup cn = some .globalImplicit) (hdb : (cn == ("__debug__" : Str)) = false) (hd1 : (nm == ("__debug__" : Str)) = false) (hd2 : (nm == ("__classdict__" : Str)) = false)
    (hm : ∀ ds, fm ds = tryR (fb ds) cn "place" fun v => .ok (.tuple [.str wd, v]))
    (h : ∀ ds : List D, ds.length = n → DSs ⟨P, w, K, mg, base, k, N, defScope st, fun _ => true⟩ (startE N (ds.map .val)) body (fb ds) Jf) : FnG P w K mg base CX0 (k + 1) f fd ps (spP K n fm) := by
  obtain ⟨Ca, g, cc, cda, T⟩ := T
  refine okG F S (fun vs H Q E h => ?_) (fun cdv A outer s H vs Q E gd hr hsp => ?_)
  · obtain ⟨_, _, _, hl, _⟩ := h
    rw [hl, hn]
  · obtain ⟨F0, ds, r, hl, sub, rd, er, q⟩ := hsp
    rw [hm] at er
    have hds : ds.length = n := by rw [← rd.length]; exact hl
    have ns : fb ds ≠ .stuck := fun e => by rw [e] at er; cases er
    let X : Cx := (cxOf CX0 P w K mg base N qual (defScope st) f cdv A outer s H E).nox
    have T' : ZPl.SupC X.prog X.K X.mg cn Ca g cc cda := T
    have hb : ∀ (Wb : WX) (pn : List (Addr × Obj)) (xe : Value → Shared → Prop), Takes (X.tr pn xe) Wb → PassesOwn (model X.prog X.w) X.A X.env xe → PSs (X.tr pn xe) body fun D σ H' =>
        (∀ cn' as, fb ds = .exc cn' as → ∀ (σ : L2.St) (H1 F1 : Hp) (cls : Value) (d : Option Addr), N.length ≤ σ.length → Rel ⟨K, F0, H, []⟩ [] σ H1 F1 → ExcIs mg K F1 H1 cn' as cls d → Wb cls d σ H1) ∧ ∃ F, Rel ⟨K, F0, H, []⟩ (startE N (ds.map .val)) σ H' F ∧ Lk ⟨K, F0, H, []⟩ Jf (fun r' => r' = fb ds) D := fun Wb pn xe tk own =>
      ⟨fun p s1 σ H1 D I ⟨cw, F1, rl, lk⟩ => (h ds hds (X.tr pn xe) ⟨K, F0, H, []⟩ (fun r' => r' = fb ds) ⟨rfl, rfl, rfl, rfl, rfl, rfl, S.nd, rfl, rfl, hr, gd, own, fun _ _ => rfl⟩ rfl ⟨fun e => ns e.symm, fun cn' as e => ⟨Wb, tk, cw cn' as e.symm⟩⟩ rfl).run p s1 σ H1 D I ⟨F1, rl, lk⟩⟩
    have hsu : ∀ (a : Addr) (oe : Obj) (cls : Value) (d : Option Addr) (pn : List (Addr × Obj)), Zc cls d oe → (∃ vs, oe.data = .fields vs) → PSs (X.suite a ((a, oe) :: pn)) [.Return (some (.Tuple [.Constant (.str wd) jt p1, .Attribute (.Name nm p2) "place" p3] kk p4)) p5] (tRet (tTup (tCons (tC (.str wd)) (tCons (tXf a cls d Ca "place" (tVar i)) tNil)))) := fun a oe cls d pn hz hf =>
      pss_one (ps_ret (pe_tup (pa_cons pe_str (pa_cons (pe_xf ⟨T'.ga, T'.gg, T'.exC, T'.hdC⟩ T'.noF hz hf (pe_var hi (.inl hln) hd1 hd2)) pa_nil))))
    have ptry := ps_try_as (X := X) (pos := p7) (pos' := p6) (np := np) (i := i) rfl rfl S.nd hi hln ⟨hg, hdb, .inl T'.gC⟩ (takes0 (X := X)) hb hsu
    rw [hbd]
    refine ⟨_, (pss_one ptry).nox, ⟨fun cn' as e σ H1 F1 cls d hlen rl ex => ?_, F0, ?_, ?_⟩⟩
    · rcases tryR_ok er with z | ⟨v, z, zr⟩
      · rw [e] at z; cases z
      · rw [e] at z; cases z
        cases zr
        have ecl : cls = .ref Ca := Option.some.inj (ex.cls.symm.trans T'.gC)
        obtain ⟨dd, fs, ed, hdd, _, fl⟩ := ex.fld
        subst ecl
        refine ⟨true, T'.te, fun _ a0 ha => ?_, fun z => nomatch z⟩
        cases fl with
        | cons p1 t =>
          cases t
          rename_i fv
          obtain ⟨dv, ee, rv⟩ := p1
          have e1 : ("place" : Str) = fv.1 ∧ v = dv := by
            have := ee
            simp only [PyData.tuple.injEq, List.cons.injEq, PyData.str.injEq, and_true] at this
            exact this
          obtain ⟨e1, rfl⟩ := e1
          have hlt : i < σ.length := by
            have := (List.getElem?_eq_some_iff.mp hi).1
            omega
          refine ⟨.ref a0, by rw [List.getElem?_set_self hlt], rfl, rfl, dd, [fv], fv.2, ed, hdd, by rw [List.lookup, e1]; simp, by show (2 : Nat) ≤ sizeLine; rw [sizeLine_eq]; decide, fun p hp => ?_⟩
          have fx : Fx F1 H1 (upd F1 p (.tup [.str wd, fv.2])) (upd H1 p (.tup [.str wd, fv.2])) := Fx.alloc rl.sub hp
          exact q _ _ _ (rl.step fx).fx (.tup (.inl (.inl upd_same)) (fun m => by simp [mkd, stD] at m) (.cons (.str _) (.cons (rv.mono fx.ff) .nil)))
    · refine VRel.rel (K := K) ⟨fun i d e => ?_, ?_⟩ (fun i sl e => ?_) sub
      · have e1 := startE_get e
        rw [List.getElem?_map] at e1
        cases e2 : ds[i]? with
        | none => rw [e2] at e1; cases e1
        | some d' =>
          rw [e2] at e1; cases e1
          obtain ⟨v, h1, h2⟩ := rd.at e2
          exact ⟨v, start_get h1, h2⟩
      · unfold startE L2.start; simp; omega
      · have e1 := startE_get e
        rw [List.getElem?_map] at e1
        cases e2 : ds[i]? with
        | none => rw [e2] at e1; cases e1
        | some d' => rw [e2] at e1; cases e1; exact ⟨d', rfl⟩
    · have fin : ∀ {d : D}, fb ds = .ok d → r = d := fun {d} e => by
        rcases tryR_ok er with z | ⟨v, z, _⟩
        · rw [e] at z; cases z; rfl
        · rw [e] at z; cases z
      refine ⟨fun ρ m σ H' F' h1 h2 h3 => ?_, fun d ρ m v σ H' F' h1 h2 h3 h4 => ?_, fun _ _ _ _ _ h => h.elim, fun _ _ _ _ _ h => h.elim, fun _ _ _ _ _ _ _ h => h.elim⟩
      · have h2' : m = fb ds := h2
        have h1' : m = .ok .none := h1
        rw [h2'] at h1'
        have := fin h1'
        exact q .non H' F' h3.fx (by rw [this]; exact .non)
      · have h2' : m = fb ds := h2
        have h1' : m = .ok d := h1
        rw [h2'] at h1'
        have := fin h1'
        exact q v H' F' h3.fx (by rw [this]; exact h4)
theorem At.t {P : Program} {w : World} {K : PySem.W.Frag} {mg : Str → Option Value} {base : Heap} {n : Str} {st : Stmt} {ps N : List Str} {fm fb : List D → R D} {lv ar : Nat} {cn nm wd : Str} (i : Nat) {body : List Stmt} {kk : Nat} {jt : Tok} {np p1 p2 p3 p4 p5 p6 p7 : Pos}
    (A : At K mg n st ps) (S : FnScope N ps (defScope st)) (hn : ps.length = ar) (T : HasC P K mg cn) (hbd : defBody st = [.Try body [.ExceptHandler (some (.Name cn np)) (some nm) [.Return (some (.Tuple [.Constant (.str wd) jt p1, .Attribute (.Name nm p2) "place" p3] kk p4)) p5] p6] [] [] p7])
    (hi : N[i]? = some nm) (hln : (defScope st).names.lookup nm = some .local) (hg : (defScope st).names.lookup cn = some .globalImplicit) (hdb : (cn == ("__debug__" : Str)) = false) (hd1 : (nm == ("__debug__" : Str)) = false) (hd2 : (nm == ("__classdict__" : Str)) = false)
    (hm : ∀ ds, fm ds = tryR (fb ds) cn "place" fun v => .ok (.tuple [.str wd, v]))
    (h : ∀ ds : List D, ds.length = ar → DSs ⟨P, w, K, mg, base, lv, N, defScope st, fun _ => true⟩ (startE N (ds.map .val)) body (fb ds) Jf) (k : Nat) (hk : lv + 1 ≤ k) : HasP P w K mg base k n ar fm := fun _ _ _ =>
  let ⟨f, fd, F, hm', b⟩ := A
  ⟨⟨f, fd, ps, lv + 1, hk, fnT_of i F S hn T hbd hi hln hg hdb hd1 hd2 hm h, hm', F.kp, b⟩⟩
end Z

set_option Elab.async false
set_option linter.all false
set_option maxRecDepth 100000
set_option maxHeartbeats 1000000
set_option autoImplicit false
/-! # Z36: a chain of comparisons as a value; split, join -/
namespace Z
open PySem L2
section
variable {α : Type} {C : Ct} {ρ : Env} {m : R α}
theorem de_chain {κ : D → Env → R α → Prop} {op op' : CmpOp} {f f' : D → D → R Bool} {a b e : Expr} {pos : Pos} (ho : CmpS op f) (ho' : CmpS op' f')
    (h : DE C ρ a m fun x ρ1 m1 => DE C ρ1 b m1 fun y ρ2 m2 => ∃ A B, m2 = ((f x y).bind fun t => if t = true then A else B) ∧ (DE C ρ2 e A fun z ρ3 m3 => ∃ g, m3 = (f' y z).bind g ∧ ∀ t, κ (.bool t) ρ3 (g t)) ∧ κ (.bool false) ρ2 B)
    (hm : lastMarks [op, op'] [b, e] = false := by with_unfolding_all rfl) : DE C ρ (.Compare a [op, op'] [b, e] pos) m κ := by
  intro X W Z x hK c0 z
  have hb : PE X b fun σ H Q => ∃ i : R α × Env × D, (DE C i.2.1 b i.1 (fun y ρ2 m2 => ∃ A B, m2 = ((f i.2.2 y).bind fun t => if t = true then A else B) ∧ (DE C ρ2 e A fun z ρ3 m3 => ∃ g, m3 = (f' y z).bind g ∧ ∀ t, κ (.bool t) ρ3 (g t)) ∧ κ (.bool false) ρ2 B) ∧ Z i.1) ∧
      ∃ F, Rel W i.2.1 σ H F ∧ ∀ d ρ' m' v H' F', (∃ A B, m' = ((f i.2.2 d).bind fun t => if t = true then A else B) ∧ (DE C ρ' e A fun z ρ3 m3 => ∃ g, m3 = (f' d z).bind g ∧ ∀ t, κ (.bool t) ρ3 (g t)) ∧ κ (.bool false) ρ' B) → Z m' → Rel W ρ' σ H' F' → Same F F' → Rp W.K F' v d → Q v H' :=
    ⟨fun p s σ H Q I ⟨i, pi, q⟩ => (pi.1 X W Z x hK c0 pi.2).run p s σ H Q I q⟩
  have he : PE X e fun σ H Q => ∃ i : R α × Env × D, (DE C i.2.1 e i.1 (fun z ρ3 m3 => ∃ g, m3 = (f' i.2.2 z).bind g ∧ ∀ t, κ (.bool t) ρ3 (g t)) ∧ Z i.1) ∧
      ∃ F, Rel W i.2.1 σ H F ∧ ∀ d ρ' m' v H' F', (∃ g, m' = (f' i.2.2 d).bind g ∧ ∀ t, κ (.bool t) ρ' (g t)) → Z m' → Rel W ρ' σ H' F' → Same F F' → Rp W.K F' v d → Q v H' :=
    ⟨fun p s σ H Q I ⟨i, pi, q⟩ => (pi.1 X W Z x hK c0 pi.2).run p s σ H Q I q⟩
  refine PE_imp (pe_chain (ho X _ x.room) (ho' X _ x.room) (h X W Z x hK c0 z) hb he hm) fun σ H Q ⟨F, r, q⟩ => ⟨F, r, fun dx ρ1 m1 vx H1 F1 h1 h2 h3 h4 h5 => ?_⟩
  refine ⟨(m1, ρ1, dx), ⟨h1, h2⟩, F1, h3, fun dy ρ2 m2 vy H2 F2 ⟨A, B, e2, hA, hB⟩ k2 k3 k4 k5 => ?_⟩
  subst e2
  obtain ⟨t, et, zt⟩ := c0.bind k2
  refine ⟨F2, dx, dy, t, k3.sub, by rw [x.K, ← hK]; exact h5.mono k4, by rw [x.K, ← hK]; exact k5, et, t, rfl, ?_⟩
  cases t with
  | true =>
    rw [if_pos rfl] at zt ⊢
    refine ⟨(A, ρ2, dy), ⟨hA, zt⟩, F2, k3, fun dz ρ3 m3 vz H3 F3 ⟨g, e3, hg⟩ j2 j3 j4 j5 => ?_⟩
    subst e3
    obtain ⟨t2, et2, zt2⟩ := c0.bind j2
    exact ⟨F3, dy, dz, t2, j3.sub, by rw [x.K, ← hK]; exact k5.mono j4, by rw [x.K, ← hK]; exact j5, et2, q (.bool t2) ρ3 _ _ H3 F3 (hg t2) zt2 j3 ((h4.trans k4).trans j4) (.bl _)⟩
  | false =>
    rw [if_neg Bool.false_ne_true] at zt ⊢
    exact q (.bool false) ρ2 _ _ H2 F2 hB zt k3 (h4.trans k4) (.bl _)

/-! ### methods of texts with one argument -/
def strR : D → R Str
  | .str a => .ok a
  | _ => .stuck
theorem m1_run {κ : D → Env → R α → Prop} {X : Cx} {W : Wd} {Z : R α → Prop} (x : XOk C X) (hK : W.K = C.K) (c : ClX X W Z) (z : Z m) {o e call : Expr} {R1 : V → List V → Hp → VK → Prop} {fr : Str → D → R D}
    (hc : ∀ {to te : TE}, PE X o to → PE X e te → PE X call (tM1 R1 to te))
    (sem : ∀ (a : Str) (y d : D) (vy : V) (H F : Hp) (Q : VK), fr a y = .ok d → Same F H → Rp C.K F vy y → (∀ v H' F', Fx F H F' H' → Rp C.K F' v d → Q v H') → R1 (.str a) [vy] H Q)
    (h : DE C ρ o m fun dx ρ1 m1 => ∃ m1' : Str → R α, m1 = (strR dx).bind m1' ∧ ∀ a, DE C ρ1 e (m1' a) fun y ρ2 m2 => ∃ g, m2 = (fr a y).bind g ∧ ∀ r, κ r ρ2 (g r)) :
    PE X call fun σ H Q => ∃ F, Rel W ρ σ H F ∧ ∀ d ρ' m' v H' F', κ d ρ' m' → Z m' → Rel W ρ' σ H' F' → Same F F' → Rp W.K F' v d → Q v H' := by
  have he : PE X e fun σ H Q => ∃ i : R α × Env × Str, (DE C i.2.1 e i.1 (fun y ρ2 m2 => ∃ g, m2 = (fr i.2.2 y).bind g ∧ ∀ r, κ r ρ2 (g r)) ∧ Z i.1) ∧
      ∃ F, Rel W i.2.1 σ H F ∧ ∀ d ρ' m' v H' F', (∃ g, m' = (fr i.2.2 d).bind g ∧ ∀ r, κ r ρ' (g r)) → Z m' → Rel W ρ' σ H' F' → Same F F' → Rp W.K F' v d → Q v H' :=
    ⟨fun p s σ H Q I ⟨i, pi, q⟩ => (pi.1 X W Z x hK c pi.2).run p s σ H Q I q⟩
  refine PE_imp (hc (h X W Z x hK c z) he) fun σ H Q ⟨F, r, q⟩ => ⟨F, r, fun dx ρ1 m1 vx H1 F1 ⟨m1', e1, hm⟩ h2 h3 h4 h5 => ?_⟩
  subst e1
  obtain ⟨a, ea, za⟩ := c.bind h2
  cases dx with
  | str a' =>
    cases ea
    cases h5
    refine ⟨⟨_, rfl⟩, (m1' a, ρ1, a), ⟨hm a, za⟩, F1, h3, fun dy ρ2 m2 vy H2 F2 ⟨g, e2, hg⟩ k2 k3 k4 k5 => ?_⟩
    subst e2
    obtain ⟨d, ed, zd⟩ := c.bind k2
    exact sem a dy d vy H2 F2 Q ed k3.sub (by rw [← hK]; exact k5) fun v H' F' fx rv => q d ρ2 _ v H' F' (hg d) zd (k3.step fx) ((h4.trans k4).trans fx.ff) (by rw [hK]; exact rv)
  | _ => cases ea
def splitD (a : Str) : D → R D
  | .str b => if (b.length == 0) = false ∧ a.length + 2 ≤ 16777216 then .ok (.list ((Txt.split a b).map .str)) else .stuck
  | _ => .stuck
def strsD : List D → Option (List Str)
  | [] => some []
  | .str a :: r => (strsD r).map (a :: ·)
  | _ => none
def joinD (a : Str) : D → R D
  | .list ds => match strsD ds with
    | some ys => if (ys.map (·.length)).sum + ys.length * a.length ≤ 16777216 then .ok (.str (Txt.join a ys)) else .stuck
    | none => .stuck
  | _ => .stuck
theorem strsD_eq : ∀ {ds : List D} {ys : List Str}, strsD ds = some ys → ds = ys.map .str
  | [], ys, e => by cases e; rfl
  | .str a :: r, ys, e => by
    simp only [strsD] at e
    obtain ⟨zs, e1, rfl⟩ := Option.map_eq_some_iff.mp e
    rw [strsD_eq e1]; rfl
theorem rpAll_strs {K : PySem.W.Frag} {F : Hp} : ∀ (ys : List Str), RpAll K F (ys.map V.str) (ys.map PyData.str)
  | [] => .nil
  | y :: ys => .cons (.str y) (rpAll_strs ys)
theorem rpAll_strs' {K : PySem.W.Frag} {F : Hp} : ∀ {vs : List V} {ys : List Str}, RpAll K F vs (ys.map PyData.str) → vs = ys.map V.str
  | _, [], h => by cases h; rfl
  | _, y :: ys, h => by
    cases h with
    | cons h1 t =>
      cases h1
      rw [rpAll_strs' t]; rfl
theorem de_split {κ : D → Env → R α → Prop} {o e : Expr} {apos pos : Pos} (h : DE C ρ o m fun dx ρ1 m1 => ∃ m1' : Str → R α, m1 = (strR dx).bind m1' ∧ ∀ a, DE C ρ1 e (m1' a) fun y ρ2 m2 => ∃ g, m2 = (splitD a y).bind g ∧ ∀ r, κ r ρ2 (g r))
    (hs : ∀ env : PySem.Env, starEach [e] env = [(false, eval e env)] := by intro _; rfl) (hbase : ∀ env : PySem.Env, env.scope = C.sc → attributeBase o "split" env (eval o env) = eval o env := by intro env he; rfl) (hline : (apos.endLine == pos.line) = true := by rfl) :
    DE C ρ (.Call (.Attribute o "split" apos) [e] [] pos) m κ := by
  intro X W Z x hK c z
  refine m1_run x hK c z (fun ho he => pe_split ho he (hs _) (hbase _ x.sc) hline) (fun a y d vy H F Q ed sub rv q => ?_) h
  cases y with
  | str b =>
    cases rv
    simp only [splitD] at ed
    split at ed
    · rename_i hh
      cases ed
      refine ⟨a, b, rfl, rfl, hh.1, by rw [sizeLine_eq]; exact hh.2, fun p hp => ?_⟩
      have fx : Fx F H (upd F p (.lst ((Txt.split a b).map V.str))) (upd H p (.lst ((Txt.split a b).map V.str))) := Fx.alloc sub hp
      exact q _ _ _ fx (.lst upd_same (rpAll_strs _))
    · cases ed
  | _ => cases ed
theorem de_joinS {κ : D → Env → R α → Prop} {o e : Expr} {apos pos : Pos} (h : DE C ρ o m fun dx ρ1 m1 => ∃ m1' : Str → R α, m1 = (strR dx).bind m1' ∧ ∀ a, DE C ρ1 e (m1' a) fun y ρ2 m2 => ∃ g, m2 = (joinD a y).bind g ∧ ∀ r, κ r ρ2 (g r))
    (hs : ∀ env : PySem.Env, starEach [e] env = [(false, eval e env)] := by intro _; rfl) (hbase : ∀ env : PySem.Env, env.scope = C.sc → attributeBase o "join" env (eval o env) = eval o env := by intro env he; rfl) (hline : (apos.endLine == pos.line) = true := by rfl) :
    DE C ρ (.Call (.Attribute o "join" apos) [e] [] pos) m κ := by
  intro X W Z x hK c z
  refine m1_run x hK c z (fun ho he => pe_join ho he (hs _) (hbase _ x.sc) hline) (fun a y d vy H F Q ed sub rv q => ?_) h
  cases y with
  | list ds =>
    simp only [joinD] at ed
    split at ed
    · rename_i ys hy
      split at ed
      · rename_i hh
        cases ed
        rw [strsD_eq hy] at rv
        obtain ⟨p, vs, rfl, hp, rvs⟩ := rv.toList
        rw [rpAll_strs' rvs] at hp
        refine ⟨a, p, ys, rfl, rfl, .inl (SqL.of (sub _ _ hp)), hh, q _ _ _ (Fx.refl sub) (.str _)⟩
      · cases ed
    · cases ed
  | _ => cases ed
end
end Z

set_option Elab.async false
set_option linter.all false
set_option maxRecDepth 100000
set_option maxHeartbeats 1000000
set_option autoImplicit false
/-! # Z37: a call without arguments; x += e of numbers -/
namespace Z
open PySem L2
def fn0 (f : R D) : List D → R D
  | [] => f
  | _ => .stuck
def addI : D → D → R D
  | .int i, .int j => .ok (.int (i + j))
  | _, _ => .stuck
section
variable {α : Type} {C : Ct} {ρ : Env} {m : R α}
theorem de_call0 {κ : D → Env → R α → Prop} {n : Str} {fm : List D → R D} {p pos : Pos} (G : FnP C n 0 fm) (h : ∃ g, m = (fm []).bind g ∧ ∀ r, κ r ρ (g r)) (hg : C.sc.names.lookup n = some .globalImplicit := by rfl) (hdb : (n == ("__debug__" : Str)) = false := by decide) :
    DE C ρ (.Call (.Name n p) [] [] pos) m κ := by
  intro X W Z x hK c z
  obtain ⟨f, fd, ps, j, hj, ok, hm, kp, b⟩ := G.ex
  obtain ⟨g, e, hgg⟩ := h
  subst e
  obtain ⟨rr, er, zr⟩ := c.bind z
  refine ⟨fun pins s σ H Q I ⟨F, r, q⟩ => ?_⟩
  refine wpAny_Call_Name_kw (ld_glob I (x.gl hg) (by rw [x.mg]; exact hm) ?_ hdb)
  refine PySem.W.callWith_K0 I.kIn (by rw [x.K]; exact kp) (runG (us := []) (vs := []) (E := E0) (fnAt x ok hj) x.grd x.room (by rw [x.K]; exact b) pass0 I .nil ?_)
  show spP C.K 0 fm [] H Q E0
  exact ⟨F, [], rr, rfl, r.sub, .nil, er, fun v H2 F2 fx p => q _ ρ _ v H2 F2 (hgg rr) zr (r.step fx) fx.ff (by rw [hK]; exact p)⟩
theorem ds_augI {J : Jd α} {n : Str} {e : Expr} {p pos : Pos} {rest : List Stmt} (i : Nat) {d0 : D} (hρ : ρ[i]? = some (some (.val d0))) (h : DE C ρ e m fun y ρ1 m1 => ∃ g, m1 = (addI d0 y).bind g ∧ ∀ z, DSs C (ρ1.set i (some (.val z))) rest (g z) J) (hN : C.N[i]? = some n := by rfl)
    (hx : Loc C.sc n := by first | exact Or.inl rfl | exact Or.inr rfl) (hfn : C.fn n = true ∨ C.sc.names.lookup n = some .local := by first | exact Or.inl rfl | exact Or.inr rfl) : DSs C ρ (.AugAssign (.Name n p) .Add e pos :: rest) m J := by
  intro X W Z x hK c z
  have hf : X.fn n = true ∨ X.env.scope.names.lookup n = some .local := hfn.elim (fun h => .inl (x.fnl n h)) fun h => .inr (by rw [x.sc]; exact h)
  refine PSs_imp (pss_cons (ps_aug (i := i) (by rw [x.N]; exact x.nd) (by rw [x.N]; exact hN) (by rw [x.sc]; exact hx) (h X W Z x hK c z) ip_add hf) (rest_run (J := J) x hK c)) fun D σ H ⟨F, r, l⟩ => ?_
  obtain ⟨v, as, e1, hs, _⟩ := r.slot hρ
  refine ⟨v, e1, F, r, fun d ρ' m' vy H' F' ⟨g, e2, hg⟩ h2 h3 h4 h5 => ?_⟩
  subst e2
  obtain ⟨zz, ez, zz'⟩ := c.bind h2
  cases d0 with
  | int a =>
    cases d with
    | int b =>
      cases ez
      have hv : v = .int a := by have := hs.1; cases this; rfl
      have hy : vy = .int b := by cases h5; rfl
      exact ⟨a, b, hv, hy, ⟨(g (.int (a + b)), _), ⟨hg _, zz'⟩, F', h3.set i (.int _), l⟩⟩
    | _ => cases ez
  | _ => cases ez
end
end Z

set_option Elab.async false
set_option linter.all false
set_option maxRecDepth 100000
set_option maxHeartbeats 1000000
set_option autoImplicit false
/-! # Z38: a text taken some times -/
namespace Z
open PySem L2
def mulS : D → D → R D
  | .str a, .int k => if 2 ≤ k ∧ k ≤ 1000 ∧ 1 ≤ a.length ∧ a.length ≤ 1000 then .ok (.str (Txt.mul a k)) else .stuck
  | _, _ => .stuck
theorem bs_mulS : BinS .Mult mulS := by
  intro X k hr pins s σ H x y v u Q I rx ry ⟨F, a, b, c, sub, ra, rb, e, q⟩
  unfold mulS at e
  split at e
  · rename_i a0 k0
    split at e
    · rename_i hz; cases e
      obtain ⟨h1, h2, h3, h4⟩ := hz
      cases ra
      cases rb
      obtain ⟨t, rfl⟩ := rx
      obtain ⟨t', rfl⟩ := ry
      have ok : MulOk a0 k0 := by
        refine ⟨?_, fun _ _ => ?_, fun _ _ => ?_⟩
        · rw [decide_eq_false (by omega), decide_eq_false (by omega)]; rfl
        · have : (1000 : Int) ≤ (2 ^ 63 - 1) / k0 := by
            have h := Int.le_ediv_of_mul_le (c := k0) (a := 1000) (b := 2 ^ 63 - 1) (by omega) (by omega)
            exact h
          omega
        · have hm : a0.length * k0.toNat ≤ 1000 * 1000 := Nat.mul_le_mul h4 (by omega)
          show decide (_ > sizeLine) = false
          simp only [decide_eq_false_iff_not]
          have := sizeLine_eq
          omega
      exact SB.mul ok fun t2 k2 => ⟨.str (Txt.mul a0 k0), H, I.kept (t' := k2) fun _ _ z => z, ⟨_, rfl⟩, q _ H F (Fx.refl sub) (.str _)⟩
    · cases e
  · cases e
end Z

set_option Elab.async false
set_option linter.all false
set_option maxRecDepth 100000
set_option autoImplicit false
/-! # Z39: d.setdefault(k, x) of a dict of one's own -/
namespace Z
open PySem L2

def setdefM (kvs : List (D × D)) : List D → R (D × List (D × D))
  | [k, d] => match keyN k with
    | some n => if decide (kvs.length < 16777216) then .ok (match dGet kvs n with | some v => (v, kvs) | none => (d, dSet kvs k n d)) else .stuck
    | none => .stuck
  | _ => .stuck

section
variable {X : Cx} {pins : List (Addr × Obj)} {σ : L2.St} {H F : Hp} {s : Shared}
theorem pe_bmX {o e : Expr} {es : List Expr} {to : TE} {t : TA} {name : Str} {apos cpos : Pos} {id : String} {r : V → List V → Hp → VK → Prop} (slot : Slot "dict" name id) (hty : typeOf (.builtin id) = pure (.type "method_descriptor")) (hm : MtR X id r) (ho : PE X o to) (ha : PA X (e :: es) t)
    (hbase : attributeBase o name X.env (eval o X.env) = eval o X.env)
    (hfew : ((backTo cpos (starEach (e :: es) X.env)).all (fun x => !x.1) && (backToKw cpos (keywordEach [] X.env)).all (fun x => x.1.isSome)
      && decide ((e :: es).length + ([] : List Keyword).length + (if ([] : List Keyword).isEmpty then 0 else 1) < 30)) = true)
    (hline : (apos.endLine == cpos.line) = true) (hs : starEach (e :: es) X.env = (false, eval e X.env) :: starEach es X.env) (hplain : (backTo cpos (starEach es X.env)).any (·.1) = false) :
    PE X (.Call (.Attribute o name apos) (e :: es) [] cpos) (fun σ H Q => to σ H fun x H1 => (∃ p oo xs, x = .ref p ∧ H1 p = some (dctO p oo xs)) ∧ t σ H1 fun xs H2 => r x xs H2 Q) := by
  refine ⟨fun pins s σ H Q I h => ?_⟩
  refine wpAny_Call_method_late hbase hfew hline rfl (thn (ho.run pins s σ H _ I h) fun v s1 ⟨x, H1, I1, r1, ty, q1⟩ => ?_)
  obtain ⟨p, oo, xs0, rfl, hp⟩ := ty
  cases r1
  obtain ⟨⟨z1, z2, z3, z4, w, es', ep, hob, hx, hd, pr⟩, _⟩ := (show ObjOk X.prog X.w H1 s1.heap p (dctO p oo xs0) from I1.hok p _ hp)
  refine ⟨"dict", id, PySem.F.plainAttrs_dict, slot, hty, ⟨oo, hob, hx.1⟩, fun a e => ?_, ?_⟩
  · cases e
    exact ⟨oo, hob, hx.2.1⟩
  have hA := ha.run cpos pins s1 σ H1 _ I1 q1
  rw [hs] at hA ⊢
  refine Calls.callWith_builtin (by show (false || (backTo cpos (starEach es X.env)).any (·.1)) = false; rw [hplain] <;> rfl) (Calls.evalArgs_plain ?_)
  exact thn hA fun us s2 ⟨vs, H2, I2, r2, q2⟩ => hm pins s2 σ H2 (.ref p) vs (.ref p) us Q I2 rfl r2 q2

def rSetDf (K : PySem.W.Frag) : V → List V → Hp → VK → Prop := fun x ws H Q => ∃ F p oo xs kvs ds r kvs', x = .ref p ∧ H p = some (dctO p oo xs) ∧ Same F H ∧ DcR K F xs kvs ∧ RpAll K F ws ds ∧ setdefM kvs ds = .ok (r, kvs') ∧
  ∀ v o' xs', Rp K F v r → DcR K F xs' kvs' → Q v (upd H p (dctO p o' xs'))
theorem upd_eq {H : Hp} {p : Addr} {u : HO} (h : H p = some u) : upd H p u = H := by
  funext b
  by_cases e : b = p
  · subst e; rw [upd_same, h]
  · rw [upd_ne e]
theorem mt_setdef {k : Nat} (hr : Room k X.A) : MtR X "dict.setdefault" (rSetDf X.K) := by
  intro pins s σ H x ws v us Q I rx rv ⟨F, p, oo, xs, kvs, ds, r, kvs', e1, hH, sub, rd, ra, er, q⟩
  subst e1
  cases rx
  unfold setdefM at er
  split at er
  case h_2 => cases er
  rename_i kd d
  split at er
  case h_2 => cases er
  rename_i n hk
  split at er
  case isFalse => cases er
  rename_i hz
  replace hz : kvs.length < 16777216 := by simpa using hz
  cases ra with
  | cons ra1 ra2 =>
  cases ra2 with
  | cons ra2 ra3 =>
  cases ra3
  obtain ⟨b, rfl⟩ := key_ref ra1 hk
  cases rv with
  | cons rv1 rv2 =>
  cases rv2 with
  | cons rv2 rv3 =>
  cases rv3
  cases rv1
  obtain ⟨z1, z2, ys, hd, pr, hl⟩ := dctO_get I sub hH rd
  obtain ⟨hk1, hk2, _⟩ := keyN_nk hk
  have rel := dget_rel (k := n) pr
  refine PySem.call_setdefault_heap (knd := nestedKind X.prog X.w) (k := n) (by have := hr.units; show X.A.units + 1 + 8 < cLine; omega) (key_is I sub ra1 hk1 hk2) z1 hd (fun pp hp => ?_) (fun hn h' hd' hs => ?_) (by rw [sizeLine_eq] at z2 ⊢; omega)
  · rcases rel with ⟨_, a2⟩ | ⟨d', b', u', v', a1, a2, a3, a4⟩
    · rw [a2] at hp; cases hp
    · rw [a2] at hp; cases hp
      rw [a1] at er; cases er
      refine ⟨v', H, I.tok _, a3, ?_⟩
      have := q v' oo xs a4 rd
      rwa [upd_eq hH] at this
  · rcases rel with ⟨a1, _⟩ | ⟨d', b', u', v', a1, a2, a3, a4⟩
    · rw [a1] at er; cases er
      have pr' := dset_rel pr ra1 hk1 rv2 ra2
      have hz' : (dSet kvs kd n r).length ≤ sizeLine := by
        have := dset_length kvs kd n r
        rw [sizeLine_eq]; omega
      obtain ⟨o', xs', d1, d2, d3, d4⟩ := dct_put z1 hz' hd' pr'
      exact ⟨_, _, d_write I (by rw [hH]; exact True.intro) hs (let ⟨q, _, _, hq, _⟩ := hd'; ⟨q, hq⟩) (dctO_ok d1), rv2, q _ o' xs' ra2 ⟨d2, d3, d4⟩⟩
    · rw [a2] at hn; cases hn
end

section
variable {α : Type} {C : Ct} {ρ : Env} {m : R α}
theorem de_setdef {κ : D → Env → R α → Prop} {n : Str} {np ap cp : Pos} {e : Expr} {es : List Expr} {kvs0 : List (D × D)} (i : Nat) (hρ : ρ[i]? = some (some (.dct kvs0)))
    (h : DA C ρ (e :: es) m fun ds ρ1 m1 => ∃ kvs g, ρ1[i]? = some (some (.dct kvs)) ∧ m1 = (setdefM kvs ds).bind g ∧ ∀ r ys, κ r (ρ1.set i (some (.dct ys))) (g (r, ys))) (hN : C.N[i]? = some n := by rfl)
    (hv : Vis C.sc n := by first | exact Or.inl rfl | exact Or.inr (Or.inl rfl) | exact Or.inr (Or.inr rfl)) (hd : (n == ("__debug__" : Str)) = false := by decide) (hcd : (n == ("__classdict__" : Str)) = false := by decide)
    (hbase : ∀ env : PySem.Env, env.scope = C.sc → attributeBase (.Name n np) "setdefault" env (eval (.Name n np) env) = eval (.Name n np) env := by intro env he; rfl)
    (hfew : ∀ env : PySem.Env, ((backTo cp (starEach (e :: es) env)).all (fun x => !x.1) && (backToKw cp (keywordEach [] env)).all (fun x => x.1.isSome)
      && decide ((e :: es).length + ([] : List Keyword).length + (if ([] : List Keyword).isEmpty then 0 else 1) < 30)) = true := by intro _; rfl)
    (hline : (ap.endLine == cp.line) = true := by rfl) (he : ∀ env : PySem.Env, starEach (e :: es) env = (false, eval e env) :: starEach es env := by intro _; rfl) (hpl : ∀ env : PySem.Env, (backTo cp (starEach es env)).any (·.1) = false := by intro _; rfl) :
    DE C ρ (.Call (.Attribute (.Name n np) "setdefault" ap) (e :: es) [] cp) m κ := by
  intro X W Z x hK c z
  refine PE_imp (pe_bmX PySem.F.slot_dict_setdefault PySem.F.type_dict_setdefault (mt_setdef x.room) (own_name x hN hv hd hcd) (h X W Z x hK c z) (hbase _ x.sc) (hfew _) hline (he _) (hpl _)) fun σ H Q ⟨F, r, q⟩ => ?_
  obtain ⟨p, oo, xs, h1, h2, _, _, _⟩ := r.dctAt hρ
  refine ⟨_, h1, ⟨p, oo, xs, rfl, h2⟩, F, r, fun ds ρ' m' ws H' F' ⟨kvs, g, e1, e2, hg⟩ k2 k3 k4 k5 => ?_⟩
  subst e2
  obtain ⟨p', oo', xs', j1, j2, j3, j4, j5⟩ := k3.dctAt e1
  rw [h1] at j1; cases j1
  obtain ⟨⟨rr, ys⟩, er, zr⟩ := c.bind k2
  refine ⟨F', p, oo', xs', kvs, ds, rr, ys, rfl, j2, k3.sub, by rw [x.K, ← hK]; exact j4, by rw [x.K, ← hK]; exact k5, er, fun v o2 xs2 rp rd => ?_⟩
  rw [x.K, ← hK] at rp rd
  exact q _ _ _ v _ F' (hg rr ys) zr (j5 o2 xs2 ys rd) k4 rp
end
end Z

set_option Elab.async false
set_option linter.all false
set_option maxRecDepth 100000
set_option autoImplicit false
/-! # Z40: t[::-1] of a tuple -/
namespace Z
open PySem L2 PySem.Spec PyProof.Rows HT

theorem back_adjust (n : Nat) : Builtin.Slice.sliceAdjust none none (-1) (n : Int) = ((n : Int) - 1, -1) := rfl
theorem back_places (n : Nat) : Builtin.Slice.slicePlaces ((n : Int) - 1) (-1) (-1) = n := by
  unfold Builtin.Slice.slicePlaces
  have h1 : ¬ ((-1 : Int) > 0) := by decide
  rw [if_neg h1]
  by_cases h : (n : Int) - 1 > -1
  · rw [if_pos h, show (- -1 : Int) = 1 by decide, Int.ediv_one]
    omega
  · rw [if_neg h]; omega
theorem back_pick (xs : Array Value) : ((List.range xs.size).filterMap fun (m : Nat) => xs[(((xs.size : Int) - 1) + (m : Int) * -1).toNat]?).toArray = xs.toList.reverse.toArray := by
  rw [← PySem.W.krv_pick]
  unfold slicePick
  rw [PySem.W.krv_bounds]
  show _ = ((sliceRange ((xs.size : Int) - 1) (-1) (-1)).filterMap (xs[·]?)).toArray
  rw [PySem.W.krv_sliceRange, List.filterMap_map]
  have go : ∀ l : List Nat, (∀ m ∈ l, m < xs.size) → l.filterMap (fun (m : Nat) => xs[(((xs.size : Int) - 1) + (m : Int) * -1).toNat]?) = l.filterMap ((fun x => xs[x]?) ∘ fun k => xs.size - 1 - k) := by
    intro l
    induction l with
    | nil => intro _; rfl
    | cons m l ih =>
      intro h
      have hm := h m (by simp)
      have e : (((xs.size : Int) - 1) + (m : Int) * -1).toNat = xs.size - 1 - m := by omega
      rw [List.filterMap_cons, List.filterMap_cons, ih fun a ha => h a (by simp [ha]), e]
      rfl
  rw [go _ fun m hm => List.mem_range.mp hm]
section
variable {prog : Program} {w : World} {A : Around} {E : Value → Shared → Prop} {s : Shared}
theorem sliceApplied_back {sl : Addr} {vs : Value} {n : Nat} {Q : Int × Int × Nat → Shared → Prop} (hs : s.heap.IsSliceOf sl .none .none vs) (ps : IsPart vs (some (-1)))
    (h : Q ((n : Int) - 1, -1, n) s) : wpAny (model prog w) A (Builtin.Slice.sliceApplied (.ref sl) (pure (n : Int))) Q E s := by
  obtain ⟨os, hos, hcs, hds⟩ := id hs
  unfold Builtin.Slice.sliceApplied Builtin.Slice.sliceFields
  refine wpAny_bind (wpAny_bind (wpAny_field hos hds (x := .none) rfl (wpAny_bind (wpAny_field hos hds (x := .none) rfl (wpAny_bind (wpAny_field hos hds (x := vs) rfl (wpAny_pure ?_)))))))
  refine wpAny_bind (slicePart_ ps ?_)
  show wpAny _ _ (if ((-1 : Int) == 0) = true then _ else _) _ _ s
  rw [if_neg (by decide)]
  refine wpAny_bind (slicePart_none (wpAny_bind (slicePart_none (wpAny_bind (wpAny_pure ?_)))))
  show wpAny _ _ (match Builtin.Slice.sliceAdjust none none (-1) (n : Int) with | (lo, hi) => pure (lo, (-1 : Int), Builtin.Slice.slicePlaces lo hi (-1))) _ _ s
  rw [back_adjust]
  show wpAny _ _ (pure ((n : Int) - 1, (-1 : Int), Builtin.Slice.slicePlaces ((n : Int) - 1) (-1) (-1))) _ _ s
  rw [back_places]
  exact wpAny_pure h
theorem getItem_tuple_back {t sl : Addr} {items : Array Value} {vs : Value} {Q : Value → Shared → Prop} (ht : IsTup s.heap t items) (hs : s.heap.IsSliceOf sl .none .none vs) (ps : IsPart vs (some (-1)))
    (h : Q (.ref s.heap.objs.size) { s with heap := s.heap.push { cls := .type "tuple", data := .seq items.toList.reverse.toArray } })
    (hsz : items.size ≤ sizeLine) : wpAny (model prog w) A (getItem (.ref t) (.ref sl)) Q E s := by
  have htake : sizeOk (.seq items.toList.reverse.toArray) := by
    show items.toList.reverse.toArray.size ≤ sizeLine
    rw [List.size_toArray, List.length_reverse, Array.length_toList]
    exact hsz
  obtain ⟨os, hos, hcs, hds⟩ := id hs
  have hTs : s.TypeIs (.ref sl) "slice" := ⟨os, hos, hcs⟩
  unfold getItem
  try with_reducible refine wpAny_holding ?_
  first | refine wpAny_bind (wpAny_pure ?_) | skip
  refine wpAny_bind (wpAny_sequenceKey ht.typeIs (by decide) ?_)
  refine wpAny_bind (wpAny_callSpecial?_slot (name := Str.ofString "__getitem__") ht.typeIs PyProof.Rows.slot_tuple_getitem
    (wpAny_call_entry PyProof.Rows.slot_tuple_getitem ht.typeIs entry_tuple_getitem ?_ (args_tuple_getitem _ _)))
  show wpAny _ _ (Builtin.Tuple.tupleItemsOf (.ref t) >>= _) _ _ s
  refine wpAny_bind (tupleItemsOf_ ht ?_)
  refine wpAny_bind (wpAny_typeOf hTs ?_)
  rw [if_pos (by decide)]
  refine wpAny_bind (sliceApplied_back hs ps ?_)
  have hno : ¬ ((((items.size : Int) - 1) == 0 && (-1 : Int) == 1 && items.size == items.size) = true) := by
    intro q
    rw [Bool.and_eq_true, Bool.and_eq_true] at q
    have q1 : (-1 : Int) = 1 := eq_of_beq q.1.2
    cases q1
  show wpAny _ _ (if (((items.size : Int) - 1) == 0 && (-1 : Int) == 1 && items.size == items.size) = true then _ else _) _ _ s
  rw [if_neg hno, back_pick]
  first
    | exact wpAny_bind (m := Builtin.Tuple.tupleExact _) (wpAny_newObj_type (wpAny_pure ⟨_, rfl, wpAny_pure h⟩) htake)
    | exact wpAny_bind (m := Builtin.Tuple.tupleExact _) (wpAny_newObj_type (wpAny_bind (wpAny_pure (wpAny_pure ⟨_, rfl, wpAny_pure h⟩))) htake)
    | exact wpAny_bind (wpAny_bind (m := Builtin.Tuple.tupleExact _) (wpAny_newObj_type (wpAny_pure (wpAny_pure ⟨_, rfl, wpAny_pure h⟩)) htake))
    | exact wpAny_bind (wpAny_bind (m := Builtin.Tuple.tupleExact _) (wpAny_newObj_type (wpAny_pure ⟨_, rfl, wpAny_pure h⟩) htake))
end
section
variable {X : Cx}
def tRevT (K : PySem.W.Frag) (te : TE) : TE := fun σ H Q => te σ H fun x H1 => ∃ a xs, x = .ref a ∧ SqT K H1 a xs ∧ ∀ (o : Obj) p, o.dict = none → H1 p = none → Q (.ref p) (upd H1 p (.frz o (.tup xs.reverse)))
theorem pe_revT {e : PySem.Expr} {te : TE} {k : Nat} {p1 p2 p3 pos : Pos} (he : PE X e te) : PE X (.Subscript e (.Slice none none (some (.UnaryOp .USub (.Constant (.int 1) k p1) p2)) p3) pos) (tRevT X.K te) := by
  refine ⟨fun pins s σ H Q I h => ?_⟩
  refine Subscript_ (thn (he.run pins s σ H _ I h) fun v s1 ⟨x, H1, I1, r1, q1⟩ => ?_)
  obtain ⟨a, xs, ex, hx, q⟩ := q1
  subst ex
  cases r1
  have hst : PO X (some (.UnaryOp .USub (.Constant (.int 1) k p1) p2)) (tPart (tUn (rU fun i => .int (-i)) (tC (.int 1)))) := po_some (pe_un un_neg pe_int)
  refine wpAny_Slice (thn (po_none.run pins s1 σ H1 (fun o H2 => o = none ∧ H2 = H1) I1 ⟨rfl, rfl⟩) fun vl s2 ⟨l, H2, I2, pl, el, e2⟩ => ?_)
  subst el e2
  refine thn (po_none.run pins s2 σ H2 (fun o H3 => o = none ∧ H3 = H2) I2 ⟨rfl, rfl⟩) fun vu s3 ⟨u, H3, I3, pu, eu, e3⟩ => ?_
  subst eu e3
  refine thn (hst.run pins s3 σ H3 (fun o H4 => o = some (-1) ∧ H4 = H3) I3 ⟨1, rfl, -1, rfl, rfl, rfl⟩) fun vs s4 ⟨o, H4, I4, ps, eo, e4⟩ => ?_
  subst eo e4
  have I5 : Inv X pins σ H4 { s4 with heap := s4.heap.push { cls := .type "slice", data := .fields #[vl, vu, vs] } } := I4.kept (t' := s4.toks) fun b ob q => Heap.get?_push_of_some _ q
  obtain ⟨its, r, ht, hz⟩ := I5.tuple hx
  have hlen := r.length
  cases pl
  cases pu
  show wpAny (model X.prog X.w) X.A (subscriptTail e (.Slice none none (some (.UnaryOp .USub (.Constant (.int 1) k p1) p2)) p3) (.ref a) (.ref s4.heap.objs.size)) (EP X pins σ Q) X.xe { s4 with heap := s4.heap.push { cls := .type "slice", data := .fields #[.none, .none, vs] } }
  refine tail_any (ops := [.ref a, .ref s4.heap.objs.size]) ht.typeIs (PyProof.Rows.slot_tuple_getitem.lookup) ?_ (by with_unfolding_all rfl)
  refine getItem_tuple_back ht (Heap.IsSliceOf.new _ .none .none vs) ps ?_ (by rw [List.size_toArray]; omega)
  refine ⟨.ref _, _, I5.laid (t' := s4.toks) (o := .frz { cls := .type "tuple", data := .seq its.toArray.toList.reverse.toArray } (.tup xs.reverse)) (fun b ob q => Heap.get?_push_of_some _ q) (Nat.le_refl _) ?_, rfl, q _ _ rfl (I5.hok.fresh (Nat.le_refl _))⟩
  exact ⟨Heap.get?_push_size _ rfl, by rw [List.length_reverse]; exact hz, _, r.reverse, IsTup.new _ _⟩
end

def revTD : D → R D
  | .tuple xs => .ok (.tuple xs.reverse)
  | _ => .stuck
section
variable {α : Type} {C : Ct} {ρ : Env} {m : R α}
theorem de_revT {κ : D → Env → R α → Prop} {e : PySem.Expr} {k : Nat} {p1 p2 p3 pos : Pos} (h : DE C ρ e m fun d ρ1 m1 => ∃ g, m1 = (revTD d).bind g ∧ ∀ z, κ z ρ1 (g z)) : DE C ρ (.Subscript e (.Slice none none (some (.UnaryOp .USub (.Constant (.int 1) k p1) p2)) p3) pos) m κ := by
  intro X W Z x hK c z
  refine PE_imp (pe_revT (h X W Z x hK c z)) fun σ H Q ⟨F, r, q⟩ => ⟨F, r, fun d ρ' m' v H' F' ⟨g, e1, hg⟩ h2 h3 h4 h5 => ?_⟩
  subst e1
  obtain ⟨xs, ex, zx⟩ := c.bind h2
  unfold revTD at ex
  split at ex
  · cases ex
    obtain ⟨p, ys, rfl, hp, rys⟩ := h5.toTup
    refine ⟨p, ys, rfl, by rw [x.K, ← hK]; exact seqT h3.sub hp, newT h3.sub rys.reverse fun v H2 F2 fx rp => ?_⟩
    exact q _ ρ' _ v H2 F2 (hg _) zx (h3.step fx) (h4.trans fx.ff) rp
  · cases ex
end
end Z

set_option Elab.async false
set_option linter.all false
set_option maxRecDepth 100000
set_option autoImplicit false
/-! # Z41: dict(t) of a tuple of pairs whose keys are nested tuples of whole numbers -/
namespace Z
open PySem L2

def dictT : D → R D
  | .tuple ps => match (if mkd ps = true then pairsK ps else none) with
    | some qs => if szOk ps.length then .ok (.dict (dMerge [] qs)) else .stuck
    | none => .stuck
  | _ => .stuck
theorem bl_dictT : CallS (.type "dict") (fn1 dictT) := by
  intro X k hc hr gd pins s σ H vs us Q I rv ⟨F, ds, c, sub, ra0, e0, q⟩
  obtain ⟨a, rfl, e⟩ := fn1_ok e0
  obtain ⟨v, rfl, ra⟩ := ra0.one
  unfold dictT at e
  split at e
  case h_2 => cases e
  split at e
  case h_2 => cases e
  rename_i qs hq
  split at e
  case isFalse => cases e
  rename_i hz; cases e
  split at hq
  case isFalse => cases hq
  rename_i hmk
  obtain ⟨p, xs, rfl, hp, hpl, rxs⟩ := ra.toTup'
  obtain ⟨of, xf, hof, hdn⟩ := hpl hmk
  obtain ⟨u, rfl, ru⟩ := Vals.one rv
  cases ru
  obtain ⟨its, ri, ⟨o, ho, h1, n, h3⟩, hsz⟩ := I.tuple (seqT sub hp)
  obtain ⟨ts, t1, t2, t3⟩ := pairs_get I sub rxs ri hq
  have lts : ts.length = its.length := by rw [t1, List.length_map]
  have lq : qs.length = ts.length := paired_len t3
  have lx : xs.length = its.length := ri.length
  have P := PairArg.tuple (prog := X.prog) (w := X.w) p its.toArray (fun j => ((ts[j]?).map (·.1)).getD 0) (ts.map fun t => (.ref t.2.2.1, t.2.2.2))
  refine call_dict_pairsH (knd := nestedKind X.prog X.w) (ps := ts.map fun t => t.2) P (I.ok.hd hc) (by have := hr.units; show X.A.units + 1 + 1 + 8 < cLine; omega) ⟨⟨o, n, ho, h1, by
    have hf : s.heap.get? p = some of := (I.hok p _ (sub _ _ hof)).1
    rw [hf] at ho; cases ho; exact hdn, h3⟩, by simp [lts], fun j kk vv hj => ?_⟩ ⟨by simp, fun i key vv hi => ?_⟩ ?_ (by simp only [List.length_map]; omega) fun h' tk hd hk => ?_
  · rw [List.getElem?_map] at hj
    cases ht : ts[j]? with
    | none => rw [ht] at hj; cases hj
    | some t =>
      rw [ht] at hj
      cases hj
      refine ⟨by rw [t1]; simp [ht], .inl ?_⟩
      have := (t2 t (List.mem_of_getElem? ht)).1
      simp only [ht, Option.map_some, Option.getD_some]
      obtain ⟨oo, g1, g2, nn, g3⟩ := this
      exact ⟨oo, g1, g2, nn, g3⟩
  · have hi' : (ts.map fun t => ((.ref t.2.2.1, t.2.2.2) : Value × Value))[i]? = some (key, vv) := hi
    rw [List.getElem?_map] at hi'
    cases ht : ts[i]? with
    | none => rw [ht] at hi'; cases hi'
    | some t =>
      rw [ht] at hi'; cases hi'
      exact ⟨t.2.1, t.2.2.1, by rw [List.getElem?_map, ht]; rfl, rfl⟩
  · intro h' hk x hx
    obtain ⟨t, ht, rfl⟩ := List.mem_map.mp hx
    exact nestedKind_stays.stays (fun b o vs n e _ => hk b o (Nat.ne_of_lt (Heap.lt_size e)) (by simp) e) (t2 t ht).2
  · refine newD (tk := tk) I sub (fun b o e => hk b o (by simp) e) ?_ hd (dmerge_rel t3 .nil) q
    have := dmerge_length qs []
    rw [List.length_nil] at this
    omega
end Z

set_option autoImplicit false
set_option maxHeartbeats 0
namespace K48
open PySem L2 Z
/-! ## the defs as data -/
@[irreducible] def m_pieces_counted (v_value : D) (v_many : D) : R D :=
(item v_value (PyData.int 1)).bind fun z1 =>
(lenD z1).bind fun z2 =>
(mul (PyData.list [(PyData.int 1)]) z2).bind fun z3 =>
(range1 v_many).bind fun z4 =>
(forS z4 z3 fun x5 s6 =>
(item v_value (PyData.int 1)).bind fun z8 =>
(iter z8).bind fun z9 =>
(compL z9 fun x10 =>
(iter x10).bind fun z11 =>
(compL z11 fun x12 =>
if (!isNone x12) = true then
(item s6 x12).bind fun z13 =>
R.ok (some z13)
else
R.ok none).bind fun ys14 =>
(sumL (PyData.list ys14)).bind fun z15 =>
R.ok (some z15)).bind fun ys16 =>
R.ok (PyData.list ys16)).bind fun s7 =>
(item v_value (PyData.int 0)).bind fun z17 =>
(iter z17).bind fun z18 =>
(compL z18 fun x19 =>
(un2 x19).bind fun (p20, p21) =>
(item s7 p21).bind fun z22 =>
R.ok (some z22)).bind fun ys23 =>
(sumL (PyData.list ys23)).bind fun z24 =>
R.ok z24

@[irreducible] def m_state_led (v_value : D) (v_lot : D) (v_digits : D) : R D :=
(item v_value (PyData.int 0)).bind fun z1 =>
(dictT z1).bind fun z2 =>
(shapeR isDctD z2).bind fun _ =>
(getD z2 [v_lot]).bind fun z3 =>
(iter v_digits).bind fun z4 =>
(forS z4 z3 fun x5 s6 =>
(if (!isNone s6) = true then
(item v_value (PyData.int 1)).bind fun z8 =>
(item z8 s6).bind fun z9 =>
(item z9 x5).bind fun z10 =>
R.ok z10
else
R.ok PyData.none : R D).bind fun z11 =>
R.ok z11).bind fun s7 =>
R.ok s7

@[irreducible] def m_blocks_of (v_steps : D) : R D :=
(lenD v_steps).bind fun z1 =>
(mul (PyData.tuple [(PyData.int 0)]) z1).bind fun z2 =>
(un3 (PyData.tuple [(PyData.int 0), (PyData.int 1), z2])).bind fun (p3, p4, p5) =>
(whileT 100000 (p3, p4, p5) fun s6 =>
(gtD s6.2.1 s6.1).bind fun z9 =>
if z9 = true then
(iterL v_steps).bind fun z10 =>
(forS (enumD z10) (([] : List (D × D)), []) fun x11 s12 =>
(un2 x11).bind fun (p14, p15) =>
(item s6.2.2 p14).bind fun z16 =>
(iter p15).bind fun z17 =>
(compL z17 fun x18 =>
(if (!isNone x18) = true then
(item s6.2.2 x18).bind fun z19 =>
R.ok z19
else
R.ok (PyData.int (-1)) : R D).bind fun z20 =>
R.ok (some z20)).bind fun ys21 =>
(tupleD (PyData.list ys21)).bind fun z22 =>
(flatR ((lenD (PyData.dict s12.1)).bind fun z23 =>
R.ok z23)).bind fun z24 =>
(setdefM s12.1 [(PyData.tuple [z16, z22]), z24]).bind fun (z25, y26) =>
(pushM s12.2 [z25]).bind fun (z27, y28) =>
R.ok (y26, y28)).bind fun s13 =>
(tupleD (PyData.list s13.2)).bind fun z29 =>
(flatR ((lenD (PyData.dict s13.1)).bind fun z30 =>
R.ok z30)).bind fun z31 =>
(un2 (PyData.tuple [z29, z31])).bind fun (p32, p33) =>
R.ok (.go (s6.2.1, p33, p32))
else
R.ok (.done (s6.1, s6.2.1, s6.2.2))).bind fun
| .nx s7 =>
(R.ok s7.2.2)
| .bk _ => .stuck
| .rt r8 s7 =>
(.stuck)

@[irreducible] def m_states_come (v_starts : D) (v_steps : D) (v_blocks : D) : R D :=
(iter v_starts).bind fun z1 =>
(forS z1 (([] : List (D × D)), []) fun x2 s3 =>
(un2 x2).bind fun (p5, p6) =>
((item v_blocks p6).bind fun z7 =>
(notInD z7 (PyData.dict s3.1)).bind fun z8 =>
R.ok z8).bind fun t9 =>
if t9 = true then
(item v_blocks p6).bind fun z10 =>
(setFM s3.1 z10 (PyData.bool true)).bind fun y11 =>
(pushM s3.2 [p6]).bind fun (z12, y13) =>
R.ok (y11, y13)
else
R.ok (s3.1, s3.2)).bind fun s4 =>
(whileT 100000 (s4.1, s4.2, (PyData.int 0)) fun s14 =>
((lenD (PyData.list s14.2.1)).bind fun z17 =>
(ltD s14.2.2 z17).bind fun z18 =>
R.ok z18).bind fun t19 =>
if t19 = true then
(item (.list s14.2.1) s14.2.2).bind fun z20 =>
(item v_steps z20).bind fun z21 =>
(iter z21).bind fun z22 =>
(forS z22 (s14.1, s14.2.1) fun x23 s24 =>
(if (!isNone x23) = true then
((item v_blocks x23).bind fun z26 =>
(notInD z26 (PyData.dict s24.1)).bind fun z27 =>
R.ok z27).bind fun t28 =>
R.ok t28
else
R.ok false : R Bool).bind fun t29 =>
if t29 = true then
(item v_blocks x23).bind fun z30 =>
(setFM s24.1 z30 (PyData.bool true)).bind fun y31 =>
(pushM s24.2 [x23]).bind fun (z32, y33) =>
R.ok (y31, y33)
else
R.ok (s24.1, s24.2)).bind fun s25 =>
(addI s14.2.2 (PyData.int 1)).bind fun z34 =>
R.ok (.go (s25.1, s25.2, z34))
else
R.ok (.done (s14.1, s14.2.1, s14.2.2))).bind fun
| .nx s15 =>
(R.ok (PyData.list s15.2.1))
| .bk _ => .stuck
| .rt r16 s15 =>
(.stuck)

@[irreducible] def m_told_by (v_starts : D) (v_steps : D) : R D :=
(m_blocks_of v_steps).bind fun z1 =>
(m_states_come v_starts v_steps z1).bind fun z2 =>
(iterL z2).bind fun z3 =>
(compL (enumD z3) fun x4 =>
(un2 x4).bind fun (p5, p6) =>
(item z1 p6).bind fun z7 =>
R.ok (some (PyData.tuple [z7, p5]))).bind fun ys8 =>
(dictL (PyData.list ys8)).bind fun z9 =>
(iter z1).bind fun z10 =>
(compL z10 fun x11 =>
(shapeR isDctD z9).bind fun _ =>
(getD z9 [x11]).bind fun z12 =>
R.ok (some z12)).bind fun ys13 =>
(tupleD (PyData.list ys13)).bind fun z14 =>
(iter z2).bind fun z15 =>
(compL z15 fun x16 =>
(item v_steps x16).bind fun z17 =>
(iter z17).bind fun z18 =>
(compL z18 fun x19 =>
(if (!isNone x19) = true then
(item z14 x19).bind fun z20 =>
R.ok z20
else
R.ok PyData.none : R D).bind fun z21 =>
R.ok (some z21)).bind fun ys22 =>
(tupleD (PyData.list ys22)).bind fun z23 =>
R.ok (some z23)).bind fun ys24 =>
(iter v_starts).bind fun z25 =>
(compL z25 fun x26 =>
(un2 x26).bind fun (p27, p28) =>
(item z14 p28).bind fun z29 =>
R.ok (some (PyData.tuple [p27, z29]))).bind fun ys30 =>
(tupleD (PyData.list ys30)).bind fun z31 =>
(tupleD (PyData.list ys24)).bind fun z32 =>
R.ok (PyData.tuple [(PyData.tuple [z31, z32]), z14])

@[irreducible] def m_is_whole (v_value : D) : R D :=
((isaD isIntD v_value).bind fun z1 =>
(truth (PyData.bool z1)).bind fun t2 =>
if t2 = true then
(isaD isBoolD v_value).bind fun z3 =>
(truth (PyData.bool z3)).bind fun z4 =>
R.ok (PyData.bool (!z4))
else
R.ok (PyData.bool z1) : R D).bind fun z5 =>
R.ok z5

@[irreducible] def m_is_lot (v_value : D) : R D :=
((isaD isTupD v_value).bind fun z1 =>
(truth (PyData.bool z1)).bind fun t2 =>
if t2 = true then
(lenD v_value).bind fun z3 =>
(eqD z3 (PyData.int 2)).bind fun z4 =>
(truth (PyData.bool z4)).bind fun t5 =>
if t5 = true then
(iter v_value).bind fun z6 =>
(compL z6 fun x7 =>
(m_is_whole x7).bind fun z8 =>
R.ok (some z8)).bind fun ys9 =>
(allL (PyData.list ys9)).bind fun z10 =>
R.ok z10
else
R.ok (PyData.bool z4)
else
R.ok (PyData.bool z1) : R D).bind fun z11 =>
R.ok z11

@[irreducible] def m_are_starts (v_many : D) (v_value : D) : R D :=
(isaD isTupD v_value).bind fun z1 =>
(truth (PyData.bool z1)).bind fun z2 =>
if (!z2) = true then
R.ok (PyData.bool false)
else
(iter v_value).bind fun z3 =>
(forT z3 () fun x4 s5 =>
((isaD isTupD x4).bind fun z7 =>
(truth (PyData.bool z7)).bind fun z8 =>
if (!z8) = true then
R.ok true
else
(lenD x4).bind fun z9 =>
(neD z9 (PyData.int 2)).bind fun z10 =>
if z10 = true then
R.ok true
else
(item x4 (PyData.int 0)).bind fun z11 =>
(m_is_lot z11).bind fun z12 =>
(truth z12).bind fun z13 =>
R.ok (!z13) : R Bool).bind fun t14 =>
if t14 = true then
R.ok (.rt (PyData.bool false) ())
else
((item x4 (PyData.int 1)).bind fun z15 =>
(m_is_whole z15).bind fun z16 =>
(truth z16).bind fun z17 =>
if (!z17) = true then
R.ok true
else
((item x4 (PyData.int 1)).bind fun z18 =>
(leD (PyData.int 0) z18).bind fun t20 =>
if t20 = true then
(ltD z18 v_many).bind fun z19 =>
R.ok z19
else
R.ok false : R Bool).bind fun t21 =>
R.ok (!t21) : R Bool).bind fun t22 =>
if t22 = true then
R.ok (.rt (PyData.bool false) ())
else
R.ok (.nx ())).bind fun
| .nx s6 =>
((iter v_value).bind fun z23 =>
(compL z23 fun x24 =>
(item x24 (PyData.int 0)).bind fun z25 =>
R.ok (some z25)).bind fun ys26 =>
(iter (PyData.list ys26)).bind fun z27 =>
(compL z27 fun x28 =>
R.ok (some (PyData.tuple [x28, (PyData.bool true)]))).bind fun ys29 =>
(dictL (PyData.list ys29)).bind fun z30 =>
(sortedL z30).bind fun z31 =>
(eqD (PyData.list ys26) z31).bind fun z32 =>
R.ok (PyData.bool z32))
| .bk _ => .stuck
| .rt r33 s6 =>
(R.ok r33)

@[irreducible] def m_are_lines (v_many : D) (v_value : D) : R D :=
(isaD isTupD v_value).bind fun z1 =>
(truth (PyData.bool z1)).bind fun z2 =>
if (!z2) = true then
R.ok (PyData.bool false)
else
(iter v_value).bind fun z3 =>
(forT z3 () fun x4 s5 =>
((isaD isTupD x4).bind fun z7 =>
(truth (PyData.bool z7)).bind fun z8 =>
if (!z8) = true then
R.ok true
else
(lenD x4).bind fun z9 =>
(neD z9 v_many).bind fun z10 =>
R.ok z10 : R Bool).bind fun t11 =>
if t11 = true then
R.ok (.rt (PyData.bool false) ())
else
(iter x4).bind fun z12 =>
(compL z12 fun x13 =>
if (!isNone x13) = true then
R.ok (some x13)
else
R.ok none).bind fun ys14 =>
((eqD (PyData.list ys14) (PyData.list [])).bind fun z15 =>
if z15 = true then
R.ok true
else
(iter (PyData.list ys14)).bind fun z16 =>
(compL z16 fun x17 =>
((m_is_whole x17).bind fun z18 =>
(truth z18).bind fun t19 =>
if t19 = true then
((leD (PyData.int 0) x17).bind fun t22 =>
if t22 = true then
(lenD v_value).bind fun z20 =>
(ltD x17 z20).bind fun z21 =>
R.ok (PyData.bool z21)
else
R.ok (PyData.bool false) : R D).bind fun z23 =>
R.ok z23
else
R.ok z18 : R D).bind fun z24 =>
R.ok (some z24)).bind fun ys25 =>
(allL (PyData.list ys25)).bind fun z26 =>
(truth z26).bind fun z27 =>
R.ok (!z27) : R Bool).bind fun t28 =>
if t28 = true then
R.ok (.rt (PyData.bool false) ())
else
R.ok (.nx ())).bind fun
| .nx s6 =>
(R.ok (PyData.bool true))
| .bk _ => .stuck
| .rt r29 s6 =>
(R.ok r29)

@[irreducible] def m_is_complete (v_many : D) (v_value : D) : R D :=
((isaD isTupD v_value).bind fun z1 =>
(truth (PyData.bool z1)).bind fun z2 =>
if (!z2) = true then
R.ok true
else
(lenD v_value).bind fun z3 =>
(neD z3 (PyData.int 2)).bind fun z4 =>
if z4 = true then
R.ok true
else
(item v_value (PyData.int 1)).bind fun z5 =>
(m_are_lines v_many z5).bind fun z6 =>
(truth z6).bind fun z7 =>
R.ok (!z7) : R Bool).bind fun t8 =>
if t8 = true then
R.ok (PyData.bool false)
else
((item v_value (PyData.int 1)).bind fun z9 =>
(lenD z9).bind fun z10 =>
(item v_value (PyData.int 0)).bind fun z11 =>
(m_are_starts z10 z11).bind fun z12 =>
(truth z12).bind fun t13 =>
if t13 = true then
(item v_value (PyData.int 0)).bind fun z14 =>
(item v_value (PyData.int 1)).bind fun z15 =>
(m_told_by z14 z15).bind fun z16 =>
(item z16 (PyData.int 0)).bind fun z17 =>
(eqD z17 v_value).bind fun z18 =>
R.ok (PyData.bool z18)
else
R.ok z12 : R D).bind fun z19 =>
R.ok z19

@[irreducible] def m__law_source (ns : List Int) : R Src :=
(forS (ns.map PyData.int) (PyData.int 11) fun x1 s2 =>
(mul s2 (PyData.int 69069)).bind fun z4 =>
(mul x1 (PyData.int 31)).bind fun z5 =>
(add z4 z5).bind fun z6 =>
(add z6 (PyData.int 5)).bind fun z7 =>
(intD z7).bind fun z8 =>
(fmod z8 (PyData.int 2147483629)).bind fun z9 =>
R.ok z9).bind fun s3 =>
(compL (ns.map PyData.int) fun x10 =>
(absD x10).bind fun z11 =>
R.ok (some z11)).bind fun ys12 =>
(revL (PyData.list ys12)).bind fun y13 =>
(mkSrc y13 (PyData.int 1) s3 (PyData.int 0)).bind fun s14 =>
R.ok s14

@[irreducible] def m__law_pick (s0 : Src) (v_many : D) : R (D × Src) :=
(whileT (s0.cells.length + 1) s0 fun s1 =>
((gtD v_many (PyData.int 1)).bind fun z4 =>
if z4 = true then
(ltD (PyData.int s1.left) (PyData.int 2)).bind fun z5 =>
if z5 = true then
(gtD (PyData.int s1.cells.length) (PyData.int 0)).bind fun z6 =>
R.ok z6
else
R.ok false
else
R.ok false : R Bool).bind fun t7 =>
if t7 = true then
(popC s1.cells).bind fun (z8, c9) =>
(toI (PyData.int z8)).bind fun n10 =>
R.ok (.go { { s1 with cells := c9 } with left := n10 })
else
R.ok (.done s1)).bind fun
| .nx s2 =>
(((ltD v_many (PyData.int 2)).bind fun z11 =>
if z11 = true then
R.ok true
else
(gtD (PyData.int s2.left) (PyData.int 1)).bind fun z12 =>
R.ok z12 : R Bool).bind fun t13 =>
if t13 = true then
(maxD2 (PyData.int 1) v_many).bind fun z14 =>
(fdiv (PyData.int s2.left) z14).bind fun z15 =>
(toI z15).bind fun n16 =>
(intD (PyData.int s2.left)).bind fun z17 =>
(maxD2 (PyData.int 1) v_many).bind fun z18 =>
(fmod z17 z18).bind fun z19 =>
R.ok (z19, { s2 with left := n16 })
else
(add (PyData.int s2.turn) (PyData.int 1)).bind fun z20 =>
(toI z20).bind fun n21 =>
(mul (PyData.int { s2 with turn := n21 }.turn) (PyData.int 104729)).bind fun z22 =>
(add (PyData.int { s2 with turn := n21 }.mixed) z22).bind fun z23 =>
(intD z23).bind fun z24 =>
(fmod z24 (PyData.int 998244353)).bind fun z25 =>
(mul z25 z25).bind fun z26 =>
(mul (PyData.int { s2 with turn := n21 }.turn) (PyData.int 17)).bind fun z27 =>
(add z26 z27).bind fun z28 =>
(intD z28).bind fun z29 =>
(fmod z29 (PyData.int 2147483647)).bind fun z30 =>
(toI z30).bind fun n31 =>
(fdiv z30 (PyData.int 16)).bind fun z32 =>
(intD z32).bind fun z33 =>
(fmod z33 v_many).bind fun z34 =>
R.ok (z34, { { s2 with turn := n21 } with mixed := n31 }))
| .bk _ => .stuck
| .rt r3 s2 =>
(.stuck)

@[irreducible] def m__law_drawn_steps (s0 : Src) (v_many : D) (v_digits : D) : R (D × Src) :=
(range1 v_many).bind fun z1 =>
(forS z1 (s0, []) fun x2 s3 =>
(range1 v_digits).bind fun z5 =>
(compS z5 s3.1 fun x6 s7 =>
((m__law_pick s7 (PyData.int 2)).bind fun (z8, s9) =>
(eqD z8 (PyData.int 0)).bind fun z10 =>
if z10 = true then
(m__law_pick s9 v_many).bind fun (z11, s12) =>
R.ok (z11, s12)
else
R.ok (PyData.none, s9) : R (D × Src)).bind fun (z13, s14) =>
R.ok (some z13, s14)).bind fun (ys15, s16) =>
(((iter (PyData.list ys15)).bind fun z17 =>
(compL z17 fun x18 =>
if (!isNone x18) = true then
R.ok (some x18)
else
R.ok none).bind fun ys19 =>
(eqD (PyData.list ys19) (PyData.list [])).bind fun z20 =>
R.ok z20).bind fun t21 =>
if t21 = true then
(m__law_pick s16 v_many).bind fun (z22, s23) =>
(m__law_pick s23 v_digits).bind fun (z24, s25) =>
(setM ys15 z24 z22).bind fun y26 =>
R.ok (s25, y26)
else
R.ok (s16, ys15) : R (Src × List D)).bind fun s27 =>
(pushM s3.2 [(PyData.list s27.2)]).bind fun (z28, y29) =>
R.ok (s27.1, y29)).bind fun s4 =>
R.ok ((PyData.list s4.2), s4.1)

@[irreducible] def m__law_parts (v_steps : D) : R D :=
(lenD v_steps).bind fun z1 =>
(mul (PyData.list [(PyData.int 0)]) z1).bind fun z2 =>
(un2 (PyData.tuple [z2, (PyData.int 0)])).bind fun (p3, p4) =>
(whileT 100000 (p3, p4) fun s5 =>
(iter s5.1).bind fun z8 =>
(compL z8 fun x9 =>
R.ok (some (PyData.tuple [x9, (PyData.int 0)]))).bind fun ys10 =>
(dictL (PyData.list ys10)).bind fun z11 =>
(lenD z11).bind fun z12 =>
(gtD z12 s5.2).bind fun z13 =>
if z13 = true then
(iter s5.1).bind fun z14 =>
(compL z14 fun x15 =>
R.ok (some (PyData.tuple [x15, (PyData.int 0)]))).bind fun ys16 =>
(dictL (PyData.list ys16)).bind fun z17 =>
(lenD z17).bind fun z18 =>
(iterL v_steps).bind fun z19 =>
(compL (enumD z19) fun x20 =>
(un2 x20).bind fun (p21, p22) =>
(item s5.1 p21).bind fun z23 =>
(iter p22).bind fun z24 =>
(compL z24 fun x25 =>
(if (!isNone x25) = true then
(item s5.1 x25).bind fun z26 =>
R.ok z26
else
R.ok (PyData.int (-1)) : R D).bind fun z27 =>
R.ok (some z27)).bind fun ys28 =>
R.ok (some (PyData.tuple [z23, (PyData.list ys28)]))).bind fun ys29 =>
(iter (PyData.list ys29)).bind fun z30 =>
(compL z30 fun x31 =>
(shapeR isLstD (PyData.list ys29)).bind fun _ =>
(indexD (PyData.list ys29) [x31]).bind fun z32 =>
R.ok (some z32)).bind fun ys33 =>
R.ok (.go ((PyData.list ys33), z18))
else
R.ok (.done (s5.1, s5.2))).bind fun
| .nx s6 =>
(R.ok s6.1)
| .bk _ => .stuck
| .rt r7 s6 =>
(.stuck)

@[irreducible] def m__law_least (v_starts : D) (v_steps : D) : R D :=
(m__law_parts v_steps).bind fun z1 =>
(iter v_starts).bind fun z2 =>
(forS z2 [] fun x3 s4 =>
(un2 x3).bind fun (p6, p7) =>
((item z1 p7).bind fun z8 =>
(notInD z8 (PyData.list s4)).bind fun z9 =>
R.ok z9).bind fun t10 =>
if t10 = true then
(item z1 p7).bind fun z11 =>
(pushM s4 [z11]).bind fun (z12, y13) =>
R.ok y13
else
R.ok s4).bind fun s5 =>
(whileT 100000 (s5, (PyData.int 0)) fun s14 =>
((lenD (PyData.list s14.1)).bind fun z17 =>
(ltD s14.2 z17).bind fun z18 =>
R.ok z18).bind fun t19 =>
if t19 = true then
(item (.list s14.1) s14.2).bind fun z20 =>
(item v_steps z20).bind fun z21 =>
(iter z21).bind fun z22 =>
(forS z22 s14.1 fun x23 s24 =>
(if (!isNone x23) = true then
((item z1 x23).bind fun z26 =>
(notInD z26 (PyData.list s24)).bind fun z27 =>
R.ok z27).bind fun t28 =>
R.ok t28
else
R.ok false : R Bool).bind fun t29 =>
if t29 = true then
(item z1 x23).bind fun z30 =>
(pushM s24 [z30]).bind fun (z31, y32) =>
R.ok y32
else
R.ok s24).bind fun s25 =>
(add s14.2 (PyData.int 1)).bind fun z33 =>
R.ok (.go (s25, z33))
else
R.ok (.done (s14.1, s14.2))).bind fun
| .nx s15 =>
((iter (PyData.list s15.1)).bind fun z34 =>
(forS z34 [] fun x35 s36 =>
(item v_steps x35).bind fun z38 =>
(iter z38).bind fun z39 =>
(compL z39 fun x40 =>
(if (!isNone x40) = true then
(shapeR isLstD (PyData.list s15.1)).bind fun _ =>
(item z1 x40).bind fun z41 =>
(indexD (PyData.list s15.1) [z41]).bind fun z42 =>
R.ok z42
else
R.ok PyData.none : R D).bind fun z43 =>
R.ok (some z43)).bind fun ys44 =>
(tupleD (PyData.list ys44)).bind fun z45 =>
(pushM s36 [z45]).bind fun (z46, y47) =>
R.ok y47).bind fun s37 =>
(iter v_starts).bind fun z48 =>
(compL z48 fun x49 =>
(un2 x49).bind fun (p50, p51) =>
(shapeR isLstD (PyData.list s15.1)).bind fun _ =>
(item z1 p51).bind fun z52 =>
(indexD (PyData.list s15.1) [z52]).bind fun z53 =>
R.ok (some (PyData.tuple [p50, z53]))).bind fun ys54 =>
(tupleD (PyData.list ys54)).bind fun z55 =>
(tupleD (PyData.list s37)).bind fun z56 =>
R.ok (PyData.tuple [z55, z56]))
| .bk _ => .stuck
| .rt r16 s15 =>
(.stuck)

@[irreducible] def m__law_counts (v_value : D) (v_most : D) : R D :=
(item v_value (PyData.int 1)).bind fun z1 =>
(lenD z1).bind fun z2 =>
(mul (PyData.list [(PyData.int 1)]) z2).bind fun z3 =>
(add v_most (PyData.int 1)).bind fun z4 =>
(range1 z4).bind fun z5 =>
(forS z5 (z3, []) fun x6 s7 =>
(item v_value (PyData.int 0)).bind fun z9 =>
(iter z9).bind fun z10 =>
(compL z10 fun x11 =>
(un2 x11).bind fun (p12, p13) =>
(item s7.1 p13).bind fun z14 =>
R.ok (some z14)).bind fun ys15 =>
(sumL (PyData.list ys15)).bind fun z16 =>
(pushM s7.2 [z16]).bind fun (z17, y18) =>
(item v_value (PyData.int 1)).bind fun z19 =>
(iter z19).bind fun z20 =>
(compL z20 fun x21 =>
(iter x21).bind fun z22 =>
(compL z22 fun x23 =>
if (!isNone x23) = true then
(item s7.1 x23).bind fun z24 =>
R.ok (some z24)
else
R.ok none).bind fun ys25 =>
(sumL (PyData.list ys25)).bind fun z26 =>
R.ok (some z26)).bind fun ys27 =>
R.ok ((PyData.list ys27), y18)).bind fun s8 =>
R.ok (PyData.list s8.2)

@[irreducible] def m__law_rows (v_digits : D) (v_many : D) : R D :=
(range1 v_many).bind fun z1 =>
(forS z1 (PyData.list [(PyData.tuple [])]) fun x2 s3 =>
(iter s3).bind fun z5 =>
(forS z5 (PyData.list []) fun x6 s7 =>
(range1 v_digits).bind fun z9 =>
(compL z9 fun x10 =>
(add x6 (PyData.tuple [x10])).bind fun z11 =>
R.ok (some z11)).bind fun ys12 =>
(add s7 (PyData.list ys12)).bind fun z13 =>
R.ok z13).bind fun s8 =>
R.ok s8).bind fun s4 =>
R.ok s4

@[irreducible] def m__law_of (s0 : Src) (v_some : D) : R (D × Src) :=
(lenD v_some).bind fun z1 =>
(m__law_pick s0 z1).bind fun (z2, s3) =>
(item v_some z2).bind fun z4 =>
R.ok (z4, s3)

@[irreducible] def m__law_bent (s0 : Src) (v_value : D) (v_digits : D) : R (D × Src) :=
(un2 v_value).bind fun (p1, p2) =>
(revTD p1).bind fun z3 =>
(slice p1 none (some 1)).bind fun z4 =>
(add p1 z4).bind fun z5 =>
(slice p2 none (some 1)).bind fun z6 =>
(add p2 z6).bind fun z7 =>
(listD p1).bind fun z8 =>
(slice p1 none (some 1)).bind fun z9 =>
(mul (PyData.tuple [PyData.none]) v_digits).bind fun z10 =>
(add p2 (PyData.tuple [z10])).bind fun z11 =>
(addL2 (.list [(PyData.tuple [z3, p2]), (PyData.tuple [z5, p2]), (PyData.tuple [p1, z7]), (PyData.tuple [z8, p2])]) (PyData.list [(PyData.tuple [p1, p2, (PyData.tuple [])]), (PyData.tuple [z9, z11]), (PyData.tuple [p1, (PyData.tuple [])]), PyData.none])).bind fun y12 =>
(pushM y12 [(PyData.tuple [(PyData.tuple [(PyData.tuple [(PyData.tuple [(PyData.int 0), (PyData.int 0)]), (PyData.int 9)])]), p2])]).bind fun (z13, y14) =>
(iter p2).bind fun z15 =>
(compL z15 fun x16 =>
(add x16 (PyData.tuple [PyData.none])).bind fun z17 =>
R.ok (some z17)).bind fun ys18 =>
(tupleD (PyData.list ys18)).bind fun z19 =>
(addL2 (.list y14) (PyData.list [(PyData.tuple [p1, z19]), (PyData.str "x"), (PyData.tuple [])])).bind fun y20 =>
(m__law_of s0 (PyData.list y20)).bind fun (z21, s22) =>
R.ok (z21, s22)

@[irreducible] def m_law (ns : List Int) : R D :=
(m__law_source ns).bind fun s1 =>
(m__law_pick s1 (PyData.int 4)).bind fun (z2, s3) =>
(add (PyData.int 2) z2).bind fun z4 =>
(m__law_pick s3 (PyData.int 6)).bind fun (z5, s6) =>
(add (PyData.int 1) z5).bind fun z7 =>
(un2 (PyData.tuple [z4, z7])).bind fun (p8, p9) =>
(m__law_pick s6 (PyData.int 4)).bind fun (z10, s11) =>
(add (PyData.int 1) z10).bind fun z12 =>
(range1 z12).bind fun z13 =>
(compS z13 s11 fun x14 s15 =>
(m__law_pick s15 (PyData.int 5)).bind fun (z16, s17) =>
(sub z16 (PyData.int 2)).bind fun z18 =>
(m__law_pick s17 (PyData.int 5)).bind fun (z19, s20) =>
(sub z19 (PyData.int 2)).bind fun z21 =>
R.ok (some (PyData.tuple [z18, z21]), s20)).bind fun (ys22, s23) =>
(iter (PyData.list ys22)).bind fun z24 =>
(compL z24 fun x25 =>
R.ok (some (PyData.tuple [x25, (PyData.int 0)]))).bind fun ys26 =>
(dictL (PyData.list ys26)).bind fun z27 =>
(sortedL z27).bind fun z28 =>
(m__law_drawn_steps s23 p9 p8).bind fun (z29, s30) =>
(iter z28).bind fun z31 =>
(compS z31 s30 fun x32 s33 =>
(m__law_pick s33 p9).bind fun (z34, s35) =>
R.ok (some (PyData.tuple [x32, z34]), s35)).bind fun (ys36, s37) =>
(m__law_least (PyData.list ys36) z29).bind fun z38 =>
(m_is_complete p8 z38).bind fun z39 =>
(isNotBD z39 (PyData.bool true)).bind fun z40 =>
if z40 = true then
R.ok (PyData.bool false)
else
(range1 (PyData.int 3)).bind fun z41 =>
(forT z41 s37 fun x42 s43 =>
(m__law_bent s43 z38 p8).bind fun (z45, s46) =>
((item z38 (PyData.int 0)).bind fun z47 =>
(lenD z47).bind fun z48 =>
(ltD z48 (PyData.int 2)).bind fun z49 =>
(truth (PyData.bool z49)).bind fun t50 =>
if t50 = true then
(reprD z45).bind fun z51 =>
(reprD z38).bind fun z52 =>
(eqD z51 z52).bind fun z53 =>
R.ok (PyData.bool z53)
else
R.ok (PyData.bool z49) : R D).bind fun z54 =>
(m_is_complete p8 z45).bind fun z55 =>
(reprD z55).bind fun z56 =>
(reprD z54).bind fun z57 =>
(neD z56 z57).bind fun z58 =>
if z58 = true then
R.ok (.rt (PyData.bool false) s46)
else
R.ok (.nx s46)).bind fun
| .nx s44 =>
((m__law_counts z38 (PyData.int 60)).bind fun z59 =>
((eqD p8 (PyData.int 2)).bind fun z60 =>
if z60 = true then
R.ok (PyData.int 4)
else
R.ok (PyData.int 2) : R D).bind fun z61 =>
(range1 (PyData.int 4)).bind fun z62 =>
(compS z62 s44 fun x63 s64 =>
(m__law_pick s64 (PyData.int 61)).bind fun (z65, s66) =>
R.ok (some z65, s66)).bind fun (ys67, s68) =>
(add (PyData.list [(PyData.int 0), (PyData.int 1), (PyData.int 2), z61, (PyData.int 60)]) (PyData.list ys67)).bind fun z69 =>
(iter z69).bind fun z70 =>
(forT z70 s68 fun x71 s72 =>
(m_pieces_counted z38 x71).bind fun z74 =>
(reprD z74).bind fun z75 =>
(item z59 x71).bind fun z76 =>
(reprD z76).bind fun z77 =>
(neD z75 z77).bind fun z78 =>
if z78 = true then
R.ok (.rt (PyData.bool false) s72)
else
R.ok (.nx s72)).bind fun
| .nx s73 =>
((item z38 (PyData.int 0)).bind fun z79 =>
(iter z79).bind fun z80 =>
(forT z80 (PyData.int 0) fun x81 s82 =>
(un2 x81).bind fun (p84, p85) =>
(m__law_rows p8 z61).bind fun z86 =>
(iter z86).bind fun z87 =>
(forT z87 s82 fun x88 s89 =>
(iter x88).bind fun z91 =>
(forS z91 p85 fun x92 s93 =>
(if (!isNone s93) = true then
(item z38 (PyData.int 1)).bind fun z95 =>
(item z95 s93).bind fun z96 =>
(item z96 x92).bind fun z97 =>
R.ok z97
else
R.ok PyData.none : R D).bind fun z98 =>
R.ok z98).bind fun s94 =>
(m_state_led z38 p84 x88).bind fun z99 =>
(reprD z99).bind fun z100 =>
(reprD s94).bind fun z101 =>
(neD z100 z101).bind fun z102 =>
if z102 = true then
R.ok (.rt (PyData.bool false) s89)
else
(intD (PyData.bool (!isNone s94))).bind fun z103 =>
(add s89 z103).bind fun z104 =>
R.ok (.nx z104)).bind fun
| .nx s90 =>
(R.ok (.nx s90))
| .bk _ => .stuck
| .rt r105 s90 =>
(R.ok (.rt r105 s90))).bind fun
| .nx s83 =>
(((item z59 z61).bind fun z106 =>
(neD s83 z106).bind fun z107 =>
if z107 = true then
R.ok true
else
(m_state_led z38 (PyData.tuple [(PyData.int 9), (PyData.int 9)]) (PyData.tuple [])).bind fun z108 =>
R.ok (!isNone z108) : R Bool).bind fun t109 =>
if t109 = true then
R.ok (PyData.bool false)
else
(m_pieces_counted (PyData.tuple [(PyData.tuple [(PyData.tuple [(PyData.tuple [(PyData.int 0), (PyData.int 0)]), (PyData.int 0)])]), (PyData.tuple [(PyData.tuple [(PyData.int 0), (PyData.int 0), PyData.none, PyData.none])])]) (PyData.int 60)).bind fun z110 =>
(m_pieces_counted (PyData.tuple [(PyData.tuple []), (PyData.tuple [])]) (PyData.int 7)).bind fun z111 =>
(m_pieces_counted (PyData.tuple [(PyData.tuple [(PyData.tuple [(PyData.tuple [(PyData.int 0), (PyData.int 0)]), (PyData.int 0)])]), (PyData.tuple [(PyData.tuple [(PyData.int 0), (PyData.int 0), PyData.none, PyData.none])])]) (PyData.int 0)).bind fun z112 =>
(m_is_complete (PyData.int 3) (PyData.tuple [(PyData.tuple []), (PyData.tuple [])])).bind fun z113 =>
(reprD (PyData.list [z110, z111, z112, z113])).bind fun z114 =>
(pow (PyData.int 2) (PyData.int 60)).bind fun z115 =>
(reprD (PyData.list [z115, (PyData.int 0), (PyData.int 1), (PyData.bool true)])).bind fun z116 =>
(eqD z114 z116).bind fun z117 =>
R.ok (PyData.bool z117))
| .bk _ => .stuck
| .rt r118 s83 =>
(R.ok r118))
| .bk _ => .stuck
| .rt r119 s73 =>
(R.ok r119))
| .bk _ => .stuck
| .rt r120 s44 =>
(R.ok r120)


/-! ## the text by places -/
def top (i : Nat) : Stmt := PySem.Challenge.pw_touchingtiles_k48_pieces_counted.main.body.getD i (.Pass ⟨0, 0, 0, 0⟩)
abbrev s_pieces_counted : Stmt := top 5
abbrev s_state_led : Stmt := top 10
abbrev s_blocks_of : Stmt := top 7
abbrev s_states_come : Stmt := top 8
abbrev s_told_by : Stmt := top 9
abbrev s_is_whole : Stmt := top 1
abbrev s_is_lot : Stmt := top 3
abbrev s_are_starts : Stmt := top 11
abbrev s_are_lines : Stmt := top 12
abbrev s_is_complete : Stmt := top 13
abbrev s__law_source : Stmt := top 15
abbrev s__law_pick : Stmt := top 16
abbrev s__law_drawn_steps : Stmt := top 18
abbrev s__law_parts : Stmt := top 19
abbrev s__law_least : Stmt := top 20
abbrev s__law_counts : Stmt := top 21
abbrev s__law_rows : Stmt := top 22
abbrev s__law_of : Stmt := top 17
abbrev s__law_bent : Stmt := top 23
abbrev s_law : Stmt := top 24
structure Txt (K : PySem.W.Frag) (mg : Str → Option Value) : Prop where
  d_pieces_counted : At K mg "pieces_counted" s_pieces_counted ["value", "many"]
  d_state_led : At K mg "state_led" s_state_led ["value", "lot", "digits"]
  d_blocks_of : At K mg "blocks_of" s_blocks_of ["steps"]
  d_states_come : At K mg "states_come" s_states_come ["starts", "steps", "blocks"]
  d_told_by : At K mg "told_by" s_told_by ["starts", "steps"]
  d_is_whole : At K mg "is_whole" s_is_whole ["value"]
  d_is_lot : At K mg "is_lot" s_is_lot ["value"]
  d_are_starts : At K mg "are_starts" s_are_starts ["many", "value"]
  d_are_lines : At K mg "are_lines" s_are_lines ["many", "value"]
  d_is_complete : At K mg "is_complete" s_is_complete ["many", "value"]
  d__law_source : At K mg "_law_source" s__law_source ["script"]
  d__law_pick : At K mg "_law_pick" s__law_pick ["source", "many"]
  d__law_drawn_steps : At K mg "_law_drawn_steps" s__law_drawn_steps ["source", "many", "digits"]
  d__law_parts : At K mg "_law_parts" s__law_parts ["steps"]
  d__law_least : At K mg "_law_least" s__law_least ["starts", "steps"]
  d__law_counts : At K mg "_law_counts" s__law_counts ["value", "most"]
  d__law_rows : At K mg "_law_rows" s__law_rows ["digits", "many"]
  d__law_of : At K mg "_law_of" s__law_of ["source", "some"]
  d__law_bent : At K mg "_law_bent" s__law_bent ["source", "value", "digits"]
  z_len : mg "len" = none
  z_range : mg "range" = none
  z_sum : mg "sum" = none
  z_dict : mg "dict" = none
  z_enumerate : mg "enumerate" = none
  z_tuple : mg "tuple" = none
  z_isinstance : mg "isinstance" = none
  z_int : mg "int" = none
  z_bool : mg "bool" = none
  z_all : mg "all" = none
  z_sorted : mg "sorted" = none
  z_abs : mg "abs" = none
  z_max : mg "max" = none
  z_list : mg "list" = none
  z_repr : mg "repr" = none
theorem bb_len : bootBuiltins "len" = some (.builtin "len") := by first | rfl | decide +kernel
theorem bb_sum : bootBuiltins "sum" = some (.builtin "sum") := by first | rfl | decide +kernel
theorem bb_dict : bootBuiltins "dict" = some (.type "dict") := by first | rfl | decide +kernel
theorem bb_tuple : bootBuiltins "tuple" = some (.type "tuple") := by first | rfl | decide +kernel
theorem bb_int : bootBuiltins "int" = some (.type "int") := by first | rfl | decide +kernel
theorem bb_bool : bootBuiltins "bool" = some (.type "bool") := by first | rfl | decide +kernel
theorem bb_all : bootBuiltins "all" = some (.builtin "all") := by first | rfl | decide +kernel
theorem bb_sorted : bootBuiltins "sorted" = some (.builtin "sorted") := by first | rfl | decide +kernel
theorem bb_abs : bootBuiltins "abs" = some (.builtin "abs") := by first | rfl | decide +kernel
theorem bb_max : bootBuiltins "max" = some (.builtin "max") := by first | rfl | decide +kernel
theorem bb_list : bootBuiltins "list" = some (.type "list") := by first | rfl | decide +kernel
theorem bb_repr : bootBuiltins "repr" = some (.builtin "repr") := by first | rfl | decide +kernel
theorem sc_pieces_counted : FnScope ["value", "many", "counts", "lap", "line", "late", "lot", "state"] ["value", "many"] (defScope s_pieces_counted) := ⟨rfl, rfl, rfl, by decide +kernel, rfl, by decide +kernel, by decide +kernel⟩
theorem sc_state_led : FnScope ["value", "lot", "digits", "here", "digit"] ["value", "lot", "digits"] (defScope s_state_led) := ⟨rfl, rfl, rfl, by decide +kernel, rfl, by decide +kernel, by decide +kernel⟩
theorem sc_blocks_of : FnScope ["steps", "many", "late", "blocks", "known", "found", "here", "line", "key", "one"] ["steps"] (defScope s_blocks_of) := ⟨rfl, rfl, rfl, by decide +kernel, rfl, by decide +kernel, by decide +kernel⟩
theorem sc_states_come : FnScope ["starts", "steps", "blocks", "known", "line", "k", "lot", "here", "late"] ["starts", "steps", "blocks"] (defScope s_states_come) := ⟨rfl, rfl, rfl, by decide +kernel, rfl, by decide +kernel, by decide +kernel⟩
theorem sc_told_by : FnScope ["starts", "steps", "blocks", "heads", "order", "places", "found", "number", "head", "block", "late", "lot", "here"] ["starts", "steps"] (defScope s_told_by) := ⟨rfl, rfl, rfl, by decide +kernel, rfl, by decide +kernel, by decide +kernel⟩
theorem sc_is_whole : FnScope ["value"] ["value"] (defScope s_is_whole) := ⟨rfl, rfl, rfl, by decide +kernel, rfl, by decide +kernel, by decide +kernel⟩
theorem sc_is_lot : FnScope ["value", "one"] ["value"] (defScope s_is_lot) := ⟨rfl, rfl, rfl, by decide +kernel, rfl, by decide +kernel, by decide +kernel⟩
theorem sc_are_starts : FnScope ["many", "value", "pair", "lots", "lot"] ["many", "value"] (defScope s_are_starts) := ⟨rfl, rfl, rfl, by decide +kernel, rfl, by decide +kernel, by decide +kernel⟩
theorem sc_are_lines : FnScope ["many", "value", "line", "some", "late"] ["many", "value"] (defScope s_are_lines) := ⟨rfl, rfl, rfl, by decide +kernel, rfl, by decide +kernel, by decide +kernel⟩
theorem sc_is_complete : FnScope ["many", "value"] ["many", "value"] (defScope s_is_complete) := ⟨rfl, rfl, rfl, by decide +kernel, rfl, by decide +kernel, by decide +kernel⟩
theorem sc__law_source : FnScope ["script", "mixed", "cell"] ["script"] (defScope s__law_source) := ⟨rfl, rfl, rfl, by decide +kernel, rfl, by decide +kernel, by decide +kernel⟩
theorem sc__law_pick : FnScope ["source", "many", "left", "mixed"] ["source", "many"] (defScope s__law_pick) := ⟨rfl, rfl, rfl, by decide +kernel, rfl, by decide +kernel, by decide +kernel⟩
theorem sc__law_drawn_steps : FnScope ["source", "many", "digits", "found", "here", "line", "digit", "late"] ["source", "many", "digits"] (defScope s__law_drawn_steps) := ⟨rfl, rfl, rfl, by decide +kernel, rfl, by decide +kernel, by decide +kernel⟩
theorem sc__law_parts : FnScope ["steps", "found", "many", "keys", "one", "k", "line", "late", "key"] ["steps"] (defScope s__law_parts) := ⟨rfl, rfl, rfl, by decide +kernel, rfl, by decide +kernel, by decide +kernel⟩
theorem sc__law_least : FnScope ["starts", "steps", "parts", "line", "k", "lot", "here", "late", "found"] ["starts", "steps"] (defScope s__law_least) := ⟨rfl, rfl, rfl, by decide +kernel, rfl, by decide +kernel, by decide +kernel⟩
theorem sc__law_counts : FnScope ["value", "most", "ways", "found", "n", "lot", "here", "line", "late"] ["value", "most"] (defScope s__law_counts) := ⟨rfl, rfl, rfl, by decide +kernel, rfl, by decide +kernel, by decide +kernel⟩
theorem sc__law_rows : FnScope ["digits", "many", "found", "lap", "late", "row", "digit"] ["digits", "many"] (defScope s__law_rows) := ⟨rfl, rfl, rfl, by decide +kernel, rfl, by decide +kernel, by decide +kernel⟩
theorem sc__law_of : FnScope ["source", "some"] ["source", "some"] (defScope s__law_of) := ⟨rfl, rfl, rfl, by decide +kernel, rfl, by decide +kernel, by decide +kernel⟩
theorem sc__law_bent : FnScope ["source", "value", "digits", "starts", "steps", "some", "line"] ["source", "value", "digits"] (defScope s__law_bent) := ⟨rfl, rfl, rfl, by decide +kernel, rfl, by decide +kernel, by decide +kernel⟩
theorem sc_law : FnScope ["script", "source", "digits", "many", "lots", "steps", "value", "turn", "bent", "due", "counts", "most", "n", "rows", "lot", "here", "row", "late", "digit", "side", "told", "k"] ["script"] (defScope s_law) := ⟨rfl, rfl, rfl, by decide +kernel, rfl, by decide +kernel, by decide +kernel⟩
section
variable {P : Program} {w : World} {K : PySem.W.Frag} {mg : Str → Option Value} {base : Heap}
theorem p_pieces_counted (T : Txt K mg) : ∀ k : Nat, 1 ≤ k → HasP P w K mg base k "pieces_counted" 2 (fn2 m_pieces_counted) :=
  T.d_pieces_counted.p (lv := 0) (N := ["value", "many", "counts", "lap", "line", "late", "lot", "state"]) sc_pieces_counted rfl fun ds hds => match ds, hds with
  | [v_value, v_many], _ => by
    show DSs _ [some (.val v_value), some (.val v_many), none, none, none, none, none, none] _ (m_pieces_counted v_value v_many) _
    unfold m_pieces_counted
    exact ds_at [some (.val v_value), some (.val v_many), none, none, none, none, none, none] (ds_set 2 (de_op bs_mul (de_lst (da_cons (de_int (da_nil (⟨by show (1 : Nat) ≤ 16777216; decide, de_blt bl_len T.z_len bb_len (da_cons (de_ix (de_var 0 rfl (de_int (⟨_, rfl, fun z1 => da_nil (⟨_, _, fn1_eq _ _, rfl, fun z2 => ⟨_, rfl, fun z3 => ds_at [some (.val v_value), some (.val v_many), some (.val z3), none, none, none, none, none] (ds_forS (fun (st : D) => ([some (.val v_value), some (.val v_many), some (.val st), none, none, none, none, none] : Z.Env)) (di_range1 T.z_range (de_var 1 rfl (⟨_, rfl, fun z4 => ⟨z3, _, _, (.s (.s (.s (.n (.n (.n (.n (.n .z)))))))), rfl, fun x5 s6 => dg_name 3 (ds_at [some (.val v_value), some (.val v_many), some (.val s6), some (.val x5), none, none, none, none] (ds_set 2 (de_lcP [("line", 4)] (by kernel_rfl) (di_val (de_ix (de_var 0 rfl (de_int (⟨_, rfl, fun z8 => ⟨_, rfl, fun z9 => ⟨[some (.val v_value), some (.val v_many), some (.val s6), some (.val x5), none, none, none, none], _, _, (.s (.s (.s (.s (.n (.n (.n (.n .z)))))))), rfl, rfl, fun x10 => dg_name 4 (dts_nil ⟨fun _ => de_blt bl_sum T.z_sum bb_sum (da_cons (de_lcP [("late", 5)] (by kernel_rfl) (di_val (de_var 4 rfl (⟨_, rfl, fun z11 => ⟨[some (.val v_value), some (.val v_many), some (.val s6), some (.val x5), some (.val x10), none, none, none], _, _, (.s (.s (.s (.s (.s (.n (.n (.n .z)))))))), rfl, rfl, fun x12 => dg_name 5 (dts_one (dt_notN (de_var 5 rfl (lsplitP rfl (de_ix (de_var 2 rfl (de_var 5 rfl (⟨_, rfl, fun z13 => rfl⟩)))) rfl)))), fun ys14 => da_nil (⟨_, _, fn1_eq _ _, rfl, fun z15 => rfl⟩)⟩⟩))))), fun h => nomatch h⟩), fun ys16 => ds_nil (⟨(PyData.list ys16), (.s (.s (.s (.n (.n (.n (.n (.n .z)))))))), rfl⟩)⟩⟩⟩)))))) (hs := fun env he => sw_false (by rw [he]; rfl)))), fun s7 => ds_at [some (.val v_value), some (.val v_many), some (.val s7), none, none, none, none, none] (ds_ret (de_blt bl_sum T.z_sum bb_sum (da_cons (de_lcP [("lot", 6), ("state", 7)] (by kernel_rfl) (di_val (de_ix (de_var 0 rfl (de_int (⟨_, rfl, fun z17 => ⟨_, rfl, fun z18 => ⟨[some (.val v_value), some (.val v_many), some (.val s7), none, none, none, none, none], _, _, (.s (.s (.s (.n (.n (.n (.n (.n .z)))))))), rfl, rfl, fun x19 => dg_tup2 rfl fun p20 p21 => dgs_cons (dg_name 6 (dgs_cons (dg_name 7 (dgs_nil (dts_nil ⟨fun _ => de_ix (de_var 2 rfl (de_var 7 rfl (⟨_, rfl, fun z22 => rfl⟩))), fun h => nomatch h⟩))))), fun ys23 => da_nil (⟨_, _, fn1_eq _ _, rfl, fun z24 => rfl⟩)⟩⟩⟩)))))))))⟩⟩))))⟩⟩)⟩)))))⟩)))))))

theorem p_state_led (T : Txt K mg) : ∀ k : Nat, 1 ≤ k → HasP P w K mg base k "state_led" 3 (fn3 m_state_led) :=
  T.d_state_led.p (lv := 0) (N := ["value", "lot", "digits", "here", "digit"]) sc_state_led rfl fun ds hds => match ds, hds with
  | [v_value, v_lot, v_digits], _ => by
    show DSs _ [some (.val v_value), some (.val v_lot), some (.val v_digits), none, none] _ (m_state_led v_value v_lot v_digits) _
    unfold m_state_led
    exact ds_at [some (.val v_value), some (.val v_lot), some (.val v_digits), none, none] (ds_set 3 (de_meth PySem.F.plainAttrs_dict PySem.F.slot_dict_get PySem.F.type_dict_get tys_dict mt_get (de_bty bl_dictT T.z_dict bb_dict (da_cons (de_ix (de_var 0 rfl (de_int (⟨_, rfl, fun z1 => da_nil (⟨_, _, fn1_eq _ _, rfl, fun z2 => ⟨_, rfl, da_cons (de_var 1 rfl (da_nil (⟨_, rfl, fun z3 => ds_at [some (.val v_value), some (.val v_lot), some (.val v_digits), some (.val z3), none] (ds_forS (fun (st : D) => ([some (.val v_value), some (.val v_lot), some (.val v_digits), some (.val st), none] : Z.Env)) (di_val (de_var 2 rfl (⟨_, rfl, fun z4 => ⟨z3, _, _, (.s (.s (.s (.s (.n .z))))), rfl, fun x5 s6 => dg_name 4 (ds_at [some (.val v_value), some (.val v_lot), some (.val v_digits), some (.val s6), some (.val x5)] (ds_set 3 (de_dir (de_ifx (dt_notN (de_var 3 rfl (⟨_, _, rfl, de_ix (de_ix (de_ix (de_var 0 rfl (de_int (⟨_, rfl, fun z8 => de_var 3 rfl (⟨_, rfl, fun z9 => de_var 4 rfl (⟨_, rfl, fun z10 => ⟨rfl, rfl⟩⟩)⟩)⟩))))), de_none (⟨rfl, rfl⟩)⟩)))) fun z11 => ds_nil (⟨z11, (.s (.s (.s (.s (.n .z))))), rfl⟩)))), fun s7 => ds_at [some (.val v_value), some (.val v_lot), some (.val v_digits), some (.val s7), none] (ds_ret (de_var 3 rfl (rfl)))⟩⟩))))⟩)))⟩⟩)⟩))))))))

theorem p_blocks_of (T : Txt K mg) : ∀ k : Nat, 1 ≤ k → HasP P w K mg base k "blocks_of" 1 (fn1 m_blocks_of) :=
  T.d_blocks_of.p (lv := 0) (N := ["steps", "many", "late", "blocks", "known", "found", "here", "line", "key", "one"]) sc_blocks_of rfl fun ds hds => match ds, hds with
  | [v_steps], _ => by
    show DSs _ [some (.val v_steps), none, none, none, none, none, none, none, none, none] _ (m_blocks_of v_steps) _
    unfold m_blocks_of
    exact ds_at [some (.val v_steps), none, none, none, none, none, none, none, none, none] (ds_asg (de_tup (da_cons (de_int (da_cons (de_int (da_cons (de_op bs_mul (de_tup (da_cons (de_int (da_nil (⟨by show (1 : Nat) ≤ 16777216; decide, de_blt bl_len T.z_len bb_len (da_cons (de_var 0 rfl (da_nil (⟨_, _, fn1_eq _ _, rfl, fun z1 => ⟨_, rfl, fun z2 => da_nil (⟨by show (3 : Nat) ≤ 16777216; decide, dg_tup3 rfl fun p3 p4 p5 => dgs_cons (dg_name 1 (dgs_cons (dg_name 2 (dgs_cons (dg_name 3 (dgs_nil (ds_at [some (.val v_steps), some (.val p3), some (.val p4), some (.val p5), none, none, none, none, none, none] (ds_while (fun (st : D × D × D) => ([some (.val v_steps), some (.val st.1), some (.val st.2.1), some (.val st.2.2), none, none, none, none, none, none] : Z.Env)) (100000) (p3, p4, p5) (.s (.s (.s (.s (.n (.n (.n (.n (.n (.n .z)))))))))) rfl (fun s6 => dt_cmp cs_gt (de_var 2 rfl (de_var 1 rfl (⟨_, rfl, fun z9 => ⟨_, _, rfl, ds_at [some (.val v_steps), some (.val s6.1), some (.val s6.2.1), some (.val s6.2.2), none, none, none, none, none, none] (ds_parN3 1 4 5 (dps_val 1 (de_var 2 rfl (dps_dct 4 (dnd_empty (dps_own 5 (dn_lst (da_nil (⟨by show (0 : Nat) ≤ 16777216; decide, dps_nil (ds_at [some (.val v_steps), some (.val s6.2.1), some (.val s6.2.1), some (.val s6.2.2), some (.dct ([] : List (D × D))), some (.own []), none, none, none, none] (ds_forS (fun (st : List (D × D) × List D) => ([some (.val v_steps), some (.val s6.2.1), some (.val s6.2.1), some (.val s6.2.2), some (.dct st.1), some (.own st.2), none, none, none, none] : Z.Env)) (di_enum T.z_enumerate (de_var 0 rfl (⟨_, rfl, fun z10 => ⟨(([] : List (D × D)), []), _, _, (.s (.s (.s (.s (.s (.s (.n (.n (.n (.n .z)))))))))), rfl, fun x11 s12 => dg_tup2 rfl fun p14 p15 => dgs_cons (dg_name 6 (dgs_cons (dg_name 7 (dgs_nil (ds_at [some (.val v_steps), some (.val s6.2.1), some (.val s6.2.1), some (.val s6.2.2), some (.dct s12.1), some (.own s12.2), some (.val p14), some (.val p15), none, none] (ds_set 8 (de_tup (da_cons (de_ix (de_var 3 rfl (de_var 6 rfl (⟨_, rfl, fun z16 => da_cons (de_bty bl_tuple T.z_tuple bb_tuple (da_cons (de_lcP [("one", 9)] (by kernel_rfl) (di_val (de_var 7 rfl (⟨_, rfl, fun z17 => ⟨[some (.val v_steps), some (.val s6.2.1), some (.val s6.2.1), some (.val s6.2.2), none, none, some (.val p14), some (.val p15), none, none], _, _, (.s (.s (.s (.s (.n (.n (.s (.s (.n (.n .z)))))))))), rfl, rfl, fun x18 => dg_name 9 (dts_nil ⟨fun _ => de_dir (de_ifx (dt_notN (de_var 9 rfl (⟨_, _, rfl, de_ix (de_var 3 rfl (de_var 9 rfl (⟨_, rfl, fun z19 => ⟨rfl, rfl⟩⟩))), de_negc (⟨rfl, rfl⟩)⟩)))) fun z20 => rfl, fun h => nomatch h⟩), fun ys21 => da_nil (⟨_, _, fn1_eq _ _, rfl, fun z22 => da_nil (⟨by show (2 : Nat) ≤ 16777216; decide, ds_at [some (.val v_steps), some (.val s6.2.1), some (.val s6.2.1), some (.val s6.2.2), some (.dct s12.1), some (.own s12.2), some (.val p14), some (.val p15), some (.val (PyData.tuple [z16, z22])), none] (ds_expr (de_om F.slot_list_append F.type_list_append om_append 5 rfl (da_cons (de_setdef 4 rfl (da_cons (de_var 8 rfl (da_cons (de_peek (de_blt bl_len T.z_len bb_len (da_cons (de_var 4 rfl (da_nil (⟨_, _, fn1_eq _ _, rfl, fun z23 => rfl⟩))))) fun z24 => da_nil (⟨_, _, rfl, rfl, fun z25 y26 => da_nil (⟨_, _, rfl, rfl, fun z27 y28 => ds_nil (⟨(y26, y28), (.s (.s (.s (.s (.s (.s (.n (.n (.n (.n .z)))))))))), rfl⟩)⟩)⟩)))))))))⟩)⟩)⟩⟩))))))⟩)))))))))))), fun s13 => ds_at [some (.val v_steps), some (.val s6.2.1), some (.val s6.2.1), some (.val s6.2.2), some (.dct s13.1), some (.own s13.2), none, none, none, none] (ds_asg (de_tup (da_cons (de_bty bl_tuple T.z_tuple bb_tuple (da_cons (de_take 5 rfl (da_nil (⟨_, _, fn1_eq _ _, rfl, fun z29 => da_cons (de_peek (de_blt bl_len T.z_len bb_len (da_cons (de_var 4 rfl (da_nil (⟨_, _, fn1_eq _ _, rfl, fun z30 => rfl⟩))))) fun z31 => da_nil (⟨by show (2 : Nat) ≤ 16777216; decide, dg_tup2 rfl fun p32 p33 => dgs_cons (dg_name 3 (dgs_cons (dg_name 2 (dgs_nil (ds_nil (⟨(s6.2.1, p33, p32), (.s (.s (.s (.s (.n (.n (.n (.n (.n (.n .z)))))))))), rfl⟩))))))⟩))⟩))))))))⟩⟩)))))⟩))))))))), (s6.1, s6.2.1, s6.2.2), (.s (.s (.s (.s (.n (.n (.n (.n (.n (.n .z)))))))))), rfl⟩⟩)))) (fun s7 => ds_at [some (.val v_steps), some (.val s7.1), some (.val s7.2.1), some (.val s7.2.2), none, none, none, none, none, none] (ds_ret (de_var 3 rfl (rfl)))) (fun r8 s7 _ hl => .inr rfl)))))))))⟩)⟩⟩))))⟩)))))))))))))

theorem p_states_come (T : Txt K mg) : ∀ k : Nat, 1 ≤ k → HasP P w K mg base k "states_come" 3 (fn3 m_states_come) :=
  T.d_states_come.p (lv := 0) (N := ["starts", "steps", "blocks", "known", "line", "k", "lot", "here", "late"]) sc_states_come rfl fun ds hds => match ds, hds with
  | [v_starts, v_steps, v_blocks], _ => by
    show DSs _ [some (.val v_starts), some (.val v_steps), some (.val v_blocks), none, none, none, none, none, none] _ (m_states_come v_starts v_steps v_blocks) _
    unfold m_states_come
    exact ds_at [some (.val v_starts), some (.val v_steps), some (.val v_blocks), none, none, none, none, none, none] (ds_parN3 3 4 5 (dps_dck 3 (dnk_empty (dps_own 4 (dn_lst (da_nil (⟨by show (0 : Nat) ≤ 16777216; decide, dps_val 5 (de_int (dps_nil (ds_at [some (.val v_starts), some (.val v_steps), some (.val v_blocks), some (.dck ([] : List (D × D))), some (.own []), some (.val (PyData.int 0)), none, none, none] (ds_forS (fun (st : List (D × D) × List D) => ([some (.val v_starts), some (.val v_steps), some (.val v_blocks), some (.dck st.1), some (.own st.2), some (.val (PyData.int 0)), none, none, none] : Z.Env)) (di_val (de_var 0 rfl (⟨_, rfl, fun z1 => ⟨(([] : List (D × D)), []), _, _, (.s (.s (.s (.s (.s (.s (.n (.n (.n .z))))))))), rfl, fun x2 s3 => dg_tup2 rfl fun p5 p6 => dgs_cons (dg_name 6 (dgs_cons (dg_name 7 (dgs_nil (ds_at [some (.val v_starts), some (.val v_steps), some (.val v_blocks), some (.dck s3.1), some (.own s3.2), some (.val (PyData.int 0)), some (.val p5), some (.val p6), none] (ds_if (dt_peekF 3 rfl (dt_cmp cs_notIn (de_ix (de_var 2 rfl (de_var 7 rfl (⟨_, rfl, fun z7 => de_var 3 rfl (⟨_, rfl, fun z8 => rfl⟩)⟩))))) fun t9 => ⟨_, _, rfl, ds_setF 3 (de_bool (⟨⟨_, rfl⟩, de_ix (de_var 2 rfl (de_var 7 rfl (⟨_, rfl, fun z10 => ⟨_, _, rfl, rfl, fun y11 => ds_at [some (.val v_starts), some (.val v_steps), some (.val v_blocks), some (.dck y11), some (.own s3.2), some (.val (PyData.int 0)), some (.val p5), some (.val p6), none] (ds_expr (de_om F.slot_list_append F.type_list_append om_append 4 rfl (da_cons (de_var 7 rfl (da_nil (⟨_, _, rfl, rfl, fun z12 y13 => ds_nil (ds_nil (⟨(y11, y13), (.s (.s (.s (.s (.s (.s (.n (.n (.n .z))))))))), rfl⟩))⟩))))))⟩⟩)))⟩)), ds_nil (ds_nil (⟨(s3.1, s3.2), (.s (.s (.s (.s (.s (.s (.n (.n (.n .z))))))))), rfl⟩))⟩))))))), fun s4 => ds_at [some (.val v_starts), some (.val v_steps), some (.val v_blocks), some (.dck s4.1), some (.own s4.2), some (.val (PyData.int 0)), none, none, none] (ds_while (fun (st : List (D × D) × List D × D) => ([some (.val v_starts), some (.val v_steps), some (.val v_blocks), some (.dck st.1), some (.own st.2.1), some (.val st.2.2), none, none, none] : Z.Env)) (100000) (s4.1, s4.2, (PyData.int 0)) (.s (.s (.s (.s (.s (.s (.n (.n (.n .z))))))))) rfl (fun s14 => dt_peek (dt_cmp cs_lt (de_var 5 rfl (de_blt bl_len T.z_len bb_len (da_cons (de_var 4 rfl (da_nil (⟨_, _, fn1_eq _ _, rfl, fun z17 => ⟨_, rfl, fun z18 => rfl⟩⟩))))))) fun t19 => ⟨_, _, rfl, ds_at [some (.val v_starts), some (.val v_steps), some (.val v_blocks), some (.dck s14.1), some (.own s14.2.1), some (.val s14.2.2), none, none, none] (ds_forS (fun (st : List (D × D) × List D) => ([some (.val v_starts), some (.val v_steps), some (.val v_blocks), some (.dck st.1), some (.own st.2), some (.val s14.2.2), none, none, none] : Z.Env)) (di_val (de_ix (de_var 1 rfl (de_ixOwn 4 rfl (de_var 5 rfl (⟨_, _, rfl, rfl, fun z20 => ⟨_, rfl, fun z21 => ⟨_, rfl, fun z22 => ⟨(s14.1, s14.2.1), _, _, (.s (.s (.s (.s (.s (.s (.n (.n (.n .z))))))))), rfl, fun x23 s24 => dg_name 8 (ds_at [some (.val v_starts), some (.val v_steps), some (.val v_blocks), some (.dck s24.1), some (.own s24.2), some (.val s14.2.2), none, none, some (.val x23)] (ds_if (dt_dir (dt_w (dw_and (dt_notN (de_var 8 rfl (⟨_, _, rfl, dw_and1 (dt_peekF 3 rfl (dt_cmp cs_notIn (de_ix (de_var 2 rfl (de_var 8 rfl (⟨_, rfl, fun z26 => de_var 3 rfl (⟨_, rfl, fun z27 => rfl⟩)⟩))))) fun t28 => ⟨rfl, rfl⟩), ⟨rfl, rfl⟩⟩))))) fun t29 => ⟨_, _, rfl, ds_setF 3 (de_bool (⟨⟨_, rfl⟩, de_ix (de_var 2 rfl (de_var 8 rfl (⟨_, rfl, fun z30 => ⟨_, _, rfl, rfl, fun y31 => ds_at [some (.val v_starts), some (.val v_steps), some (.val v_blocks), some (.dck y31), some (.own s24.2), some (.val s14.2.2), none, none, some (.val x23)] (ds_expr (de_om F.slot_list_append F.type_list_append om_append 4 rfl (da_cons (de_var 8 rfl (da_nil (⟨_, _, rfl, rfl, fun z32 y33 => ds_nil (ds_nil (⟨(y31, y33), (.s (.s (.s (.s (.s (.s (.n (.n (.n .z))))))))), rfl⟩))⟩))))))⟩⟩)))⟩)), ds_nil (ds_nil (⟨(s24.1, s24.2), (.s (.s (.s (.s (.s (.s (.n (.n (.n .z))))))))), rfl⟩))⟩))), fun s25 => ds_at [some (.val v_starts), some (.val v_steps), some (.val v_blocks), some (.dck s25.1), some (.own s25.2), some (.val s14.2.2), none, none, none] (ds_augI 5 rfl (de_int (⟨_, rfl, fun z34 => ds_nil (⟨(s25.1, s25.2, z34), (.s (.s (.s (.s (.s (.s (.n (.n (.n .z))))))))), rfl⟩)⟩)))⟩⟩⟩⟩))))))), (s14.1, s14.2.1, s14.2.2), (.s (.s (.s (.s (.s (.s (.n (.n (.n .z))))))))), rfl⟩) (fun s15 => ds_at [some (.val v_starts), some (.val v_steps), some (.val v_blocks), some (.dck s15.1), some (.own s15.2.1), some (.val s15.2.2), none, none, none] (ds_keep 4 rfl (ds_at [some (.val v_starts), some (.val v_steps), some (.val v_blocks), some (.dck s15.1), some (.val (PyData.list s15.2.1)), some (.val s15.2.2), none, none, none] (ds_ret (de_var 4 rfl (rfl)))))) (fun r16 s15 _ hl => .inr rfl))⟩⟩)))))))⟩)))))))

theorem p_told_by (T : Txt K mg) : ∀ k : Nat, 2 ≤ k → HasP P w K mg base k "told_by" 2 (fn2 m_told_by) :=
  T.d_told_by.p (lv := 1) (N := ["starts", "steps", "blocks", "heads", "order", "places", "found", "number", "head", "block", "late", "lot", "here"]) sc_told_by rfl fun ds hds => match ds, hds with
  | [v_starts, v_steps], _ => by
    show DSs _ [some (.val v_starts), some (.val v_steps), none, none, none, none, none, none, none, none, none, none, none] _ (m_told_by v_starts v_steps) _
    unfold m_told_by
    exact ds_at [some (.val v_starts), some (.val v_steps), none, none, none, none, none, none, none, none, none, none, none] (ds_set 2 (de_call (p_blocks_of T _ (by show (1 : Nat) ≤ 1; decide) _ _ _) (da_cons (de_var 1 rfl (da_nil (⟨rfl, ⟨_, _, fn1_eq _ _, rfl, fun z1 => ds_at [some (.val v_starts), some (.val v_steps), some (.val z1), none, none, none, none, none, none, none, none, none, none] (ds_set 3 (de_call (p_states_come T _ (by show (1 : Nat) ≤ 1; decide) _ _ _) (da_cons (de_var 0 rfl (da_cons (de_var 1 rfl (da_cons (de_var 2 rfl (da_nil (⟨rfl, ⟨_, _, fn3_eq _ _ _ _, rfl, fun z2 => ds_at [some (.val v_starts), some (.val v_steps), some (.val z1), some (.val z2), none, none, none, none, none, none, none, none, none] (ds_set 4 (de_bty bl_dict T.z_dict bb_dict (da_cons (de_lcP [("number", 7), ("head", 8)] (by kernel_rfl) (di_enum T.z_enumerate (de_var 3 rfl (⟨_, rfl, fun z3 => ⟨[some (.val v_starts), some (.val v_steps), some (.val z1), some (.val z2), none, none, none, none, none, none, none, none, none], _, _, (.s (.s (.s (.s (.n (.n (.n (.n (.n (.n (.n (.n (.n .z))))))))))))), rfl, rfl, fun x4 => dg_tup2 rfl fun p5 p6 => dgs_cons (dg_name 7 (dgs_cons (dg_name 8 (dgs_nil (dts_nil ⟨fun _ => de_tup (da_cons (de_ix (de_var 2 rfl (de_var 8 rfl (⟨_, rfl, fun z7 => da_cons (de_var 7 rfl (da_nil (⟨by show (2 : Nat) ≤ 16777216; decide, rfl⟩)))⟩))))), fun h => nomatch h⟩))))), fun ys8 => da_nil (⟨_, _, fn1_eq _ _, rfl, fun z9 => ds_at [some (.val v_starts), some (.val v_steps), some (.val z1), some (.val z2), some (.val z9), none, none, none, none, none, none, none, none] (ds_set 5 (de_bty bl_tuple T.z_tuple bb_tuple (da_cons (de_lcP [("block", 9)] (by kernel_rfl) (di_val (de_var 2 rfl (⟨_, rfl, fun z10 => ⟨[some (.val v_starts), some (.val v_steps), some (.val z1), some (.val z2), some (.val z9), none, none, none, none, none, none, none, none], _, _, (.s (.s (.s (.s (.s (.n (.n (.n (.n (.n (.n (.n (.n .z))))))))))))), rfl, rfl, fun x11 => dg_name 9 (dts_nil ⟨fun _ => de_meth PySem.F.plainAttrs_dict PySem.F.slot_dict_get PySem.F.type_dict_get tys_dict mt_get (de_var 4 rfl (⟨_, rfl, da_cons (de_var 9 rfl (da_nil (⟨_, rfl, fun z12 => rfl⟩)))⟩)), fun h => nomatch h⟩), fun ys13 => da_nil (⟨_, _, fn1_eq _ _, rfl, fun z14 => ds_at [some (.val v_starts), some (.val v_steps), some (.val z1), some (.val z2), some (.val z9), some (.val z14), none, none, none, none, none, none, none] (ds_setLcP 6 [("head", 8)] (by kernel_rfl) (di_val (de_var 3 rfl (⟨_, rfl, fun z15 => ⟨[some (.val v_starts), some (.val v_steps), some (.val z1), some (.val z2), some (.val z9), some (.val z14), none, none, none, none, none, none, none], _, _, (.s (.s (.s (.s (.s (.s (.n (.n (.n (.n (.n (.n (.n .z))))))))))))), rfl, rfl, fun x16 => dg_name 8 (dts_nil ⟨fun _ => de_bty bl_tuple T.z_tuple bb_tuple (da_cons (de_lcP [("late", 10)] (by kernel_rfl) (di_val (de_ix (de_var 1 rfl (de_var 8 rfl (⟨_, rfl, fun z17 => ⟨_, rfl, fun z18 => ⟨[some (.val v_starts), some (.val v_steps), some (.val z1), some (.val z2), some (.val z9), some (.val z14), none, none, some (.val x16), none, none, none, none], _, _, (.s (.s (.s (.s (.s (.s (.n (.n (.s (.n (.n (.n (.n .z))))))))))))), rfl, rfl, fun x19 => dg_name 10 (dts_nil ⟨fun _ => de_dir (de_ifx (dt_notN (de_var 10 rfl (⟨_, _, rfl, de_ix (de_var 5 rfl (de_var 10 rfl (⟨_, rfl, fun z20 => ⟨rfl, rfl⟩⟩))), de_none (⟨rfl, rfl⟩)⟩)))) fun z21 => rfl, fun h => nomatch h⟩), fun ys22 => da_nil (⟨_, _, fn1_eq _ _, rfl, fun z23 => rfl⟩)⟩⟩⟩))))))), fun h => nomatch h⟩), fun ys24 => ds_at [some (.val v_starts), some (.val v_steps), some (.val z1), some (.val z2), some (.val z9), some (.val z14), some (.val (PyData.list ys24)), none, none, none, none, none, none] (ds_ret (de_tup (da_cons (de_tup (da_cons (de_bty bl_tuple T.z_tuple bb_tuple (da_cons (de_lcP [("lot", 11), ("here", 12)] (by kernel_rfl) (di_val (de_var 0 rfl (⟨_, rfl, fun z25 => ⟨[some (.val v_starts), some (.val v_steps), some (.val z1), some (.val z2), some (.val z9), some (.val z14), some (.val (PyData.list ys24)), none, none, none, none, none, none], _, _, (.s (.s (.s (.s (.s (.s (.s (.n (.n (.n (.n (.n (.n .z))))))))))))), rfl, rfl, fun x26 => dg_tup2 rfl fun p27 p28 => dgs_cons (dg_name 11 (dgs_cons (dg_name 12 (dgs_nil (dts_nil ⟨fun _ => de_tup (da_cons (de_var 11 rfl (da_cons (de_ix (de_var 5 rfl (de_var 12 rfl (⟨_, rfl, fun z29 => da_nil (⟨by show (2 : Nat) ≤ 16777216; decide, rfl⟩)⟩))))))), fun h => nomatch h⟩))))), fun ys30 => da_nil (⟨_, _, fn1_eq _ _, rfl, fun z31 => da_cons (de_bty bl_tuple T.z_tuple bb_tuple (da_cons (de_var 6 rfl (da_nil (⟨_, _, fn1_eq _ _, rfl, fun z32 => da_nil (⟨by show (2 : Nat) ≤ 16777216; decide, da_cons (de_var 5 rfl (da_nil (⟨by show (2 : Nat) ≤ 16777216; decide, rfl⟩)))⟩)⟩)))))⟩)⟩⟩)))))))))))⟩⟩))) (hsw := fun env he => sw_true (by rw [he]; rfl) (by rw [he]; rfl) rfl (by decide +kernel)))⟩)⟩⟩)))))))⟩)⟩⟩)))))))⟩⟩))))))))))⟩⟩))))))

theorem p_is_whole (T : Txt K mg) : ∀ k : Nat, 1 ≤ k → HasP P w K mg base k "is_whole" 1 (fn1 m_is_whole) :=
  T.d_is_whole.p (lv := 0) (N := ["value"]) sc_is_whole rfl fun ds hds => match ds, hds with
  | [v_value], _ => by
    show DSs _ [some (.val v_value)] _ (m_is_whole v_value) _
    unfold m_is_whole
    exact ds_at [some (.val v_value)] (ds_ret (de_dir (de_and (de_isa isa_int T.z_isinstance T.z_int bb_int (de_var 0 rfl (⟨_, rfl, fun z1 => ⟨_, _, rfl, de_and1 (de_notV (de_isa isa_bool T.z_isinstance T.z_bool bb_bool (de_var 0 rfl (⟨_, rfl, fun z3 => ⟨_, rfl, fun z4 => ⟨rfl, rfl⟩⟩⟩)))), ⟨rfl, rfl⟩⟩⟩)))) fun z5 => rfl))

theorem p_is_lot (T : Txt K mg) : ∀ k : Nat, 2 ≤ k → HasP P w K mg base k "is_lot" 1 (fn1 m_is_lot) :=
  T.d_is_lot.p (lv := 1) (N := ["value", "one"]) sc_is_lot rfl fun ds hds => match ds, hds with
  | [v_value], _ => by
    show DSs _ [some (.val v_value), none] _ (m_is_lot v_value) _
    unfold m_is_lot
    exact ds_at [some (.val v_value), none] (ds_ret (de_dir (de_and (de_isa isa_tuple T.z_isinstance T.z_tuple bb_tuple (de_var 0 rfl (⟨_, rfl, fun z1 => ⟨_, _, rfl, de_and (de_cmp cs_eq (de_blt bl_len T.z_len bb_len (da_cons (de_var 0 rfl (da_nil (⟨_, _, fn1_eq _ _, rfl, fun z3 => de_int (⟨_, rfl, fun z4 => ⟨_, _, rfl, de_and1 (de_blt bl_all T.z_all bb_all (da_cons (de_lcP [("one", 1)] (by kernel_rfl) (di_val (de_var 0 rfl (⟨_, rfl, fun z6 => ⟨[some (.val v_value), none], _, _, (.s (.n .z)), rfl, rfl, fun x7 => dg_name 1 (dts_nil ⟨fun _ => de_call (p_is_whole T _ (by show (1 : Nat) ≤ 1; decide) _ _ _) (da_cons (de_var 1 rfl (da_nil (⟨rfl, ⟨_, _, fn1_eq _ _, rfl, fun z8 => rfl⟩⟩)))), fun h => nomatch h⟩), fun ys9 => da_nil (⟨_, _, fn1_eq _ _, rfl, fun z10 => ⟨rfl, rfl⟩⟩)⟩⟩)))))), ⟨rfl, rfl⟩⟩⟩)⟩)))))), ⟨rfl, rfl⟩⟩⟩)))) fun z11 => rfl))

theorem p_are_starts (T : Txt K mg) : ∀ k : Nat, 3 ≤ k → HasP P w K mg base k "are_starts" 2 (fn2 m_are_starts) :=
  T.d_are_starts.p (lv := 2) (N := ["many", "value", "pair", "lots", "lot"]) sc_are_starts rfl fun ds hds => match ds, hds with
  | [v_many, v_value], _ => by
    show DSs _ [some (.val v_many), some (.val v_value), none, none, none] _ (m_are_starts v_many v_value) _
    unfold m_are_starts
    exact ds_at [some (.val v_many), some (.val v_value), none, none, none] (ds_if (dt_not (dt_truth (de_isa isa_tuple T.z_isinstance T.z_tuple bb_tuple (de_var 1 rfl (⟨_, rfl, fun z1 => ⟨_, rfl, fun z2 => ⟨_, _, rfl, ds_ret (de_bool (rfl)), ds_nil (ds_forT (fun (st : Unit) => ([some (.val v_many), some (.val v_value), none, none, none] : Z.Env)) (di_val (de_var 1 rfl (⟨_, rfl, fun z3 => ⟨(), _, _, (.s (.s (.n (.n (.n .z))))), rfl, fun x4 s5 => dg_name 2 (ds_at [some (.val v_many), some (.val v_value), some (.val x4), none, none] (ds_if (dt_dir (dt_w (dw_or (dt_not (dt_truth (de_isa isa_tuple T.z_isinstance T.z_tuple bb_tuple (de_var 2 rfl (⟨_, rfl, fun z7 => ⟨_, rfl, fun z8 => ⟨_, _, rfl, ⟨rfl, rfl⟩, dw_or (dt_cmp cs_ne (de_blt bl_len T.z_len bb_len (da_cons (de_var 2 rfl (da_nil (⟨_, _, fn1_eq _ _, rfl, fun z9 => de_int (⟨_, rfl, fun z10 => ⟨_, _, rfl, ⟨rfl, rfl⟩, dw_or1 (dt_not (dt_truth (de_call (p_is_lot T _ (by show (2 : Nat) ≤ 2; decide) _ _ _) (da_cons (de_ix (de_var 2 rfl (de_int (⟨_, rfl, fun z11 => da_nil (⟨rfl, ⟨_, _, fn1_eq _ _, rfl, fun z12 => ⟨_, rfl, fun z13 => ⟨rfl, rfl⟩⟩⟩⟩)⟩))))))))⟩⟩)⟩))))))⟩⟩⟩))))))) fun t14 => ⟨_, _, rfl, ds_ret (de_bool (⟨(), (.s (.s (.n (.n (.n .z))))), rfl⟩)), ds_nil (ds_if (dt_dir (dt_w (dw_or (dt_not (dt_truth (de_call (p_is_whole T _ (by show (1 : Nat) ≤ 2; decide) _ _ _) (da_cons (de_ix (de_var 2 rfl (de_int (⟨_, rfl, fun z15 => da_nil (⟨rfl, ⟨_, _, fn1_eq _ _, rfl, fun z16 => ⟨_, rfl, fun z17 => ⟨_, _, rfl, ⟨rfl, rfl⟩, dw_or1 (dt_not (dt_dir (dt_chain cs_le cs_lt (de_int (de_ix (de_var 2 rfl (de_int (⟨_, rfl, fun z18 => ⟨_, _, rfl, de_var 0 rfl (⟨_, rfl, fun z19 => ⟨rfl, rfl⟩⟩), ⟨rfl, rfl⟩⟩⟩)))))) fun t21 => ⟨rfl, rfl⟩))⟩⟩⟩⟩)⟩)))))))))) fun t22 => ⟨_, _, rfl, ds_ret (de_bool (⟨(), (.s (.s (.n (.n (.n .z))))), rfl⟩)), ds_nil (ds_nil (⟨(), (.s (.s (.n (.n (.n .z))))), rfl⟩))⟩))⟩))), fun s6 => ds_at [some (.val v_many), some (.val v_value), none, none, none] (ds_setLcP 3 [("pair", 2)] (by kernel_rfl) (di_val (de_var 1 rfl (⟨_, rfl, fun z23 => ⟨[some (.val v_many), some (.val v_value), none, none, none], _, _, (.s (.s (.n (.n (.n .z))))), rfl, rfl, fun x24 => dg_name 2 (dts_nil ⟨fun _ => de_ix (de_var 2 rfl (de_int (⟨_, rfl, fun z25 => rfl⟩))), fun h => nomatch h⟩), fun ys26 => ds_at [some (.val v_many), some (.val v_value), none, some (.val (PyData.list ys26)), none] (ds_ret (de_cmp cs_eq (de_var 3 rfl (de_blt bl_sorted T.z_sorted bb_sorted (da_cons (de_bty bl_dict T.z_dict bb_dict (da_cons (de_lcP [("lot", 4)] (by kernel_rfl) (di_val (de_var 3 rfl (⟨_, rfl, fun z27 => ⟨[some (.val v_many), some (.val v_value), none, some (.val (PyData.list ys26)), none], _, _, (.s (.s (.n (.s (.n .z))))), rfl, rfl, fun x28 => dg_name 4 (dts_nil ⟨fun _ => de_tup (da_cons (de_var 4 rfl (da_cons (de_bool (da_nil (⟨by show (2 : Nat) ≤ 16777216; decide, rfl⟩)))))), fun h => nomatch h⟩), fun ys29 => da_nil (⟨_, _, fn1_eq _ _, rfl, fun z30 => da_nil (⟨_, _, fn1_eq _ _, rfl, fun z31 => ⟨_, rfl, fun z32 => rfl⟩⟩)⟩)⟩⟩)))))))))))⟩⟩))) (hsw := fun env he => sw_true (by rw [he]; rfl) (by rw [he]; rfl) rfl (by decide +kernel))), fun r33 s6 _ hl => rfl⟩⟩))))⟩⟩⟩))))))

theorem p_are_lines (T : Txt K mg) : ∀ k : Nat, 2 ≤ k → HasP P w K mg base k "are_lines" 2 (fn2 m_are_lines) :=
  T.d_are_lines.p (lv := 1) (N := ["many", "value", "line", "some", "late"]) sc_are_lines rfl fun ds hds => match ds, hds with
  | [v_many, v_value], _ => by
    show DSs _ [some (.val v_many), some (.val v_value), none, none, none] _ (m_are_lines v_many v_value) _
    unfold m_are_lines
    exact ds_at [some (.val v_many), some (.val v_value), none, none, none] (ds_if (dt_not (dt_truth (de_isa isa_tuple T.z_isinstance T.z_tuple bb_tuple (de_var 1 rfl (⟨_, rfl, fun z1 => ⟨_, rfl, fun z2 => ⟨_, _, rfl, ds_ret (de_bool (rfl)), ds_nil (ds_forT (fun (st : Unit) => ([some (.val v_many), some (.val v_value), none, none, none] : Z.Env)) (di_val (de_var 1 rfl (⟨_, rfl, fun z3 => ⟨(), _, _, (.s (.s (.n (.n (.n .z))))), rfl, fun x4 s5 => dg_name 2 (ds_at [some (.val v_many), some (.val v_value), some (.val x4), none, none] (ds_if (dt_dir (dt_w (dw_or (dt_not (dt_truth (de_isa isa_tuple T.z_isinstance T.z_tuple bb_tuple (de_var 2 rfl (⟨_, rfl, fun z7 => ⟨_, rfl, fun z8 => ⟨_, _, rfl, ⟨rfl, rfl⟩, dw_or1 (dt_cmp cs_ne (de_blt bl_len T.z_len bb_len (da_cons (de_var 2 rfl (da_nil (⟨_, _, fn1_eq _ _, rfl, fun z9 => de_var 0 rfl (⟨_, rfl, fun z10 => ⟨rfl, rfl⟩⟩)⟩))))))⟩⟩⟩))))))) fun t11 => ⟨_, _, rfl, ds_ret (de_bool (⟨(), (.s (.s (.n (.n (.n .z))))), rfl⟩)), ds_nil (ds_setLcP 3 [("late", 4)] (by kernel_rfl) (di_val (de_var 2 rfl (⟨_, rfl, fun z12 => ⟨[some (.val v_many), some (.val v_value), some (.val x4), none, none], _, _, (.s (.s (.s (.n (.n .z))))), rfl, rfl, fun x13 => dg_name 4 (dts_one (dt_notN (de_var 4 rfl (lsplitP rfl (de_var 4 rfl (rfl)) rfl)))), fun ys14 => ds_at [some (.val v_many), some (.val v_value), some (.val x4), some (.val (PyData.list ys14)), none] (ds_if (dt_dir (dt_w (dw_or (dt_cmp cs_eq (de_var 3 rfl (de_lst (da_nil (⟨by show (0 : Nat) ≤ 16777216; decide, ⟨_, rfl, fun z15 => ⟨_, _, rfl, ⟨rfl, rfl⟩, dw_or1 (dt_not (dt_truth (de_blt bl_all T.z_all bb_all (da_cons (de_lcP [("late", 4)] (by kernel_rfl) (di_val (de_var 3 rfl (⟨_, rfl, fun z16 => ⟨[some (.val v_many), some (.val v_value), some (.val x4), some (.val (PyData.list ys14)), none], _, _, (.s (.s (.s (.s (.n .z))))), rfl, rfl, fun x17 => dg_name 4 (dts_nil ⟨fun _ => de_dir (de_and (de_call (p_is_whole T _ (by show (1 : Nat) ≤ 1; decide) _ _ _) (da_cons (de_var 4 rfl (da_nil (⟨rfl, ⟨_, _, fn1_eq _ _, rfl, fun z18 => ⟨_, _, rfl, de_and1 (de_dir (de_chain cs_le cs_lt (de_int (de_var 4 rfl (⟨_, _, rfl, de_blt bl_len T.z_len bb_len (da_cons (de_var 1 rfl (da_nil (⟨_, _, fn1_eq _ _, rfl, fun z20 => ⟨_, rfl, fun z21 => ⟨rfl, rfl⟩⟩⟩)))), ⟨rfl, rfl⟩⟩)))) fun z23 => ⟨rfl, rfl⟩), ⟨rfl, rfl⟩⟩⟩⟩)))))) fun z24 => rfl, fun h => nomatch h⟩), fun ys25 => da_nil (⟨_, _, fn1_eq _ _, rfl, fun z26 => ⟨_, rfl, fun z27 => ⟨rfl, rfl⟩⟩⟩)⟩⟩))))))))⟩⟩⟩))))))) fun t28 => ⟨_, _, rfl, ds_ret (de_bool (⟨(), (.s (.s (.n (.n (.n .z))))), rfl⟩)), ds_nil (ds_nil (⟨(), (.s (.s (.n (.n (.n .z))))), rfl⟩))⟩))⟩⟩))) (hsw := fun env he => sw_true (by rw [he]; rfl) (by rw [he]; rfl) rfl (by decide +kernel)))⟩))), fun s6 => ds_at [some (.val v_many), some (.val v_value), none, none, none] (ds_ret (de_bool (rfl))), fun r29 s6 _ hl => rfl⟩⟩))))⟩⟩⟩))))))

theorem p_is_complete (T : Txt K mg) : ∀ k : Nat, 4 ≤ k → HasP P w K mg base k "is_complete" 2 (fn2 m_is_complete) :=
  T.d_is_complete.p (lv := 3) (N := ["many", "value"]) sc_is_complete rfl fun ds hds => match ds, hds with
  | [v_many, v_value], _ => by
    show DSs _ [some (.val v_many), some (.val v_value)] _ (m_is_complete v_many v_value) _
    unfold m_is_complete
    exact ds_at [some (.val v_many), some (.val v_value)] (ds_if (dt_dir (dt_w (dw_or (dt_not (dt_truth (de_isa isa_tuple T.z_isinstance T.z_tuple bb_tuple (de_var 1 rfl (⟨_, rfl, fun z1 => ⟨_, rfl, fun z2 => ⟨_, _, rfl, ⟨rfl, rfl⟩, dw_or (dt_cmp cs_ne (de_blt bl_len T.z_len bb_len (da_cons (de_var 1 rfl (da_nil (⟨_, _, fn1_eq _ _, rfl, fun z3 => de_int (⟨_, rfl, fun z4 => ⟨_, _, rfl, ⟨rfl, rfl⟩, dw_or1 (dt_not (dt_truth (de_call (p_are_lines T _ (by show (2 : Nat) ≤ 3; decide) _ _ _) (da_cons (de_var 0 rfl (da_cons (de_ix (de_var 1 rfl (de_int (⟨_, rfl, fun z5 => da_nil (⟨rfl, ⟨_, _, fn2_eq _ _ _, rfl, fun z6 => ⟨_, rfl, fun z7 => ⟨rfl, rfl⟩⟩⟩⟩)⟩))))))))))⟩⟩)⟩))))))⟩⟩⟩))))))) fun t8 => ⟨_, _, rfl, ds_ret (de_bool (rfl)), ds_nil (ds_ret (de_dir (de_and (de_call (p_are_starts T _ (by show (3 : Nat) ≤ 3; decide) _ _ _) (da_cons (de_blt bl_len T.z_len bb_len (da_cons (de_ix (de_var 1 rfl (de_int (⟨_, rfl, fun z9 => da_nil (⟨_, _, fn1_eq _ _, rfl, fun z10 => da_cons (de_ix (de_var 1 rfl (de_int (⟨_, rfl, fun z11 => da_nil (⟨rfl, ⟨_, _, fn2_eq _ _ _, rfl, fun z12 => ⟨_, _, rfl, de_and1 (de_cmp cs_eq (de_ix (de_call (p_told_by T _ (by show (2 : Nat) ≤ 3; decide) _ _ _) (da_cons (de_ix (de_var 1 rfl (de_int (⟨_, rfl, fun z14 => da_cons (de_ix (de_var 1 rfl (de_int (⟨_, rfl, fun z15 => da_nil (⟨rfl, ⟨_, _, fn2_eq _ _ _, rfl, fun z16 => de_int (⟨_, rfl, fun z17 => de_var 1 rfl (⟨_, rfl, fun z18 => ⟨rfl, rfl⟩⟩)⟩)⟩⟩)⟩))))⟩)))))))), ⟨rfl, rfl⟩⟩⟩⟩)⟩))))⟩)⟩))))))))) fun z19 => rfl))⟩))

theorem p__law_source (T : Txt K mg) : ∀ k : Nat, 1 ≤ k → HasQ P w K mg base k "_law_source" m__law_source :=
  T.d__law_source.q (lv := 0) (N := ["script", "mixed", "cell"]) sc__law_source rfl fun ns => by
    show DSs _ [some (.scr ns), none, none] _ (m__law_source ns) _
    unfold m__law_source
    exact ds_at [some (.scr ns), none, none] (ds_set 1 (de_int (ds_at [some (.scr ns), some (.val (PyData.int 11)), none] (ds_forS (fun (st : D) => ([some (.scr ns), some (.val st), none] : Z.Env)) (di_scr 0 rfl (⟨(PyData.int 11), _, _, (.s (.s (.n .z))), rfl, fun x1 s2 => dg_name 2 (ds_at [some (.scr ns), some (.val s2), some (.val x1)] (ds_set 1 (de_op bs_fmod (de_bty bl_int T.z_int bb_int (da_cons (de_op bs_add (de_op bs_add (de_op bs_mul (de_var 1 rfl (de_int (⟨_, rfl, fun z4 => de_op bs_mul (de_var 2 rfl (de_int (⟨_, rfl, fun z5 => ⟨_, rfl, fun z6 => de_int (⟨_, rfl, fun z7 => da_nil (⟨_, _, fn1_eq _ _, rfl, fun z8 => de_int (⟨_, rfl, fun z9 => ds_nil (⟨z9, (.s (.s (.n .z))), rfl⟩)⟩)⟩)⟩)⟩⟩)))⟩))))))))))), fun s3 => ds_at [some (.scr ns), some (.val s3), none] (ds_retSrc (dn_rev (de_lcP [("cell", 2)] (by kernel_rfl) (di_scr 0 rfl (⟨[none, some (.val s3), none], _, _, (.n (.s (.n .z))), rfl, rfl, fun x10 => dg_name 2 (dts_nil ⟨fun _ => de_blt bl_abs T.z_abs bb_abs (da_cons (de_var 2 rfl (da_nil (⟨_, _, fn1_eq _ _, rfl, fun z11 => rfl⟩)))), fun h => nomatch h⟩), fun ys12 => ⟨_, rfl, fun y13 => ⟨_, _, _, _, ie_int, (ie_var 1 rfl), ie_int, rfl, fun s14 => ⟨s14, rfl, rfl⟩⟩⟩⟩)))))⟩))))))

theorem p__law_pick (T : Txt K mg) : ∀ k : Nat, 1 ≤ k → HasS P w K mg base k "_law_pick" 1 (sn1 m__law_pick) :=
  T.d__law_pick.s (lv := 0) (N := ["source", "many", "left", "mixed"]) sc__law_pick rfl fun a0 s0 ds hds => match ds, hds with
  | [v_many], _ => by
    show DSs _ [some (.src a0 s0), some (.val v_many), none, none] _ (m__law_pick s0 v_many) _
    unfold m__law_pick
    exact ds_at [some (.src a0 s0), some (.val v_many), none, none] (ds_while (fun (st : Src) => ([some (.src a0 st), some (.val v_many), none, none] : Z.Env)) ((s0.cells.length + 1)) s0 (.s (.s (.n (.n .z)))) rfl (fun s1 => dt_dir (dt_w (dw_and (dt_cmp cs_gt (de_var 1 rfl (de_int (⟨_, rfl, fun z4 => ⟨_, _, rfl, dw_and (dt_cmp cs_lt (de_srcGet kf_left 0 rfl (de_int (⟨_, rfl, fun z5 => ⟨_, _, rfl, dw_and1 (dt_cmp cs_gt (de_srcLen T.z_len 0 rfl (de_int (⟨_, rfl, fun z6 => ⟨rfl, rfl⟩⟩)))), ⟨rfl, rfl⟩⟩⟩)))), ⟨rfl, rfl⟩⟩⟩)))))) fun t7 => ⟨_, _, rfl, ds_at [some (.src a0 s1), some (.val v_many), none, none] (ds_srcPut kf_left 0 (de_srcPop 0 rfl rfl fun z8 c9 => ⟨_, _, _, rfl, rfl, fun n10 => ds_nil (⟨{ { s1 with cells := c9 } with left := n10 }, (.s (.s (.n (.n .z)))), rfl⟩)⟩)), s1, (.s (.s (.n (.n .z)))), rfl⟩) (fun s2 => ds_at [some (.src a0 s2), some (.val v_many), none, none] (ds_set 2 (de_srcGet kf_left 0 rfl (ds_at [some (.src a0 s2), some (.val v_many), some (.val (PyData.int s2.left)), none] (ds_if (dt_dir (dt_w (dw_or (dt_cmp cs_lt (de_var 1 rfl (de_int (⟨_, rfl, fun z11 => ⟨_, _, rfl, ⟨rfl, rfl⟩, dw_or1 (dt_cmp cs_gt (de_var 2 rfl (de_int (⟨_, rfl, fun z12 => ⟨rfl, rfl⟩⟩))))⟩⟩)))))) fun t13 => ⟨_, _, rfl, ds_srcPut kf_left 0 (de_op bs_fdiv (de_var 2 rfl (de_blt bl_max2 T.z_max bb_max (da_cons (de_int (da_cons (de_var 1 rfl (da_nil (⟨_, _, fn2_eq _ _ _, rfl, fun z14 => ⟨_, rfl, fun z15 => ⟨_, _, _, rfl, rfl, fun n16 => ds_at [some (.src a0 { s2 with left := n16 }), some (.val v_many), some (.val (PyData.int s2.left)), none] (ds_ret (de_op bs_fmod (de_bty bl_int T.z_int bb_int (da_cons (de_var 2 rfl (da_nil (⟨_, _, fn1_eq _ _, rfl, fun z17 => de_blt bl_max2 T.z_max bb_max (da_cons (de_int (da_cons (de_var 1 rfl (da_nil (⟨_, _, fn2_eq _ _ _, rfl, fun z18 => ⟨_, rfl, fun z19 => ⟨_, rfl, rfl⟩⟩⟩))))))⟩)))))))⟩⟩⟩))))))))), ds_nil (ds_srcPut kf_turn 0 (de_op bs_add (de_srcGet kf_turn 0 rfl (de_int (⟨_, rfl, fun z20 => ⟨_, _, _, rfl, rfl, fun n21 => ds_at [some (.src a0 { s2 with turn := n21 }), some (.val v_many), some (.val (PyData.int s2.left)), none] (ds_set 3 (de_op bs_fmod (de_bty bl_int T.z_int bb_int (da_cons (de_op bs_add (de_srcGet kf_mixed 0 rfl (de_op bs_mul (de_srcGet kf_turn 0 rfl (de_int (⟨_, rfl, fun z22 => ⟨_, rfl, fun z23 => da_nil (⟨_, _, fn1_eq _ _, rfl, fun z24 => de_int (⟨_, rfl, fun z25 => ds_at [some (.src a0 { s2 with turn := n21 }), some (.val v_many), some (.val (PyData.int s2.left)), some (.val z25)] (ds_set 3 (de_op bs_fmod (de_bty bl_int T.z_int bb_int (da_cons (de_op bs_add (de_op bs_mul (de_var 3 rfl (de_var 3 rfl (⟨_, rfl, fun z26 => de_op bs_mul (de_srcGet kf_turn 0 rfl (de_int (⟨_, rfl, fun z27 => ⟨_, rfl, fun z28 => da_nil (⟨_, _, fn1_eq _ _, rfl, fun z29 => de_int (⟨_, rfl, fun z30 => ds_at [some (.src a0 { s2 with turn := n21 }), some (.val v_many), some (.val (PyData.int s2.left)), some (.val z30)] (ds_srcPut kf_mixed 0 (de_var 3 rfl (⟨_, _, _, rfl, rfl, fun n31 => ds_at [some (.src a0 { { s2 with turn := n21 } with mixed := n31 }), some (.val v_many), some (.val (PyData.int s2.left)), some (.val z30)] (ds_ret (de_op bs_fmod (de_bty bl_int T.z_int bb_int (da_cons (de_op bs_fdiv (de_var 3 rfl (de_int (⟨_, rfl, fun z32 => da_nil (⟨_, _, fn1_eq _ _, rfl, fun z33 => de_var 1 rfl (⟨_, rfl, fun z34 => ⟨_, rfl, rfl⟩⟩)⟩)⟩))))))))⟩)))⟩)⟩)⟩⟩)))⟩)))))))))⟩)⟩)⟩⟩))))))))))⟩⟩)))))⟩)))))) (fun r3 s2 _ hl => .inr rfl))

theorem p__law_drawn_steps (T : Txt K mg) : ∀ k : Nat, 2 ≤ k → HasS P w K mg base k "_law_drawn_steps" 2 (sn2 m__law_drawn_steps) :=
  T.d__law_drawn_steps.s (lv := 1) (N := ["source", "many", "digits", "found", "here", "line", "digit", "late"]) sc__law_drawn_steps rfl fun a0 s0 ds hds => match ds, hds with
  | [v_many, v_digits], _ => by
    show DSs _ [some (.src a0 s0), some (.val v_many), some (.val v_digits), none, none, none, none, none] _ (m__law_drawn_steps s0 v_many v_digits) _
    unfold m__law_drawn_steps
    exact ds_at [some (.src a0 s0), some (.val v_many), some (.val v_digits), none, none, none, none, none] (ds_own 3 (dn_lst (da_nil (⟨by show (0 : Nat) ≤ 16777216; decide, ds_at [some (.src a0 s0), some (.val v_many), some (.val v_digits), some (.own []), none, none, none, none] (ds_forS (fun (st : Src × List D) => ([some (.src a0 st.1), some (.val v_many), some (.val v_digits), some (.own st.2), none, none, none, none] : Z.Env)) (di_range1 T.z_range (de_var 1 rfl (⟨_, rfl, fun z1 => ⟨(s0, []), _, _, (.s (.s (.s (.s (.n (.n (.n (.n .z)))))))), rfl, fun x2 s3 => dg_name 4 (ds_at [some (.src a0 s3.1), some (.val v_many), some (.val v_digits), some (.own s3.2), some (.val x2), none, none, none] (ds_ownLcT (fun (st : Src) => ([some (.src a0 st), some (.val v_many), some (.val v_digits), some (.own s3.2), some (.val x2), none, none, none] : Z.Env)) 5 [("digit", 6)] (by kernel_rfl) (di_range1 T.z_range (de_var 2 rfl (⟨_, rfl, fun z5 => ⟨s3.1, _, _, (.s (.s (.s (.s (.s (.n (.n (.n .z)))))))), rfl, fun x6 s7 => dg_name 6 (dts_nil ⟨fun _ => de_join (fun (st : Src) => ([some (.src a0 st), some (.val v_many), some (.val v_digits), some (.own s3.2), some (.val x2), none, some (.val x6), none] : Z.Env)) (de_ifx (dt_cmp cs_eq (de_callS 0 (p__law_pick T _ (by show (1 : Nat) ≤ 1; decide) _ _ _) rfl (da_cons (de_int (da_nil (⟨rfl, _, _, _, rfl, sn1_eq _ _ _, rfl, fun z8 s9 => de_int (⟨_, rfl, fun z10 => ⟨_, _, rfl, de_callS 0 (p__law_pick T _ (by show (1 : Nat) ≤ 1; decide) _ _ _) rfl (da_cons (de_var 1 rfl (da_nil (⟨rfl, _, _, _, rfl, sn1_eq _ _ _, rfl, fun z11 s12 => ⟨s12, rfl, rfl⟩⟩)))), de_none (⟨s9, rfl, rfl⟩)⟩⟩)⟩))))))) fun z13 s14 => ⟨s14, (.s (.s (.s (.s (.s (.n (.n (.n .z)))))))), rfl⟩, fun h => nomatch h⟩), fun ys15 s16 => ds_at [some (.src a0 s16), some (.val v_many), some (.val v_digits), some (.own s3.2), some (.val x2), some (.own ys15), none, none] (ds_ifq (fun (st : Src × List D) => ([some (.src a0 st.1), some (.val v_many), some (.val v_digits), some (.own s3.2), some (.val x2), some (.own st.2), none, none] : Z.Env)) rfl (dt_peek (dt_cmp cs_eq (de_lcP [("late", 7)] (by kernel_rfl) (di_val (de_var 5 rfl (⟨_, rfl, fun z17 => ⟨[none, some (.val v_many), some (.val v_digits), some (.val (PyData.list s3.2)), some (.val x2), some (.val (PyData.list ys15)), none, none], _, _, (.n (.s (.s (.s (.s (.s (.n (.n .z)))))))), rfl, rfl, fun x18 => dg_name 7 (dts_one (dt_notN (de_var 7 rfl (lsplitP rfl (de_var 7 rfl (rfl)) rfl)))), fun ys19 => de_lst (da_nil (⟨by show (0 : Nat) ≤ 16777216; decide, ⟨_, rfl, fun z20 => rfl⟩⟩))⟩⟩))))) fun t21 => ⟨_, _, rfl, ds_setIx 5 (de_callS 0 (p__law_pick T _ (by show (1 : Nat) ≤ 1; decide) _ _ _) rfl (da_cons (de_var 1 rfl (da_nil (⟨rfl, _, _, _, rfl, sn1_eq _ _ _, rfl, fun z22 s23 => ⟨⟨_, rfl⟩, de_callS 0 (p__law_pick T _ (by show (1 : Nat) ≤ 1; decide) _ _ _) rfl (da_cons (de_var 2 rfl (da_nil (⟨rfl, _, _, _, rfl, sn1_eq _ _ _, rfl, fun z24 s25 => ⟨_, _, rfl, rfl, fun y26 => ds_nil (⟨(s25, y26), (.s (.s (.s (.s (.s (.s (.n (.n .z)))))))), rfl⟩)⟩⟩))))⟩⟩))))), ds_nil (⟨(s16, ys15), (.s (.s (.s (.s (.s (.s (.n (.n .z)))))))), rfl⟩)⟩) fun s27 => ds_at [some (.src a0 s27.1), some (.val v_many), some (.val v_digits), some (.own s3.2), some (.val x2), some (.own s27.2), none, none] (ds_expr (de_om F.slot_list_append F.type_list_append om_append 3 rfl (da_cons (de_take 5 rfl (da_nil (⟨_, _, rfl, rfl, fun z28 y29 => ds_nil (⟨(s27.1, y29), (.s (.s (.s (.s (.n (.n (.n (.n .z)))))))), rfl⟩)⟩)))))))⟩⟩))) (hsw := fun env he => sw_true (by rw [he]; rfl) (by rw [he]; rfl) rfl (by decide +kernel)))), fun s4 => ds_at [some (.src a0 s4.1), some (.val v_many), some (.val v_digits), some (.own s4.2), none, none, none, none] (ds_keep 3 rfl (ds_at [some (.src a0 s4.1), some (.val v_many), some (.val v_digits), some (.val (PyData.list s4.2)), none, none, none, none] (ds_ret (de_var 3 rfl (⟨_, rfl, rfl⟩)))))⟩⟩))))⟩))))

theorem p__law_parts (T : Txt K mg) : ∀ k : Nat, 1 ≤ k → HasP P w K mg base k "_law_parts" 1 (fn1 m__law_parts) :=
  T.d__law_parts.p (lv := 0) (N := ["steps", "found", "many", "keys", "one", "k", "line", "late", "key"]) sc__law_parts rfl fun ds hds => match ds, hds with
  | [v_steps], _ => by
    show DSs _ [some (.val v_steps), none, none, none, none, none, none, none, none] _ (m__law_parts v_steps) _
    unfold m__law_parts
    exact ds_at [some (.val v_steps), none, none, none, none, none, none, none, none] (ds_asg (de_tup (da_cons (de_op bs_mul (de_lst (da_cons (de_int (da_nil (⟨by show (1 : Nat) ≤ 16777216; decide, de_blt bl_len T.z_len bb_len (da_cons (de_var 0 rfl (da_nil (⟨_, _, fn1_eq _ _, rfl, fun z1 => ⟨_, rfl, fun z2 => da_cons (de_int (da_nil (⟨by show (2 : Nat) ≤ 16777216; decide, dg_tup2 rfl fun p3 p4 => dgs_cons (dg_name 1 (dgs_cons (dg_name 2 (dgs_nil (ds_at [some (.val v_steps), some (.val p3), some (.val p4), none, none, none, none, none, none] (ds_while (fun (st : D × D) => ([some (.val v_steps), some (.val st.1), some (.val st.2), none, none, none, none, none, none] : Z.Env)) (100000) (p3, p4) (.s (.s (.s (.n (.n (.n (.n (.n (.n .z))))))))) rfl (fun s5 => dt_cmp cs_gt (de_blt bl_len T.z_len bb_len (da_cons (de_bty bl_dict T.z_dict bb_dict (da_cons (de_lcP [("one", 4)] (by kernel_rfl) (di_val (de_var 1 rfl (⟨_, rfl, fun z8 => ⟨[some (.val v_steps), some (.val s5.1), some (.val s5.2), none, none, none, none, none, none], _, _, (.s (.s (.s (.n (.n (.n (.n (.n (.n .z))))))))), rfl, rfl, fun x9 => dg_name 4 (dts_nil ⟨fun _ => de_tup (da_cons (de_var 4 rfl (da_cons (de_int (da_nil (⟨by show (2 : Nat) ≤ 16777216; decide, rfl⟩)))))), fun h => nomatch h⟩), fun ys10 => da_nil (⟨_, _, fn1_eq _ _, rfl, fun z11 => da_nil (⟨_, _, fn1_eq _ _, rfl, fun z12 => de_var 2 rfl (⟨_, rfl, fun z13 => ⟨_, _, rfl, ds_at [some (.val v_steps), some (.val s5.1), some (.val s5.2), none, none, none, none, none, none] (ds_set 2 (de_blt bl_len T.z_len bb_len (da_cons (de_bty bl_dict T.z_dict bb_dict (da_cons (de_lcP [("one", 4)] (by kernel_rfl) (di_val (de_var 1 rfl (⟨_, rfl, fun z14 => ⟨[some (.val v_steps), some (.val s5.1), some (.val s5.2), none, none, none, none, none, none], _, _, (.s (.s (.s (.n (.n (.n (.n (.n (.n .z))))))))), rfl, rfl, fun x15 => dg_name 4 (dts_nil ⟨fun _ => de_tup (da_cons (de_var 4 rfl (da_cons (de_int (da_nil (⟨by show (2 : Nat) ≤ 16777216; decide, rfl⟩)))))), fun h => nomatch h⟩), fun ys16 => da_nil (⟨_, _, fn1_eq _ _, rfl, fun z17 => da_nil (⟨_, _, fn1_eq _ _, rfl, fun z18 => ds_at [some (.val v_steps), some (.val s5.1), some (.val z18), none, none, none, none, none, none] (ds_set 3 (de_lcP [("k", 5), ("line", 6)] (by kernel_rfl) (di_enum T.z_enumerate (de_var 0 rfl (⟨_, rfl, fun z19 => ⟨[some (.val v_steps), some (.val s5.1), some (.val z18), none, none, none, none, none, none], _, _, (.s (.s (.s (.n (.n (.n (.n (.n (.n .z))))))))), rfl, rfl, fun x20 => dg_tup2 rfl fun p21 p22 => dgs_cons (dg_name 5 (dgs_cons (dg_name 6 (dgs_nil (dts_nil ⟨fun _ => de_tup (da_cons (de_ix (de_var 1 rfl (de_var 5 rfl (⟨_, rfl, fun z23 => da_cons (de_lcP [("late", 7)] (by kernel_rfl) (di_val (de_var 6 rfl (⟨_, rfl, fun z24 => ⟨[some (.val v_steps), some (.val s5.1), some (.val z18), none, none, some (.val p21), some (.val p22), none, none], _, _, (.s (.s (.s (.n (.n (.s (.s (.n (.n .z))))))))), rfl, rfl, fun x25 => dg_name 7 (dts_nil ⟨fun _ => de_dir (de_ifx (dt_notN (de_var 7 rfl (⟨_, _, rfl, de_ix (de_var 1 rfl (de_var 7 rfl (⟨_, rfl, fun z26 => ⟨rfl, rfl⟩⟩))), de_negc (⟨rfl, rfl⟩)⟩)))) fun z27 => rfl, fun h => nomatch h⟩), fun ys28 => da_nil (⟨by show (2 : Nat) ≤ 16777216; decide, rfl⟩)⟩⟩))))⟩))))), fun h => nomatch h⟩))))), fun ys29 => ds_at [some (.val v_steps), some (.val s5.1), some (.val z18), some (.val (PyData.list ys29)), none, none, none, none, none] (ds_set 1 (de_lcP [("key", 8)] (by kernel_rfl) (di_val (de_var 3 rfl (⟨_, rfl, fun z30 => ⟨[some (.val v_steps), some (.val s5.1), some (.val z18), some (.val (PyData.list ys29)), none, none, none, none, none], _, _, (.s (.s (.s (.s (.n (.n (.n (.n (.n .z))))))))), rfl, rfl, fun x31 => dg_name 8 (dts_nil ⟨fun _ => de_meth PySem.F.plainAttrs_list PySem.F.slot_list_index PySem.F.type_list_index tys_list mt_index (de_var 3 rfl (⟨_, rfl, da_cons (de_var 8 rfl (da_nil (⟨_, rfl, fun z32 => rfl⟩)))⟩)), fun h => nomatch h⟩), fun ys33 => ds_nil (⟨((PyData.list ys33), z18), (.s (.s (.s (.n (.n (.n (.n (.n (.n .z))))))))), rfl⟩)⟩⟩)))) (hs := fun env he => sw_false (by rw [he]; rfl)))⟩⟩)))) (hs := fun env he => sw_false (by rw [he]; rfl)))⟩)⟩)⟩⟩))))))))), (s5.1, s5.2), (.s (.s (.s (.n (.n (.n (.n (.n (.n .z))))))))), rfl⟩⟩)⟩)⟩)⟩⟩))))))))) (fun s6 => ds_at [some (.val v_steps), some (.val s6.1), some (.val s6.2), none, none, none, none, none, none] (ds_ret (de_var 1 rfl (rfl)))) (fun r7 s6 _ hl => .inr rfl)))))))⟩)))⟩⟩))))⟩)))))))))

theorem p__law_least (T : Txt K mg) : ∀ k : Nat, 2 ≤ k → HasP P w K mg base k "_law_least" 2 (fn2 m__law_least) :=
  T.d__law_least.p (lv := 1) (N := ["starts", "steps", "parts", "line", "k", "lot", "here", "late", "found"]) sc__law_least rfl fun ds hds => match ds, hds with
  | [v_starts, v_steps], _ => by
    show DSs _ [some (.val v_starts), some (.val v_steps), none, none, none, none, none, none, none] _ (m__law_least v_starts v_steps) _
    unfold m__law_least
    exact ds_at [some (.val v_starts), some (.val v_steps), none, none, none, none, none, none, none] (ds_asgN3 2 3 4 (dps_val 2 (de_call (p__law_parts T _ (by show (1 : Nat) ≤ 1; decide) _ _ _) (da_cons (de_var 1 rfl (da_nil (⟨rfl, ⟨_, _, fn1_eq _ _, rfl, fun z1 => dps_own 3 (dn_lst (da_nil (⟨by show (0 : Nat) ≤ 16777216; decide, dps_val 4 (de_int (dps_nil (ds_at [some (.val v_starts), some (.val v_steps), some (.val z1), some (.own []), some (.val (PyData.int 0)), none, none, none, none] (ds_forS (fun (st : List D) => ([some (.val v_starts), some (.val v_steps), some (.val z1), some (.own st), some (.val (PyData.int 0)), none, none, none, none] : Z.Env)) (di_val (de_var 0 rfl (⟨_, rfl, fun z2 => ⟨[], _, _, (.s (.s (.s (.s (.s (.n (.n (.n (.n .z))))))))), rfl, fun x3 s4 => dg_tup2 rfl fun p6 p7 => dgs_cons (dg_name 5 (dgs_cons (dg_name 6 (dgs_nil (ds_at [some (.val v_starts), some (.val v_steps), some (.val z1), some (.own s4), some (.val (PyData.int 0)), some (.val p6), some (.val p7), none, none] (ds_if (dt_peek (dt_cmp cs_notIn (de_ix (de_var 2 rfl (de_var 6 rfl (⟨_, rfl, fun z8 => de_var 3 rfl (⟨_, rfl, fun z9 => rfl⟩)⟩))))) fun t10 => ⟨_, _, rfl, ds_expr (de_om F.slot_list_append F.type_list_append om_append 3 rfl (da_cons (de_ix (de_var 2 rfl (de_var 6 rfl (⟨_, rfl, fun z11 => da_nil (⟨_, _, rfl, rfl, fun z12 y13 => ds_nil (ds_nil (⟨y13, (.s (.s (.s (.s (.s (.n (.n (.n (.n .z))))))))), rfl⟩))⟩)⟩)))))), ds_nil (ds_nil (⟨s4, (.s (.s (.s (.s (.s (.n (.n (.n (.n .z))))))))), rfl⟩))⟩))))))), fun s5 => ds_at [some (.val v_starts), some (.val v_steps), some (.val z1), some (.own s5), some (.val (PyData.int 0)), none, none, none, none] (ds_while (fun (st : List D × D) => ([some (.val v_starts), some (.val v_steps), some (.val z1), some (.own st.1), some (.val st.2), none, none, none, none] : Z.Env)) (100000) (s5, (PyData.int 0)) (.s (.s (.s (.s (.s (.n (.n (.n (.n .z))))))))) rfl (fun s14 => dt_peek (dt_cmp cs_lt (de_var 4 rfl (de_blt bl_len T.z_len bb_len (da_cons (de_var 3 rfl (da_nil (⟨_, _, fn1_eq _ _, rfl, fun z17 => ⟨_, rfl, fun z18 => rfl⟩⟩))))))) fun t19 => ⟨_, _, rfl, ds_at [some (.val v_starts), some (.val v_steps), some (.val z1), some (.own s14.1), some (.val s14.2), none, none, none, none] (ds_forS (fun (st : List D) => ([some (.val v_starts), some (.val v_steps), some (.val z1), some (.own st), some (.val s14.2), none, none, none, none] : Z.Env)) (di_val (de_ix (de_var 1 rfl (de_ixOwn 3 rfl (de_var 4 rfl (⟨_, _, rfl, rfl, fun z20 => ⟨_, rfl, fun z21 => ⟨_, rfl, fun z22 => ⟨s14.1, _, _, (.s (.s (.s (.s (.s (.n (.n (.n (.n .z))))))))), rfl, fun x23 s24 => dg_name 7 (ds_at [some (.val v_starts), some (.val v_steps), some (.val z1), some (.own s24), some (.val s14.2), none, none, some (.val x23), none] (ds_if (dt_dir (dt_w (dw_and (dt_notN (de_var 7 rfl (⟨_, _, rfl, dw_and1 (dt_peek (dt_cmp cs_notIn (de_ix (de_var 2 rfl (de_var 7 rfl (⟨_, rfl, fun z26 => de_var 3 rfl (⟨_, rfl, fun z27 => rfl⟩)⟩))))) fun t28 => ⟨rfl, rfl⟩), ⟨rfl, rfl⟩⟩))))) fun t29 => ⟨_, _, rfl, ds_expr (de_om F.slot_list_append F.type_list_append om_append 3 rfl (da_cons (de_ix (de_var 2 rfl (de_var 7 rfl (⟨_, rfl, fun z30 => da_nil (⟨_, _, rfl, rfl, fun z31 y32 => ds_nil (ds_nil (⟨y32, (.s (.s (.s (.s (.s (.n (.n (.n (.n .z))))))))), rfl⟩))⟩)⟩)))))), ds_nil (ds_nil (⟨s24, (.s (.s (.s (.s (.s (.n (.n (.n (.n .z))))))))), rfl⟩))⟩))), fun s25 => ds_at [some (.val v_starts), some (.val v_steps), some (.val z1), some (.own s25), some (.val s14.2), none, none, none, none] (ds_set 4 (de_op bs_add (de_var 4 rfl (de_int (⟨_, rfl, fun z33 => ds_nil (⟨(s25, z33), (.s (.s (.s (.s (.s (.n (.n (.n (.n .z))))))))), rfl⟩)⟩)))))⟩⟩⟩⟩))))))), (s14.1, s14.2), (.s (.s (.s (.s (.s (.n (.n (.n (.n .z))))))))), rfl⟩) (fun s15 => ds_at [some (.val v_starts), some (.val v_steps), some (.val z1), some (.own s15.1), some (.val s15.2), none, none, none, none] (ds_keep 3 rfl (ds_at [some (.val v_starts), some (.val v_steps), some (.val z1), some (.val (PyData.list s15.1)), some (.val s15.2), none, none, none, none] (ds_own 8 (dn_lst (da_nil (⟨by show (0 : Nat) ≤ 16777216; decide, ds_at [some (.val v_starts), some (.val v_steps), some (.val z1), some (.val (PyData.list s15.1)), some (.val s15.2), none, none, none, some (.own [])] (ds_forS (fun (st : List D) => ([some (.val v_starts), some (.val v_steps), some (.val z1), some (.val (PyData.list s15.1)), some (.val s15.2), none, none, none, some (.own st)] : Z.Env)) (di_val (de_var 3 rfl (⟨_, rfl, fun z34 => ⟨[], _, _, (.s (.s (.s (.s (.s (.n (.n (.n (.s .z))))))))), rfl, fun x35 s36 => dg_name 6 (ds_at [some (.val v_starts), some (.val v_steps), some (.val z1), some (.val (PyData.list s15.1)), some (.val s15.2), none, some (.val x35), none, some (.own s36)] (ds_expr (de_om F.slot_list_append F.type_list_append om_append 8 rfl (da_cons (de_bty bl_tuple T.z_tuple bb_tuple (da_cons (de_lcP [("late", 7)] (by kernel_rfl) (di_val (de_ix (de_var 1 rfl (de_var 6 rfl (⟨_, rfl, fun z38 => ⟨_, rfl, fun z39 => ⟨[some (.val v_starts), some (.val v_steps), some (.val z1), some (.val (PyData.list s15.1)), some (.val s15.2), none, some (.val x35), none, none], _, _, (.s (.s (.s (.s (.s (.n (.s (.n (.n .z))))))))), rfl, rfl, fun x40 => dg_name 7 (dts_nil ⟨fun _ => de_dir (de_ifx (dt_notN (de_var 7 rfl (⟨_, _, rfl, de_meth PySem.F.plainAttrs_list PySem.F.slot_list_index PySem.F.type_list_index tys_list mt_index (de_var 3 rfl (⟨_, rfl, da_cons (de_ix (de_var 2 rfl (de_var 7 rfl (⟨_, rfl, fun z41 => da_nil (⟨_, rfl, fun z42 => ⟨rfl, rfl⟩⟩)⟩))))⟩)), de_none (⟨rfl, rfl⟩)⟩)))) fun z43 => rfl, fun h => nomatch h⟩), fun ys44 => da_nil (⟨_, _, fn1_eq _ _, rfl, fun z45 => da_nil (⟨_, _, rfl, rfl, fun z46 y47 => ds_nil (⟨y47, (.s (.s (.s (.s (.s (.n (.n (.n (.s .z))))))))), rfl⟩)⟩)⟩)⟩⟩⟩)))))))))))), fun s37 => ds_at [some (.val v_starts), some (.val v_steps), some (.val z1), some (.val (PyData.list s15.1)), some (.val s15.2), none, none, none, some (.own s37)] (ds_keep 8 rfl (ds_at [some (.val v_starts), some (.val v_steps), some (.val z1), some (.val (PyData.list s15.1)), some (.val s15.2), none, none, none, some (.val (PyData.list s37))] (ds_ret (de_tup (da_cons (de_bty bl_tuple T.z_tuple bb_tuple (da_cons (de_lcP [("lot", 5), ("here", 6)] (by kernel_rfl) (di_val (de_var 0 rfl (⟨_, rfl, fun z48 => ⟨[some (.val v_starts), some (.val v_steps), some (.val z1), some (.val (PyData.list s15.1)), some (.val s15.2), none, none, none, some (.val (PyData.list s37))], _, _, (.s (.s (.s (.s (.s (.n (.n (.n (.s .z))))))))), rfl, rfl, fun x49 => dg_tup2 rfl fun p50 p51 => dgs_cons (dg_name 5 (dgs_cons (dg_name 6 (dgs_nil (dts_nil ⟨fun _ => de_tup (da_cons (de_var 5 rfl (da_cons (de_meth PySem.F.plainAttrs_list PySem.F.slot_list_index PySem.F.type_list_index tys_list mt_index (de_var 3 rfl (⟨_, rfl, da_cons (de_ix (de_var 2 rfl (de_var 6 rfl (⟨_, rfl, fun z52 => da_nil (⟨_, rfl, fun z53 => da_nil (⟨by show (2 : Nat) ≤ 16777216; decide, rfl⟩)⟩)⟩))))⟩)))))), fun h => nomatch h⟩))))), fun ys54 => da_nil (⟨_, _, fn1_eq _ _, rfl, fun z55 => da_cons (de_bty bl_tuple T.z_tuple bb_tuple (da_cons (de_var 8 rfl (da_nil (⟨_, _, fn1_eq _ _, rfl, fun z56 => da_nil (⟨by show (2 : Nat) ≤ 16777216; decide, rfl⟩)⟩)))))⟩)⟩⟩)))))))))))⟩⟩))))⟩))))))) (fun r16 s15 _ hl => .inr rfl))⟩⟩)))))))⟩)))⟩⟩)))))))

theorem p__law_counts (T : Txt K mg) : ∀ k : Nat, 1 ≤ k → HasP P w K mg base k "_law_counts" 2 (fn2 m__law_counts) :=
  T.d__law_counts.p (lv := 0) (N := ["value", "most", "ways", "found", "n", "lot", "here", "line", "late"]) sc__law_counts rfl fun ds hds => match ds, hds with
  | [v_value, v_most], _ => by
    show DSs _ [some (.val v_value), some (.val v_most), none, none, none, none, none, none, none] _ (m__law_counts v_value v_most) _
    unfold m__law_counts
    exact ds_at [some (.val v_value), some (.val v_most), none, none, none, none, none, none, none] (ds_asgN2 2 3 (dps_val 2 (de_op bs_mul (de_lst (da_cons (de_int (da_nil (⟨by show (1 : Nat) ≤ 16777216; decide, de_blt bl_len T.z_len bb_len (da_cons (de_ix (de_var 0 rfl (de_int (⟨_, rfl, fun z1 => da_nil (⟨_, _, fn1_eq _ _, rfl, fun z2 => ⟨_, rfl, fun z3 => dps_own 3 (dn_lst (da_nil (⟨by show (0 : Nat) ≤ 16777216; decide, dps_nil (ds_at [some (.val v_value), some (.val v_most), some (.val z3), some (.own []), none, none, none, none, none] (ds_forS (fun (st : D × List D) => ([some (.val v_value), some (.val v_most), some (.val st.1), some (.own st.2), none, none, none, none, none] : Z.Env)) (di_range1 T.z_range (de_op bs_add (de_var 1 rfl (de_int (⟨_, rfl, fun z4 => ⟨_, rfl, fun z5 => ⟨(z3, []), _, _, (.s (.s (.s (.s (.n (.n (.n (.n (.n .z))))))))), rfl, fun x6 s7 => dg_name 4 (ds_at [some (.val v_value), some (.val v_most), some (.val s7.1), some (.own s7.2), some (.val x6), none, none, none, none] (ds_expr (de_om F.slot_list_append F.type_list_append om_append 3 rfl (da_cons (de_blt bl_sum T.z_sum bb_sum (da_cons (de_lcP [("lot", 5), ("here", 6)] (by kernel_rfl) (di_val (de_ix (de_var 0 rfl (de_int (⟨_, rfl, fun z9 => ⟨_, rfl, fun z10 => ⟨[some (.val v_value), some (.val v_most), some (.val s7.1), none, some (.val x6), none, none, none, none], _, _, (.s (.s (.s (.n (.s (.n (.n (.n (.n .z))))))))), rfl, rfl, fun x11 => dg_tup2 rfl fun p12 p13 => dgs_cons (dg_name 5 (dgs_cons (dg_name 6 (dgs_nil (dts_nil ⟨fun _ => de_ix (de_var 2 rfl (de_var 6 rfl (⟨_, rfl, fun z14 => rfl⟩))), fun h => nomatch h⟩))))), fun ys15 => da_nil (⟨_, _, fn1_eq _ _, rfl, fun z16 => da_nil (⟨_, _, rfl, rfl, fun z17 y18 => ds_at [some (.val v_value), some (.val v_most), some (.val s7.1), some (.own y18), some (.val x6), none, none, none, none] (ds_set 2 (de_lcP [("line", 7)] (by kernel_rfl) (di_val (de_ix (de_var 0 rfl (de_int (⟨_, rfl, fun z19 => ⟨_, rfl, fun z20 => ⟨[some (.val v_value), some (.val v_most), some (.val s7.1), none, some (.val x6), none, none, none, none], _, _, (.s (.s (.s (.n (.s (.n (.n (.n (.n .z))))))))), rfl, rfl, fun x21 => dg_name 7 (dts_nil ⟨fun _ => de_blt bl_sum T.z_sum bb_sum (da_cons (de_lcP [("late", 8)] (by kernel_rfl) (di_val (de_var 7 rfl (⟨_, rfl, fun z22 => ⟨[some (.val v_value), some (.val v_most), some (.val s7.1), none, some (.val x6), none, none, some (.val x21), none], _, _, (.s (.s (.s (.n (.s (.n (.n (.s (.n .z))))))))), rfl, rfl, fun x23 => dg_name 8 (dts_one (dt_notN (de_var 8 rfl (lsplitP rfl (de_ix (de_var 2 rfl (de_var 8 rfl (⟨_, rfl, fun z24 => rfl⟩)))) rfl)))), fun ys25 => da_nil (⟨_, _, fn1_eq _ _, rfl, fun z26 => rfl⟩)⟩⟩))))), fun h => nomatch h⟩), fun ys27 => ds_nil (⟨((PyData.list ys27), y18), (.s (.s (.s (.s (.n (.n (.n (.n (.n .z))))))))), rfl⟩)⟩⟩⟩)))))) (hs := fun env he => sw_false (by rw [he]; rfl)))⟩)⟩)⟩⟩⟩)))))))))))), fun s8 => ds_at [some (.val v_value), some (.val v_most), some (.val s8.1), some (.own s8.2), none, none, none, none, none] (ds_keep 3 rfl (ds_at [some (.val v_value), some (.val v_most), some (.val s8.1), some (.val (PyData.list s8.2)), none, none, none, none, none] (ds_ret (de_var 3 rfl (rfl)))))⟩⟩⟩)))))))⟩)))⟩⟩)⟩)))))⟩))))))))

theorem p__law_rows (T : Txt K mg) : ∀ k : Nat, 1 ≤ k → HasP P w K mg base k "_law_rows" 2 (fn2 m__law_rows) :=
  T.d__law_rows.p (lv := 0) (N := ["digits", "many", "found", "lap", "late", "row", "digit"]) sc__law_rows rfl fun ds hds => match ds, hds with
  | [v_digits, v_many], _ => by
    show DSs _ [some (.val v_digits), some (.val v_many), none, none, none, none, none] _ (m__law_rows v_digits v_many) _
    unfold m__law_rows
    exact ds_at [some (.val v_digits), some (.val v_many), none, none, none, none, none] (ds_set 2 (de_lst (da_cons (de_tup (da_nil (⟨by show (0 : Nat) ≤ 16777216; decide, da_nil (⟨by show (1 : Nat) ≤ 16777216; decide, ds_at [some (.val v_digits), some (.val v_many), some (.val (PyData.list [(PyData.tuple [])])), none, none, none, none] (ds_forS (fun (st : D) => ([some (.val v_digits), some (.val v_many), some (.val st), none, none, none, none] : Z.Env)) (di_range1 T.z_range (de_var 1 rfl (⟨_, rfl, fun z1 => ⟨(PyData.list [(PyData.tuple [])]), _, _, (.s (.s (.s (.n (.n (.n (.n .z))))))), rfl, fun x2 s3 => dg_name 3 (ds_at [some (.val v_digits), some (.val v_many), some (.val s3), some (.val x2), none, none, none] (ds_set 4 (de_lst (da_nil (⟨by show (0 : Nat) ≤ 16777216; decide, ds_at [some (.val v_digits), some (.val v_many), some (.val s3), some (.val x2), some (.val (PyData.list [])), none, none] (ds_forS (fun (st : D) => ([some (.val v_digits), some (.val v_many), some (.val s3), some (.val x2), some (.val st), none, none] : Z.Env)) (di_val (de_var 2 rfl (⟨_, rfl, fun z5 => ⟨(PyData.list []), _, _, (.s (.s (.s (.s (.s (.n (.n .z))))))), rfl, fun x6 s7 => dg_name 5 (ds_at [some (.val v_digits), some (.val v_many), some (.val s3), some (.val x2), some (.val s7), some (.val x6), none] (ds_set 4 (de_op bs_add (de_var 4 rfl (de_lcP [("digit", 6)] (by kernel_rfl) (di_range1 T.z_range (de_var 0 rfl (⟨_, rfl, fun z9 => ⟨[some (.val v_digits), some (.val v_many), some (.val s3), some (.val x2), some (.val s7), some (.val x6), none], _, _, (.s (.s (.s (.s (.s (.s (.n .z))))))), rfl, rfl, fun x10 => dg_name 6 (dts_nil ⟨fun _ => de_op bs_add (de_var 5 rfl (de_tup (da_cons (de_var 6 rfl (da_nil (⟨by show (1 : Nat) ≤ 16777216; decide, ⟨_, rfl, fun z11 => rfl⟩⟩)))))), fun h => nomatch h⟩), fun ys12 => ⟨_, rfl, fun z13 => ds_nil (⟨z13, (.s (.s (.s (.s (.s (.n (.n .z))))))), rfl⟩)⟩⟩⟩)))))))), fun s8 => ds_at [some (.val v_digits), some (.val v_many), some (.val s3), some (.val x2), some (.val s8), none, none] (ds_set 2 (de_var 4 rfl (ds_nil (⟨s8, (.s (.s (.s (.n (.n (.n (.n .z))))))), rfl⟩))))⟩⟩))))⟩))))), fun s4 => ds_at [some (.val v_digits), some (.val v_many), some (.val s4), none, none, none, none] (ds_ret (de_var 2 rfl (rfl)))⟩⟩))))⟩)⟩))))))

theorem p__law_of (T : Txt K mg) : ∀ k : Nat, 2 ≤ k → HasS P w K mg base k "_law_of" 1 (sn1 m__law_of) :=
  T.d__law_of.s (lv := 1) (N := ["source", "some"]) sc__law_of rfl fun a0 s0 ds hds => match ds, hds with
  | [v_some], _ => by
    show DSs _ [some (.src a0 s0), some (.val v_some)] _ (m__law_of s0 v_some) _
    unfold m__law_of
    exact ds_at [some (.src a0 s0), some (.val v_some)] (ds_ret (de_ix (de_var 1 rfl (de_callS 0 (p__law_pick T _ (by show (1 : Nat) ≤ 1; decide) _ _ _) rfl (da_cons (de_blt bl_len T.z_len bb_len (da_cons (de_var 1 rfl (da_nil (⟨_, _, fn1_eq _ _, rfl, fun z1 => da_nil (⟨rfl, _, _, _, rfl, sn1_eq _ _ _, rfl, fun z2 s3 => ⟨_, rfl, fun z4 => ⟨_, rfl, rfl⟩⟩⟩)⟩))))))))))

theorem p__law_bent (T : Txt K mg) : ∀ k : Nat, 3 ≤ k → HasS P w K mg base k "_law_bent" 2 (sn2 m__law_bent) :=
  T.d__law_bent.s (lv := 2) (N := ["source", "value", "digits", "starts", "steps", "some", "line"]) sc__law_bent rfl fun a0 s0 ds hds => match ds, hds with
  | [v_value, v_digits], _ => by
    show DSs _ [some (.src a0 s0), some (.val v_value), some (.val v_digits), none, none, none, none] _ (m__law_bent s0 v_value v_digits) _
    unfold m__law_bent
    exact ds_at [some (.src a0 s0), some (.val v_value), some (.val v_digits), none, none, none, none] (ds_asg (de_var 1 rfl (dg_tup2 rfl fun p1 p2 => dgs_cons (dg_name 3 (dgs_cons (dg_name 4 (dgs_nil (ds_at [some (.src a0 s0), some (.val v_value), some (.val v_digits), some (.val p1), some (.val p2), none, none] (ds_own 5 (dn_lst (da_cons (de_tup (da_cons (de_revT (de_var 3 rfl (⟨_, rfl, fun z3 => da_cons (de_var 4 rfl (da_nil (⟨by show (2 : Nat) ≤ 16777216; decide, da_cons (de_tup (da_cons (de_op bs_add (de_var 3 rfl (de_slice (de_var 3 rfl (de_int (.inl ⟨_, rfl, ⟨_, rfl, fun z4 => ⟨_, rfl, fun z5 => da_cons (de_var 4 rfl (da_nil (⟨by show (2 : Nat) ≤ 16777216; decide, da_cons (de_tup (da_cons (de_var 3 rfl (da_cons (de_op bs_add (de_var 4 rfl (de_slice (de_var 4 rfl (de_int (.inl ⟨_, rfl, ⟨_, rfl, fun z6 => ⟨_, rfl, fun z7 => da_nil (⟨by show (2 : Nat) ≤ 16777216; decide, da_cons (de_tup (da_cons (de_bty bl_list T.z_list bb_list (da_cons (de_var 3 rfl (da_nil (⟨_, _, fn1_eq _ _, rfl, fun z8 => da_cons (de_var 4 rfl (da_nil (⟨by show (2 : Nat) ≤ 16777216; decide, da_nil (⟨by show (4 : Nat) ≤ 16777216; decide, ds_at [some (.src a0 s0), some (.val v_value), some (.val v_digits), some (.val p1), some (.val p2), some (.own [(PyData.tuple [z3, p2]), (PyData.tuple [z5, p2]), (PyData.tuple [p1, z7]), (PyData.tuple [z8, p2])]), none] (ds_own 5 (dn_addOwn 5 rfl (de_lst (da_cons (de_tup (da_cons (de_var 3 rfl (da_cons (de_var 4 rfl (da_cons (de_tup (da_nil (⟨by show (0 : Nat) ≤ 16777216; decide, da_nil (⟨by show (3 : Nat) ≤ 16777216; decide, da_cons (de_tup (da_cons (de_slice (de_var 3 rfl (de_int (.inl ⟨_, rfl, ⟨_, rfl, fun z9 => da_cons (de_op bs_add (de_var 4 rfl (de_tup (da_cons (de_op bs_mul (de_tup (da_cons (de_none (da_nil (⟨by show (1 : Nat) ≤ 16777216; decide, de_var 2 rfl (⟨_, rfl, fun z10 => da_nil (⟨by show (1 : Nat) ≤ 16777216; decide, ⟨_, rfl, fun z11 => da_nil (⟨by show (2 : Nat) ≤ 16777216; decide, da_cons (de_tup (da_cons (de_var 3 rfl (da_cons (de_tup (da_nil (⟨by show (0 : Nat) ≤ 16777216; decide, da_nil (⟨by show (2 : Nat) ≤ 16777216; decide, da_cons (de_none (da_nil (⟨by show (4 : Nat) ≤ 16777216; decide, ⟨_, _, rfl, rfl, fun y12 => ds_at [some (.src a0 s0), some (.val v_value), some (.val v_digits), some (.val p1), some (.val p2), some (.own y12), none] (ds_expr (de_om F.slot_list_append F.type_list_append om_append 5 rfl (da_cons (de_tup (da_cons (de_tup (da_cons (de_tup (da_cons (de_tup (da_cons (de_int (da_cons (de_int (da_nil (⟨by show (2 : Nat) ≤ 16777216; decide, da_cons (de_int (da_nil (⟨by show (2 : Nat) ≤ 16777216; decide, da_nil (⟨by show (1 : Nat) ≤ 16777216; decide, da_cons (de_var 4 rfl (da_nil (⟨by show (2 : Nat) ≤ 16777216; decide, da_nil (⟨_, _, rfl, rfl, fun z13 y14 => ds_at [some (.src a0 s0), some (.val v_value), some (.val v_digits), some (.val p1), some (.val p2), some (.own y14), none] (ds_own 5 (dn_addOwn 5 rfl (de_lst (da_cons (de_tup (da_cons (de_var 3 rfl (da_cons (de_bty bl_tuple T.z_tuple bb_tuple (da_cons (de_lcP [("line", 6)] (by kernel_rfl) (di_val (de_var 4 rfl (⟨_, rfl, fun z15 => ⟨[none, some (.val v_value), some (.val v_digits), some (.val p1), some (.val p2), none, none], _, _, (.n (.s (.s (.s (.s (.n (.n .z))))))), rfl, rfl, fun x16 => dg_name 6 (dts_nil ⟨fun _ => de_op bs_add (de_var 6 rfl (de_tup (da_cons (de_none (da_nil (⟨by show (1 : Nat) ≤ 16777216; decide, ⟨_, rfl, fun z17 => rfl⟩⟩)))))), fun h => nomatch h⟩), fun ys18 => da_nil (⟨_, _, fn1_eq _ _, rfl, fun z19 => da_nil (⟨by show (2 : Nat) ≤ 16777216; decide, da_cons (de_str (da_cons (de_tup (da_nil (⟨by show (0 : Nat) ≤ 16777216; decide, da_nil (⟨by show (3 : Nat) ≤ 16777216; decide, ⟨_, _, rfl, rfl, fun y20 => ds_at [some (.src a0 s0), some (.val v_value), some (.val v_digits), some (.val p1), some (.val p2), some (.own y20), none] (ds_keep 5 rfl (ds_at [some (.src a0 s0), some (.val v_value), some (.val v_digits), some (.val p1), some (.val p2), some (.val (PyData.list y20)), none] (ds_ret (de_callS 0 (p__law_of T _ (by show (2 : Nat) ≤ 2; decide) _ _ _) rfl (da_cons (de_var 5 rfl (da_nil (⟨rfl, _, _, _, rfl, sn1_eq _ _ _, rfl, fun z21 s22 => ⟨_, rfl, rfl⟩⟩))))))))⟩⟩)⟩)))))⟩)⟩)⟩⟩))))))))))))))⟩)⟩)))⟩)⟩)))⟩))))))))))))))))⟩⟩)))⟩)⟩)))))))⟩)⟩⟩)⟩)⟩))))))))))⟩⟩))))))⟩)⟩)))))))))))))⟩)⟩)))⟩)))))))⟩)⟩⟩⟩))))))))))⟩)))⟩⟩⟩))))))))⟩)))⟩))))))))))))))))

theorem p_law (T : Txt K mg) (ns : List Int) : DSs ⟨P, w, K, mg, base, 4, ["script", "source", "digits", "many", "lots", "steps", "value", "turn", "bent", "due", "counts", "most", "n", "rows", "lot", "here", "row", "late", "digit", "side", "told", "k"], defScope s_law, fun _ => true⟩ (startE ["script", "source", "digits", "many", "lots", "steps", "value", "turn", "bent", "due", "counts", "most", "n", "rows", "lot", "here", "row", "late", "digit", "side", "told", "k"] [.scr ns]) (defBody s_law) (m_law ns) Jf := by
    show DSs _ [some (.scr ns), none, none, none, none, none, none, none, none, none, none, none, none, none, none, none, none, none, none, none, none, none] _ (m_law ns) _
    unfold m_law
    exact ds_at [some (.scr ns), none, none, none, none, none, none, none, none, none, none, none, none, none, none, none, none, none, none, none, none, none] (ds_source 1 0 (p__law_source T _ (by show (1 : Nat) ≤ 4; decide) _ _ _) rfl rfl fun a0 s1 => ds_at [some (.scr ns), some (.src a0 s1), none, none, none, none, none, none, none, none, none, none, none, none, none, none, none, none, none, none, none, none] (ds_asg (de_tup (da_cons (de_op bs_add (de_int (de_callS 1 (p__law_pick T _ (by show (1 : Nat) ≤ 4; decide) _ _ _) rfl (da_cons (de_int (da_nil (⟨rfl, _, _, _, rfl, sn1_eq _ _ _, rfl, fun z2 s3 => ⟨_, rfl, fun z4 => da_cons (de_op bs_add (de_int (de_callS 1 (p__law_pick T _ (by show (1 : Nat) ≤ 4; decide) _ _ _) rfl (da_cons (de_int (da_nil (⟨rfl, _, _, _, rfl, sn1_eq _ _ _, rfl, fun z5 s6 => ⟨_, rfl, fun z7 => da_nil (⟨by show (2 : Nat) ≤ 16777216; decide, dg_tup2 rfl fun p8 p9 => dgs_cons (dg_name 2 (dgs_cons (dg_name 3 (dgs_nil (ds_at [some (.scr ns), some (.src a0 s6), some (.val p8), some (.val p9), none, none, none, none, none, none, none, none, none, none, none, none, none, none, none, none, none, none] (ds_setLcT (fun (st : Src) => ([some (.scr ns), some (.src a0 st), some (.val p8), some (.val p9), none, none, none, none, none, none, none, none, none, none, none, none, none, none, none, none, none, none] : Z.Env)) 4 [("k", 21)] (by kernel_rfl) (di_range1 T.z_range (de_op bs_add (de_int (de_callS 1 (p__law_pick T _ (by show (1 : Nat) ≤ 4; decide) _ _ _) rfl (da_cons (de_int (da_nil (⟨rfl, _, _, _, rfl, sn1_eq _ _ _, rfl, fun z10 s11 => ⟨_, rfl, fun z12 => ⟨_, rfl, fun z13 => ⟨s11, _, _, (.s (.s (.s (.s (.n (.n (.n (.n (.n (.n (.n (.n (.n (.n (.n (.n (.n (.n (.n (.n (.n (.n .z)))))))))))))))))))))), rfl, fun x14 s15 => dg_name 21 (dts_nil ⟨fun _ => de_tup (da_cons (de_op bs_sub (de_callS 1 (p__law_pick T _ (by show (1 : Nat) ≤ 4; decide) _ _ _) rfl (da_cons (de_int (da_nil (⟨rfl, _, _, _, rfl, sn1_eq _ _ _, rfl, fun z16 s17 => de_int (⟨_, rfl, fun z18 => da_cons (de_op bs_sub (de_callS 1 (p__law_pick T _ (by show (1 : Nat) ≤ 4; decide) _ _ _) rfl (da_cons (de_int (da_nil (⟨rfl, _, _, _, rfl, sn1_eq _ _ _, rfl, fun z19 s20 => de_int (⟨_, rfl, fun z21 => da_nil (⟨by show (2 : Nat) ≤ 16777216; decide, ⟨s20, (.s (.s (.s (.s (.n (.n (.n (.n (.n (.n (.n (.n (.n (.n (.n (.n (.n (.n (.n (.n (.n (.n .z)))))))))))))))))))))), rfl⟩⟩)⟩)⟩))))))⟩)⟩))))))), fun h => nomatch h⟩), fun ys22 s23 => ds_at [some (.scr ns), some (.src a0 s23), some (.val p8), some (.val p9), some (.val (PyData.list ys22)), none, none, none, none, none, none, none, none, none, none, none, none, none, none, none, none, none] (ds_set 4 (de_blt bl_sorted T.z_sorted bb_sorted (da_cons (de_bty bl_dict T.z_dict bb_dict (da_cons (de_lcP [("lot", 14)] (by kernel_rfl) (di_val (de_var 4 rfl (⟨_, rfl, fun z24 => ⟨[none, none, some (.val p8), some (.val p9), some (.val (PyData.list ys22)), none, none, none, none, none, none, none, none, none, none, none, none, none, none, none, none, none], _, _, (.n (.n (.s (.s (.s (.n (.n (.n (.n (.n (.n (.n (.n (.n (.n (.n (.n (.n (.n (.n (.n (.n .z)))))))))))))))))))))), rfl, rfl, fun x25 => dg_name 14 (dts_nil ⟨fun _ => de_tup (da_cons (de_var 14 rfl (da_cons (de_int (da_nil (⟨by show (2 : Nat) ≤ 16777216; decide, rfl⟩)))))), fun h => nomatch h⟩), fun ys26 => da_nil (⟨_, _, fn1_eq _ _, rfl, fun z27 => da_nil (⟨_, _, fn1_eq _ _, rfl, fun z28 => ds_at [some (.scr ns), some (.src a0 s23), some (.val p8), some (.val p9), some (.val z28), none, none, none, none, none, none, none, none, none, none, none, none, none, none, none, none, none] (ds_set 5 (de_callS 1 (p__law_drawn_steps T _ (by show (2 : Nat) ≤ 4; decide) _ _ _) rfl (da_cons (de_var 3 rfl (da_cons (de_var 2 rfl (da_nil (⟨rfl, _, _, _, rfl, sn2_eq _ _ _ _, rfl, fun z29 s30 => ds_at [some (.scr ns), some (.src a0 s30), some (.val p8), some (.val p9), some (.val z28), some (.val z29), none, none, none, none, none, none, none, none, none, none, none, none, none, none, none, none] (ds_set 6 (de_call (p__law_least T _ (by show (2 : Nat) ≤ 4; decide) _ _ _) (da_cons (de_lcT (fun (st : Src) => ([some (.scr ns), some (.src a0 st), some (.val p8), some (.val p9), some (.val z28), some (.val z29), none, none, none, none, none, none, none, none, none, none, none, none, none, none, none, none] : Z.Env)) [("lot", 14)] (by kernel_rfl) (di_val (de_var 4 rfl (⟨_, rfl, fun z31 => ⟨s30, _, _, (.s (.s (.s (.s (.s (.s (.n (.n (.n (.n (.n (.n (.n (.n (.n (.n (.n (.n (.n (.n (.n (.n .z)))))))))))))))))))))), rfl, fun x32 s33 => dg_name 14 (dts_nil ⟨fun _ => de_tup (da_cons (de_var 14 rfl (da_cons (de_callS 1 (p__law_pick T _ (by show (1 : Nat) ≤ 4; decide) _ _ _) rfl (da_cons (de_var 3 rfl (da_nil (⟨rfl, _, _, _, rfl, sn1_eq _ _ _, rfl, fun z34 s35 => da_nil (⟨by show (2 : Nat) ≤ 16777216; decide, ⟨s35, (.s (.s (.s (.s (.s (.s (.n (.n (.n (.n (.n (.n (.n (.n (.n (.n (.n (.n (.n (.n (.n (.n .z)))))))))))))))))))))), rfl⟩⟩)⟩)))))))), fun h => nomatch h⟩), fun ys36 s37 => da_cons (de_var 5 rfl (da_nil (⟨rfl, ⟨_, _, fn2_eq _ _ _, rfl, fun z38 => ds_at [some (.scr ns), some (.src a0 s37), some (.val p8), some (.val p9), some (.val z28), some (.val z29), some (.val z38), none, none, none, none, none, none, none, none, none, none, none, none, none, none, none] (ds_if (dt_cmp cs_isNotB (de_call (p_is_complete T _ (by show (4 : Nat) ≤ 4; decide) _ _ _) (da_cons (de_var 2 rfl (da_cons (de_var 6 rfl (da_nil (⟨rfl, ⟨_, _, fn2_eq _ _ _, rfl, fun z39 => de_bool (⟨_, rfl, fun z40 => ⟨_, _, rfl, ds_ret (de_bool (rfl)), ds_nil (ds_forT (fun (st : Src) => ([some (.scr ns), some (.src a0 st), some (.val p8), some (.val p9), some (.val z28), some (.val z29), some (.val z38), none, none, none, none, none, none, none, none, none, none, none, none, none, none, none] : Z.Env)) (di_range1 T.z_range (de_int (⟨_, rfl, fun z41 => ⟨s37, _, _, (.s (.s (.s (.s (.s (.s (.s (.n (.n (.n (.n (.n (.n (.n (.n (.n (.n (.n (.n (.n (.n (.n .z)))))))))))))))))))))), rfl, fun x42 s43 => dg_name 7 (ds_at [some (.scr ns), some (.src a0 s43), some (.val p8), some (.val p9), some (.val z28), some (.val z29), some (.val z38), some (.val x42), none, none, none, none, none, none, none, none, none, none, none, none, none, none] (ds_set 8 (de_callS 1 (p__law_bent T _ (by show (3 : Nat) ≤ 4; decide) _ _ _) rfl (da_cons (de_var 6 rfl (da_cons (de_var 2 rfl (da_nil (⟨rfl, _, _, _, rfl, sn2_eq _ _ _ _, rfl, fun z45 s46 => ds_at [some (.scr ns), some (.src a0 s46), some (.val p8), some (.val p9), some (.val z28), some (.val z29), some (.val z38), some (.val x42), some (.val z45), none, none, none, none, none, none, none, none, none, none, none, none, none] (ds_set 9 (de_dir (de_and (de_cmp cs_lt (de_blt bl_len T.z_len bb_len (da_cons (de_ix (de_var 6 rfl (de_int (⟨_, rfl, fun z47 => da_nil (⟨_, _, fn1_eq _ _, rfl, fun z48 => de_int (⟨_, rfl, fun z49 => ⟨_, _, rfl, de_and1 (de_cmp cs_eq (de_blt bl_repr T.z_repr bb_repr (da_cons (de_var 8 rfl (da_nil (⟨_, _, fn1_eq _ _, rfl, fun z51 => de_blt bl_repr T.z_repr bb_repr (da_cons (de_var 6 rfl (da_nil (⟨_, _, fn1_eq _ _, rfl, fun z52 => ⟨_, rfl, fun z53 => ⟨rfl, rfl⟩⟩⟩))))⟩)))))), ⟨rfl, rfl⟩⟩⟩)⟩)⟩)))))))) fun z54 => ds_at [some (.scr ns), some (.src a0 s46), some (.val p8), some (.val p9), some (.val z28), some (.val z29), some (.val z38), some (.val x42), some (.val z45), some (.val z54), none, none, none, none, none, none, none, none, none, none, none, none] (ds_if (dt_cmp cs_ne (de_blt bl_repr T.z_repr bb_repr (da_cons (de_call (p_is_complete T _ (by show (4 : Nat) ≤ 4; decide) _ _ _) (da_cons (de_var 2 rfl (da_cons (de_var 8 rfl (da_nil (⟨rfl, ⟨_, _, fn2_eq _ _ _, rfl, fun z55 => da_nil (⟨_, _, fn1_eq _ _, rfl, fun z56 => de_blt bl_repr T.z_repr bb_repr (da_cons (de_var 9 rfl (da_nil (⟨_, _, fn1_eq _ _, rfl, fun z57 => ⟨_, rfl, fun z58 => ⟨_, _, rfl, ds_ret (de_bool (⟨s46, (.s (.s (.s (.s (.s (.s (.s (.n (.n (.n (.n (.n (.n (.n (.n (.n (.n (.n (.n (.n (.n (.n .z)))))))))))))))))))))), rfl⟩)), ds_nil (ds_nil (⟨s46, (.s (.s (.s (.s (.s (.s (.s (.n (.n (.n (.n (.n (.n (.n (.n (.n (.n (.n (.n (.n (.n (.n .z)))))))))))))))))))))), rfl⟩))⟩⟩⟩))))⟩)⟩⟩)))))))))))))⟩))))))))), fun s44 => ds_at [some (.scr ns), some (.src a0 s44), some (.val p8), some (.val p9), some (.val z28), some (.val z29), some (.val z38), none, none, none, none, none, none, none, none, none, none, none, none, none, none, none] (ds_par 10 11 (de_call (p__law_counts T _ (by show (1 : Nat) ≤ 4; decide) _ _ _) (da_cons (de_var 6 rfl (da_cons (de_int (da_nil (⟨rfl, ⟨_, _, fn2_eq _ _ _, rfl, fun z59 => de_dir (de_ifx (dt_cmp cs_eq (de_var 2 rfl (de_int (⟨_, rfl, fun z60 => ⟨_, _, rfl, de_int (⟨rfl, rfl⟩), de_int (⟨rfl, rfl⟩)⟩⟩))))) fun z61 => ds_at [some (.scr ns), some (.src a0 s44), some (.val p8), some (.val p9), some (.val z28), some (.val z29), some (.val z38), none, none, none, some (.val z59), some (.val z61), none, none, none, none, none, none, none, none, none, none] (ds_forT (fun (st : Src) => ([some (.scr ns), some (.src a0 st), some (.val p8), some (.val p9), some (.val z28), some (.val z29), some (.val z38), none, none, none, some (.val z59), some (.val z61), none, none, none, none, none, none, none, none, none, none] : Z.Env)) (di_val (de_op bs_add (de_lst (da_cons (de_int (da_cons (de_int (da_cons (de_int (da_cons (de_var 11 rfl (da_cons (de_int (da_nil (⟨by show (5 : Nat) ≤ 16777216; decide, de_lcT (fun (st : Src) => ([some (.scr ns), some (.src a0 st), some (.val p8), some (.val p9), some (.val z28), some (.val z29), some (.val z38), none, none, none, some (.val z59), some (.val z61), none, none, none, none, none, none, none, none, none, none] : Z.Env)) [("turn", 7)] (by kernel_rfl) (di_range1 T.z_range (de_int (⟨_, rfl, fun z62 => ⟨s44, _, _, (.s (.s (.s (.s (.s (.s (.s (.n (.n (.n (.s (.s (.n (.n (.n (.n (.n (.n (.n (.n (.n (.n .z)))))))))))))))))))))), rfl, fun x63 s64 => dg_name 7 (dts_nil ⟨fun _ => de_callS 1 (p__law_pick T _ (by show (1 : Nat) ≤ 4; decide) _ _ _) rfl (da_cons (de_int (da_nil (⟨rfl, _, _, _, rfl, sn1_eq _ _ _, rfl, fun z65 s66 => ⟨s66, (.s (.s (.s (.s (.s (.s (.s (.n (.n (.n (.s (.s (.n (.n (.n (.n (.n (.n (.n (.n (.n (.n .z)))))))))))))))))))))), rfl⟩⟩)))), fun h => nomatch h⟩), fun ys67 s68 => ⟨_, rfl, fun z69 => ⟨_, rfl, fun z70 => ⟨s68, _, _, (.s (.s (.s (.s (.s (.s (.s (.n (.n (.n (.s (.s (.n (.n (.n (.n (.n (.n (.n (.n (.n (.n .z)))))))))))))))))))))), rfl, fun x71 s72 => dg_name 12 (ds_at [some (.scr ns), some (.src a0 s72), some (.val p8), some (.val p9), some (.val z28), some (.val z29), some (.val z38), none, none, none, some (.val z59), some (.val z61), some (.val x71), none, none, none, none, none, none, none, none, none] (ds_if (dt_cmp cs_ne (de_blt bl_repr T.z_repr bb_repr (da_cons (de_call (p_pieces_counted T _ (by show (1 : Nat) ≤ 4; decide) _ _ _) (da_cons (de_var 6 rfl (da_cons (de_var 12 rfl (da_nil (⟨rfl, ⟨_, _, fn2_eq _ _ _, rfl, fun z74 => da_nil (⟨_, _, fn1_eq _ _, rfl, fun z75 => de_blt bl_repr T.z_repr bb_repr (da_cons (de_ix (de_var 10 rfl (de_var 12 rfl (⟨_, rfl, fun z76 => da_nil (⟨_, _, fn1_eq _ _, rfl, fun z77 => ⟨_, rfl, fun z78 => ⟨_, _, rfl, ds_ret (de_bool (⟨s72, (.s (.s (.s (.s (.s (.s (.s (.n (.n (.n (.s (.s (.n (.n (.n (.n (.n (.n (.n (.n (.n (.n .z)))))))))))))))))))))), rfl⟩)), ds_nil (ds_nil (⟨s72, (.s (.s (.s (.s (.s (.s (.s (.n (.n (.n (.s (.s (.n (.n (.n (.n (.n (.n (.n (.n (.n (.n .z)))))))))))))))))))))), rfl⟩))⟩⟩⟩)⟩)))))⟩)⟩⟩)))))))))))), fun s73 => ds_at [some (.scr ns), some (.src a0 s73), some (.val p8), some (.val p9), some (.val z28), some (.val z29), some (.val z38), none, none, none, some (.val z59), some (.val z61), none, none, none, none, none, none, none, none, none, none] (ds_set 13 (de_int (ds_at [some (.scr ns), some (.src a0 s73), some (.val p8), some (.val p9), some (.val z28), some (.val z29), some (.val z38), none, none, none, some (.val z59), some (.val z61), none, some (.val (PyData.int 0)), none, none, none, none, none, none, none, none] (ds_forT (fun (st : D) => ([some (.scr ns), some (.src a0 s73), some (.val p8), some (.val p9), some (.val z28), some (.val z29), some (.val z38), none, none, none, some (.val z59), some (.val z61), none, some (.val st), none, none, none, none, none, none, none, none] : Z.Env)) (di_val (de_ix (de_var 6 rfl (de_int (⟨_, rfl, fun z79 => ⟨_, rfl, fun z80 => ⟨(PyData.int 0), _, _, (.s (.s (.s (.s (.s (.s (.s (.n (.n (.n (.s (.s (.n (.s (.n (.n (.n (.n (.n (.n (.n (.n .z)))))))))))))))))))))), rfl, fun x81 s82 => dg_tup2 rfl fun p84 p85 => dgs_cons (dg_name 14 (dgs_cons (dg_name 15 (dgs_nil (ds_at [some (.scr ns), some (.src a0 s73), some (.val p8), some (.val p9), some (.val z28), some (.val z29), some (.val z38), none, none, none, some (.val z59), some (.val z61), none, some (.val s82), some (.val p84), some (.val p85), none, none, none, none, none, none] (ds_forT (fun (st : D) => ([some (.scr ns), some (.src a0 s73), some (.val p8), some (.val p9), some (.val z28), some (.val z29), some (.val z38), none, none, none, some (.val z59), some (.val z61), none, some (.val st), some (.val p84), some (.val p85), none, none, none, none, none, none] : Z.Env)) (di_val (de_call (p__law_rows T _ (by show (1 : Nat) ≤ 4; decide) _ _ _) (da_cons (de_var 2 rfl (da_cons (de_var 11 rfl (da_nil (⟨rfl, ⟨_, _, fn2_eq _ _ _, rfl, fun z86 => ⟨_, rfl, fun z87 => ⟨s82, _, _, (.s (.s (.s (.s (.s (.s (.s (.n (.n (.n (.s (.s (.n (.s (.s (.s (.n (.n (.n (.n (.n (.n .z)))))))))))))))))))))), rfl, fun x88 s89 => dg_name 16 (ds_at [some (.scr ns), some (.src a0 s73), some (.val p8), some (.val p9), some (.val z28), some (.val z29), some (.val z38), none, none, none, some (.val z59), some (.val z61), none, some (.val s89), some (.val p84), some (.val p85), some (.val x88), none, none, none, none, none] (ds_set 17 (de_var 15 rfl (ds_at [some (.scr ns), some (.src a0 s73), some (.val p8), some (.val p9), some (.val z28), some (.val z29), some (.val z38), none, none, none, some (.val z59), some (.val z61), none, some (.val s89), some (.val p84), some (.val p85), some (.val x88), some (.val p85), none, none, none, none] (ds_forS (fun (st : D) => ([some (.scr ns), some (.src a0 s73), some (.val p8), some (.val p9), some (.val z28), some (.val z29), some (.val z38), none, none, none, some (.val z59), some (.val z61), none, some (.val s89), some (.val p84), some (.val p85), some (.val x88), some (.val st), none, none, none, none] : Z.Env)) (di_val (de_var 16 rfl (⟨_, rfl, fun z91 => ⟨p85, _, _, (.s (.s (.s (.s (.s (.s (.s (.n (.n (.n (.s (.s (.n (.s (.s (.s (.s (.s (.n (.n (.n (.n .z)))))))))))))))))))))), rfl, fun x92 s93 => dg_name 18 (ds_at [some (.scr ns), some (.src a0 s73), some (.val p8), some (.val p9), some (.val z28), some (.val z29), some (.val z38), none, none, none, some (.val z59), some (.val z61), none, some (.val s89), some (.val p84), some (.val p85), some (.val x88), some (.val s93), some (.val x92), none, none, none] (ds_set 17 (de_dir (de_ifx (dt_notN (de_var 17 rfl (⟨_, _, rfl, de_ix (de_ix (de_ix (de_var 6 rfl (de_int (⟨_, rfl, fun z95 => de_var 17 rfl (⟨_, rfl, fun z96 => de_var 18 rfl (⟨_, rfl, fun z97 => ⟨rfl, rfl⟩⟩)⟩)⟩))))), de_none (⟨rfl, rfl⟩)⟩)))) fun z98 => ds_nil (⟨z98, (.s (.s (.s (.s (.s (.s (.s (.n (.n (.n (.s (.s (.n (.s (.s (.s (.s (.s (.n (.n (.n (.n .z)))))))))))))))))))))), rfl⟩)))), fun s94 => ds_at [some (.scr ns), some (.src a0 s73), some (.val p8), some (.val p9), some (.val z28), some (.val z29), some (.val z38), none, none, none, some (.val z59), some (.val z61), none, some (.val s89), some (.val p84), some (.val p85), some (.val x88), some (.val s94), none, none, none, none] (ds_if (dt_cmp cs_ne (de_blt bl_repr T.z_repr bb_repr (da_cons (de_call (p_state_led T _ (by show (1 : Nat) ≤ 4; decide) _ _ _) (da_cons (de_var 6 rfl (da_cons (de_var 14 rfl (da_cons (de_var 16 rfl (da_nil (⟨rfl, ⟨_, _, fn3_eq _ _ _ _, rfl, fun z99 => da_nil (⟨_, _, fn1_eq _ _, rfl, fun z100 => de_blt bl_repr T.z_repr bb_repr (da_cons (de_var 17 rfl (da_nil (⟨_, _, fn1_eq _ _, rfl, fun z101 => ⟨_, rfl, fun z102 => ⟨_, _, rfl, ds_ret (de_bool (⟨s89, (.s (.s (.s (.s (.s (.s (.s (.n (.n (.n (.s (.s (.n (.s (.s (.s (.n (.n (.n (.n (.n (.n .z)))))))))))))))))))))), rfl⟩)), ds_nil (ds_set 13 (de_op bs_add (de_var 13 rfl (de_bty bl_int T.z_int bb_int (da_cons (de_notN (de_var 17 rfl (da_nil (⟨_, _, fn1_eq _ _, rfl, fun z103 => ⟨_, rfl, fun z104 => ds_nil (⟨z104, (.s (.s (.s (.s (.s (.s (.s (.n (.n (.n (.s (.s (.n (.s (.s (.s (.n (.n (.n (.n (.n (.n .z)))))))))))))))))))))), rfl⟩)⟩⟩)))))))))⟩⟩⟩))))⟩)⟩⟩)))))))))))))⟩⟩)))))))), fun s90 => ds_nil (⟨s90, (.s (.s (.s (.s (.s (.s (.s (.n (.n (.n (.s (.s (.n (.s (.n (.n (.n (.n (.n (.n (.n (.n .z)))))))))))))))))))))), rfl⟩), fun r105 s90 _ hl => ⟨s90, Le.trans (.s (.s (.s (.s (.s (.s (.s (.n (.n (.n (.s (.s (.n (.s (.n (.n (.n (.n (.n (.n (.n (.n .z)))))))))))))))))))))) hl, rfl⟩⟩⟩⟩⟩)))))))))))))), fun s83 => ds_at [some (.scr ns), some (.src a0 s73), some (.val p8), some (.val p9), some (.val z28), some (.val z29), some (.val z38), none, none, none, some (.val z59), some (.val z61), none, some (.val s83), none, none, none, none, none, none, none, none] (ds_if (dt_dir (dt_w (dw_or (dt_cmp cs_ne (de_var 13 rfl (de_ix (de_var 10 rfl (de_var 11 rfl (⟨_, rfl, fun z106 => ⟨_, rfl, fun z107 => ⟨_, _, rfl, ⟨rfl, rfl⟩, dw_or1 (dt_notN (de_call (p_state_led T _ (by show (1 : Nat) ≤ 4; decide) _ _ _) (da_cons (de_var 6 rfl (da_cons (de_tup (da_cons (de_int (da_cons (de_int (da_nil (⟨by show (2 : Nat) ≤ 16777216; decide, da_cons (de_tup (da_nil (⟨by show (0 : Nat) ≤ 16777216; decide, da_nil (⟨rfl, ⟨_, _, fn3_eq _ _ _ _, rfl, fun z108 => ⟨rfl, rfl⟩⟩⟩)⟩)))⟩))))))))))))⟩⟩⟩)))))))) fun t109 => ⟨_, _, rfl, ds_ret (de_bool (rfl)), ds_nil (ds_set 19 (de_tup (da_cons (de_tup (da_cons (de_tup (da_cons (de_tup (da_cons (de_int (da_cons (de_int (da_nil (⟨by show (2 : Nat) ≤ 16777216; decide, da_cons (de_int (da_nil (⟨by show (2 : Nat) ≤ 16777216; decide, da_nil (⟨by show (1 : Nat) ≤ 16777216; decide, da_cons (de_tup (da_cons (de_tup (da_cons (de_int (da_cons (de_int (da_cons (de_none (da_cons (de_none (da_nil (⟨by show (4 : Nat) ≤ 16777216; decide, da_nil (⟨by show (1 : Nat) ≤ 16777216; decide, da_nil (⟨by show (2 : Nat) ≤ 16777216; decide, ds_at [some (.scr ns), some (.src a0 s73), some (.val p8), some (.val p9), some (.val z28), some (.val z29), some (.val z38), none, none, none, some (.val z59), some (.val z61), none, some (.val s83), none, none, none, none, none, some (.val (PyData.tuple [(PyData.tuple [(PyData.tuple [(PyData.tuple [(PyData.int 0), (PyData.int 0)]), (PyData.int 0)])]), (PyData.tuple [(PyData.tuple [(PyData.int 0), (PyData.int 0), PyData.none, PyData.none])])])), none, none] (ds_set 20 (de_lst (da_cons (de_call (p_pieces_counted T _ (by show (1 : Nat) ≤ 4; decide) _ _ _) (da_cons (de_var 19 rfl (da_cons (de_int (da_nil (⟨rfl, ⟨_, _, fn2_eq _ _ _, rfl, fun z110 => da_cons (de_call (p_pieces_counted T _ (by show (1 : Nat) ≤ 4; decide) _ _ _) (da_cons (de_tup (da_cons (de_tup (da_nil (⟨by show (0 : Nat) ≤ 16777216; decide, da_cons (de_tup (da_nil (⟨by show (0 : Nat) ≤ 16777216; decide, da_nil (⟨by show (2 : Nat) ≤ 16777216; decide, da_cons (de_int (da_nil (⟨rfl, ⟨_, _, fn2_eq _ _ _, rfl, fun z111 => da_cons (de_call (p_pieces_counted T _ (by show (1 : Nat) ≤ 4; decide) _ _ _) (da_cons (de_var 19 rfl (da_cons (de_int (da_nil (⟨rfl, ⟨_, _, fn2_eq _ _ _, rfl, fun z112 => da_cons (de_call (p_is_complete T _ (by show (4 : Nat) ≤ 4; decide) _ _ _) (da_cons (de_int (da_cons (de_tup (da_cons (de_tup (da_nil (⟨by show (0 : Nat) ≤ 16777216; decide, da_cons (de_tup (da_nil (⟨by show (0 : Nat) ≤ 16777216; decide, da_nil (⟨by show (2 : Nat) ≤ 16777216; decide, da_nil (⟨rfl, ⟨_, _, fn2_eq _ _ _, rfl, fun z113 => da_nil (⟨by show (4 : Nat) ≤ 16777216; decide, ds_at [some (.scr ns), some (.src a0 s73), some (.val p8), some (.val p9), some (.val z28), some (.val z29), some (.val z38), none, none, none, some (.val z59), some (.val z61), none, some (.val s83), none, none, none, none, none, some (.val (PyData.tuple [(PyData.tuple [(PyData.tuple [(PyData.tuple [(PyData.int 0), (PyData.int 0)]), (PyData.int 0)])]), (PyData.tuple [(PyData.tuple [(PyData.int 0), (PyData.int 0), PyData.none, PyData.none])])])), some (.val (PyData.list [z110, z111, z112, z113])), none] (ds_ret (de_cmp cs_eq (de_blt bl_repr T.z_repr bb_repr (da_cons (de_var 20 rfl (da_nil (⟨_, _, fn1_eq _ _, rfl, fun z114 => de_blt bl_repr T.z_repr bb_repr (da_cons (de_lst (da_cons (de_op bs_pow (de_int (de_int (⟨_, rfl, fun z115 => da_cons (de_int (da_cons (de_int (da_cons (de_bool (da_nil (⟨by show (4 : Nat) ≤ 16777216; decide, da_nil (⟨_, _, fn1_eq _ _, rfl, fun z116 => ⟨_, rfl, fun z117 => rfl⟩⟩)⟩)))))))⟩)))))))⟩)))))))⟩)⟩⟩)⟩)⟩)))⟩)))))))))⟩⟩)))))))⟩⟩)))⟩)⟩)))⟩)))))))⟩⟩))))))))))⟩)⟩)⟩)))))))))))))⟩)⟩)))⟩))))))))))))))⟩)), fun r118 s83 _ hl => rfl⟩⟩⟩))))))))), fun r119 s73 _ hl => rfl⟩⟩⟩⟩⟩)))⟩))))))))))))))))⟩⟩))))))) (hw := by intro env he; cases env; cases he; rfl)), fun r120 s44 _ hl => rfl⟩⟩))))⟩⟩)⟩⟩)))))))))⟩⟩)))⟩⟩)))))))⟩))))))))⟩)⟩)⟩⟩)))))))))⟩⟩⟩⟩)))))))) (hsw := fun env he => sw_true (by rw [he]; rfl) (by rw [he]; rfl) rfl (by decide +kernel))))))))⟩)⟩⟩)))))))⟩⟩)))))))))))

end
theorem all_mk {l : PySem.W.OpenLaw} {w : World} {K : PySem.W.Frag} {h : Heap} {mg : Str → Option Value} {fa f0 f1 f2 f3 f4 f5 f6 f7 f8 f9 f10 f11 f12 f13 f14 f15 f16 f17 f18 f19 : Addr} (X : K.In h) (G : h.Ns mainGlobals mg) (hfa : mg "law" = some (.ref fa))
    {od0 an0 od1 an1 od2 an2 od3 an3 od4 an4 od5 an5 od6 an6 od7 an7 od8 an8 od9 an9 od10 an10 od11 an11 od12 an12 od13 an13 od14 an14 od15 an15 od16 an16 od17 an17 od18 an18 od19 an19 : Option Addr} {sl0 sl1 sl2 sl3 sl4 sl5 sl6 sl7 sl8 sl9 sl10 sl11 sl12 sl13 sl14 sl15 sl16 sl17 sl18 sl19 : Array (Option Value)} {oc0 kV0 dc0 pm0 cd0 ct0 oc1 kV1 dc1 pm1 cd1 ct1 oc2 kV2 dc2 pm2 cd2 ct2 oc3 kV3 dc3 pm3 cd3 ct3 oc4 kV4 dc4 pm4 cd4 ct4 oc5 kV5 dc5 pm5 cd5 ct5 oc6 kV6 dc6 pm6 cd6 ct6 oc7 kV7 dc7 pm7 cd7 ct7 oc8 kV8 dc8 pm8 cd8 ct8 oc9 kV9 dc9 pm9 cd9 ct9 oc10 kV10 dc10 pm10 cd10 ct10 oc11 kV11 dc11 pm11 cd11 ct11 oc12 kV12 dc12 pm12 cd12 ct12 oc13 kV13 dc13 pm13 cd13 ct13 oc14 kV14 dc14 pm14 cd14 ct14 oc15 kV15 dc15 pm15 cd15 ct15 oc16 kV16 dc16 pm16 cd16 ct16 oc17 kV17 dc17 pm17 cd17 ct17 oc18 kV18 dc18 pm18 cd18 ct18 oc19 kV19 dc19 pm19 cd19 ct19 : Value}
    (a0 : PySem.W.nsIn K mainGlobals "pieces_counted" = some (some (.ref f0)))
    (l0 : K.lookup f0 = some ⟨oc0, od0, .func (PySem.W.fnOf "pieces_counted" "pieces_counted" (defArgs s_pieces_counted) (defBody s_pieces_counted) (defScope s_pieces_counted) .none kV0 dc0 pm0 an0 cd0 ct0), sl0⟩)
    (c0 : PySem.W.codeIn K cd0 "pieces_counted" = true)
    (k0 : PySem.W.keepIn K (.ref f0) = true)
    (a1 : PySem.W.nsIn K mainGlobals "state_led" = some (some (.ref f1)))
    (l1 : K.lookup f1 = some ⟨oc1, od1, .func (PySem.W.fnOf "state_led" "state_led" (defArgs s_state_led) (defBody s_state_led) (defScope s_state_led) .none kV1 dc1 pm1 an1 cd1 ct1), sl1⟩)
    (c1 : PySem.W.codeIn K cd1 "state_led" = true)
    (k1 : PySem.W.keepIn K (.ref f1) = true)
    (a2 : PySem.W.nsIn K mainGlobals "blocks_of" = some (some (.ref f2)))
    (l2 : K.lookup f2 = some ⟨oc2, od2, .func (PySem.W.fnOf "blocks_of" "blocks_of" (defArgs s_blocks_of) (defBody s_blocks_of) (defScope s_blocks_of) .none kV2 dc2 pm2 an2 cd2 ct2), sl2⟩)
    (c2 : PySem.W.codeIn K cd2 "blocks_of" = true)
    (k2 : PySem.W.keepIn K (.ref f2) = true)
    (a3 : PySem.W.nsIn K mainGlobals "states_come" = some (some (.ref f3)))
    (l3 : K.lookup f3 = some ⟨oc3, od3, .func (PySem.W.fnOf "states_come" "states_come" (defArgs s_states_come) (defBody s_states_come) (defScope s_states_come) .none kV3 dc3 pm3 an3 cd3 ct3), sl3⟩)
    (c3 : PySem.W.codeIn K cd3 "states_come" = true)
    (k3 : PySem.W.keepIn K (.ref f3) = true)
    (a4 : PySem.W.nsIn K mainGlobals "told_by" = some (some (.ref f4)))
    (l4 : K.lookup f4 = some ⟨oc4, od4, .func (PySem.W.fnOf "told_by" "told_by" (defArgs s_told_by) (defBody s_told_by) (defScope s_told_by) .none kV4 dc4 pm4 an4 cd4 ct4), sl4⟩)
    (c4 : PySem.W.codeIn K cd4 "told_by" = true)
    (k4 : PySem.W.keepIn K (.ref f4) = true)
    (a5 : PySem.W.nsIn K mainGlobals "is_whole" = some (some (.ref f5)))
    (l5 : K.lookup f5 = some ⟨oc5, od5, .func (PySem.W.fnOf "is_whole" "is_whole" (defArgs s_is_whole) (defBody s_is_whole) (defScope s_is_whole) .none kV5 dc5 pm5 an5 cd5 ct5), sl5⟩)
    (c5 : PySem.W.codeIn K cd5 "is_whole" = true)
    (k5 : PySem.W.keepIn K (.ref f5) = true)
    (a6 : PySem.W.nsIn K mainGlobals "is_lot" = some (some (.ref f6)))
    (l6 : K.lookup f6 = some ⟨oc6, od6, .func (PySem.W.fnOf "is_lot" "is_lot" (defArgs s_is_lot) (defBody s_is_lot) (defScope s_is_lot) .none kV6 dc6 pm6 an6 cd6 ct6), sl6⟩)
    (c6 : PySem.W.codeIn K cd6 "is_lot" = true)
    (k6 : PySem.W.keepIn K (.ref f6) = true)
    (a7 : PySem.W.nsIn K mainGlobals "are_starts" = some (some (.ref f7)))
    (l7 : K.lookup f7 = some ⟨oc7, od7, .func (PySem.W.fnOf "are_starts" "are_starts" (defArgs s_are_starts) (defBody s_are_starts) (defScope s_are_starts) .none kV7 dc7 pm7 an7 cd7 ct7), sl7⟩)
    (c7 : PySem.W.codeIn K cd7 "are_starts" = true)
    (k7 : PySem.W.keepIn K (.ref f7) = true)
    (a8 : PySem.W.nsIn K mainGlobals "are_lines" = some (some (.ref f8)))
    (l8 : K.lookup f8 = some ⟨oc8, od8, .func (PySem.W.fnOf "are_lines" "are_lines" (defArgs s_are_lines) (defBody s_are_lines) (defScope s_are_lines) .none kV8 dc8 pm8 an8 cd8 ct8), sl8⟩)
    (c8 : PySem.W.codeIn K cd8 "are_lines" = true)
    (k8 : PySem.W.keepIn K (.ref f8) = true)
    (a9 : PySem.W.nsIn K mainGlobals "is_complete" = some (some (.ref f9)))
    (l9 : K.lookup f9 = some ⟨oc9, od9, .func (PySem.W.fnOf "is_complete" "is_complete" (defArgs s_is_complete) (defBody s_is_complete) (defScope s_is_complete) .none kV9 dc9 pm9 an9 cd9 ct9), sl9⟩)
    (c9 : PySem.W.codeIn K cd9 "is_complete" = true)
    (k9 : PySem.W.keepIn K (.ref f9) = true)
    (a10 : PySem.W.nsIn K mainGlobals "_law_source" = some (some (.ref f10)))
    (l10 : K.lookup f10 = some ⟨oc10, od10, .func (PySem.W.fnOf "_law_source" "_law_source" (defArgs s__law_source) (defBody s__law_source) (defScope s__law_source) .none kV10 dc10 pm10 an10 cd10 ct10), sl10⟩)
    (c10 : PySem.W.codeIn K cd10 "_law_source" = true)
    (k10 : PySem.W.keepIn K (.ref f10) = true)
    (a11 : PySem.W.nsIn K mainGlobals "_law_pick" = some (some (.ref f11)))
    (l11 : K.lookup f11 = some ⟨oc11, od11, .func (PySem.W.fnOf "_law_pick" "_law_pick" (defArgs s__law_pick) (defBody s__law_pick) (defScope s__law_pick) .none kV11 dc11 pm11 an11 cd11 ct11), sl11⟩)
    (c11 : PySem.W.codeIn K cd11 "_law_pick" = true)
    (k11 : PySem.W.keepIn K (.ref f11) = true)
    (a12 : PySem.W.nsIn K mainGlobals "_law_drawn_steps" = some (some (.ref f12)))
    (l12 : K.lookup f12 = some ⟨oc12, od12, .func (PySem.W.fnOf "_law_drawn_steps" "_law_drawn_steps" (defArgs s__law_drawn_steps) (defBody s__law_drawn_steps) (defScope s__law_drawn_steps) .none kV12 dc12 pm12 an12 cd12 ct12), sl12⟩)
    (c12 : PySem.W.codeIn K cd12 "_law_drawn_steps" = true)
    (k12 : PySem.W.keepIn K (.ref f12) = true)
    (a13 : PySem.W.nsIn K mainGlobals "_law_parts" = some (some (.ref f13)))
    (l13 : K.lookup f13 = some ⟨oc13, od13, .func (PySem.W.fnOf "_law_parts" "_law_parts" (defArgs s__law_parts) (defBody s__law_parts) (defScope s__law_parts) .none kV13 dc13 pm13 an13 cd13 ct13), sl13⟩)
    (c13 : PySem.W.codeIn K cd13 "_law_parts" = true)
    (k13 : PySem.W.keepIn K (.ref f13) = true)
    (a14 : PySem.W.nsIn K mainGlobals "_law_least" = some (some (.ref f14)))
    (l14 : K.lookup f14 = some ⟨oc14, od14, .func (PySem.W.fnOf "_law_least" "_law_least" (defArgs s__law_least) (defBody s__law_least) (defScope s__law_least) .none kV14 dc14 pm14 an14 cd14 ct14), sl14⟩)
    (c14 : PySem.W.codeIn K cd14 "_law_least" = true)
    (k14 : PySem.W.keepIn K (.ref f14) = true)
    (a15 : PySem.W.nsIn K mainGlobals "_law_counts" = some (some (.ref f15)))
    (l15 : K.lookup f15 = some ⟨oc15, od15, .func (PySem.W.fnOf "_law_counts" "_law_counts" (defArgs s__law_counts) (defBody s__law_counts) (defScope s__law_counts) .none kV15 dc15 pm15 an15 cd15 ct15), sl15⟩)
    (c15 : PySem.W.codeIn K cd15 "_law_counts" = true)
    (k15 : PySem.W.keepIn K (.ref f15) = true)
    (a16 : PySem.W.nsIn K mainGlobals "_law_rows" = some (some (.ref f16)))
    (l16 : K.lookup f16 = some ⟨oc16, od16, .func (PySem.W.fnOf "_law_rows" "_law_rows" (defArgs s__law_rows) (defBody s__law_rows) (defScope s__law_rows) .none kV16 dc16 pm16 an16 cd16 ct16), sl16⟩)
    (c16 : PySem.W.codeIn K cd16 "_law_rows" = true)
    (k16 : PySem.W.keepIn K (.ref f16) = true)
    (a17 : PySem.W.nsIn K mainGlobals "_law_of" = some (some (.ref f17)))
    (l17 : K.lookup f17 = some ⟨oc17, od17, .func (PySem.W.fnOf "_law_of" "_law_of" (defArgs s__law_of) (defBody s__law_of) (defScope s__law_of) .none kV17 dc17 pm17 an17 cd17 ct17), sl17⟩)
    (c17 : PySem.W.codeIn K cd17 "_law_of" = true)
    (k17 : PySem.W.keepIn K (.ref f17) = true)
    (a18 : PySem.W.nsIn K mainGlobals "_law_bent" = some (some (.ref f18)))
    (l18 : K.lookup f18 = some ⟨oc18, od18, .func (PySem.W.fnOf "_law_bent" "_law_bent" (defArgs s__law_bent) (defBody s__law_bent) (defScope s__law_bent) .none kV18 dc18 pm18 an18 cd18 ct18), sl18⟩)
    (c18 : PySem.W.codeIn K cd18 "_law_bent" = true)
    (k18 : PySem.W.keepIn K (.ref f18) = true)
    (a19 : PySem.W.nsIn K mainGlobals "law" = some (some (.ref f19)))
    (l19 : K.lookup f19 = some ⟨oc19, od19, .func (PySem.W.fnOf "law" "law" (defArgs s_law) (defBody s_law) (defScope s_law) .none kV19 dc19 pm19 an19 cd19 ct19), sl19⟩)
    (c19 : PySem.W.codeIn K cd19 "law" = true)
    (k19 : PySem.W.keepIn K (.ref f19) = true)
    (z_len : PySem.W.nsIn K mainGlobals "len" = some none)
    (z_range : PySem.W.nsIn K mainGlobals "range" = some none)
    (z_sum : PySem.W.nsIn K mainGlobals "sum" = some none)
    (z_dict : PySem.W.nsIn K mainGlobals "dict" = some none)
    (z_enumerate : PySem.W.nsIn K mainGlobals "enumerate" = some none)
    (z_tuple : PySem.W.nsIn K mainGlobals "tuple" = some none)
    (z_isinstance : PySem.W.nsIn K mainGlobals "isinstance" = some none)
    (z_int : PySem.W.nsIn K mainGlobals "int" = some none)
    (z_bool : PySem.W.nsIn K mainGlobals "bool" = some none)
    (z_all : PySem.W.nsIn K mainGlobals "all" = some none)
    (z_sorted : PySem.W.nsIn K mainGlobals "sorted" = some none)
    (z_abs : PySem.W.nsIn K mainGlobals "abs" = some none)
    (z_max : PySem.W.nsIn K mainGlobals "max" = some none)
    (z_list : PySem.W.nsIn K mainGlobals "list" = some none)
    (z_repr : PySem.W.nsIn K mainGlobals "repr" = some none)
    (holds : ∀ ns : List Int, ns.length ≤ 63 → m_law ns = .ok (.bool true)) :
    ∃ fd : FuncData, (∀ (s : Shared) (v : Value), BindsTo s fd ⟨[v], []⟩ [("script", v)]) ∧ ∀ base : Heap, K.In base → base.Ns mainGlobals mg → FnG l.prog w K mg base CX0 5 fa fd ["script"] (spLaw K) := by
  have e := hfa.symm.trans (PySem.W.mg_of X G a19)
  cases e
  have T : Txt K mg := {
    d_pieces_counted := At.mk X G a0 l0 c0 k0 fun _ _ _ _ _ _ us hl => match us, hl with | [_, _], _ => rfl
    d_state_led := At.mk X G a1 l1 c1 k1 fun _ _ _ _ _ _ us hl => match us, hl with | [_, _, _], _ => rfl
    d_blocks_of := At.mk X G a2 l2 c2 k2 fun _ _ _ _ _ _ us hl => match us, hl with | [_], _ => rfl
    d_states_come := At.mk X G a3 l3 c3 k3 fun _ _ _ _ _ _ us hl => match us, hl with | [_, _, _], _ => rfl
    d_told_by := At.mk X G a4 l4 c4 k4 fun _ _ _ _ _ _ us hl => match us, hl with | [_, _], _ => rfl
    d_is_whole := At.mk X G a5 l5 c5 k5 fun _ _ _ _ _ _ us hl => match us, hl with | [_], _ => rfl
    d_is_lot := At.mk X G a6 l6 c6 k6 fun _ _ _ _ _ _ us hl => match us, hl with | [_], _ => rfl
    d_are_starts := At.mk X G a7 l7 c7 k7 fun _ _ _ _ _ _ us hl => match us, hl with | [_, _], _ => rfl
    d_are_lines := At.mk X G a8 l8 c8 k8 fun _ _ _ _ _ _ us hl => match us, hl with | [_, _], _ => rfl
    d_is_complete := At.mk X G a9 l9 c9 k9 fun _ _ _ _ _ _ us hl => match us, hl with | [_, _], _ => rfl
    d__law_source := At.mk X G a10 l10 c10 k10 fun _ _ _ _ _ _ us hl => match us, hl with | [_], _ => rfl
    d__law_pick := At.mk X G a11 l11 c11 k11 fun _ _ _ _ _ _ us hl => match us, hl with | [_, _], _ => rfl
    d__law_drawn_steps := At.mk X G a12 l12 c12 k12 fun _ _ _ _ _ _ us hl => match us, hl with | [_, _, _], _ => rfl
    d__law_parts := At.mk X G a13 l13 c13 k13 fun _ _ _ _ _ _ us hl => match us, hl with | [_], _ => rfl
    d__law_least := At.mk X G a14 l14 c14 k14 fun _ _ _ _ _ _ us hl => match us, hl with | [_, _], _ => rfl
    d__law_counts := At.mk X G a15 l15 c15 k15 fun _ _ _ _ _ _ us hl => match us, hl with | [_, _], _ => rfl
    d__law_rows := At.mk X G a16 l16 c16 k16 fun _ _ _ _ _ _ us hl => match us, hl with | [_, _], _ => rfl
    d__law_of := At.mk X G a17 l17 c17 k17 fun _ _ _ _ _ _ us hl => match us, hl with | [_, _], _ => rfl
    d__law_bent := At.mk X G a18 l18 c18 k18 fun _ _ _ _ _ _ us hl => match us, hl with | [_, _, _], _ => rfl
    z_len := PySem.W.mg_none_of X G z_len
    z_range := PySem.W.mg_none_of X G z_range
    z_sum := PySem.W.mg_none_of X G z_sum
    z_dict := PySem.W.mg_none_of X G z_dict
    z_enumerate := PySem.W.mg_none_of X G z_enumerate
    z_tuple := PySem.W.mg_none_of X G z_tuple
    z_isinstance := PySem.W.mg_none_of X G z_isinstance
    z_int := PySem.W.mg_none_of X G z_int
    z_bool := PySem.W.mg_none_of X G z_bool
    z_all := PySem.W.mg_none_of X G z_all
    z_sorted := PySem.W.mg_none_of X G z_sorted
    z_abs := PySem.W.mg_none_of X G z_abs
    z_max := PySem.W.mg_none_of X G z_max
    z_list := PySem.W.mg_none_of X G z_list
    z_repr := PySem.W.mg_none_of X G z_repr
  }
  exact ⟨PySem.W.fnOf "law" "law" (defArgs s_law) (defBody s_law) (defScope s_law) .none kV19 dc19 pm19 an19 cd19 ct19, fun s v => .of_eq rfl, fun base _ _ =>
    fnLaw_of (fun_mk (st := s_law) l19 c19 k19) sc_law rfl (fun ns => p_law T ns) holds⟩

end K48

set_option autoImplicit false
set_option maxRecDepth 100000
set_option exponentiation.threshold 5000
namespace K48
open PySem L2 Z
/-- the cells are asked while they tell nothing -/
theorem pick_while (many : Int) {f : Src → R (Wl Src)} (hf : ∀ s1, f s1 = (
    ((gtD (.int many) (PyData.int 1)).bind fun z4 =>
    if z4 = true then
    (ltD (PyData.int s1.left) (PyData.int 2)).bind fun z5 =>
    if z5 = true then
    (gtD (PyData.int s1.cells.length) (PyData.int 0)).bind fun z6 =>
    R.ok z6
    else
    R.ok false
    else
    R.ok false : R Bool).bind fun t7 =>
    if t7 = true then
    (popC s1.cells).bind fun (z8, c9) =>
    (toI (PyData.int z8)).bind fun n10 =>
    R.ok (.go { { s1 with cells := c9 } with left := n10 })
    else
    R.ok (.done s1))) : ∀ (k : Nat) (s : Src), s.cells.length ≤ k → ∃ s', whileT (k + 1) s f = .ok (.nx s') ∧ s'.turn = s.turn := by
  intro k
  induction k with
  | zero =>
    intro s hs
    have h0 : s.cells = [] := List.eq_nil_of_length_eq_zero (Nat.le_zero.mp hs)
    refine ⟨s, ?_, rfl⟩
    simp only [whileT, hf, gt_i, lt_i, R.bind_ok, h0]
    by_cases c1 : 1 < many <;> by_cases c2 : s.left < 2 <;> simp [c1, c2, R.bind_ok]
  | succ k ih =>
    intro s hs
    rw [whileT, hf]
    simp only [gt_i, lt_i, R.bind_ok]
    by_cases c : 1 < many ∧ s.left < 2 ∧ 0 < s.cells.length
    · obtain ⟨c1, c2, c3⟩ := c
      have c3' : (0 : Int) < (s.cells.length : Int) := by omega
      cases hl : s.cells.getLast? with
      | none => rw [List.getLast?_eq_none_iff] at hl; rw [hl] at c3; simp at c3
      | some t =>
        obtain ⟨s', e, ht⟩ := ih { s with cells := s.cells.dropLast, left := t } (by simp [List.length_dropLast]; omega)
        refine ⟨s', ?_, ht⟩
        simp only [decide_eq_true c1, decide_eq_true c2, decide_eq_true c3', if_true, R.bind_ok, popC, hl, toI_i]
        exact e
    · refine ⟨s, ?_, rfl⟩
      by_cases c1 : 1 < many <;> by_cases c2 : s.left < 2 <;> by_cases c3 : 0 < s.cells.length
      · exact absurd ⟨c1, c2, c3⟩ c
      all_goals (have c3' : (0 : Int) < (s.cells.length : Int) ↔ 0 < s.cells.length := by omega); simp [c1, c2, c3, c3', R.bind_ok]
theorem pick_ok {n : Nat} {s : Src} {many : Int} (h : Ok (n + 1) s) (h1 : 1 ≤ many) (h2 : many < 2 ^ 100) : ∃ (r : Nat) (s' : Src), m__law_pick s (.int many) = .ok (.int (r : Int), s') ∧ (r : Int) < many ∧ Ok n s' := by
  unfold m__law_pick
  obtain ⟨s2, e, ht⟩ := pick_while many (fun _ => rfl) s.cells.length s (Nat.le_refl _)
  obtain ⟨h3, h4⟩ := h
  rw [e]
  simp only [R.bind_ok, lt_i, gt_i]
  have nat : ∀ {i : Int}, 0 ≤ i → i < many → ∃ r : Nat, i = (r : Int) ∧ (r : Int) < many := fun {i} a b => ⟨i.toNat, by omega, by omega⟩
  by_cases c : many < 2 ∨ 1 < s2.left
  · have ec : ((if decide (many < 2) = true then R.ok true else (R.ok (decide (1 < s2.left)))) : R Bool) = .ok true := by
      by_cases c1 : many < 2
      · simp [c1]
      · simp [c1, c.resolve_left c1]
    have hm : max 1 many = many := by omega
    have hn : many ≠ 0 := by omega
    have hb : bigD many = true := bigD_of (k := 100) (by omega) (by decide)
    rw [ec]
    simp only [R.bind_ok, if_true, max2_i, hm, fdiv_i hn hb, fmod_i hn, int_i, toI_i]
    obtain ⟨r, e1, e2⟩ := nat (Int.fmod_nonneg_of_pos s2.left (by omega : 0 < many)) (Int.fmod_lt_of_pos s2.left (by omega : 0 < many))
    exact ⟨r, _, by rw [e1], e2, by show 0 ≤ s2.turn; omega, by show s2.turn + _ ≤ _; omega⟩
  · have c1 : ¬ many < 2 := fun q => c (.inl q)
    have c2 : ¬ 1 < s2.left := fun q => c (.inr q)
    have hn : many ≠ 0 := by omega
    have lt : ∀ {i : Int}, 0 ≤ i → i ≤ 2 ^ 100 → Sz i := fun {i} a b => Sz.of (k := 101) (by omega) (by decide)
    have s1 : Sz (s2.turn + 1) := lt (by omega) (by omega)
    have s3 : Sz 104729 := lt (by decide) (by decide)
    have s4 : Sz 17 := lt (by decide) (by decide)
    have f1 : ∀ x : Int, 0 ≤ x.fmod 998244353 := fun x => Int.fmod_nonneg_of_pos x (by decide)
    have f2 : ∀ x : Int, x.fmod 998244353 < 998244353 := fun x => Int.fmod_lt_of_pos x (by decide)
    have s5 : ∀ x : Int, Sz (x.fmod 998244353) := fun x => lt (f1 x) (by have := f2 x; omega)
    have hb : bigD 16 = true := by decide
    simp only [decide_eq_false c1, decide_eq_false c2, R.bind_ok, if_false, Bool.false_eq_true, add_i, toI_i, mul_i s1 s3, mul_i s1 s4, int_i, fmod_i (by decide : (998244353 : Int) ≠ 0), fmod_i (by decide : (2147483647 : Int) ≠ 0), mul_i (s5 _) (s5 _), fdiv_i (by decide : (16 : Int) ≠ 0) hb, fmod_i hn]
    obtain ⟨r, e1, e2⟩ := nat (Int.fmod_nonneg_of_pos _ (by omega : 0 < many)) (Int.fmod_lt_of_pos _ (by omega : 0 < many))
    exact ⟨r, _, by rw [← e1], e2, by show 0 ≤ s2.turn + 1; omega, by show s2.turn + 1 + _ ≤ _; omega⟩
end K48
namespace K48
open PySem L2 Z
theorem source_ok (ns : List Int) (hl : ns.length ≤ 63) : ∃ s, m__law_source ns = .ok s ∧ Ok 1000000000 s := by
  unfold m__law_source
  obtain ⟨mx, e1, n, hn⟩ := forS_inv (xs := ns.map PyData.int) (st := PyData.int 11) (f := fun x1 s2 => (mul s2 (PyData.int 69069)).bind fun z4 => (mul x1 (PyData.int 31)).bind fun z5 => (add z4 z5).bind fun z6 => (add z6 (PyData.int 5)).bind fun z7 => (intD z7).bind fun z8 => (fmod z8 (PyData.int 2147483629)).bind fun z9 => R.ok z9)
    (fun _ s => ∃ n : Int, s = .int n) ⟨11, rfl⟩ (fun ys x s ⟨zs, e⟩ ⟨n, en⟩ => by
      have hx : x ∈ ns.map PyData.int := by rw [e]; simp
      obtain ⟨c, _, rfl⟩ := List.mem_map.mp hx
      subst en
      exact ⟨_, by simp only [mul_r (by decide : ((69069 : Int)).natAbs < 2 ^ 64), mul_r (by decide : ((31 : Int)).natAbs < 2 ^ 64), add_i, int_i, fmod_i (by decide : (2147483629 : Int) ≠ 0), R.bind_ok]; rfl, _, rfl⟩)
  subst hn
  rw [e1]
  simp only [R.bind_ok]
  rw [compL_all (h := fun n => PyData.int (n.natAbs : Int)) (by omega) fun x _ => by rw [abs_i]; rfl]
  simp only [R.bind_ok, revL]
  have e2 : ((ns.map fun n => PyData.int (n.natAbs : Int)).reverse : List D) = (ns.map fun n => (n.natAbs : Int)).reverse.map PyData.int := by rw [List.map_reverse, List.map_map]; rfl
  rw [e2]
  unfold mkSrc
  rw [intsD_map]
  simp only [toI_i, R.bind_ok]
  rw [if_pos (by simpa using hl)]
  exact ⟨_, rfl, by show (0 : Int) ≤ 0; decide, by show (0 : Int) + _ ≤ _; decide⟩
end K48

set_option autoImplicit false
set_option linter.all false
set_option maxRecDepth 100000
set_option exponentiation.threshold 20000
namespace K48
open PySem L2 Z
theorem bok {α β : Type} {m : R α} {f : α → R β} {a : α} {r : R β} (h : m = .ok a) (k : f a = r) : m.bind f = r := by rw [h]; exact k
theorem bokF {β : Type} {m : R Bool} {f g : R β} {r : R β} (h : m = .ok false) (k : g = r) : (m.bind fun t => if t = true then f else g) = r := by
  rw [h]; exact k
theorem bokT {β : Type} {m : R Bool} {f g : R β} {r : R β} (h : m = .ok true) (k : f = r) : (m.bind fun t => if t = true then f else g) = r := by
  rw [h]; exact k
theorem bokN {β : Type} {m : R Bool} {f g : R β} {r : R β} (h : m = .ok true) (k : g = r) : (m.bind fun t => if (!t) = true then f else g) = r := by
  rw [h]; exact k
theorem bokM {β : Type} {m : R Bool} {f g : R β} {r : R β} (h : m = .ok false) (k : f = r) : (m.bind fun t => if (!t) = true then f else g) = r := by
  rw [h]; exact k
theorem szb {i : Int} {n : Nat} (h : i.natAbs < 2 ^ n) (hn : n ≤ 400000 := by decide) : Sz i := Sz.of h hn
theorem bmul {a b : Int} {n m : Nat} (ha : a.natAbs < 2 ^ n) (hb : b.natAbs < 2 ^ m) : (a * b).natAbs < 2 ^ (n + m) := by
  rw [Int.natAbs_mul, Nat.pow_add]
  exact Nat.mul_lt_mul'' ha hb
/-- a pair that is u over v -/
theorem of_ok {n : Nat} {s : Src} {xs : List D} (h : Ok (n + 1) s) (h0 : 0 < xs.length) (hl : xs.length < 2 ^ 60) : ∃ (r : Nat) (d : D) (s' : Src), m__law_of s (.list xs) = .ok (d, s') ∧ xs[r]? = some d ∧ Ok n s' := by
  obtain ⟨r, s', e, hr, ho⟩ := pick_ok h (many := (xs.length : Int)) (by omega) (by omega)
  have hr' : r < xs.length := by omega
  refine ⟨r, xs[r], s', ?_, List.getElem?_eq_getElem hr', ho⟩
  unfold m__law_of
  exact bok (len_l _) <| bok e <| bok (item_ln (List.getElem?_eq_getElem hr')) rfl
theorem pop1_ok {ys : List D} {r : Nat} (h : r < ys.length) : pop1M ys [.int (r : Int)] = .ok (ys[r], ys.eraseIdx r) := by
  have : L2.ixN ys.length (r : Int) = some r := by unfold L2.ixN; rw [if_pos (by omega), if_pos (by omega)]; simp
  simp [pop1M, this, List.getElem?_eq_getElem h]
theorem erase_perm {l : List D} {i : Nat} (h : i < l.length) : (l[i] :: l.eraseIdx i).Perm l := by
  rw [List.eraseIdx_eq_take_drop_succ]
  have e : l = l.take i ++ l[i] :: l.drop (i + 1) := by rw [← List.drop_eq_getElem_cons h, List.take_append_drop]
  exact (List.perm_middle.symm).trans (List.Perm.of_eq e.symm)
theorem cut_take {α : Type} {xs : List α} {i : Nat} (h : i ≤ xs.length) : cut xs none (some (i : Int)) = xs.take i := by
  simp only [cut, HT.sIx_none, HT.sIx_nat]
  simp [Nat.min_eq_left h]
theorem slice_l {xs : List D} {i : Nat} (h : i ≤ xs.length) : slice (.list xs) none (some (i : Int)) = .ok (.list (xs.take i)) := by simp only [slice, cut_take h]
theorem slice_t {xs : List D} {i : Nat} (h : i ≤ xs.length) : slice (.tuple xs) none (some (i : Int)) = .ok (.tuple (xs.take i)) := by simp only [slice, cut_take h]
/-- a loop that goes back with the first thing found -/
theorem forT_first {f : D → Unit → R (Fl Unit)} {g : Nat → Option D} : ∀ {xs : List D} {k : Nat}, (∀ i (hi : i < xs.length), f (.tuple [.int ((k + i : Nat) : Int), xs[i]]) () = .ok (match g (k + i) with | some v => .rt v () | none => .nx ())) →
    forT ((xs.zipIdx k).map fun p => PyData.tuple [.int (p.2 : Nat), p.1]) () f = .ok (match (List.range' k xs.length).findSome? g with | some v => .rt v () | none => .nx ())
  | [], k, _ => rfl
  | x :: xs, k, h => by
    have h0 := h 0 (by simp)
    simp only [Nat.add_zero, List.getElem_cons_zero] at h0
    simp only [List.zipIdx_cons, List.map_cons, forT, h0, R.bind_ok, List.length_cons, List.range'_succ, List.findSome?_cons]
    cases hg : g k with
    | some v => rfl
    | none =>
      simp only []
      refine forT_first (xs := xs) (k := k + 1) fun i hi => ?_
      have := h (i + 1) (by simp; omega)
      simp only [List.getElem_cons_succ] at this
      rw [show k + 1 + i = k + (i + 1) by omega]
      exact this
theorem forE_first {xs : List D} {f : D → Unit → R (Fl Unit)} {g : Nat → Option D} (h : ∀ i (hi : i < xs.length), f (.tuple [.int (i : Int), xs[i]]) () = .ok (match g i with | some v => .rt v () | none => .nx ())) :
    forT (enumD xs) () f = .ok (match (List.range xs.length).findSome? g with | some v => .rt v () | none => .nx ()) := by
  have := forT_first (f := f) (g := g) (xs := xs) (k := 0) fun i hi => by simpa using h i hi
  rw [← List.range_eq_range'] at this
  exact this
/-- a loop over a list that goes back with the first thing found -/
theorem forL_first {f : D → Unit → R (Fl Unit)} {g : D → Option D} : ∀ {xs : List D}, (∀ x ∈ xs, f x () = .ok (match g x with | some v => .rt v () | none => .nx ())) → forT xs () f = .ok (match xs.findSome? g with | some v => .rt v () | none => .nx ())
  | [], _ => rfl
  | x :: xs, h => by
    simp only [forT, h x (by simp), R.bind_ok, List.findSome?_cons]
    cases hg : g x with
    | some v => rfl
    | none => exact forL_first fun y hy => h y (by simp [hy])
theorem compE_aux {f : D → R (Option D)} {g : Nat → Option D} : ∀ {xs : List D} {k : Nat}, (∀ i (hi : i < xs.length), f (.tuple [.int ((k + i : Nat) : Int), xs[i]]) = .ok (g (k + i))) →
    compP ((xs.zipIdx k).map fun p => PyData.tuple [.int (p.2 : Nat), p.1]) f = .ok ((List.range' k xs.length).filterMap g)
  | [], k, _ => rfl
  | x :: xs, k, h => by
    have h0 := h 0 (by simp)
    simp only [Nat.add_zero, List.getElem_cons_zero] at h0
    have ih := compE_aux (f := f) (g := g) (xs := xs) (k := k + 1) fun i hi => by
      have := h (i + 1) (by simp; omega)
      simp only [List.getElem_cons_succ] at this
      rw [show k + 1 + i = k + (i + 1) by omega]
      exact this
    simp only [List.zipIdx_cons, List.map_cons, compP, h0, R.bind_ok, ih, List.length_cons, List.range'_succ, List.filterMap_cons]
    cases g k <;> rfl
theorem enum_len (xs : List D) : (enumD xs).length = xs.length := by simp [enumD]
theorem compE {xs : List D} {f : D → R (Option D)} {g : Nat → Option D} (hl : xs.length < 16777216) (h : ∀ i (hi : i < xs.length), f (.tuple [.int (i : Int), xs[i]]) = .ok (g i)) : compL (enumD xs) f = .ok ((List.range xs.length).filterMap g) := by
  rw [compL_of (by rw [enum_len]; exact hl)]
  have := compE_aux (f := f) (g := g) (xs := xs) (k := 0) fun i hi => by simpa using h i hi
  rw [← List.range_eq_range'] at this
  exact this
theorem compT_unit {f : D → Unit → R (Option D × Unit)} {f' : D → R (Option D)} : ∀ {xs : List D}, (∀ x ∈ xs, ∃ o, f' x = .ok o ∧ f x () = .ok (o, ())) → ∀ {ys : List D}, compP xs f' = .ok ys → compT xs () f = .ok (ys, ())
  | [], _, ys, e => by cases e; rfl
  | x :: xs, h, ys, e => by
    obtain ⟨o, h1, h2⟩ := h x (by simp)
    simp only [compP, h1, R.bind_ok] at e
    obtain ⟨zs, e1, e2⟩ := R.bind_eq_ok e
    have ih := compT_unit (xs := xs) (fun y hy => h y (by simp [hy])) e1
    simp only [compT, h2, R.bind_ok, ih]
    cases o <;> (cases e2; rfl)
theorem compF {xs : List D} {f : D → R (Option D)} {g : D → Option D} (hl : xs.length < 16777216) (h : ∀ x ∈ xs, f x = .ok (g x)) : compL xs f = .ok (xs.filterMap g) := by
  rw [compL_of hl]; exact compP_map h
theorem head_first {α β : Type} (l : List α) (g : α → Option β) : (l.filterMap g).head? = l.findSome? g := by
  induction l with
  | nil => rfl
  | cons a l ih => simp only [List.filterMap_cons, List.findSome?_cons]; cases g a <;> simp [ih]

/-! ### small things -/
theorem ok_of {dp w : Nat} {d : D} (h : Small dp w d) (h1 : dp ≤ 40) : okD d = true := by
  unfold okD; rw [h.plain, decide_eq_true (Nat.le_trans h.depth h1)]; rfl
theorem small_i {i : Int} (h : i.natAbs < 2 ^ 200) : Small 0 200 (.int i) := Small.int h
theorem small_n : Small 0 0 .none := ⟨by simp [PyData.plain], by simp [PyData.depth], by simp [PyData.showable], by simp [PyData.hasDict], by simp [PyData.leavesShort], by simp [PyData.weight]⟩
theorem small_b (b : Bool) : Small 0 0 (.bool b) := ⟨by simp [PyData.plain], by simp [PyData.depth], by simp [PyData.showable], by simp [PyData.hasDict], by simp [PyData.leavesShort], by simp [PyData.weight]⟩
theorem SmallAll.of_mem {dp w : Nat} {ds : List D} (h : ∀ d ∈ ds, Small dp w d) (hl : ds.length ≤ 60) : SmallAll dp (60 * (w + 1)) ds :=
  (SmallAll.all h).mono (Nat.le_refl _) (Nat.mul_le_mul_right _ hl)
theorem eqv_s (a b : Str) : PyData.eqv (.str a) (.str b) = decide (a = b) := by
  by_cases h : a = b
  · subst h; simp [PyData.eqv]
  · simp [PyData.eqv, h]
theorem in_l {dp dq w v : Nat} {x : D} {ys : List D} (hx : Small dp w x) (hy : ∀ y ∈ ys, Small dq v y) (h1 : dp ≤ 39 := by decide) (h2 : dq ≤ 39 := by decide) : inD x (.list ys) = .ok (ys.any fun y => PyData.eqv y x) := by
  have o := ok_of (SmallAll.all hy).list (by omega)
  simp only [inD, ok_of hx (by omega), o, Bool.and_self, if_true]
theorem in_t {dp dq w v : Nat} {x : D} {ys : List D} (hx : Small dp w x) (hy : ∀ y ∈ ys, Small dq v y) (h1 : dp ≤ 39 := by decide) (h2 : dq ≤ 39 := by decide) : inD x (.tuple ys) = .ok (ys.any fun y => PyData.eqv y x) := by
  have o := ok_of (SmallAll.all hy).tuple (by omega)
  simp only [inD, ok_of hx (by omega), o, Bool.and_self, if_true]
theorem eqv_nil (ys : List D) : PyData.eqv (.list ys) (.list []) = ys.isEmpty := by
  cases ys <;> simp [PyData.eqv, PyData.eqvAll]
theorem eq_nil {dq v : Nat} {ys : List D} (hy : ∀ y ∈ ys, Small dq v y) (h2 : dq ≤ 39 := by decide) : eqD (.list ys) (.list []) = .ok ys.isEmpty := by
  have o := ok_of (SmallAll.all hy).list (by omega)
  have o2 : okD (.list []) = true := by decide
  simp only [eqD, o, o2, Bool.and_self, if_true, eqv_nil]
theorem ne_nil {dq v : Nat} {ys : List D} (hy : ∀ y ∈ ys, Small dq v y) (h2 : dq ≤ 39 := by decide) : neD (.list ys) (.list []) = .ok (!ys.isEmpty) := by
  unfold neD; rw [eq_nil hy h2]; rfl
theorem eqs (a b : Str) : eqD (.str a) (.str b) = .ok (decide (a = b)) := by
  simp only [eqD, okS, Bool.and_self, if_true, eqv_s]
theorem nes (a b : Str) : neD (.str a) (.str b) = .ok (!decide (a = b)) := by unfold neD; rw [eqs]; rfl
theorem szR_ok {n : Nat} (h : n ≤ 16777216) : szR n = .ok () := by unfold szR; rw [decide_eq_true h]; rfl
end K48

set_option autoImplicit false
set_option linter.all false
set_option maxRecDepth 100000
namespace K48
open PySem L2 Z
/-! ### values that come first -/
def isF {κ : Type} [DecidableEq κ] (f : Nat → κ) (i : Nat) : Bool := (List.range i).all fun j => !decide (f j = f i)
def cnt {κ : Type} [DecidableEq κ] (f : Nat → κ) (n : Nat) : Nat := ((List.range n).filter fun i => isF f i).length
section
variable {κ ι : Type} [DecidableEq κ] [DecidableEq ι]
theorem isF_iff {f : Nat → κ} {i : Nat} : isF f i = true ↔ ∀ j, j < i → f j ≠ f i := by
  unfold isF
  rw [List.all_eq_true]
  exact ⟨fun h j hj => by simpa using h j (List.mem_range.mpr hj), fun h j hj => by simpa using h j (List.mem_range.mp hj)⟩
theorem cnt_succ (f : Nat → κ) (n : Nat) : cnt f (n + 1) = cnt f n + if isF f n = true then 1 else 0 := by
  unfold cnt
  rw [List.range_succ, List.filter_append, List.length_append]
  by_cases h : isF f n = true
  · simp [h]
  · simp [h]
theorem cnt_congr {f : Nat → κ} {g : Nat → ι} : ∀ {n : Nat}, (∀ i j, i < n → j < n → (f i = f j ↔ g i = g j)) → cnt f n = cnt g n
  | 0, _ => rfl
  | n + 1, h => by
    rw [cnt_succ, cnt_succ, cnt_congr (n := n) fun i j hi hj => h i j (by omega) (by omega)]
    have : isF f n = isF g n := by
      rw [Bool.eq_iff_iff, isF_iff, isF_iff]
      exact ⟨fun k j hj e => k j hj ((h j n (by omega) (by omega)).mpr e), fun k j hj e => k j hj ((h j n (by omega) (by omega)).mp e)⟩
    rw [this]
theorem cnt_le {f : Nat → κ} {g : Nat → ι} : ∀ {n : Nat}, (∀ i j, i < n → j < n → g i = g j → f i = f j) → cnt f n ≤ cnt g n
  | 0, _ => Nat.le_refl _
  | n + 1, h => by
    rw [cnt_succ, cnt_succ]
    have := cnt_le (n := n) (f := f) (g := g) fun i j hi hj => h i j (by omega) (by omega)
    by_cases c : isF f n = true
    · have : isF g n = true := isF_iff.mpr fun j hj e => isF_iff.mp c j hj (h j n (by omega) (by omega) e)
      rw [if_pos c, if_pos this]; omega
    · rw [if_neg c]; split <;> omega
/-- a finer one that has no more values is no finer -/
theorem cnt_eq {f : Nat → κ} {g : Nat → ι} : ∀ {n : Nat}, (∀ i j, i < n → j < n → g i = g j → f i = f j) → cnt g n ≤ cnt f n → ∀ i, i < n → isF g i = true → isF f i = true
  | 0, _, _, i, hi, _ => by omega
  | n + 1, h, hc, i, hi, hF => by
    rw [cnt_succ, cnt_succ] at hc
    have h' : ∀ i j, i < n → j < n → g i = g j → f i = f j := fun i j hi hj => h i j (by omega) (by omega)
    have le := cnt_le (n := n) h'
    have up : isF f n = true → isF g n = true := fun c => isF_iff.mpr fun j hj e => isF_iff.mp c j hj (h j n (by omega) (by omega) e)
    by_cases c : isF f n = true
    · rw [if_pos c, if_pos (up c)] at hc
      by_cases e : i = n
      · subst e; exact c
      · exact cnt_eq h' (by omega) i (by omega) hF
    · rw [if_neg c] at hc
      by_cases cg : isF g n = true
      · rw [if_pos cg] at hc; omega
      · rw [if_neg cg] at hc
        by_cases e : i = n
        · subst e; exact absurd hF cg
        · exact cnt_eq h' (by omega) i (by omega) hF
theorem first_of (f : Nat → κ) (i : Nat) : ∃ j, j ≤ i ∧ f j = f i ∧ isF f j = true := by
  induction i using Nat.strongRecOn with
  | ind i ih =>
    by_cases h : isF f i = true
    · exact ⟨i, Nat.le_refl _, rfl, h⟩
    · have : ∃ j, j < i ∧ f j = f i := Classical.byContradiction fun q => h (isF_iff.mpr fun j hj e => q ⟨j, hj, e⟩)
      obtain ⟨j, hj, e⟩ := this
      obtain ⟨k, h1, h2, h3⟩ := ih j hj
      exact ⟨k, by omega, by rw [h2, e], h3⟩
theorem kernel_eq {f : Nat → κ} {g : Nat → ι} {n : Nat} (h : ∀ i j, i < n → j < n → g i = g j → f i = f j) (hc : cnt g n ≤ cnt f n) : ∀ i j, i < n → j < n → f i = f j → g i = g j := by
  intro i j hi hj e
  obtain ⟨a, a1, a2, a3⟩ := first_of g i
  obtain ⟨b, b1, b2, b3⟩ := first_of g j
  have fa := cnt_eq h hc a (by omega) a3
  have fb := cnt_eq h hc b (by omega) b3
  have ea : f a = f i := h a i (by omega) hi a2
  have eb : f b = f j := h b j (by omega) hj b2
  have : a = b := by
    rcases Nat.lt_trichotomy a b with q | q | q
    · exact absurd (by rw [ea, eb, e]) (isF_iff.mp fb a q)
    · exact q
    · exact absurd (by rw [ea, eb, e]) (isF_iff.mp fa b q)
  rw [← a2, ← b2, this]
theorem cnt_n (f : Nat → κ) : ∀ n, cnt f n ≤ n
  | 0 => Nat.le_refl _
  | n + 1 => by rw [cnt_succ]; have := cnt_n f n; split <;> omega
end
theorem nodup_lt : ∀ (m : Nat) (l : List Nat), l.Nodup → (∀ x ∈ l, x < m) → l.length ≤ m
  | 0, l, _, h => by
    cases l with
    | nil => exact Nat.le_refl _
    | cons a l => exact absurd (h a (by simp)) (by omega)
  | m + 1, l, hn, h => by
    have h1 : (l.erase m).Nodup := hn.erase m
    have h2 := nodup_lt m (l.erase m) h1 fun x hx => by
      have a := h x (List.mem_of_mem_erase hx)
      have : x ≠ m := fun q => by rw [q] at hx; exact absurd hx (hn.not_mem_erase)
      omega
    rw [List.length_erase] at h2
    split at h2 <;> omega

/-! ### lines, what leads alike -/
abbrev Ln := List (Option Nat)
def at' (b : List Nat) (i : Nat) : Nat := b.getD i 0
def lnOf (S : List Ln) (i : Nat) : Ln := S.getD i []
def led (b : List Nat) (l : Ln) : Ln := l.map (Option.map (at' b))
/-- lines lead to states that are there -/
def Inn (S : List Ln) : Prop := ∀ l ∈ S, ∀ o ∈ l, ∀ x, o = some x → x < S.length
theorem lnOf_get {S : List Ln} {i : Nat} (h : i < S.length) : S[i]? = some (lnOf S i) := by
  unfold lnOf; rw [List.getD_eq_getElem?_getD, List.getElem?_eq_getElem h]; rfl
theorem lnOf_mem {S : List Ln} {i : Nat} (h : i < S.length) : lnOf S i ∈ S := List.mem_of_getElem? (lnOf_get h)
theorem at_get {b : List Nat} {i : Nat} (h : i < b.length) : b[i]? = some (at' b i) := by
  unfold at'; rw [List.getD_eq_getElem?_getD, List.getElem?_eq_getElem h]; rfl
theorem led_congr {S : List Ln} (hS : Inn S) {f g : List Nat} (h : ∀ i j, i < S.length → j < S.length → (at' f i = at' f j → at' g i = at' g j)) {i j : Nat} (hi : i < S.length) (hj : j < S.length) (e : led f (lnOf S i) = led f (lnOf S j)) : led g (lnOf S i) = led g (lnOf S j) := by
  have a := hS _ (lnOf_mem hi)
  have b := hS _ (lnOf_mem hj)
  revert e a b
  generalize lnOf S i = u
  generalize lnOf S j = v
  induction u generalizing v with
  | nil => intro e _ _; cases v with
    | nil => rfl
    | cons y v => simp [led] at e
  | cons x u ih =>
    intro e a b
    cases v with
    | nil => simp [led] at e
    | cons y v =>
      simp only [led, List.map_cons, List.cons.injEq] at e ⊢
      refine ⟨?_, ih v e.2 (fun o ho => a o (by simp [ho])) fun o ho => b o (by simp [ho])⟩
      cases x with
      | none => cases y with
        | none => rfl
        | some y => simp at e
      | some x => cases y with
        | none => simp at e
        | some y =>
          have e1 : at' f x = at' f y := by simpa using e.1
          show some (at' g x) = some (at' g y)
          rw [h x y (a _ (by simp) x rfl) (b _ (by simp) y rfl) e1]
inductive All2 {α : Type} (P : α → α → Prop) : List α → List α → Prop
  | nil : All2 P [] []
  | cons {a b : α} {u v : List α} : P a b → All2 P u v → All2 P (a :: u) (b :: v)
/-- what is led alike, state by state -/
def Bis (S : List Ln) (R : Nat → Nat → Prop) : Prop := ∀ i j, R i j → i < S.length ∧ j < S.length ∧ All2 (fun x y => (x = none ∧ y = none) ∨ ∃ a b, x = some a ∧ y = some b ∧ R a b) (lnOf S i) (lnOf S j)
theorem bis_led {S : List Ln} {R : Nat → Nat → Prop} (hR : Bis S R) {f : List Nat} (h : ∀ i j, R i j → at' f i = at' f j) {i j : Nat} (r : R i j) : led f (lnOf S i) = led f (lnOf S j) := by
  obtain ⟨_, _, q⟩ := hR i j r
  revert q
  generalize lnOf S i = u
  generalize lnOf S j = v
  intro q
  induction q with
  | nil => rfl
  | cons a t ih =>
    simp only [led, List.map_cons] at ih ⊢
    rcases a with ⟨rfl, rfl⟩ | ⟨x, y, rfl, rfl, r'⟩
    · rw [ih]
    · simp only [Option.map_some]; rw [h _ _ r', ih]
/-- what the parting tells: lines of one part lead alike, and it parts no more than it must -/
structure Parted (S : List Ln) (b : List Nat) : Prop where
  len : b.length = S.length
  stable : ∀ i j, i < S.length → j < S.length → at' b i = at' b j → led b (lnOf S i) = led b (lnOf S j)
  coarse : ∀ R : Nat → Nat → Prop, Bis S R → ∀ i j, R i j → at' b i = at' b j
/-- a parting and its refinement, lap by lap -/
structure Lap (S : List Ln) (f g : List Nat) : Prop where
  len : g.length = S.length
  key : ∀ i j, i < S.length → j < S.length → (at' g i = at' g j ↔ at' f i = at' f j ∧ led f (lnOf S i) = led f (lnOf S j))
theorem Lap.parted {S : List Ln} (hS : Inn S) {f g : List Nat} (h : Lap S f g) (hc : cnt (at' g) S.length ≤ cnt (at' f) S.length) (hf : ∀ R : Nat → Nat → Prop, Bis S R → ∀ i j, R i j → at' f i = at' f j) : Parted S g where
  len := h.len
  stable := fun i j hi hj e => led_congr hS (kernel_eq (fun i j hi hj q => ((h.key i j hi hj).mp q).1) hc) hi hj ((h.key i j hi hj).mp e).2
  coarse := fun R hR i j r => by
    obtain ⟨hi, hj, _⟩ := hR i j r
    exact (h.key i j hi hj).mpr ⟨hf R hR i j r, bis_led hR (hf R hR) r⟩
theorem Lap.coarse {S : List Ln} {f g : List Nat} (h : Lap S f g) (hf : ∀ R : Nat → Nat → Prop, Bis S R → ∀ i j, R i j → at' f i = at' f j) : ∀ R : Nat → Nat → Prop, Bis S R → ∀ i j, R i j → at' g i = at' g j := fun R hR i j r => by
  obtain ⟨hi, hj, _⟩ := hR i j r
  exact (h.key i j hi hj).mpr ⟨hf R hR i j r, bis_led hR (hf R hR) r⟩
end K48

set_option autoImplicit false
set_option linter.all false
set_option maxRecDepth 100000
namespace K48
open PySem L2 Z
/-! ### as data -/
def nD (n : Nat) : D := .int (n : Int)
def oD : Option Nat → D
  | some k => nD k
  | none => .none
def eD : Option Nat → D
  | some k => nD k
  | none => .int (-1)
def lnT (l : Ln) : D := .tuple (l.map oD)
def lnL (l : Ln) : D := .list (l.map oD)
def nT (b : List Nat) : D := .tuple (b.map nD)
def nL (b : List Nat) : D := .list (b.map nD)
theorem nD_inj {a b : Nat} (h : nD a = nD b) : a = b := by unfold nD at h; injection h with h; omega
theorem eD_inj : ∀ {a b : Option Nat}, eD a = eD b → a = b
  | none, none, _ => rfl
  | none, some k, h => by unfold eD nD at h; injection h with h; omega
  | some k, none, h => by unfold eD nD at h; injection h with h; omega
  | some k, some j, h => by rw [nD_inj h]
theorem eDs_inj : ∀ {u v : Ln}, u.map eD = v.map eD → u = v
  | [], [], _ => rfl
  | [], _ :: _, h => by simp at h
  | _ :: _, [], h => by simp at h
  | a :: u, b :: v, h => by
    simp only [List.map_cons, List.cons.injEq] at h
    rw [eD_inj h.1, eDs_inj h.2]
/-- the key of a state -/
def keyT (p : Nat × Ln) : D := .tuple [nD p.1, .tuple (p.2.map eD)]
theorem keyT_inj {p q : Nat × Ln} (h : keyT p = keyT q) : p = q := by
  unfold keyT at h
  simp only [PyData.tuple.injEq, List.cons.injEq, and_true] at h
  exact Prod.ext (nD_inj h.1) (eDs_inj h.2)
theorem nkAll_e : ∀ l : Ln, ∃ ks, nkAll (l.map eD) = some ks ∧ NestedKey.depthAll ks = 0
  | [] => ⟨[], by simp [nkAll], by simp [NestedKey.depthAll]⟩
  | o :: l => by
    obtain ⟨ks, e1, e2⟩ := nkAll_e l
    have : ∃ i, eD o = .int i := by cases o <;> exact ⟨_, rfl⟩
    obtain ⟨i, ei⟩ := this
    refine ⟨.num i :: ks, by simp only [List.map_cons, nkAll, ei, nk, e1]; rfl, by simp [NestedKey.depthAll, NestedKey.depth, e2]⟩
theorem key_nk (p : Nat × Ln) : ∃ k, keyN (keyT p) = some k ∧ nk (keyT p) = some k := by
  obtain ⟨ks, e1, e2⟩ := nkAll_e p.2
  have h : nk (keyT p) = some (.tup [.num (p.1 : Int), .tup ks]) := by
    unfold keyT nD
    simp only [nk, nkAll, e1]; rfl
  refine ⟨_, ?_, h⟩
  show (nk (keyT p)).bind _ = _
  rw [h]
  show (if decide ((NestedKey.tup [.num (p.1 : Int), .tup ks]).depth ≤ 8) = true then _ else _) = _
  rw [if_pos (decide_eq_true (by simp [NestedKey.depth, NestedKey.depthAll, e2]))]
/-- the dict of known keys, each with its number -/
def kvP (k : Nat) (ps : List (Nat × Ln)) : List (D × D) := match ps with
  | [] => []
  | p :: r => (keyT p, nD k) :: kvP (k + 1) r
theorem kvP_len : ∀ (ps : List (Nat × Ln)) (k : Nat), (kvP k ps).length = ps.length
  | [], _ => rfl
  | _ :: r, k => by simp [kvP, kvP_len r (k + 1)]
theorem kvP_snoc : ∀ (ps : List (Nat × Ln)) (k : Nat) (p : Nat × Ln), kvP k (ps ++ [p]) = kvP k ps ++ [(keyT p, nD (k + ps.length))]
  | [], k, p => by simp [kvP]
  | q :: r, k, p => by simp only [List.cons_append, kvP, kvP_snoc r (k + 1) p, List.length_cons]; rw [show k + 1 + r.length = k + (r.length + 1) by omega]
theorem kvP_get {p : Nat × Ln} {n : NestedKey} (h : nk (keyT p) = some n) : ∀ (ps : List (Nat × Ln)) (k : Nat), dGet (kvP k ps) n = if p ∈ ps then some (nD (k + ps.idxOf p)) else none
  | [], k => by simp [kvP, dGet]
  | q :: r, k => by
    unfold dGet
    rw [kvP, List.find?_cons]
    by_cases c : q = p
    · subst c
      rw [show decide (nk (keyT q, nD k).1 = some n) = true from decide_eq_true h]
      simp
    · have : ¬ nk (keyT q) = some n := fun e => c (keyT_inj (nk_inj _ _ _ e h))
      rw [show decide (nk (keyT q, nD k).1 = some n) = false from decide_eq_false this]
      have ih := kvP_get h r (k + 1)
      unfold dGet at ih
      show Option.map _ (List.find? _ (kvP (k + 1) r)) = _
      rw [ih]
      have c' : ¬ p = q := fun e => c e.symm
      rw [List.idxOf_cons]
      have : (q == p) = false := by simpa using c
      rw [this]
      simp only [List.mem_cons, c', false_or, cond_false]
      split
      · rw [show k + 1 + r.idxOf p = k + (r.idxOf p + 1) by omega]
      · rfl
theorem setdef_ok (ps : List (Nat × Ln)) (p : Nat × Ln) (hl : ps.length < 1000) : setdefM (kvP 0 ps) [keyT p, nD ps.length] = .ok (if p ∈ ps then (nD (ps.idxOf p), kvP 0 ps) else (nD ps.length, kvP 0 (ps ++ [p]))) := by
  obtain ⟨n, e1, e2⟩ := key_nk p
  unfold setdefM
  simp only [e1]
  rw [if_pos (decide_eq_true (by rw [kvP_len]; omega)), kvP_get e2]
  by_cases c : p ∈ ps
  · simp [c]
  · simp only [c, if_false]
    unfold dSet
    rw [kvP_get e2, if_neg c, kvP_snoc]
    simp
/-! ### loops -/
theorem enum_at {xs : List D} {i : Nat} (h : i < xs.length) : (enumD xs)[i]? = some (.tuple [nD i, xs[i]]) := by
  unfold enumD
  rw [List.getElem?_map, List.getElem?_zipIdx, List.getElem?_eq_getElem h]
  simp [nD]
/-- a loop by an invariant over the number of items walked -/
theorem forI {τ : Type} {f : D → τ → R τ} (I : Nat → τ → Prop) {xs : List D} {st : τ} (h0 : I 0 st) (hs : ∀ i s x, xs[i]? = some x → I i s → ∃ s', f x s = .ok s' ∧ I (i + 1) s') : ∃ s, forS xs st f = .ok s ∧ I xs.length s := by
  obtain ⟨s, e1, e2⟩ := forS_inv (f := f) (fun ys s => I ys.length s) (xs := xs) (st := st) h0 fun ys x s ⟨zs, e⟩ hi => by
    obtain ⟨s', a, b⟩ := hs ys.length s x (by rw [e]; simp) hi
    exact ⟨s', a, by simpa using b⟩
  exact ⟨s, e1, e2⟩
theorem while_ok {τ : Type} {f : τ → R (Wl τ)} (I Q : τ → Prop) (μ : τ → Nat) (hs : ∀ s, I s → (∃ s', f s = .ok (.go s') ∧ I s' ∧ μ s' < μ s) ∨ ∃ s', f s = .ok (.done s') ∧ Q s') : ∀ (k : Nat) (st : τ), I st → μ st < k → ∃ s', whileT k st f = .ok (.nx s') ∧ Q s'
  | 0, _, _, h => by omega
  | k + 1, st, hi, h => by
    unfold whileT
    rcases hs st hi with ⟨s', e, hi', hm⟩ | ⟨s', e, q⟩
    · rw [e]
      exact while_ok I Q μ hs k s' hi' (by omega)
    · rw [e]
      exact ⟨s', rfl, q⟩
theorem item_nT {b : List Nat} {i : Nat} (h : i < b.length) : item (nT b) (nD i) = .ok (nD (at' b i)) := item_n (by rw [List.getElem?_map, at_get h]; rfl)
theorem item_nL {b : List Nat} {i : Nat} (h : i < b.length) : item (nL b) (nD i) = .ok (nD (at' b i)) := item_ln (by rw [List.getElem?_map, at_get h]; rfl)
theorem gt_n (a b : Nat) : gtD (nD a) (nD b) = .ok (decide (b < a)) := by
  unfold nD; rw [gt_i]; congr 1; simp
theorem lt_n (a b : Nat) : ltD (nD a) (nD b) = .ok (decide (a < b)) := by
  unfold nD; rw [lt_i]; congr 1; simp
/-- a line's keys -/
theorem line_keys {b : List Nat} {l : Ln} {n : Nat} (hb : b.length = n) (hl : l.length < 100) (h : ∀ o ∈ l, ∀ x, o = some x → x < n) (B : D) (hB : ∀ i, i < n → item B (nD i) = .ok (nD (at' b i))) :
    (compL (l.map oD) fun x18 => (if (!isNone x18) = true then (item B x18).bind fun z19 => R.ok z19 else R.ok (PyData.int (-1)) : R D).bind fun z20 => R.ok (some z20)) = .ok ((led b l).map eD) := by
  have := compL_all (f := fun x18 => (if (!isNone x18) = true then (item B x18).bind fun z19 => R.ok z19 else R.ok (PyData.int (-1)) : R D).bind fun z20 => R.ok (some z20)) (g := oD) (h := fun o => eD (o.map (at' b))) (xs := l) (by omega) fun o ho => by
    cases o with
    | none => rfl
    | some x =>
      show (if (!isNone (nD x)) = true then (item B (nD x)).bind fun z19 => R.ok z19 else R.ok (PyData.int (-1)) : R D).bind _ = _
      rw [show (!isNone (nD x)) = true from rfl, if_pos rfl, hB x (h _ ho x rfl)]
      rfl
  rw [this]
  unfold led
  rw [List.map_map]; rfl
def keyAt (b : List Nat) (S : List Ln) (i : Nat) : Nat × Ln := (at' b i, led b (lnOf S i))
/-- what the first lap's parts are -/
structure Good (S : List Ln) (w : Nat) : Prop where
  inn : Inn S
  pos : 0 < S.length
  few : S.length < 100
  wid : ∀ l ∈ S, l.length = w
  nar : w < 100
end K48

set_option autoImplicit false
set_option linter.all false
set_option maxRecDepth 100000
namespace K48
open PySem L2 Z
theorem Good.row {S : List Ln} {w : Nat} (h : Good S w) {i : Nat} (hi : i < S.length) : (lnOf S i).length < 100 ∧ ∀ o ∈ lnOf S i, ∀ x, o = some x → x < S.length :=
  ⟨by rw [h.wid _ (lnOf_mem hi)]; exact h.nar, h.inn _ (lnOf_mem hi)⟩
/-- as list of numbers the parts found -/
theorem at_map {f : Nat → Nat} {n i : Nat} (h : i < n) : at' ((List.range n).map f) i = f i := by
  unfold at'
  rw [List.getD_eq_getElem?_getD, List.getElem?_map, List.getElem?_range h]; rfl
/-- one lap of the program -/
structure Known (S : List Ln) (b : List Nat) (i : Nat) (ps : List (Nat × Ln)) : Prop where
  there : ∀ j, j < i → keyAt b S j ∈ ps
  of : ∀ p ∈ ps, ∃ j, j < i ∧ p = keyAt b S j
  len : ps.length = cnt (keyAt b S) i
theorem idx_app {α : Type} [BEq α] [LawfulBEq α] {l : List α} {a x : α} (h : a ∈ l) : (l ++ [x]).idxOf a = l.idxOf a := by
  induction l with
  | nil => simp at h
  | cons y l ih =>
    rw [List.cons_append, List.idxOf_cons, List.idxOf_cons]
    by_cases c : y = a
    · simp [c]
    · have : (y == a) = false := by simpa using c
      rw [this]
      simp only [cond_false]
      rcases List.mem_cons.mp h with e | e
      · exact absurd e.symm c
      · rw [ih e]
theorem lap_ok {S : List Ln} {w : Nat} (h : Good S w) {b : List Nat} (hb : b.length = S.length) {f : D → (List (D × D)) × List D → R ((List (D × D)) × List D)}
    (hf : ∀ x11 s12, f x11 s12 = ((un2 x11).bind fun (p14, p15) =>
      (item (nT b) p14).bind fun z16 =>
      (iter p15).bind fun z17 =>
      (compL z17 fun x18 =>
      (if (!isNone x18) = true then
      (item (nT b) x18).bind fun z19 =>
      R.ok z19
      else
      R.ok (PyData.int (-1)) : R D).bind fun z20 =>
      R.ok (some z20)).bind fun ys21 =>
      (tupleD (PyData.list ys21)).bind fun z22 =>
      (flatR ((lenD (PyData.dict s12.1)).bind fun z23 =>
      R.ok z23)).bind fun z24 =>
      (setdefM s12.1 [(PyData.tuple [z16, z22]), z24]).bind fun (z25, y26) =>
      (pushM s12.2 [z25]).bind fun (z27, y28) =>
      R.ok (y26, y28))) :
    ∃ (ps : List (Nat × Ln)) (g : List Nat), forS (enumD (S.map lnT)) ([], []) f = .ok (kvP 0 ps, g.map nD) ∧ Lap S b g ∧ ps.length = cnt (at' g) S.length := by
  obtain ⟨s, e, ps, hk, hs⟩ := forI (f := f) (xs := enumD (S.map lnT)) (st := ([], [])) (fun i s => ∃ ps, Known S b i ps ∧ s = (kvP 0 ps, (List.range i).map fun j => nD (ps.idxOf (keyAt b S j))))
    ⟨[], ⟨fun _ h => by omega, fun _ h => by simp at h, rfl⟩, rfl⟩ fun i s x hx ⟨ps, hk, hs⟩ => by
      have hi : i < S.length := by
        have := (List.getElem?_eq_some_iff.mp hx).1
        rwa [enum_len, List.length_map] at this
      have hx' : x = .tuple [nD i, lnT (lnOf S i)] := by
        rw [enum_at (by simpa using hi)] at hx
        cases hx
        rw [List.getElem_map]
        have := lnOf_get hi
        rw [List.getElem?_eq_getElem hi] at this
        rw [Option.some.inj this]
      subst hx' hs
      obtain ⟨r1, r2⟩ := h.row hi
      have hps : ps.length < 1000 := by rw [hk.len]; have := cnt_n (keyAt b S) i; have := h.few; omega
      have hnew : keyAt b S i ∈ ps ↔ ¬ isF (keyAt b S) i = true := by
        rw [isF_iff]
        constructor
        · intro m q
          obtain ⟨j, hj, ej⟩ := hk.of _ m
          exact q j hj ej.symm
        · intro q
          apply Classical.byContradiction
          intro nm
          exact q fun j hj ej => nm (ej ▸ hk.there j hj)
      have pre : ∀ {r : R ((List (D × D)) × List D)}, ((setdefM (kvP 0 ps) [keyT (keyAt b S i), nD ps.length]).bind fun (z25, y26) => (pushM ((List.range i).map fun j => nD (ps.idxOf (keyAt b S j))) [z25]).bind fun (z27, y28) => R.ok (y26, y28)) = r → f (.tuple [nD i, lnT (lnOf S i)]) (kvP 0 ps, (List.range i).map fun j => nD (ps.idxOf (keyAt b S j))) = r := fun {r} hr => by
        rw [hf]
        exact bok (un2_t (nD i) (lnT (lnOf S i))) <| bok (item_nT (by omega)) <| bok (iter_t _) <| bok (line_keys hb r1 r2 _ fun i hi => item_nT (by omega)) <| bok (tuple_l _) <| bok (show flatR _ = .ok (nD ps.length) by show R.ok _ = _; rw [kvP_len]; rfl) <| hr
      have sd := setdef_ok ps (keyAt b S i) hps
      by_cases c : keyAt b S i ∈ ps
      · rw [if_pos c] at sd
        refine ⟨_, pre (bok sd <| bok (push1 _ _ (by simp; have := h.few; omega)) rfl), ps, ⟨fun j hj => ?_, fun p hp => ?_, ?_⟩, ?_⟩
        · by_cases q : j = i
          · subst q; exact c
          · exact hk.there j (by omega)
        · obtain ⟨j, hj, e⟩ := hk.of p hp
          exact ⟨j, by omega, e⟩
        · rw [cnt_succ, if_neg (hnew.mp c), hk.len]; rfl
        · rw [List.range_succ, List.map_append]; rfl
      · rw [if_neg c] at sd
        refine ⟨_, pre (bok sd <| bok (push1 _ _ (by simp; have := h.few; omega)) rfl), ps ++ [keyAt b S i], ⟨fun j hj => ?_, fun p hp => ?_, ?_⟩, ?_⟩
        · by_cases q : j = i
          · subst q; simp
          · exact List.mem_append_left _ (hk.there j (by omega))
        · rcases List.mem_append.mp hp with hp | hp
          · obtain ⟨j, hj, e⟩ := hk.of p hp
            exact ⟨j, by omega, e⟩
          · exact ⟨i, by omega, by simpa using hp⟩
        · rw [cnt_succ, if_pos (by have := (not_congr hnew).mp c; simpa using this), List.length_append, hk.len]; rfl
        · rw [List.range_succ, List.map_append]
          have e1 : ((List.range i).map fun j => nD (ps.idxOf (keyAt b S j))) = (List.range i).map fun j => nD ((ps ++ [keyAt b S i]).idxOf (keyAt b S j)) := by
            apply List.map_congr_left
            intro j hj
            rw [idx_app (hk.there j (List.mem_range.mp hj))]
          have e2 : (ps ++ [keyAt b S i]).idxOf (keyAt b S i) = ps.length := by rw [List.idxOf_append, if_neg c]; simp
          rw [e1]
          simp only [List.map_cons, List.map_nil, e2]
  rw [enum_len, List.length_map] at hk hs
  subst hs
  have inj : ∀ {p q : Nat × Ln}, p ∈ ps → q ∈ ps → ps.idxOf p = ps.idxOf q → p = q := fun {p q} hp hq e => by
    have a := List.getElem_idxOf (List.idxOf_lt_length_of_mem hp)
    have b := List.getElem_idxOf (List.idxOf_lt_length_of_mem hq)
    rw [← a, ← b]
    congr 1
  have key : ∀ i j, i < S.length → j < S.length → (at' ((List.range S.length).map fun j => ps.idxOf (keyAt b S j)) i = at' ((List.range S.length).map fun j => ps.idxOf (keyAt b S j)) j ↔ keyAt b S i = keyAt b S j) := fun i j hi hj => by
    rw [at_map hi, at_map hj]
    exact ⟨fun e => inj (hk.there i hi) (hk.there j hj) e, fun e => by rw [e]⟩
  refine ⟨ps, (List.range S.length).map fun j => ps.idxOf (keyAt b S j), by rw [e, List.map_map]; rfl, ⟨by simp, fun i j hi hj => ?_⟩, ?_⟩
  · rw [key i j hi hj]
    unfold keyAt
    rw [Prod.mk.injEq]
  · rw [hk.len]
    exact cnt_congr fun i j hi hj => (key i j hi hj).symm
/-- the program's blocks -/
structure Jb (S : List Ln) (m l : Nat) (b : List Nat) : Prop where
  len : b.length = S.length
  count : l = cnt (at' b) S.length
  coarse : ∀ R : Nat → Nat → Prop, Bis S R → ∀ i j, R i j → at' b i = at' b j
  few : m ≤ S.length
  done : l ≤ m → Parted S b
theorem at_rep {n i : Nat} : at' (List.replicate n 0) i = 0 := by
  unfold at'
  rw [List.getD_eq_getElem?_getD, List.getElem?_replicate]
  split <;> rfl
theorem cnt_zero {f : Nat → Nat} (h : ∀ i, f i = 0) : ∀ n, cnt f (n + 1) = 1
  | 0 => by rw [cnt_succ]; rfl
  | n + 1 => by
    rw [cnt_succ, cnt_zero h n, if_neg]
    rw [isF_iff]
    intro q
    exact q 0 (by omega) (by rw [h, h])
theorem rep_ok {S : List Ln} {w : Nat} (h : Good S w) : mul (PyData.tuple [(PyData.int 0)]) (.int (S.length : Int)) = .ok (nT (List.replicate S.length 0)) := by
  have hp := h.pos
  have hw := h.few
  have e : nT (List.replicate S.length 0) = .tuple (List.replicate S.length (.int 0)) := by unfold nT; rw [List.map_replicate]; rfl
  rw [e]
  unfold mul
  by_cases c : (S.length : Int) = 1
  · have : S.length = 1 := by omega
    rw [this]; rfl
  · have c1 : decide ((S.length : Int) = 1) = false := decide_eq_false c
    have c2 : decide (2 ≤ (S.length : Int)) = true := decide_eq_true (by omega)
    have c3 : decide (((([PyData.int 0] : List D).length : Int) * (S.length : Int)) ≤ 1000000) = true := decide_eq_true (by simp; omega)
    simp only [c1, Bool.false_eq_true, if_false]
    rw [if_pos (by rw [c2, c3]; rfl)]
    simp [repl]
theorem blocks_ok {S : List Ln} {w : Nat} (h : Good S w) : ∃ b, m_blocks_of (.tuple (S.map lnT)) = .ok (nT b) ∧ Parted S b := by
  unfold m_blocks_of
  have fin : ∀ {f : D × D × D → R (Wl (D × D × D))}, (∀ s6 : D × D × D, f s6 = ((gtD s6.2.1 s6.1).bind fun z9 =>
      if z9 = true then
      (iterL (.tuple (S.map lnT))).bind fun z10 =>
      (forS (enumD z10) (([] : List (D × D)), []) fun x11 s12 =>
      (un2 x11).bind fun (p14, p15) =>
      (item s6.2.2 p14).bind fun z16 =>
      (iter p15).bind fun z17 =>
      (compL z17 fun x18 =>
      (if (!isNone x18) = true then
      (item s6.2.2 x18).bind fun z19 =>
      R.ok z19
      else
      R.ok (PyData.int (-1)) : R D).bind fun z20 =>
      R.ok (some z20)).bind fun ys21 =>
      (tupleD (PyData.list ys21)).bind fun z22 =>
      (flatR ((lenD (PyData.dict s12.1)).bind fun z23 =>
      R.ok z23)).bind fun z24 =>
      (setdefM s12.1 [(PyData.tuple [z16, z22]), z24]).bind fun (z25, y26) =>
      (pushM s12.2 [z25]).bind fun (z27, y28) =>
      R.ok (y26, y28)).bind fun s13 =>
      (tupleD (PyData.list s13.2)).bind fun z29 =>
      (flatR ((lenD (PyData.dict s13.1)).bind fun z30 =>
      R.ok z30)).bind fun z31 =>
      (un2 (PyData.tuple [z29, z31])).bind fun (p32, p33) =>
      R.ok (.go (s6.2.1, p33, p32))
      else
      R.ok (.done (s6.1, s6.2.1, s6.2.2)))) → ∃ s' : D × D × D, whileT 100000 (nD 0, nD 1, nT (List.replicate S.length 0)) f = .ok (.nx s') ∧ ∃ b, s'.2.2 = nT b ∧ Parted S b := fun {f} hf => by
    refine while_ok (fun s => ∃ m l b, s = (nD m, nD l, nT b) ∧ Jb S m l b) (fun s => ∃ b, s.2.2 = nT b ∧ Parted S b) (fun s => match s.1 with | .int m => S.length + 1 - m.toNat | _ => 0) (fun s ⟨m, l, b, es, J⟩ => ?_) _ _ ⟨0, 1, _, rfl, ?_⟩ ?_
    · subst es
      rw [hf]
      by_cases c : m < l
      · obtain ⟨ps, g, e1, e2, e3⟩ := lap_ok h J.len (f := fun x11 s12 => (un2 x11).bind fun (p14, p15) =>
          (item (nT b) p14).bind fun z16 =>
          (iter p15).bind fun z17 =>
          (compL z17 fun x18 =>
          (if (!isNone x18) = true then
          (item (nT b) x18).bind fun z19 =>
          R.ok z19
          else
          R.ok (PyData.int (-1)) : R D).bind fun z20 =>
          R.ok (some z20)).bind fun ys21 =>
          (tupleD (PyData.list ys21)).bind fun z22 =>
          (flatR ((lenD (PyData.dict s12.1)).bind fun z23 =>
          R.ok z23)).bind fun z24 =>
          (setdefM s12.1 [(PyData.tuple [z16, z22]), z24]).bind fun (z25, y26) =>
          (pushM s12.2 [z25]).bind fun (z27, y28) =>
          R.ok (y26, y28)) fun _ _ => rfl
        refine .inl ⟨(nD l, nD (cnt (at' g) S.length), nT g), bokT (by show gtD (nD l) (nD m) = _; rw [gt_n, decide_eq_true c]) <| bok (iterL_t _) <| bok e1 <| bok (tuple_l _) <| bok (show flatR _ = .ok (nD ps.length) by show R.ok _ = _; rw [kvP_len]; rfl) <| bok (un2_t _ _) ?_, ⟨l, _, g, rfl, ⟨e2.len, rfl, e2.coarse J.coarse, ?_, fun q => ?_⟩⟩, ?_⟩
        · rw [e3]; rfl
        · rw [J.count]; exact cnt_n _ _
        · exact e2.parted h.inn (by rw [← J.count]; exact q) J.coarse
        · have := J.few
          have : l ≤ S.length := by rw [J.count]; exact cnt_n _ _
          show S.length + 1 - (l : Int).toNat < S.length + 1 - (m : Int).toNat
          omega
      · exact .inr ⟨_, bokF (by show gtD (nD l) (nD m) = _; rw [gt_n, decide_eq_false c]) rfl, b, rfl, J.done (by omega)⟩
    · have hp := h.pos
      refine ⟨by simp, ?_, fun R hR i j r => by rw [at_rep, at_rep], Nat.zero_le _, fun q => by omega⟩
      obtain ⟨k, hk⟩ : ∃ k, S.length = k + 1 := ⟨S.length - 1, by omega⟩
      rw [hk, cnt_zero fun _ => at_rep]
    · have := h.few
      show S.length + 1 - (0 : Int).toNat < 100000
      omega
  obtain ⟨s', e1, b, e2, e3⟩ := fin fun _ => rfl
  refine ⟨b, bok (len_t _) <| bok (by rw [List.length_map]; exact rep_ok h) <| bok (un3_t _ _ _) <| bok e1 ?_, e3⟩
  show R.ok s'.2.2 = _
  rw [e2]
end K48

set_option autoImplicit false
set_option linter.all false
set_option maxRecDepth 100000
namespace K48
open PySem L2 Z
/-! ### the law's parts -/
theorem keyF_str {d : D} {k : L2.Key} : keyF d = some k → d = keyD k := by
  intro h
  cases d <;> simp only [keyF, Option.some.injEq] at h <;> first | (subst h; rfl) | cases h
theorem fget_set {kvs : List (D × D)} {k j : L2.Key} {v : D} : fGet (fSet kvs (keyD k) k v) j = if k = j then some v else fGet kvs j := by
  unfold fSet
  by_cases h : (fGet kvs k).isSome = true
  · rw [if_pos h]
    unfold fGet at h ⊢
    induction kvs with
    | nil => simp at h
    | cons p kvs ih =>
      rw [List.map_cons, List.find?_cons]
      by_cases c : keyF p.1 = some k
      · rw [if_pos c]
        by_cases e : k = j
        · subst e; rw [decide_eq_true c, if_pos rfl]; rfl
        · rw [if_neg e]
          have c2 : ¬ keyF p.1 = some j := fun q => e (by rw [c] at q; exact Option.some.inj q)
          rw [decide_eq_false (show ¬ keyF (p.1, v).1 = some j from c2)]
          rw [List.find?_cons, decide_eq_false c2]
          -- the rest: keys equal to k are changed, none of them is j
          clear h ih
          induction kvs with
          | nil => rfl
          | cons q kvs ih2 =>
            rw [List.map_cons, List.find?_cons, List.find?_cons]
            by_cases cq : keyF q.1 = some k
            · rw [if_pos cq]
              have c3 : ¬ keyF q.1 = some j := fun z => e (by rw [cq] at z; exact Option.some.inj z)
              rw [decide_eq_false (show ¬ keyF (q.1, v).1 = some j from c3)]
              try rw [decide_eq_false c3]
              exact ih2
            · rw [if_neg cq]
              by_cases c3 : keyF q.1 = some j
              · rw [decide_eq_true c3]
              · rw [decide_eq_false c3]; exact ih2
      · rw [if_neg c]
        rw [List.find?_cons, decide_eq_false c] at h
        by_cases e : keyF p.1 = some j
        · rw [decide_eq_true e]
          have : ¬ k = j := fun q => c (by rw [q]; exact e)
          rw [if_neg this, List.find?_cons, decide_eq_true e]
        · rw [decide_eq_false e, List.find?_cons, decide_eq_false e]
          exact ih h
  · rw [if_neg h]
    unfold fGet at h ⊢
    rw [List.find?_append]
    have h' : kvs.find? (fun p => decide (keyF p.1 = some k)) = none := by simpa using h
    by_cases e : k = j
    · subst e
      rw [h', if_pos rfl]
      simp [keyF_keyD]
    · rw [if_neg e]
      have : ¬ keyF (keyD k) = some j := fun q => e (by rw [keyF_keyD] at q; exact Option.some.inj q)
      simp [this]
theorem fset_len {kvs : List (D × D)} {k : L2.Key} {v : D} : (fSet kvs (keyD k) k v).length = if (fGet kvs k).isSome = true then kvs.length else kvs.length + 1 := by
  unfold fSet
  split <;> simp
theorem fMerge_app : ∀ (xs ys : List (D × L2.Key × D)) (acc : List (D × D)), fMerge acc (xs ++ ys) = fMerge (fMerge acc xs) ys
  | [], _, _ => rfl
  | (_, _, _) :: xs, ys, acc => fMerge_app xs ys _
def qK (k : Nat) : D × L2.Key × D := (nD k, .inl (k : Int), .int 0)
theorem merge_cnt (f : Nat → Nat) : ∀ i, (fMerge [] ((List.range i).map fun j => qK (f j))).length = cnt f i ∧ ∀ k : Nat, (fGet (fMerge [] ((List.range i).map fun j => qK (f j))) (.inl (k : Int))).isSome = true ↔ ∃ j, j < i ∧ f j = k
  | 0 => ⟨rfl, fun k => by simp [fMerge, fGet]⟩
  | i + 1 => by
    obtain ⟨h1, h2⟩ := merge_cnt f i
    rw [List.range_succ, List.map_append, fMerge_app]
    show (fSet _ (keyD (.inl (f i : Int))) (.inl (f i : Int)) (.int 0)).length = _ ∧ ∀ k : Nat, (fGet (fSet _ (keyD (.inl (f i : Int))) (.inl (f i : Int)) (.int 0)) (.inl (k : Int))).isSome = true ↔ _
    constructor
    · rw [fset_len, h1, cnt_succ]
      by_cases c : isF f i = true
      · rw [if_pos c, if_neg]
        rw [h2]
        intro ⟨j, hj, e⟩
        exact isF_iff.mp c j hj e
      · rw [if_neg c, if_pos]
        · rfl
        · rw [h2]
          apply Classical.byContradiction
          intro q
          exact c (isF_iff.mpr fun j hj e => q ⟨j, hj, e⟩)
    · intro k
      rw [fget_set]
      by_cases c : f i = k
      · subst c
        simp only [if_true, Option.isSome_some, true_iff]
        exact ⟨i, by omega, rfl⟩
      · have : ¬ ((Sum.inl (f i : Int) : L2.Key) = Sum.inl (k : Int)) := fun e => c (by injection e with e; omega)
        rw [if_neg this, h2]
        exact ⟨fun ⟨j, hj, e⟩ => ⟨j, by omega, e⟩, fun ⟨j, hj, e⟩ => ⟨j, by
          have : j ≠ i := fun q => c (by rw [← q]; exact e)
          omega, e⟩⟩
theorem pairsF_n : ∀ b : List Nat, pairsF (b.map fun k => .tuple [nD k, .int 0]) = some (b.map qK)
  | [] => rfl
  | k :: b => by
    simp only [List.map_cons, pairsF, nD, keyF]
    have := pairsF_n b
    unfold nD at this
    rw [this]; rfl
theorem list_range (b : List Nat) : b = (List.range b.length).map (at' b) := by
  apply List.ext_getElem?
  intro i
  by_cases h : i < b.length
  · rw [at_get h, List.getElem?_map, List.getElem?_range h]; rfl
  · rw [List.getElem?_eq_none (by omega), List.getElem?_eq_none (by simp; omega)]
/-- how many values there are -/
theorem many_ok {b : List Nat} (h0 : 0 < b.length) (hl : b.length < 100) : ∃ kvs : List (D × D), dictL (.list (b.map fun k => .tuple [nD k, .int 0])) = .ok (.dict kvs) ∧ kvs.length = cnt (at' b) b.length := by
  refine ⟨fMerge [] (b.map qK), ?_, ?_⟩
  · unfold dictL
    cases b with
    | nil => simp at h0
    | cons k b =>
      have e := pairsF_n (k :: b)
      have e' : pairsK ((k :: b).map fun k => PyData.tuple [nD k, .int 0]) = none := rfl
      simp only [e', e]
      rw [if_pos (by unfold szOk; simp at hl ⊢; omega)]
  · have := (merge_cnt (at' b) b.length).1
    rw [← this]
    conv => lhs; rw [list_range b]
    rw [List.map_map]; rfl
def keyL (p : Nat × Ln) : D := .tuple [nD p.1, .list (p.2.map eD)]
theorem eqv_e (a b : Option Nat) : PyData.eqv (eD a) (eD b) = decide (a = b) := by
  have : ∀ o, ∃ i, eD o = .int i := fun o => by cases o <;> exact ⟨_, rfl⟩
  obtain ⟨i, ei⟩ := this a
  obtain ⟨j, ej⟩ := this b
  rw [ei, ej, eqv_i, decide_eq_decide]
  exact ⟨fun e => eD_inj (by rw [ei, ej, e]), fun e => by subst e; rw [ei] at ej; injection ej⟩
theorem eqv_es : ∀ u v : Ln, PyData.eqvAll (u.map eD) (v.map eD) = decide (u = v)
  | [], [] => by simp [PyData.eqvAll]
  | [], _ :: _ => by simp [PyData.eqvAll]
  | _ :: _, [] => by simp [PyData.eqvAll]
  | a :: u, b :: v => by
    simp only [List.map_cons, PyData.eqvAll, eqv_e, eqv_es u v, List.cons.injEq]
    by_cases c : a = b <;> by_cases d : u = v <;> simp [c, d]
theorem eqv_key (p q : Nat × Ln) : PyData.eqv (keyL p) (keyL q) = decide (p = q) := by
  unfold keyL nD
  simp only [PyData.eqv, PyData.eqvAll, eqv_es]
  obtain ⟨a, u⟩ := p
  obtain ⟨b, v⟩ := q
  have e : ((a : Int) = (b : Int)) ↔ a = b := by omega
  by_cases c : a = b <;> by_cases d : u = v <;> simp [c, d, e]
theorem okL : ∀ ps : List (Nat × Ln), PyData.plainAll (ps.map keyL) = true ∧ PyData.depthAll (ps.map keyL) ≤ 5 := by
  have e : ∀ l : Ln, PyData.plainAll (l.map eD) = true ∧ PyData.depthAll (l.map eD) = 0 := fun l => by
    induction l with
    | nil => exact ⟨rfl, by simp [PyData.depthAll]⟩
    | cons o l ih => cases o <;> simp [eD, nD, PyData.plainAll, PyData.plain, PyData.depthAll, PyData.depth, ih.1, ih.2]
  intro ps
  induction ps with
  | nil => exact ⟨rfl, by simp [PyData.depthAll]⟩
  | cons p ps ih =>
    obtain ⟨e1, e2⟩ := e p.2
    refine ⟨by simp [PyData.plainAll, keyL, nD, PyData.plain, ih.1, e1], ?_⟩
    simp only [List.map_cons, PyData.depthAll]
    have : (keyL p).depth ≤ 5 := by simp [keyL, nD, PyData.depth, PyData.depthAll, e2]
    have := ih.2
    omega
theorem findIdx_key (p : Nat × Ln) : ∀ ps : List (Nat × Ln), p ∈ ps → (ps.map keyL).findIdx? (fun z => PyData.eqv z (keyL p)) = some (ps.idxOf p)
  | [], h => by simp at h
  | q :: ps, h => by
    rw [List.map_cons, List.findIdx?_cons, eqv_key, List.idxOf_cons]
    by_cases c : q = p
    · simp [c]
    · have : (q == p) = false := by simpa using c
      rw [decide_eq_false c, this]
      rcases List.mem_cons.mp h with e | e
      · exact absurd e.symm c
      · simp [findIdx_key p ps e]
theorem index_key {ps : List (Nat × Ln)} {p : Nat × Ln} (h : p ∈ ps) : indexD (.list (ps.map keyL)) [keyL p] = .ok (nD (ps.idxOf p)) := by
  obtain ⟨a, b⟩ := okL ps
  obtain ⟨c, d⟩ := okL [p]
  simp only [List.map_cons, List.map_nil, PyData.plainAll, PyData.depthAll, Bool.and_true] at c d
  unfold indexD
  have h1 : okD (.list (ps.map keyL)) = true := by
    unfold okD
    rw [show (PyData.list (ps.map keyL)).plain = true by simpa [PyData.plain] using a, decide_eq_true (by simp only [PyData.depth]; omega)]; rfl
  have h2 : okD (keyL p) = true := by
    unfold okD
    rw [c, decide_eq_true (by omega)]; rfl
  show (if (okD (.list (ps.map keyL)) && okD (keyL p)) = true then _ else _) = _
  rw [h1, h2]
  simp only [Bool.and_self, if_true, findIdx_key p ps h]
  rfl
end K48

set_option autoImplicit false
set_option linter.all false
set_option maxRecDepth 100000
namespace K48
open PySem L2 Z
/-- each part is told by its least state -/
def Lst (b : List Nat) : Prop := ∀ i, i < b.length → at' b i < b.length ∧ at' b (at' b i) = at' b i
structure Jl (S : List Ln) (m : Nat) (b : List Nat) : Prop where
  len : b.length = S.length
  coarse : ∀ R : Nat → Nat → Prop, Bis S R → ∀ i j, R i j → at' b i = at' b j
  few : m ≤ S.length
  done : cnt (at' b) S.length ≤ m → Parted S b
  lst : 0 < m → Lst b
/-- one lap of the law -/
theorem llap_ok {S : List Ln} {w : Nat} (h : Good S w) {b : List Nat} (hb : b.length = S.length) : ∃ g : List Nat, Lap S b g ∧ Lst g ∧ ∀ r : List D → R (Wl (D × D)), ((compL (enumD (S.map lnL)) fun x20 =>
    (un2 x20).bind fun (p21, p22) =>
    (item (nL b) p21).bind fun z23 =>
    (iter p22).bind fun z24 =>
    (compL z24 fun x25 =>
    (if (!isNone x25) = true then
    (item (nL b) x25).bind fun z26 =>
    R.ok z26
    else
    R.ok (PyData.int (-1)) : R D).bind fun z27 =>
    R.ok (some z27)).bind fun ys28 =>
    R.ok (some (PyData.tuple [z23, (PyData.list ys28)]))).bind fun ys29 =>
    (iter (PyData.list ys29)).bind fun z30 =>
    (compL z30 fun x31 =>
    (shapeR isLstD (PyData.list ys29)).bind fun _ =>
    (indexD (PyData.list ys29) [x31]).bind fun z32 =>
    R.ok (some z32)).bind r) = r (g.map nD) := by
  have few := h.few
  let ks := (List.range S.length).map (keyAt b S)
  have hks : ∀ i, i < S.length → keyAt b S i ∈ ks := fun i hi => List.mem_map.mpr ⟨i, List.mem_range.mpr hi, rfl⟩
  let g := (List.range S.length).map fun i => ks.idxOf (keyAt b S i)
  have hlt : ∀ i, i < S.length → ks.idxOf (keyAt b S i) < S.length := fun i hi => by
    have := List.idxOf_lt_length_of_mem (hks i hi)
    simpa [ks] using this
  have hat : ∀ i, i < S.length → at' g i = ks.idxOf (keyAt b S i) := fun i hi => at_map hi
  have hkey : ∀ i (hi : i < S.length), keyAt b S (ks.idxOf (keyAt b S i)) = keyAt b S i := fun i hi => by
    have a : ((List.range S.length).map (keyAt b S))[ks.idxOf (keyAt b S i)]'(by simpa using hlt i hi) = keyAt b S i := List.getElem_idxOf (List.idxOf_lt_length_of_mem (hks i hi))
    rw [List.getElem_map, List.getElem_range] at a
    exact a
  refine ⟨g, ⟨by simp [g], fun i j hi hj => ?_⟩, fun i hi => ?_, fun r => ?_⟩
  · rw [hat i hi, hat j hj]
    have : (ks.idxOf (keyAt b S i) = ks.idxOf (keyAt b S j)) ↔ keyAt b S i = keyAt b S j := ⟨fun e => by rw [← hkey i hi, e, hkey j hj], fun e => by rw [e]⟩
    rw [this]
    unfold keyAt
    rw [Prod.mk.injEq]
  · have hi : i < S.length := by simpa [g] using hi
    rw [hat i hi]
    refine ⟨by simpa [g] using hlt i hi, ?_⟩
    rw [hat _ (hlt i hi), hkey i hi]
  · have e1 : (compL (enumD (S.map lnL)) fun x20 =>
        (un2 x20).bind fun (p21, p22) =>
        (item (nL b) p21).bind fun z23 =>
        (iter p22).bind fun z24 =>
        (compL z24 fun x25 =>
        (if (!isNone x25) = true then
        (item (nL b) x25).bind fun z26 =>
        R.ok z26
        else
        R.ok (PyData.int (-1)) : R D).bind fun z27 =>
        R.ok (some z27)).bind fun ys28 =>
        R.ok (some (PyData.tuple [z23, (PyData.list ys28)]))) = .ok (ks.map keyL) := by
      rw [compE (g := fun i => some (keyL (keyAt b S i))) (by simp; omega) fun i hi => by
        have hi' : i < S.length := by simpa using hi
        obtain ⟨r1, r2⟩ := h.row hi'
        have : (S.map lnL)[i] = lnL (lnOf S i) := by
          rw [List.getElem_map]
          have := lnOf_get hi'
          rw [List.getElem?_eq_getElem hi'] at this
          rw [Option.some.inj this]
        rw [this]
        exact bok (un2_t _ _) <| bok (item_nL (by omega)) <| bok (iter_l _) <| bok (line_keys hb r1 r2 _ fun i hi => item_nL (by omega)) rfl]
      rw [List.length_map, List.map_map]
      congr 1
      rw [← List.filterMap_eq_map]; rfl
    refine bok e1 <| bok (iter_l _) <| bok (a := g.map nD) ?_ rfl
    have := compL_all (f := fun x31 => (shapeR isLstD (PyData.list (ks.map keyL))).bind fun _ => (indexD (PyData.list (ks.map keyL)) [x31]).bind fun z32 => R.ok (some z32)) (g := fun i => keyL (keyAt b S i)) (h := fun i => nD (ks.idxOf (keyAt b S i))) (xs := List.range S.length) (by simp; omega) fun i hi => by
      exact bok (show shapeR isLstD _ = .ok () from rfl) <| bok (index_key (hks i (List.mem_range.mp hi))) rfl
    have e2 : ks.map keyL = (List.range S.length).map fun i => keyL (keyAt b S i) := by simp only [ks, List.map_map]; rfl
    rw [← e2] at this
    rw [this]
    simp only [g, List.map_map]; rfl
theorem repL_ok {n : Nat} (h : n < 100) : mul (PyData.list [(PyData.int 0)]) (.int (n : Int)) = .ok (nL (List.replicate n 0)) := by
  have e : nL (List.replicate n 0) = .list (List.replicate n (.int 0)) := by unfold nL; rw [List.map_replicate]; rfl
  rw [e]
  unfold mul
  have c1 : decide (-(2 ^ 63) ≤ (n : Int)) = true := decide_eq_true (by omega)
  have c2 : decide ((n : Int) < 2 ^ 63) = true := decide_eq_true (by omega)
  have c3 : szOk (([PyData.int 0] : List D).length * (n : Int).toNat) = true := by unfold szOk; exact decide_eq_true (by simp; omega)
  show (if (decide (-(2 ^ 63) ≤ (n : Int)) && decide ((n : Int) < 2 ^ 63) && szOk (([PyData.int 0] : List D).length * (n : Int).toNat)) = true then _ else _) = _
  rw [c1, c2, c3]
  simp [repl]
/-- the law's parts -/
theorem parts_ok {S : List Ln} {w : Nat} (h : Good S w) : ∃ b, m__law_parts (.list (S.map lnL)) = .ok (nL b) ∧ Parted S b ∧ Lst b := by
  have few := h.few
  have hp := h.pos
  unfold m__law_parts
  have fin : ∀ {f : D × D → R (Wl (D × D))}, (∀ s5 : D × D, f s5 = ((iter s5.1).bind fun z8 =>
      (compL z8 fun x9 =>
      R.ok (some (PyData.tuple [x9, (PyData.int 0)]))).bind fun ys10 =>
      (dictL (PyData.list ys10)).bind fun z11 =>
      (lenD z11).bind fun z12 =>
      (gtD z12 s5.2).bind fun z13 =>
      if z13 = true then
      (iter s5.1).bind fun z14 =>
      (compL z14 fun x15 =>
      R.ok (some (PyData.tuple [x15, (PyData.int 0)]))).bind fun ys16 =>
      (dictL (PyData.list ys16)).bind fun z17 =>
      (lenD z17).bind fun z18 =>
      (iterL (.list (S.map lnL))).bind fun z19 =>
      (compL (enumD z19) fun x20 =>
      (un2 x20).bind fun (p21, p22) =>
      (item s5.1 p21).bind fun z23 =>
      (iter p22).bind fun z24 =>
      (compL z24 fun x25 =>
      (if (!isNone x25) = true then
      (item s5.1 x25).bind fun z26 =>
      R.ok z26
      else
      R.ok (PyData.int (-1)) : R D).bind fun z27 =>
      R.ok (some z27)).bind fun ys28 =>
      R.ok (some (PyData.tuple [z23, (PyData.list ys28)]))).bind fun ys29 =>
      (iter (PyData.list ys29)).bind fun z30 =>
      (compL z30 fun x31 =>
      (shapeR isLstD (PyData.list ys29)).bind fun _ =>
      (indexD (PyData.list ys29) [x31]).bind fun z32 =>
      R.ok (some z32)).bind fun ys33 =>
      R.ok (.go ((PyData.list ys33), z18))
      else
      R.ok (.done (s5.1, s5.2)))) → ∃ s' : D × D, whileT 100000 (nL (List.replicate S.length 0), nD 0) f = .ok (.nx s') ∧ ∃ b, s'.1 = nL b ∧ Parted S b ∧ Lst b := fun {f} hf => by
    refine while_ok (fun s => ∃ m b, s = (nL b, nD m) ∧ Jl S m b) (fun s => ∃ b, s.1 = nL b ∧ Parted S b ∧ Lst b) (fun s => match s.2 with | .int m => S.length + 1 - m.toNat | _ => 0) (fun s ⟨m, b, es, J⟩ => ?_) _ _ ⟨0, _, rfl, ?_⟩ ?_
    · subst es
      rw [hf]
      obtain ⟨kvs, k1, k2⟩ := many_ok (b := b) (by rw [J.len]; exact hp) (by rw [J.len]; exact few)
      rw [J.len] at k2
      have kc : (compL (b.map nD) fun x9 => R.ok (some (PyData.tuple [x9, (PyData.int 0)]))) = .ok (b.map fun k => .tuple [nD k, .int 0]) := compL_all (by have := J.len; omega) fun _ _ => rfl
      have kl : lenD (.dict kvs) = .ok (nD (cnt (at' b) S.length)) := by show R.ok _ = _; rw [k2]; rfl
      by_cases c : m < cnt (at' b) S.length
      · obtain ⟨g, g1, g2, g3⟩ := llap_ok h J.len
        refine .inl ⟨(nL g, nD (cnt (at' b) S.length)), bok (iter_l _) <| bok kc <| bok k1 <| bok kl <| bokT (by show gtD _ (nD m) = _; rw [gt_n, decide_eq_true c]) <| bok (iter_l _) <| bok kc <| bok k1 <| bok kl <| bok (iterL_l _) <| g3 _, ⟨_, g, rfl, ⟨g1.len, g1.coarse J.coarse, cnt_n _ _, fun q => g1.parted h.inn q J.coarse, fun _ => g2⟩⟩, ?_⟩
        have := J.few
        have : cnt (at' b) S.length ≤ S.length := cnt_n _ _
        show S.length + 1 - ((cnt (at' b) S.length : Nat) : Int).toNat < S.length + 1 - (m : Int).toNat
        omega
      · refine .inr ⟨_, bok (iter_l _) <| bok kc <| bok k1 <| bok kl <| bokF (by show gtD _ (nD m) = _; rw [gt_n, decide_eq_false c]) rfl, b, rfl, J.done (by omega), J.lst ?_⟩
        obtain ⟨k, hk⟩ : ∃ k, S.length = k + 1 := ⟨S.length - 1, by omega⟩
        have : 0 < cnt (at' b) S.length := by
          have h1 : cnt (at' b) 1 = 1 := by rw [cnt_succ]; rfl
          have mono : ∀ a b' : Nat, cnt (at' b) a ≤ cnt (at' b) (a + b') := fun a b' => by
            induction b' with
            | zero => exact Nat.le_refl _
            | succ b' ih => rw [← Nat.add_assoc, cnt_succ]; omega
          have := mono 1 k
          rw [hk, Nat.add_comm]; omega
        omega
    · refine ⟨by simp, fun R hR i j r => by rw [at_rep, at_rep], Nat.zero_le _, fun q => ?_, fun q => by omega⟩
      obtain ⟨k, hk⟩ : ∃ k, S.length = k + 1 := ⟨S.length - 1, by omega⟩
      rw [hk, cnt_zero fun _ => at_rep] at q
      omega
    · show S.length + 1 - (0 : Int).toNat < 100000
      omega
  obtain ⟨s', e1, b, e2, e3⟩ := fin fun _ => rfl
  refine ⟨b, bok (len_l _) <| bok (by rw [List.length_map]; exact repL_ok few) <| bok (un2_t _ _) <| bok e1 ?_, e3⟩
  show R.ok s'.1 = _
  rw [e2]
end K48

set_option autoImplicit false
set_option linter.all false
set_option maxRecDepth 100000
namespace K48
open PySem L2 Z
/-! ### what is come to -/
def addK (κ : Nat → Nat) (line : List Nat) : Option Nat → List Nat
  | some y => if κ y ∈ line.map κ then line else line ++ [y]
  | none => line
def addO (κ : Nat → Nat) (line : List Nat) (os : List (Option Nat)) : List Nat := os.foldl (addK κ) line
inductive Wk (κ : Nat → Nat) (succ : Nat → List (Option Nat)) : Nat → List Nat → List Nat → Prop
  | stop {k : Nat} {line : List Nat} : ¬ k < line.length → Wk κ succ k line line
  | go {k : Nat} {line L : List Nat} : k < line.length → Wk κ succ (k + 1) (addO κ line (succ (at' line k))) L → Wk κ succ k line L
/-- a line of states: unlike keys, all there -/
structure Ok1 (κ : Nat → Nat) (n : Nat) (line : List Nat) : Prop where
  nd : (line.map κ).Nodup
  lt : ∀ x ∈ line, x < n
theorem nodup_of_map {κ : Nat → Nat} : ∀ {l : List Nat}, (l.map κ).Nodup → l.Nodup
  | [], _ => List.nodup_nil
  | a :: l, h => by
    rw [List.map_cons, List.nodup_cons] at h
    rw [List.nodup_cons]
    exact ⟨fun q => h.1 (List.mem_map.mpr ⟨a, q, rfl⟩), nodup_of_map h.2⟩
theorem Ok1.nodup {κ : Nat → Nat} {n : Nat} {line : List Nat} (h : Ok1 κ n line) : line.Nodup := nodup_of_map h.nd
theorem Ok1.len {κ : Nat → Nat} {n : Nat} {line : List Nat} (h : Ok1 κ n line) : line.length ≤ n := nodup_lt n line h.nodup h.lt
theorem Ok1.add1 {κ : Nat → Nat} {n : Nat} {line : List Nat} (h : Ok1 κ n line) {o : Option Nat} (ho : ∀ y, o = some y → y < n) : Ok1 κ n (addK κ line o) := by
  cases o with
  | none => exact h
  | some y =>
    show Ok1 κ n (if κ y ∈ line.map κ then line else line ++ [y])
    split
    · exact h
    · rename_i c
      refine ⟨?_, fun x hx => ?_⟩
      · rw [List.map_append, List.nodup_append]
        refine ⟨h.nd, by simp, fun a ha b hb e => ?_⟩
        rw [List.map_singleton, List.mem_singleton] at hb
        subst hb
        exact c (e ▸ ha)
      · rcases List.mem_append.mp hx with q | q
        · exact h.lt x q
        · rw [List.mem_singleton] at q; rw [q]; exact ho y rfl
theorem Ok1.adds {κ : Nat → Nat} {n : Nat} : ∀ {os : List (Option Nat)} {line : List Nat}, Ok1 κ n line → (∀ o ∈ os, ∀ y, o = some y → y < n) → Ok1 κ n (addO κ line os)
  | [], _, h, _ => h
  | o :: os, line, h, ho => Ok1.adds (os := os) (line := addK κ line o) (h.add1 fun y e => ho o (by simp) y e) fun o' h' => ho o' (by simp [h'])
theorem add1_pre (κ : Nat → Nat) (line : List Nat) (o : Option Nat) : ∃ t, addK κ line o = line ++ t := by
  cases o with
  | none => exact ⟨[], by simp [addK]⟩
  | some y =>
    by_cases c : κ y ∈ line.map κ
    · exact ⟨[], by simp [addK, c]⟩
    · exact ⟨[y], by simp [addK, c]⟩
theorem adds_pre (κ : Nat → Nat) : ∀ (os : List (Option Nat)) (line : List Nat), ∃ t, addO κ line os = line ++ t
  | [], line => ⟨[], by simp [addO]⟩
  | o :: os, line => by
    obtain ⟨t, e⟩ := add1_pre κ line o
    obtain ⟨u, e2⟩ := adds_pre κ os (addK κ line o)
    exact ⟨t ++ u, by show addO κ (addK κ line o) os = _; rw [e2, e, List.append_assoc]⟩
theorem adds_in (κ : Nat → Nat) : ∀ (os : List (Option Nat)) (line : List Nat), ∀ y, some y ∈ os → κ y ∈ (addO κ line os).map κ
  | [], _, y, h => by simp at h
  | o :: os, line, y, h => by
    rcases List.mem_cons.mp h with e | e
    · subst e
      obtain ⟨t, et⟩ := adds_pre κ os (addK κ line (some y))
      show κ y ∈ (addO κ (addK κ line (some y)) os).map κ
      rw [et, List.map_append]
      refine List.mem_append_left _ ?_
      by_cases c : κ y ∈ line.map κ
      · simpa [addK, c] using c
      · simp [addK, c]
    · exact adds_in κ os (addK κ line o) y e
section
variable {κ : Nat → Nat} {succ : Nat → List (Option Nat)}
theorem Wk.det : ∀ {k : Nat} {line L L' : List Nat}, Wk κ succ k line L → Wk κ succ k line L' → L = L' := by
  intro k line L L' h
  induction h with
  | stop c => intro h'; cases h' with
    | stop _ => rfl
    | go c' _ => exact absurd c' c
  | go c _ ih => intro h'; cases h' with
    | stop c' => exact absurd c c'
    | go _ h2 => exact ih h2
theorem Wk.pre {k : Nat} {line L : List Nat} (h : Wk κ succ k line L) : ∃ t, L = line ++ t := by
  induction h with
  | stop _ => exact ⟨[], by simp⟩
  | go c _ ih =>
    rename_i k line L h2
    obtain ⟨t, e⟩ := ih
    obtain ⟨u, e2⟩ := adds_pre κ (succ (at' line k)) line
    exact ⟨u ++ t, by rw [e, e2, List.append_assoc]⟩
theorem Wk.ok {n : Nat} (hs : ∀ x, x < n → ∀ o ∈ succ x, ∀ y, o = some y → y < n) {k : Nat} {line L : List Nat} (h : Wk κ succ k line L) : Ok1 κ n line → Ok1 κ n L := by
  induction h with
  | stop _ => exact id
  | go c _ ih =>
    rename_i k line L h2
    intro o1
    exact ih (o1.adds (hs _ (o1.lt _ (List.mem_of_getElem? (at_get c)))))
/-- all that is led to is come to -/
theorem Wk.closed {k : Nat} {line L : List Nat} (h : Wk κ succ k line L) : (∀ i, i < k → ∀ y, some y ∈ succ (at' line i) → κ y ∈ line.map κ) → k ≤ line.length → ∀ x ∈ L, ∀ y, some y ∈ succ x → κ y ∈ L.map κ := by
  induction h with
  | stop c =>
    rename_i k line
    intro hd hk x hx y hy
    obtain ⟨i, hi, e⟩ := List.getElem_of_mem hx
    have : at' line i = x := by have := at_get hi; rw [List.getElem?_eq_getElem hi, e] at this; exact (Option.some.inj this).symm
    exact hd i (by omega) y (by rw [this]; exact hy)
  | go c _ ih =>
    rename_i k line L h2
    intro hd hk
    obtain ⟨t, et⟩ := adds_pre κ (succ (at' line k)) line
    have at_pre : ∀ i, i < line.length → at' (addO κ line (succ (at' line k))) i = at' line i := fun i hi => by
      rw [et]
      unfold at'
      rw [List.getD_eq_getElem?_getD, List.getD_eq_getElem?_getD, List.getElem?_append_left hi]
    refine ih (fun i hi y hy => ?_) (by rw [et, List.length_append]; omega)
    by_cases q : i = k
    · subst q
      rw [at_pre i c] at hy
      exact adds_in κ _ line y hy
    · rw [at_pre i (by omega)] at hy
      rw [et, List.map_append]
      exact List.mem_append_left _ (hd i (by omega) y hy)
end
/-- the same walk, led over by a map of states -/
theorem addK_map {κ κ' φ : Nat → Nat} {X : Nat → Prop} (hk : ∀ x y, X x → X y → (κ' (φ x) = κ' (φ y) ↔ κ x = κ y)) {line : List Nat} (hl : ∀ x ∈ line, X x) {o : Option Nat} (ho : ∀ y, o = some y → X y) : addK κ' (line.map φ) (o.map φ) = (addK κ line o).map φ := by
  cases o with
  | none => rfl
  | some y =>
    have hy := ho y rfl
    have : κ' (φ y) ∈ (line.map φ).map κ' ↔ κ y ∈ line.map κ := by
      rw [List.map_map, List.mem_map, List.mem_map]
      exact ⟨fun ⟨x, hx, e⟩ => ⟨x, hx, (hk x y (hl x hx) hy).mp e⟩, fun ⟨x, hx, e⟩ => ⟨x, hx, (hk x y (hl x hx) hy).mpr e⟩⟩
    show (if κ' (φ y) ∈ (line.map φ).map κ' then line.map φ else line.map φ ++ [φ y]) = (if κ y ∈ line.map κ then line else line ++ [y]).map φ
    by_cases c : κ y ∈ line.map κ
    · rw [if_pos c, if_pos (this.mpr c)]
    · rw [if_neg c, if_neg (fun q => c (this.mp q))]; simp
theorem addO_map {κ κ' φ : Nat → Nat} {X : Nat → Prop} (hk : ∀ x y, X x → X y → (κ' (φ x) = κ' (φ y) ↔ κ x = κ y)) : ∀ {os : List (Option Nat)} {line : List Nat}, (∀ x ∈ line, X x) → (∀ o ∈ os, ∀ y, o = some y → X y) → addO κ' (line.map φ) (os.map (Option.map φ)) = (addO κ line os).map φ
  | [], _, _, _ => rfl
  | o :: os, line, hl, ho => by
    show addO κ' (addK κ' (line.map φ) (o.map φ)) (os.map (Option.map φ)) = (addO κ (addK κ line o) os).map φ
    rw [addK_map hk hl (ho o (by simp))]
    refine addO_map hk (fun x hx => ?_) fun o' h' => ho o' (by simp [h'])
    cases o with
    | none => exact hl x hx
    | some y =>
      have hx : x ∈ (if κ y ∈ line.map κ then line else line ++ [y]) := hx
      split at hx
      · exact hl x hx
      · rcases List.mem_append.mp hx with q | q
        · exact hl x q
        · rw [List.mem_singleton] at q; rw [q]; exact ho _ (by simp) y rfl
theorem Wk.map {κ κ' φ : Nat → Nat} {X : Nat → Prop} {succ succ' : Nat → List (Option Nat)} (hk : ∀ x y, X x → X y → (κ' (φ x) = κ' (φ y) ↔ κ x = κ y)) (hs : ∀ x, X x → succ' (φ x) = (succ x).map (Option.map φ)) (hX : ∀ x, X x → ∀ o ∈ succ x, ∀ y, o = some y → X y)
    {k : Nat} {line L : List Nat} (h : Wk κ succ k line L) : (∀ x ∈ line, X x) → Wk κ' succ' k (line.map φ) (L.map φ) := by
  induction h with
  | stop c => intro _; exact .stop (by rw [List.length_map]; exact c)
  | go c _ ih =>
    rename_i k line L h2
    intro hl
    have hx : X (at' line k) := hl _ (List.mem_of_getElem? (at_get c))
    refine .go (by rw [List.length_map]; exact c) ?_
    have e : at' (line.map φ) k = φ (at' line k) := by
      have := at_get (b := line.map φ) (i := k) (by rw [List.length_map]; exact c)
      rw [List.getElem?_map, at_get c] at this
      exact (Option.some.inj this).symm
    rw [e, hs _ hx, addO_map hk hl fun o ho y hy => hX _ hx o ho y hy]
    refine ih fun x hx' => ?_
    have : ∀ {os : List (Option Nat)} {line : List Nat}, (∀ x ∈ line, X x) → (∀ o ∈ os, ∀ y, o = some y → X y) → ∀ x ∈ addO κ line os, X x := by
      intro os
      induction os with
      | nil => intro line h1 _ x hx; exact h1 x hx
      | cons o os ih2 =>
        intro line h1 h2 x hx
        refine ih2 (line := addK κ line o) (fun x hx => ?_) (fun o' h' => h2 o' (by simp [h'])) x hx
        cases o with
        | none => exact h1 x hx
        | some y =>
          have hx : x ∈ (if κ y ∈ line.map κ then line else line ++ [y]) := hx
          split at hx
          · exact h1 x hx
          · rcases List.mem_append.mp hx with q | q
            · exact h1 x q
            · rw [List.mem_singleton] at q; rw [q]; exact h2 _ (by simp) y rfl
    exact this hl (fun o ho y hy => hX _ hx o ho y hy) x hx'
end K48

set_option autoImplicit false
set_option linter.all false
set_option maxRecDepth 100000
namespace K48
open PySem L2 Z
/-! ### the law's form -/
abbrev Vc := Int × Int
abbrev St := Vc × Nat
def lotD (v : Vc) : D := .tuple [.int v.1, .int v.2]
def startD (p : St) : D := .tuple [lotD p.1, nD p.2]
theorem walk_while {τ : Type} {f : τ → R (Wl τ)} (pack : List Nat → Nat → τ) {κ : Nat → Nat} {succ : Nat → List (Option Nat)} {n : Nat} (hs : ∀ x, x < n → ∀ o ∈ succ x, ∀ y, o = some y → y < n)
    (hf : ∀ line k, Ok1 κ n line → f (pack line k) = if k < line.length then .ok (.go (pack (addO κ line (succ (at' line k))) (k + 1))) else .ok (.done (pack line k))) :
    ∀ (fuel k : Nat) (line : List Nat), Ok1 κ n line → n + 1 - k < fuel → ∃ L k', whileT fuel (pack line k) f = .ok (.nx (pack L k')) ∧ Wk κ succ k line L
  | 0, _, _, _, h => by omega
  | fuel + 1, k, line, o1, h => by
    unfold whileT
    rw [hf line k o1]
    by_cases c : k < line.length
    · rw [if_pos c]
      have := o1.len
      obtain ⟨L, k', e1, e2⟩ := walk_while pack hs hf fuel (k + 1) _ (o1.adds (hs _ (o1.lt _ (List.mem_of_getElem? (at_get c))))) (by omega)
      exact ⟨L, k', e1, .go c e2⟩
    · rw [if_neg c]
      exact ⟨line, k, rfl, .stop c⟩
theorem adds_loop {τ ι : Type} {f : D → τ → R τ} (pack : List Nat → τ) {κ : Nat → Nat} {n : Nat} {enc : ι → D} {os : ι → Option Nat} : ∀ {xs : List ι} {line : List Nat}, (∀ x ∈ xs, ∀ line, Ok1 κ n line → f (enc x) (pack line) = .ok (pack (addK κ line (os x)))) → (∀ x ∈ xs, ∀ y, os x = some y → y < n) → Ok1 κ n line →
    forS (xs.map enc) (pack line) f = .ok (pack (addO κ line (xs.map os)))
  | [], _, _, _, _ => rfl
  | x :: xs, line, hf, ho, o1 => by
    rw [List.map_cons, forS_cons, hf x (by simp) line o1]
    exact adds_loop pack (fun x hx => hf x (by simp [hx])) (fun x hx => ho x (by simp [hx])) (o1.add1 (ho x (by simp)))
theorem okN : ∀ b : List Nat, PyData.plainAll (b.map nD) = true ∧ PyData.depthAll (b.map nD) = 0
  | [] => ⟨rfl, by simp [PyData.depthAll]⟩
  | k :: b => by
    obtain ⟨h1, h2⟩ := okN b
    simp [nD, PyData.plainAll, PyData.plain, PyData.depthAll, PyData.depth] at h1 h2 ⊢
    exact ⟨h1, h2⟩
theorem okD_nL (b : List Nat) : okD (.list (b.map nD)) = true := by
  obtain ⟨h1, h2⟩ := okN b
  unfold okD
  rw [show (PyData.list (b.map nD)).plain = true by simpa [PyData.plain] using h1, decide_eq_true (by simp only [PyData.depth, h2]; omega)]; rfl
theorem eqv_n (a b : Nat) : PyData.eqv (nD a) (nD b) = decide (a = b) := by
  unfold nD; rw [eqv_i, decide_eq_decide]; omega
theorem in_n (y : Nat) (line : List Nat) : inD (nD y) (.list (line.map nD)) = .ok (decide (y ∈ line)) := by
  show (if (okD (nD y) && okD (.list (line.map nD))) = true then R.ok ((line.map nD).any fun z => PyData.eqv z (nD y)) else R.stuck) = _
  rw [show okD (nD y) = true from ok_i _, okD_nL]
  simp only [Bool.and_self, if_true]
  congr 1
  rw [Bool.eq_iff_iff, List.any_eq_true, decide_eq_true_eq]
  constructor
  · rintro ⟨z, hz, e⟩
    obtain ⟨k, hk, rfl⟩ := List.mem_map.mp hz
    rw [eqv_n, decide_eq_true_eq] at e
    exact e ▸ hk
  · intro h
    exact ⟨nD y, List.mem_map.mpr ⟨y, h, rfl⟩, by rw [eqv_n]; simp⟩
theorem notin_n (y : Nat) (line : List Nat) : notInD (nD y) (.list (line.map nD)) = .ok (!decide (y ∈ line)) := bok (in_n _ _) rfl
theorem findIdx_n (x : Nat) : ∀ l : List Nat, x ∈ l → (l.map nD).findIdx? (fun z => PyData.eqv z (nD x)) = some (l.idxOf x)
  | [], h => by simp at h
  | q :: l, h => by
    rw [List.map_cons, List.findIdx?_cons, eqv_n, List.idxOf_cons]
    by_cases c : q = x
    · simp [c]
    · have : (q == x) = false := by simpa using c
      rw [decide_eq_false c, this]
      rcases List.mem_cons.mp h with e | e
      · exact absurd e.symm c
      · simp [findIdx_n x l e]
theorem index_n {l : List Nat} {x : Nat} (h : x ∈ l) : indexD (.list (l.map nD)) [nD x] = .ok (nD (l.idxOf x)) := by
  show (if (okD (.list (l.map nD)) && okD (nD x)) = true then _ else _) = _
  rw [show okD (nD x) = true from ok_i _, okD_nL]
  simp only [Bool.and_self, if_true, findIdx_n x l h]
  rfl
theorem addK_id (line : List Nat) (y : Nat) : addK id line (some y) = if y ∈ line then line else line ++ [y] := by
  show (if id y ∈ line.map id then _ else _) = _
  rw [List.map_id]; rfl
/-- drawn starts -/
structure Sts (n : Nat) (sts : List St) : Prop where
  lt : ∀ p ∈ sts, p.2 < n
  few : sts.length < 100
/-- the quotient -/
structure Quo (S : List Ln) (sts : List St) (b L : List Nat) : Prop where
  part : Parted S b
  lst : Lst b
  walk : Wk id (fun x => led b (lnOf S x)) 0 (addO id [] (sts.map fun p => some (at' b p.2))) L
def quoS (sts : List St) (b L : List Nat) : List St := sts.map fun p => (p.1, L.idxOf (at' b p.2))
def quoL (S : List Ln) (b L : List Nat) : List Ln := L.map fun x => (led b (lnOf S x)).map (Option.map L.idxOf)
def formD (sts : List St) (V : List Ln) : D := .tuple [.tuple (sts.map startD), .tuple (V.map lnT)]
section
variable {S : List Ln} {w : Nat} {sts : List St} {b L : List Nat}
theorem led_lt (h : Good S w) (hp : Parted S b) (hl : Lst b) : ∀ x, x < S.length → ∀ o ∈ led b (lnOf S x), ∀ y, o = some y → y < S.length := by
  intro x hx o ho y e
  obtain ⟨o', ho', rfl⟩ := List.mem_map.mp ho
  cases o' with
  | none => simp at e
  | some z =>
    have e : at' b z = y := by simpa using e
    rw [← e, ← hp.len]
    exact (hl z (by rw [hp.len]; exact h.inn _ (lnOf_mem hx) _ ho' z rfl)).1
theorem Quo.start (h : Good S w) (hs : Sts S.length sts) (q : Quo S sts b L) : ∀ o ∈ sts.map (fun p => some (at' b p.2)), ∀ y, o = some y → y < S.length := by
  intro o ho y e
  obtain ⟨p, hp, rfl⟩ := List.mem_map.mp ho
  cases e
  rw [← q.part.len]
  exact (q.lst _ (by rw [q.part.len]; exact hs.lt p hp)).1
theorem ok_nil {κ : Nat → Nat} {n : Nat} : Ok1 κ n [] := ⟨by simp, by simp⟩
theorem Quo.ok (h : Good S w) (hs : Sts S.length sts) (q : Quo S sts b L) : Ok1 id S.length L := q.walk.ok (led_lt h q.part q.lst) (ok_nil.adds (q.start h hs))
theorem Quo.startIn (q : Quo S sts b L) {p : St} (hp : p ∈ sts) : at' b p.2 ∈ L := by
  obtain ⟨t, e⟩ := q.walk.pre
  have := adds_in id (sts.map fun p => some (at' b p.2)) [] (at' b p.2) (List.mem_map.mpr ⟨p, hp, rfl⟩)
  rw [List.map_id] at this
  rw [e]
  exact List.mem_append_left _ this
theorem Quo.ledIn (q : Quo S sts b L) {x : Nat} (hx : x ∈ L) {y : Nat} (hy : some y ∈ led b (lnOf S x)) : y ∈ L := by
  have := q.walk.closed (fun i hi => by omega) (Nat.zero_le _) x hx y hy
  rwa [List.map_id] at this
end
theorem least_ok {S : List Ln} {w : Nat} (h : Good S w) {sts : List St} (hs : Sts S.length sts) : ∃ b L, m__law_least (.list (sts.map startD)) (.list (S.map lnL)) = .ok (formD (quoS sts b L) (quoL S b L)) ∧ Quo S sts b L := by
  obtain ⟨b, e1, hp, hl⟩ := parts_ok h
  have few := h.few
  have lb : ∀ {i}, i < S.length → at' b i < S.length := fun {i} hi => by rw [← hp.len]; exact (hl i (by rw [hp.len]; exact hi)).1
  unfold m__law_least
  -- one state more
  have more : ∀ (line : List Nat) (i : Nat), Ok1 id S.length line → i < S.length → (((item (nL b) (nD i)).bind fun z8 =>
      (notInD z8 (PyData.list (line.map nD))).bind fun z9 =>
      R.ok z9).bind fun t10 =>
      if t10 = true then
      (item (nL b) (nD i)).bind fun z11 =>
      (pushM (line.map nD) [z11]).bind fun (z12, y13) =>
      R.ok y13
      else
      R.ok (line.map nD)) = .ok ((addK id line (some (at' b i))).map nD) := fun line i o1 hi => by
    have hb : i < b.length := by rw [hp.len]; exact hi
    have := o1.len
    rw [addK_id]
    by_cases c : at' b i ∈ line
    · rw [if_pos c]
      exact bokF (bok (item_nL hb) <| bok (notin_n _ _) (by simp [c])) rfl
    · rw [if_neg c]
      exact bokT (bok (item_nL hb) <| bok (notin_n _ _) (by simp [c])) <| bok (item_nL hb) <| bok (push1 _ _ (by simp; omega)) (by simp)
  have st := adds_loop (f := fun x3 s4 => (un2 x3).bind fun (p6, p7) =>
      ((item (nL b) p7).bind fun z8 =>
      (notInD z8 (PyData.list s4)).bind fun z9 =>
      R.ok z9).bind fun t10 =>
      if t10 = true then
      (item (nL b) p7).bind fun z11 =>
      (pushM s4 [z11]).bind fun (z12, y13) =>
      R.ok y13
      else
      R.ok s4) (fun line => line.map nD) (κ := id) (n := S.length) (enc := startD) (os := fun p => some (at' b p.2)) (xs := sts) (line := []) (fun p hp' line o1 => bok (un2_t _ _) <| more line p.2 o1 (hs.lt p hp')) (fun p hp' y e => by cases e; exact lb (hs.lt p hp')) ok_nil
  have lineAdd : ∀ (x : Nat) (line : List Nat), x < S.length → Ok1 id S.length line → forS ((lnOf S x).map oD) (line.map nD) (fun x23 s24 =>
      (if (!isNone x23) = true then
      ((item (nL b) x23).bind fun z26 =>
      (notInD z26 (PyData.list s24)).bind fun z27 =>
      R.ok z27).bind fun t28 =>
      R.ok t28
      else
      R.ok false : R Bool).bind fun t29 =>
      if t29 = true then
      (item (nL b) x23).bind fun z30 =>
      (pushM s24 [z30]).bind fun (z31, y32) =>
      R.ok y32
      else
      R.ok s24) = .ok ((addO id line (led b (lnOf S x))).map nD) := fun x line hx o1 => by
    refine adds_loop (fun line => line.map nD) (κ := id) (n := S.length) (enc := oD) (os := Option.map (at' b)) (fun o ho line o1 => ?_) (fun o ho y e => ?_) o1
    · cases o with
      | none => rfl
      | some z =>
        have hz := h.inn _ (lnOf_mem hx) _ ho z rfl
        have hb : z < b.length := by rw [hp.len]; exact hz
        have := o1.len
        show _ = R.ok ((addK id line (some (at' b z))).map nD)
        rw [addK_id]
        show ((if (!isNone (nD z)) = true then _ else _ : R Bool).bind _) = _
        rw [show (!isNone (nD z)) = true from rfl, if_pos rfl]
        by_cases c : at' b z ∈ line
        · rw [if_pos c]
          exact bokF (bok (bok (item_nL hb) <| bok (notin_n _ _) rfl) (by simp [c])) rfl
        · rw [if_neg c]
          exact bokT (bok (bok (item_nL hb) <| bok (notin_n _ _) rfl) (by simp [c])) <| bok (item_nL hb) <| bok (push1 _ _ (by simp; omega)) (by simp)
    · cases o with
      | none => simp at e
      | some z =>
        have e : at' b z = y := by simpa using e
        rw [← e]
        exact lb (h.inn _ (lnOf_mem hx) _ ho z rfl)
  have o0 : Ok1 id S.length (addO id [] (sts.map fun p => some (at' b p.2))) := ok_nil.adds fun o ho y e => by
    obtain ⟨p, hp', rfl⟩ := List.mem_map.mp ho
    cases e; exact lb (hs.lt p hp')
  obtain ⟨L, k', wl, wk⟩ := walk_while (f := fun s14 : List D × D => ((lenD (PyData.list s14.1)).bind fun z17 =>
      (ltD s14.2 z17).bind fun z18 =>
      R.ok z18).bind fun t19 =>
      if t19 = true then
      (item (.list s14.1) s14.2).bind fun z20 =>
      (item (.list (S.map lnL)) z20).bind fun z21 =>
      (iter z21).bind fun z22 =>
      (forS z22 s14.1 fun x23 s24 =>
      (if (!isNone x23) = true then
      ((item (nL b) x23).bind fun z26 =>
      (notInD z26 (PyData.list s24)).bind fun z27 =>
      R.ok z27).bind fun t28 =>
      R.ok t28
      else
      R.ok false : R Bool).bind fun t29 =>
      if t29 = true then
      (item (nL b) x23).bind fun z30 =>
      (pushM s24 [z30]).bind fun (z31, y32) =>
      R.ok y32
      else
      R.ok s24).bind fun s25 =>
      (add s14.2 (PyData.int 1)).bind fun z33 =>
      R.ok (.go (s25, z33))
      else
      R.ok (.done (s14.1, s14.2))) (fun line k => (line.map nD, nD k)) (κ := id) (succ := fun x => led b (lnOf S x)) (n := S.length) (led_lt h hp hl) (fun line k o1 => by
    by_cases c : k < line.length
    · rw [if_pos c]
      have hx := o1.lt _ (List.mem_of_getElem? (at_get c))
      exact bokT (bok (len_l _) <| bok (show ltD (nD k) (.int ((line.map nD).length : Int)) = .ok true by rw [List.length_map, show (.int (line.length : Int) : D) = nD line.length from rfl, lt_n, decide_eq_true c]) rfl) <|
        bok (item_nL c) <| bok (item_ln (by rw [List.getElem?_map, lnOf_get hx]; rfl)) <| bok (iter_l _) <| bok (lineAdd _ line hx o1) <| bok (add_i _ _) rfl
    · rw [if_neg c]
      exact bokF (bok (len_l _) <| bok (show ltD (nD k) (.int ((line.map nD).length : Int)) = .ok false by rw [List.length_map, show (.int (line.length : Int) : D) = nD line.length from rfl, lt_n, decide_eq_false c]) rfl) rfl) 100000 0 _ o0 (by omega)
  have q : Quo S sts b L := ⟨hp, hl, wk⟩
  have oL := q.ok h hs
  have lenL := oL.len
  refine ⟨b, L, ?_, q⟩
  have rows : forS (L.map nD) [] (fun x35 s36 =>
      (item (.list (S.map lnL)) x35).bind fun z38 =>
      (iter z38).bind fun z39 =>
      (compL z39 fun x40 =>
      (if (!isNone x40) = true then
      (shapeR isLstD (PyData.list (L.map nD))).bind fun _ =>
      (item (nL b) x40).bind fun z41 =>
      (indexD (PyData.list (L.map nD)) [z41]).bind fun z42 =>
      R.ok z42
      else
      R.ok PyData.none : R D).bind fun z43 =>
      R.ok (some z43)).bind fun ys44 =>
      (tupleD (PyData.list ys44)).bind fun z45 =>
      (pushM s36 [z45]).bind fun (z46, y47) =>
      R.ok y47) = .ok ((quoL S b L).map lnT) := by
    obtain ⟨s, es, hs'⟩ := forI (f := fun x35 s36 =>
      (item (.list (S.map lnL)) x35).bind fun z38 =>
      (iter z38).bind fun z39 =>
      (compL z39 fun x40 =>
      (if (!isNone x40) = true then
      (shapeR isLstD (PyData.list (L.map nD))).bind fun _ =>
      (item (nL b) x40).bind fun z41 =>
      (indexD (PyData.list (L.map nD)) [z41]).bind fun z42 =>
      R.ok z42
      else
      R.ok PyData.none : R D).bind fun z43 =>
      R.ok (some z43)).bind fun ys44 =>
      (tupleD (PyData.list ys44)).bind fun z45 =>
      (pushM s36 [z45]).bind fun (z46, y47) =>
      R.ok y47) (xs := L.map nD) (st := []) (fun i s => s = ((quoL S b L).map lnT).take i) (by simp) fun i s x hx hi => by
        subst hi
        have hi : i < L.length := by have := (List.getElem?_eq_some_iff.mp hx).1; simpa using this
        rw [List.getElem?_map, at_get hi] at hx
        cases hx
        have hin := List.mem_of_getElem? (at_get hi)
        have hlt := oL.lt _ hin
        refine ⟨_, bok (item_ln (by rw [List.getElem?_map, lnOf_get hlt]; rfl)) <| bok (iter_l _) <| bok (a := ((led b (lnOf S (at' L i))).map (Option.map L.idxOf)).map oD) ?_ <| bok (tuple_l _) <| bok (push1 _ _ (by rw [List.length_take, List.length_map, quoL, List.length_map]; omega)) rfl, ?_⟩
        · have := compL_all (f := fun x40 => (if (!isNone x40) = true then
            (shapeR isLstD (PyData.list (L.map nD))).bind fun _ =>
            (item (nL b) x40).bind fun z41 =>
            (indexD (PyData.list (L.map nD)) [z41]).bind fun z42 =>
            R.ok z42
            else
            R.ok PyData.none : R D).bind fun z43 =>
            R.ok (some z43)) (g := oD) (h := fun o => oD ((o.map (at' b)).map L.idxOf)) (xs := lnOf S (at' L i)) (by have := (h.row hlt).1; omega) fun o ho => by
              cases o with
              | none => rfl
              | some z =>
                show ((if (!isNone (nD z)) = true then _ else _ : R D).bind _) = _
                rw [show (!isNone (nD z)) = true from rfl, if_pos rfl]
                have hz := h.inn _ (lnOf_mem hlt) _ ho z rfl
                exact bok (bok (show shapeR isLstD _ = .ok () from rfl) <| bok (item_nL (by rw [hp.len]; exact hz)) <| bok (index_n (q.ledIn hin (List.mem_map.mpr ⟨some z, ho, rfl⟩))) rfl) rfl
          rw [this]
          unfold led
          rw [List.map_map, List.map_map]; rfl
        · have e : ((quoL S b L).map lnT)[i]? = some (lnT ((led b (lnOf S (at' L i))).map (Option.map L.idxOf))) := by
            unfold quoL
            rw [List.getElem?_map, List.getElem?_map, at_get hi]; rfl
          rw [List.take_succ, e]; rfl
    rw [es, hs', List.take_of_length_le (by simp [quoL])]
  have heads : (compL (sts.map startD) fun x49 =>
      (un2 x49).bind fun (p50, p51) =>
      (shapeR isLstD (PyData.list (L.map nD))).bind fun _ =>
      (item (nL b) p51).bind fun z52 =>
      (indexD (PyData.list (L.map nD)) [z52]).bind fun z53 =>
      R.ok (some (PyData.tuple [p50, z53]))) = .ok ((quoS sts b L).map startD) := by
    rw [compL_all (h := fun p : St => startD (p.1, L.idxOf (at' b p.2))) (by have := hs.few; omega) fun p hp' => bok (un2_t _ _) <| bok (show shapeR isLstD _ = .ok () from rfl) <| bok (item_nL (by rw [hp.len]; exact hs.lt p hp')) <| bok (index_n (q.startIn hp')) rfl]
    unfold quoS
    rw [List.map_map]; rfl
  refine bok e1 <| bok (iter_l _) <| bok st <| bok wl ?_
  exact bok (iter_l _) <| bok rows <| bok (iter_l _) <| bok heads <| bok (tuple_l _) <| bok (tuple_l _) rfl
end K48

set_option autoImplicit false
set_option linter.all false
set_option maxRecDepth 100000
namespace K48
open PySem L2 Z
/-! ### what the program tells -/
def kvB (b line : List Nat) : List (D × D) := line.map fun x => (nD (at' b x), .bool true)
theorem kvB_flat (b line : List Nat) : flatK (kvB b line) = true := by
  unfold flatK kvB
  rw [List.all_eq_true]
  intro p hp
  obtain ⟨x, _, rfl⟩ := List.mem_map.mp hp
  rfl
theorem inl_inj {a b : Nat} : ((Sum.inl (a : Int) : L2.Key) = Sum.inl (b : Int)) ↔ a = b := ⟨fun e => by injection e with e; omega, fun e => by rw [e]⟩
theorem keyF_n (a : Nat) : keyF (nD a) = some (.inl (a : Int)) := rfl
theorem fget_some {kvs : List (D × D)} {k : L2.Key} : (fGet kvs k).isSome = true ↔ ∃ p ∈ kvs, keyF p.1 = some k := by
  unfold fGet
  rw [Option.isSome_map, List.find?_isSome]
  exact ⟨fun ⟨p, h, e⟩ => ⟨p, h, by simpa using e⟩, fun ⟨p, h, e⟩ => ⟨p, h, by simpa using e⟩⟩
theorem kvB_get (b line : List Nat) (k : Nat) : (fGet (kvB b line) (.inl (k : Int))).isSome = decide (k ∈ line.map (at' b)) := by
  rw [Bool.eq_iff_iff, fget_some, decide_eq_true_eq]
  constructor
  · rintro ⟨p, hp, e⟩
    obtain ⟨x, hx, rfl⟩ := List.mem_map.mp hp
    have e : (some (.inl (at' b x : Int)) : Option L2.Key) = some (.inl (k : Int)) := e
    have := inl_inj.mp (Option.some.inj e)
    exact List.mem_map.mpr ⟨x, hx, this⟩
  · intro h
    obtain ⟨x, hx, e⟩ := List.mem_map.mp h
    exact ⟨_, List.mem_map.mpr ⟨x, hx, rfl⟩, by show keyF (nD (at' b x)) = _; rw [keyF_n, e]⟩
theorem notin_d (b line : List Nat) (k : Nat) : notInD (nD k) (.dict (kvB b line)) = .ok (!decide (k ∈ line.map (at' b))) := by
  have : inD (nD k) (.dict (kvB b line)) = .ok (decide (k ∈ line.map (at' b))) := by
    show (if flatK (kvB b line) = true then R.ok (fGet (kvB b line) (.inl (k : Int))).isSome else R.stuck) = _
    rw [if_pos (kvB_flat _ _), kvB_get]
  exact bok this rfl
theorem setF_ok {b line : List Nat} {y : Nat} (h : ¬ at' b y ∈ line.map (at' b)) (hl : line.length < 1000) : setFM (kvB b line) (nD (at' b y)) (.bool true) = .ok (kvB b (line ++ [y])) := by
  show (if decide ((kvB b line).length < 16777216) = true then R.ok (fSet (kvB b line) (nD (at' b y)) (.inl (at' b y : Int)) (.bool true)) else R.stuck) = _
  rw [if_pos (decide_eq_true (by simp [kvB]; omega))]
  unfold fSet
  rw [kvB_get, decide_eq_false h]
  simp [kvB]
theorem addK_b (b line : List Nat) (y : Nat) : addK (at' b) line (some y) = if at' b y ∈ line.map (at' b) then line else line ++ [y] := rfl
theorem come_ok {V : List Ln} {w : Nat} (h : Good V w) {sts : List St} (hs : Sts V.length sts) {b : List Nat} (hp : b.length = V.length) : ∃ H, m_states_come (.tuple (sts.map startD)) (.tuple (V.map lnT)) (nT b) = .ok (nL H) ∧ Ok1 (at' b) V.length H ∧
    Wk (at' b) (fun x => lnOf V x) 0 (addO (at' b) [] (sts.map fun p => some p.2)) H := by
  have few := h.few
  unfold m_states_come
  have st := adds_loop (f := fun (x2 : D) (s3 : List (D × D) × List D) => (un2 x2).bind fun (p5, p6) =>
      ((item (nT b) p6).bind fun z7 =>
      (notInD z7 (PyData.dict s3.1)).bind fun z8 =>
      R.ok z8).bind fun t9 =>
      if t9 = true then
      (item (nT b) p6).bind fun z10 =>
      (setFM s3.1 z10 (PyData.bool true)).bind fun y11 =>
      (pushM s3.2 [p6]).bind fun (z12, y13) =>
      R.ok (y11, y13)
      else
      R.ok (s3.1, s3.2)) (fun line => (kvB b line, line.map nD)) (κ := at' b) (n := V.length) (enc := startD) (os := fun p => some p.2) (xs := sts) (line := []) (fun p hp' line o1 => by
        have hb : p.2 < b.length := by rw [hp]; exact hs.lt p hp'
        have := o1.len
        rw [addK_b]
        refine bok (un2_t _ _) ?_
        by_cases c : at' b p.2 ∈ line.map (at' b)
        · rw [if_pos c]
          exact bokF (bok (item_nT hb) <| bok (notin_d _ _ _) (by rw [decide_eq_true c]; rfl)) rfl
        · rw [if_neg c]
          exact bokT (bok (item_nT hb) <| bok (notin_d _ _ _) (by rw [decide_eq_false c]; rfl)) <| bok (item_nT hb) <| bok (setF_ok c (by omega)) <| bok (push1 _ _ (by simp; omega)) (by simp)) (fun p hp' y e => by cases e; exact hs.lt p hp') ok_nil
  have lineAdd : ∀ (x : Nat) (line : List Nat), x < V.length → Ok1 (at' b) V.length line → forS ((lnOf V x).map oD) (kvB b line, line.map nD) (fun x23 s24 =>
      (if (!isNone x23) = true then
      ((item (nT b) x23).bind fun z26 =>
      (notInD z26 (PyData.dict s24.1)).bind fun z27 =>
      R.ok z27).bind fun t28 =>
      R.ok t28
      else
      R.ok false : R Bool).bind fun t29 =>
      if t29 = true then
      (item (nT b) x23).bind fun z30 =>
      (setFM s24.1 z30 (PyData.bool true)).bind fun y31 =>
      (pushM s24.2 [x23]).bind fun (z32, y33) =>
      R.ok (y31, y33)
      else
      R.ok (s24.1, s24.2)) = .ok (kvB b (addO (at' b) line ((lnOf V x).map id)), (addO (at' b) line ((lnOf V x).map id)).map nD) := fun x line hx o1 => by
    refine adds_loop (fun line => (kvB b line, line.map nD)) (κ := at' b) (n := V.length) (enc := oD) (os := id) (fun o ho line o1 => ?_) (fun o ho y e => ?_) o1
    · cases o with
      | none => rfl
      | some z =>
        have hz := h.inn _ (lnOf_mem hx) _ ho z rfl
        have hb : z < b.length := by rw [hp]; exact hz
        have := o1.len
        show _ = R.ok (kvB b (addK (at' b) line (some z)), (addK (at' b) line (some z)).map nD)
        rw [addK_b]
        show ((if (!isNone (nD z)) = true then _ else _ : R Bool).bind _) = _
        rw [show (!isNone (nD z)) = true from rfl, if_pos rfl]
        by_cases c : at' b z ∈ line.map (at' b)
        · rw [if_pos c]
          exact bokF (bok (bok (item_nT hb) <| bok (notin_d _ _ _) rfl) (by rw [decide_eq_true c]; rfl)) rfl
        · rw [if_neg c]
          exact bokT (bok (bok (item_nT hb) <| bok (notin_d _ _ _) rfl) (by rw [decide_eq_false c]; rfl)) <| bok (item_nT hb) <| bok (setF_ok c (by omega)) <| bok (push1 _ _ (by simp; omega)) (by simp; rfl)
    · cases o with
      | none => simp at e
      | some z => cases e; exact h.inn _ (lnOf_mem hx) _ ho _ rfl
  have o0 : Ok1 (at' b) V.length (addO (at' b) [] (sts.map fun p => some p.2)) := ok_nil.adds fun o ho y e => by
    obtain ⟨p, hp', rfl⟩ := List.mem_map.mp ho
    cases e; exact hs.lt p hp'
  have hsc : ∀ x, x < V.length → ∀ o ∈ lnOf V x, ∀ y, o = some y → y < V.length := fun x hx => (h.row hx).2
  obtain ⟨H, k', wl, wk⟩ := walk_while (f := fun s14 : List (D × D) × List D × D => ((lenD (PyData.list s14.2.1)).bind fun z17 =>
      (ltD s14.2.2 z17).bind fun z18 =>
      R.ok z18).bind fun t19 =>
      if t19 = true then
      (item (.list s14.2.1) s14.2.2).bind fun z20 =>
      (item (.tuple (V.map lnT)) z20).bind fun z21 =>
      (iter z21).bind fun z22 =>
      (forS z22 (s14.1, s14.2.1) fun x23 s24 =>
      (if (!isNone x23) = true then
      ((item (nT b) x23).bind fun z26 =>
      (notInD z26 (PyData.dict s24.1)).bind fun z27 =>
      R.ok z27).bind fun t28 =>
      R.ok t28
      else
      R.ok false : R Bool).bind fun t29 =>
      if t29 = true then
      (item (nT b) x23).bind fun z30 =>
      (setFM s24.1 z30 (PyData.bool true)).bind fun y31 =>
      (pushM s24.2 [x23]).bind fun (z32, y33) =>
      R.ok (y31, y33)
      else
      R.ok (s24.1, s24.2)).bind fun s25 =>
      (addI s14.2.2 (PyData.int 1)).bind fun z34 =>
      R.ok (.go (s25.1, s25.2, z34))
      else
      R.ok (.done (s14.1, s14.2.1, s14.2.2))) (fun line k => (kvB b line, line.map nD, nD k)) (κ := at' b) (succ := fun x => lnOf V x) (n := V.length) hsc (fun line k o1 => by
    by_cases c : k < line.length
    · rw [if_pos c]
      have hx := o1.lt _ (List.mem_of_getElem? (at_get c))
      have la := lineAdd _ line hx o1
      rw [List.map_id] at la
      exact bokT (bok (len_l _) <| bok (show ltD (nD k) (.int ((line.map nD).length : Int)) = .ok true by rw [List.length_map, show (.int (line.length : Int) : D) = nD line.length from rfl, lt_n, decide_eq_true c]) rfl) <|
        bok (item_nL c) <| bok (item_n (by rw [List.getElem?_map, lnOf_get hx]; rfl)) <| bok (iter_t _) <| bok la <| bok (show addI (nD k) (.int 1) = .ok (nD (k + 1)) from rfl) rfl
    · rw [if_neg c]
      exact bokF (bok (len_l _) <| bok (show ltD (nD k) (.int ((line.map nD).length : Int)) = .ok false by rw [List.length_map, show (.int (line.length : Int) : D) = nD line.length from rfl, lt_n, decide_eq_false c]) rfl) rfl) 100000 0 _ o0 (by omega)
  exact ⟨H, bok (iter_t _) <| bok st <| bok wl rfl, wk.ok hsc o0, wk⟩
/-- a state's new number -/
def plc (b H : List Nat) (j : Nat) : Option Nat := (List.range H.length).find? fun i => decide (at' b (at' H i) = at' b j)
def ordK (b H : List Nat) (i : Nat) : D × D := (nD (at' b (at' H i)), nD i)
theorem ord_get (b H : List Nat) (k : Nat) : ∀ l : List Nat, fGet (l.map (ordK b H)) (.inl (k : Int)) = (l.find? fun i => decide (at' b (at' H i) = k)).map nD
  | [] => rfl
  | i :: l => by
    have ih := ord_get b H k l
    unfold fGet at ih ⊢
    rw [List.map_cons, List.find?_cons, List.find?_cons]
    by_cases c : at' b (at' H i) = k
    · rw [decide_eq_true c, show decide (keyF (ordK b H i).1 = some (.inl (k : Int))) = true from decide_eq_true (by show keyF (nD _) = _; rw [keyF_n, c])]
      rfl
    · have : ¬ keyF (ordK b H i).1 = some (.inl (k : Int)) := fun e => c (inl_inj.mp (Option.some.inj e))
      rw [decide_eq_false c, show decide (keyF (ordK b H i).1 = some (.inl (k : Int))) = false from decide_eq_false this]
      exact ih
theorem ord_flat (b H : List Nat) (l : List Nat) : flatK (l.map (ordK b H)) = true := by
  unfold flatK
  rw [List.all_eq_true]
  intro p hp
  obtain ⟨x, _, rfl⟩ := List.mem_map.mp hp
  rfl
theorem ord_merge {b H : List Nat} (hd : (H.map (at' b)).Nodup) : ∀ i, i ≤ H.length → fMerge [] ((List.range i).map fun j => ((ordK b H j).1, (.inl (at' b (at' H j) : Int) : L2.Key), (ordK b H j).2)) = (List.range i).map (ordK b H)
  | 0, _ => rfl
  | i + 1, hi => by
    rw [List.range_succ, List.map_append, List.map_append, fMerge_app, ord_merge hd i (by omega)]
    show fSet _ (nD _) (.inl (at' b (at' H i) : Int)) (nD i) = _
    unfold fSet
    rw [ord_get, if_neg]
    · rfl
    · intro q
      rw [Option.isSome_map, List.find?_isSome] at q
      obtain ⟨j, hj, e⟩ := q
      have hj := List.mem_range.mp hj
      have e : at' b (at' H j) = at' b (at' H i) := by simpa using e
      have g1 : (H.map (at' b))[j]? = some (at' b (at' H j)) := by rw [List.getElem?_map, at_get (by omega)]; rfl
      have g2 : (H.map (at' b))[i]? = some (at' b (at' H i)) := by rw [List.getElem?_map, at_get (by omega)]; rfl
      rw [e] at g1
      have := (List.getElem?_inj (by simp; omega) hd).mp (g1.trans g2.symm)
      omega
def toldD (b H : List Nat) (sts : List St) (V : List Ln) : D := .tuple [.tuple (sts.map fun p => .tuple [lotD p.1, oD (plc b H p.2)]), .tuple (H.map fun x => lnT ((lnOf V x).map fun o => o.bind (plc b H)))]
theorem told_ok {V : List Ln} {w : Nat} (h : Good V w) {sts : List St} (hs : Sts V.length sts) (h0 : sts ≠ []) : ∃ b H z, m_told_by (.tuple (sts.map startD)) (.tuple (V.map lnT)) = .ok (.tuple [toldD b H sts V, z]) ∧ Parted V b ∧ Ok1 (at' b) V.length H ∧
    Wk (at' b) (fun x => lnOf V x) 0 (addO (at' b) [] (sts.map fun p => some p.2)) H := by
  have few := h.few
  obtain ⟨b, e1, hp⟩ := blocks_ok h
  obtain ⟨H, e2, oH, wk⟩ := come_ok h hs hp.len
  have hH := oH.len
  have H0 : 0 < H.length := by
    obtain ⟨t, e⟩ := wk.pre
    cases sts with
    | nil => exact absurd rfl h0
    | cons p r =>
      have := adds_in (at' b) ((p :: r).map fun p => some p.2) [] p.2 (by simp)
      have hm : at' b p.2 ∈ H.map (at' b) := by rw [e, List.map_append]; exact List.mem_append_left _ this
      have := List.length_pos_of_mem hm
      rwa [List.length_map] at this
  refine ⟨b, H, .tuple ((List.range V.length).map fun j => oD (plc b H j)), ?_, hp, oH, wk⟩
  unfold m_told_by
  have c1 : (compL (enumD (H.map nD)) fun x4 => (un2 x4).bind fun (p5, p6) => (item (nT b) p6).bind fun z7 => R.ok (some (PyData.tuple [z7, p5]))) = .ok ((List.range H.length).map fun i => .tuple [(ordK b H i).1, (ordK b H i).2]) := by
    rw [compE (g := fun i => some (.tuple [(ordK b H i).1, (ordK b H i).2])) (by simp; omega) fun i hi => by
      have hi' : i < H.length := by simpa using hi
      have : (H.map nD)[i] = nD (at' H i) := by
        have := at_get hi'
        rw [List.getElem?_eq_getElem hi'] at this
        rw [List.getElem_map, Option.some.inj this]
      rw [this]
      exact bok (un2_t _ _) <| bok (item_nT (by rw [hp.len]; exact oH.lt _ (List.mem_of_getElem? (at_get hi')))) rfl]
    rw [List.length_map]
    congr 1
    rw [← List.filterMap_eq_map]; rfl
  have c2 : dictL (.list ((List.range H.length).map fun i => .tuple [(ordK b H i).1, (ordK b H i).2])) = .ok (.dict ((List.range H.length).map (ordK b H))) := by
    have pf : ∀ l : List Nat, pairsF (l.map fun i => .tuple [(ordK b H i).1, (ordK b H i).2]) = some (l.map fun j => ((ordK b H j).1, (.inl (at' b (at' H j) : Int) : L2.Key), (ordK b H j).2)) := fun l => by
      induction l with
      | nil => rfl
      | cons i l ih =>
        simp only [List.map_cons, pairsF, ih]
        rfl
    have pk : pairsK ((List.range H.length).map fun i => .tuple [(ordK b H i).1, (ordK b H i).2]) = none := by
      obtain ⟨k, hk⟩ : ∃ k, H.length = k + 1 := ⟨H.length - 1, by omega⟩
      rw [hk, List.range_succ_eq_map]
      rfl
    unfold dictL
    simp only [pk, pf]
    rw [if_pos (by unfold szOk; exact decide_eq_true (by simp; omega)), ord_merge oH.nd _ (Nat.le_refl _)]
  have gt : ∀ j, getD (.dict ((List.range H.length).map (ordK b H))) [nD (at' b j)] = .ok (oD (plc b H j)) := fun j => by
    show (if flatK ((List.range H.length).map (ordK b H)) = true then R.ok ((fGet ((List.range H.length).map (ordK b H)) (.inl (at' b j : Int))).getD .none) else R.stuck) = _
    rw [if_pos (ord_flat _ _ _), ord_get]
    unfold plc
    cases (List.range H.length).find? fun i => decide (at' b (at' H i) = at' b j) <;> rfl
  have c3 : (compL (b.map nD) fun x11 => (shapeR isDctD (.dict ((List.range H.length).map (ordK b H)))).bind fun _ => (getD (.dict ((List.range H.length).map (ordK b H))) [x11]).bind fun z12 => R.ok (some z12)) = .ok ((List.range V.length).map fun j => oD (plc b H j)) := by
    have e : b.map nD = (List.range V.length).map fun j => nD (at' b j) := by
      conv => lhs; rw [list_range b]
      rw [List.map_map, hp.len]; rfl
    rw [e]
    exact compL_all (by simp; omega) fun j _ => bok (show shapeR isDctD _ = .ok () from rfl) <| bok (gt j) rfl
  have pl : ∀ j, j < V.length → item (.tuple ((List.range V.length).map fun j => oD (plc b H j))) (nD j) = .ok (oD (plc b H j)) := fun j hj => item_n (by rw [List.getElem?_map, List.getElem?_range hj]; rfl)
  have c4 : (compL (H.map nD) fun x16 =>
      (item (.tuple (V.map lnT)) x16).bind fun z17 =>
      (iter z17).bind fun z18 =>
      (compL z18 fun x19 =>
      (if (!isNone x19) = true then
      (item (.tuple ((List.range V.length).map fun j => oD (plc b H j))) x19).bind fun z20 =>
      R.ok z20
      else
      R.ok PyData.none : R D).bind fun z21 =>
      R.ok (some z21)).bind fun ys22 =>
      (tupleD (PyData.list ys22)).bind fun z23 =>
      R.ok (some z23)) = .ok (H.map fun x => lnT ((lnOf V x).map fun o => o.bind (plc b H))) := compL_all (by omega) fun x hx => by
    have hlt := oH.lt x hx
    refine bok (item_n (by rw [List.getElem?_map, lnOf_get hlt]; rfl)) <| bok (iter_t _) <| bok (a := ((lnOf V x).map fun o => o.bind (plc b H)).map oD) ?_ <| bok (tuple_l _) rfl
    rw [List.map_map]
    refine compL_all (by have := (h.row hlt).1; omega) fun o ho => ?_
    cases o with
    | none => rfl
    | some z =>
      show ((if (!isNone (nD z)) = true then _ else _ : R D).bind _) = _
      rw [show (!isNone (nD z)) = true from rfl, if_pos rfl]
      exact bok (bok (pl z ((h.row hlt).2 _ ho z rfl)) rfl) rfl
  have c5 : (compL (sts.map startD) fun x26 => (un2 x26).bind fun (p27, p28) => (item (.tuple ((List.range V.length).map fun j => oD (plc b H j))) p28).bind fun z29 => R.ok (some (PyData.tuple [p27, z29]))) = .ok (sts.map fun p => .tuple [lotD p.1, oD (plc b H p.2)]) :=
    compL_all (by have := hs.few; omega) fun p hp' => bok (un2_t _ _) <| bok (pl _ (hs.lt p hp')) rfl
  exact bok e1 <| bok e2 <| bok (iterL_l _) <| bok c1 <| bok c2 <| bok (iter_t _) <| bok c3 <| bok (tuple_l _) <| bok (iter_l _) <| bok c4 <| bok (iter_t _) <| bok c5 <| bok (tuple_l _) <| bok (tuple_l _) rfl
end K48

set_option autoImplicit false
set_option linter.all false
set_option maxRecDepth 100000
namespace K48
open PySem L2 Z
/-! ### the quotient tells itself -/
theorem adds_all {κ : Nat → Nat} {X : Nat → Prop} : ∀ {os : List (Option Nat)} {line : List Nat}, (∀ x ∈ line, X x) → (∀ o ∈ os, ∀ y, o = some y → X y) → ∀ x ∈ addO κ line os, X x
  | [], _, h1, _, x, hx => h1 x hx
  | o :: os, line, h1, h2, x, hx => by
    refine adds_all (os := os) (line := addK κ line o) (fun x hx => ?_) (fun o' h' => h2 o' (by simp [h'])) x hx
    cases o with
    | none => exact h1 x hx
    | some y =>
      have hx : x ∈ (if κ y ∈ line.map κ then line else line ++ [y]) := hx
      split at hx
      · exact h1 x hx
      · rcases List.mem_append.mp hx with q | q
        · exact h1 x q
        · rw [List.mem_singleton] at q; rw [q]; exact h2 _ (by simp) y rfl
theorem Wk.all {κ : Nat → Nat} {succ : Nat → List (Option Nat)} {X : Nat → Prop} (hX : ∀ x, X x → ∀ o ∈ succ x, ∀ y, o = some y → X y) {k : Nat} {line L : List Nat} (h : Wk κ succ k line L) : (∀ x ∈ line, X x) → ∀ x ∈ L, X x := by
  induction h with
  | stop _ => exact id
  | go c _ ih => intro h1; exact ih (adds_all h1 fun o ho y e => hX _ (h1 _ (List.mem_of_getElem? (at_get c))) o ho y e)
section
variable {S : List Ln} {w : Nat} {sts : List St} {b L : List Nat}
/-- members of the line are least of their parts -/
theorem Quo.rep (h : Good S w) (hs : Sts S.length sts) (q : Quo S sts b L) : ∀ x ∈ L, x < S.length ∧ at' b x = x := by
  have lb : ∀ {i}, i < S.length → at' b i < S.length ∧ at' b (at' b i) = at' b i := fun {i} hi => by rw [← q.part.len] at hi ⊢; exact q.lst i hi
  refine q.walk.all (X := fun x => x < S.length ∧ at' b x = x) (fun x hx o ho y e => ?_) (adds_all (by simp) fun o ho y e => ?_)
  · obtain ⟨o', ho', rfl⟩ := List.mem_map.mp ho
    cases o' with
    | none => simp at e
    | some z =>
      have e : at' b z = y := by simpa using e
      rw [← e]; exact lb (h.inn _ (lnOf_mem hx.1) _ ho' z rfl)
  · obtain ⟨p, hp, rfl⟩ := List.mem_map.mp ho
    cases e; exact lb (hs.lt p hp)
theorem Quo.row (h : Good S w) (hs : Sts S.length sts) (q : Quo S sts b L) {x : Nat} (hx : x ∈ L) : lnOf (quoL S b L) (L.idxOf x) = (led b (lnOf S x)).map (Option.map L.idxOf) := by
  have hi := List.idxOf_lt_length_of_mem hx
  have e := List.getElem_idxOf hi
  unfold lnOf quoL
  rw [List.getD_eq_getElem?_getD, List.getElem?_map, List.getElem?_eq_getElem hi, e]; rfl
theorem quo_len : (quoL S b L).length = L.length := by simp [quoL]
theorem Quo.pos (h0 : sts ≠ []) (q : Quo S sts b L) : 0 < L.length := by
  cases sts with
  | nil => exact absurd rfl h0
  | cons p r => exact List.length_pos_of_mem (q.startIn (List.mem_cons_self ..))
theorem Quo.good (h : Good S w) (hs : Sts S.length sts) (h0 : sts ≠ []) (q : Quo S sts b L) : Good (quoL S b L) w := by
  have oL := q.ok h hs
  refine ⟨fun l hl o ho x e => ?_, by rw [quo_len]; exact q.pos h0, by rw [quo_len]; have := oL.len; have := h.few; omega, fun l hl => ?_, h.nar⟩
  · obtain ⟨z, hz, rfl⟩ := List.mem_map.mp hl
    obtain ⟨o', ho', rfl⟩ := List.mem_map.mp ho
    cases o' with
    | none => simp at e
    | some y =>
      have e : L.idxOf y = x := by simpa using e
      rw [quo_len, ← e]
      exact List.idxOf_lt_length_of_mem (q.ledIn hz ho')
  · obtain ⟨z, hz, rfl⟩ := List.mem_map.mp hl
    rw [List.length_map]
    unfold led
    rw [List.length_map]
    exact h.wid _ (lnOf_mem (q.rep h hs z hz).1)
theorem Quo.sts' (hs : Sts S.length sts) (q : Quo S sts b L) : Sts (quoL S b L).length (quoS sts b L) := by
  refine ⟨fun p hp => ?_, by unfold quoS; rw [List.length_map]; exact hs.few⟩
  obtain ⟨p', hp', rfl⟩ := List.mem_map.mp hp
  rw [quo_len]
  exact List.idxOf_lt_length_of_mem (q.startIn hp')
theorem all2_of {n : Nat} {bp : List Nat} : ∀ (l m : Ln), (∀ o ∈ l, ∀ x, o = some x → x < n ∧ at' b x ∈ L) → (∀ o ∈ m, ∀ x, o = some x → x < n ∧ at' b x ∈ L) → led bp ((led b l).map (Option.map L.idxOf)) = led bp ((led b m).map (Option.map L.idxOf)) →
    All2 (fun x y => (x = none ∧ y = none) ∨ ∃ a c, x = some a ∧ y = some c ∧ (a < n ∧ c < n ∧ at' b a ∈ L ∧ at' b c ∈ L ∧ at' bp (L.idxOf (at' b a)) = at' bp (L.idxOf (at' b c)))) l m
  | [], [], _, _, _ => .nil
  | [], _ :: _, _, _, e => by simp [led] at e
  | _ :: _, [], _, _, e => by simp [led] at e
  | x :: l, y :: m, h1, h2, e => by
    simp only [led, List.map_cons, List.cons.injEq] at e
    refine .cons ?_ (all2_of l m (fun o ho => h1 o (by simp [ho])) (fun o ho => h2 o (by simp [ho])) e.2)
    cases x with
    | none => cases y with
      | none => exact .inl ⟨rfl, rfl⟩
      | some y => simp at e
    | some x => cases y with
      | none => simp at e
      | some y =>
        have a := h1 _ (by simp) x rfl
        have c := h2 _ (by simp) y rfl
        exact .inr ⟨x, y, rfl, rfl, a.1, c.1, a.2, c.2, by simpa using e.1⟩
/-- no two states of the quotient lead alike -/
theorem Quo.inj (h : Good S w) (hs : Sts S.length sts) (q : Quo S sts b L) {bp : List Nat} (hp : Parted (quoL S b L) bp) {x y : Nat} (hx : x ∈ L) (hy : y ∈ L) (e : at' bp (L.idxOf x) = at' bp (L.idxOf y)) : x = y := by
  obtain ⟨x1, x2⟩ := q.rep h hs x hx
  obtain ⟨y1, y2⟩ := q.rep h hs y hy
  have lb : ∀ {i}, i < S.length → at' b i < S.length ∧ at' b (at' b i) = at' b i := fun {i} hi => by rw [← q.part.len] at hi ⊢; exact q.lst i hi
  have := q.part.coarse (fun a c => a < S.length ∧ c < S.length ∧ at' b a ∈ L ∧ at' b c ∈ L ∧ at' bp (L.idxOf (at' b a)) = at' bp (L.idxOf (at' b c))) (fun a c ⟨a1, c1, a2, c2, e⟩ => ⟨a1, c1, ?_⟩) x y ⟨x1, y1, by rw [x2]; exact hx, by rw [y2]; exact hy, by rw [x2, y2]; exact e⟩
  · rw [x2, y2] at this; exact this
  · have same : ∀ {i}, i < S.length → led b (lnOf S i) = led b (lnOf S (at' b i)) := fun {i} hi => q.part.stable i _ hi (lb hi).1 (lb hi).2.symm
    have ent : ∀ {i}, i < S.length → at' b i ∈ L → ∀ o ∈ lnOf S i, ∀ x, o = some x → x < S.length ∧ at' b x ∈ L := fun {i} hi hL o ho x e => by
      refine ⟨h.inn _ (lnOf_mem hi) o ho x e, q.ledIn hL ?_⟩
      rw [← same hi]
      exact List.mem_map.mpr ⟨o, ho, by rw [e]; rfl⟩
    refine all2_of _ _ (ent a1 a2) (ent c1 c2) ?_
    rw [same a1, same c1, ← q.row h hs a2, ← q.row h hs c2]
    refine hp.stable _ _ ?_ ?_ e
    · rw [quo_len]; exact List.idxOf_lt_length_of_mem a2
    · rw [quo_len]; exact List.idxOf_lt_length_of_mem c2
theorem map_idx {l : List Nat} (h : l.Nodup) : l.map l.idxOf = List.range l.length := by
  apply List.ext_getElem?
  intro i
  by_cases hi : i < l.length
  · rw [List.getElem?_map, List.getElem?_range hi, List.getElem?_eq_getElem hi]
    have hm : l[i] ∈ l := List.getElem_mem hi
    have a := List.getElem_idxOf (List.idxOf_lt_length_of_mem hm)
    have b : l[l.idxOf l[i]]? = l[i]? := by rw [List.getElem?_eq_getElem (List.idxOf_lt_length_of_mem hm), List.getElem?_eq_getElem hi, a]
    have := (List.getElem?_inj (List.idxOf_lt_length_of_mem hm) h).mp b
    show some (l.idxOf l[i]) = some i
    rw [this]
  · rw [List.getElem?_eq_none (by simp; omega), List.getElem?_eq_none (by simp; omega)]
theorem at_range {n i : Nat} (h : i < n) : at' (List.range n) i = i := by
  unfold at'
  rw [List.getD_eq_getElem?_getD, List.getElem?_range h]; rfl
theorem Quo.heads (h : Good S w) (hs : Sts S.length sts) (q : Quo S sts b L) {bp H : List Nat} (hp : Parted (quoL S b L) bp) (wk : Wk (at' bp) (fun x => lnOf (quoL S b L) x) 0 (addO (at' bp) [] ((quoS sts b L).map fun p => some p.2)) H) : H = List.range L.length := by
  have hk : ∀ x y, x ∈ L → y ∈ L → (at' bp (L.idxOf x) = at' bp (L.idxOf y) ↔ id x = id y) := fun x y hx hy => ⟨fun e => q.inj h hs hp hx hy e, fun e => by rw [show x = y from e]⟩
  have st : ∀ o ∈ sts.map (fun p => some (at' b p.2)), ∀ y, o = some y → y ∈ L := fun o ho y e => by
    obtain ⟨p, hp', rfl⟩ := List.mem_map.mp ho
    cases e; exact q.startIn hp'
  have w2 := q.walk.map (κ' := at' bp) (φ := L.idxOf) (X := (· ∈ L)) (succ' := fun x => lnOf (quoL S b L) x) hk (fun x hx => q.row h hs hx) (fun x hx o ho y e => q.ledIn hx (e ▸ ho)) (adds_all (by simp) st)
  rw [← addO_map (X := (· ∈ L)) hk (by simp) st] at w2
  have e : (sts.map (fun p => some (at' b p.2))).map (Option.map L.idxOf) = (quoS sts b L).map fun p => some p.2 := by unfold quoS; rw [List.map_map, List.map_map]; rfl
  rw [e] at w2
  rw [wk.det w2, map_idx (q.ok h hs).nodup]
theorem Quo.plc (h : Good S w) (hs : Sts S.length sts) (q : Quo S sts b L) {bp : List Nat} (hp : Parted (quoL S b L) bp) {j : Nat} (hj : j < L.length) : plc bp (List.range L.length) j = some j := by
  have oL := q.ok h hs
  have ix : ∀ i (hi : i < L.length), ∃ x ∈ L, L.idxOf x = i := fun i hi => ⟨L[i], List.getElem_mem hi, by
    have := congrArg (fun l : List Nat => l[i]?) (map_idx oL.nodup)
    simp only [List.getElem?_map, List.getElem?_range hi, List.getElem?_eq_getElem hi] at this
    exact Option.some.inj this⟩
  unfold K48.plc
  rw [List.length_range]
  cases e : (List.range L.length).find? fun i => decide (at' bp (at' (List.range L.length) i) = at' bp j) with
  | none =>
    rw [List.find?_eq_none] at e
    have := e j (List.mem_range.mpr hj)
    rw [at_range hj] at this
    simp at this
  | some i =>
    have m := List.mem_range.mp (List.mem_of_find?_eq_some e)
    have p := List.find?_some e
    rw [at_range m] at p
    have p : at' bp i = at' bp j := by simpa using p
    obtain ⟨x, hx, ex⟩ := ix i m
    obtain ⟨y, hy, ey⟩ := ix j hj
    rw [← ex, ← ey] at p
    rw [← ex, ← ey, q.inj h hs hp hx hy p]
/-- told, the quotient is itself -/
theorem Quo.told (h : Good S w) (hs : Sts S.length sts) (h0 : sts ≠ []) (q : Quo S sts b L) : ∃ z, m_told_by (.tuple ((quoS sts b L).map startD)) (.tuple ((quoL S b L).map lnT)) = .ok (.tuple [formD (quoS sts b L) (quoL S b L), z]) := by
  have g := q.good h hs h0
  have s' := q.sts' hs
  obtain ⟨bp, H, z, e1, hp, oH, wk⟩ := told_ok g s' (by unfold quoS; cases sts with | nil => exact absurd rfl h0 | cons _ _ => simp)
  refine ⟨z, ?_⟩
  rw [e1]
  have eH := q.heads h hs hp wk
  subst eH
  have pl : ∀ {j}, j < (quoL S b L).length → K48.plc bp (List.range L.length) j = some j := fun {j} hj => q.plc h hs hp (by rwa [quo_len] at hj)
  have e : toldD bp (List.range L.length) (quoS sts b L) (quoL S b L) = formD (quoS sts b L) (quoL S b L) := by
    unfold toldD formD
    have a : (quoS sts b L).map (fun p => PyData.tuple [lotD p.1, oD (K48.plc bp (List.range L.length) p.2)]) = (quoS sts b L).map startD := List.map_congr_left fun p hp' => by rw [pl (s'.lt p hp')]; rfl
    have c : (List.range L.length).map (fun x => lnT ((lnOf (quoL S b L) x).map fun o => o.bind (K48.plc bp (List.range L.length)))) = (quoL S b L).map lnT := by
      apply List.ext_getElem?
      intro i
      by_cases hi : i < L.length
      · have hi' : i < (quoL S b L).length := by rw [quo_len]; exact hi
        rw [List.getElem?_map, List.getElem?_map, List.getElem?_range hi, lnOf_get hi']
        show some (lnT _) = some (lnT _)
        congr 2
        conv => rhs; rw [← List.map_id (lnOf (quoL S b L) i)]
        refine List.map_congr_left fun o ho => ?_
        cases o with
        | none => rfl
        | some y => exact pl (g.inn _ (lnOf_mem hi') _ ho y rfl)
      · rw [List.getElem?_eq_none (by simp; omega), List.getElem?_eq_none (by simp [quo_len]; omega)]
    rw [a, c]
  rw [e]
end
end K48

set_option autoImplicit false
set_option linter.all false
set_option maxRecDepth 100000
namespace K48
open PySem L2 Z
/-! ### lots, each once, ascending -/
def kV (v : Vc) : NestedKey := .tup [.num v.1, .num v.2]
theorem lot_nk (v : Vc) : nk (lotD v) = some (kV v) ∧ keyN (lotD v) = some (kV v) := by
  have h : nk (lotD v) = some (kV v) := by
    unfold lotD kV
    simp [nk, nkAll]
  refine ⟨h, ?_⟩
  show (nk (lotD v)).bind _ = _
  rw [h]
  show (if decide ((kV v).depth ≤ 8) = true then some (kV v) else none) = _
  rw [if_pos (decide_eq_true (by simp [kV, NestedKey.depth, NestedKey.depthAll]))]
theorem kV_inj {u v : Vc} (h : kV u = kV v) : u = v := by
  unfold kV at h
  simp only [NestedKey.tup.injEq, List.cons.injEq, NestedKey.num.injEq, and_true] at h
  exact Prod.ext h.1 h.2
def addV (line : List Vc) (v : Vc) : List Vc := if v ∈ line then line else line ++ [v]
def dd (vs : List Vc) : List Vc := vs.foldl addV []
theorem addV_nodup {l : List Vc} (h : l.Nodup) (v : Vc) : (addV l v).Nodup := by
  unfold addV
  split
  · exact h
  · rename_i c
    rw [List.nodup_append]
    exact ⟨h, by simp, fun a ha b hb e => by rw [List.mem_singleton] at hb; subst hb; exact c (e ▸ ha)⟩
theorem foldV_nodup : ∀ {vs l : List Vc}, l.Nodup → (vs.foldl addV l).Nodup
  | [], _, h => h
  | v :: vs, l, h => foldV_nodup (vs := vs) (addV_nodup h v)
theorem foldV_len : ∀ (vs l : List Vc), (vs.foldl addV l).length ≤ l.length + vs.length
  | [], l => Nat.le_refl _
  | v :: vs, l => by
    have := foldV_len vs (addV l v)
    have : (addV l v).length ≤ l.length + 1 := by unfold addV; split <;> simp
    simp only [List.foldl_cons, List.length_cons]; omega
theorem foldV_mem : ∀ (vs l : List Vc) (v : Vc), v ∈ vs.foldl addV l ↔ v ∈ l ∨ v ∈ vs
  | [], l, v => by simp
  | u :: vs, l, v => by
    rw [List.foldl_cons, foldV_mem vs]
    have : v ∈ addV l u ↔ v ∈ l ∨ v = u := by
      unfold addV
      split
      · rename_i c; exact ⟨.inl, fun h => h.elim id fun e => e ▸ c⟩
      · simp
    rw [this, List.mem_cons]
    exact ⟨fun h => h.elim (fun h => h.elim .inl fun e => .inr (.inl e)) fun h => .inr (.inr h), fun h => h.elim (fun h => .inl (.inl h)) fun h => h.elim (fun e => .inl (.inr e)) .inr⟩
theorem dd_nodup (vs : List Vc) : (dd vs).Nodup := foldV_nodup List.nodup_nil
theorem foldV_self : ∀ (vs l : List Vc), (l ++ vs).Nodup → vs.foldl addV l = l ++ vs
  | [], l, _ => by simp
  | v :: vs, l, h => by
    have hv : v ∉ l := fun q => by
      rw [List.nodup_append] at h
      exact h.2.2 v q v (by simp) rfl
    rw [List.foldl_cons, show addV l v = l ++ [v] by unfold addV; rw [if_neg hv], foldV_self vs (l ++ [v]) (by simpa using h)]
    simp
theorem dGet_lot {kvs : List (D × D)} {l : List Vc} (h : kvs.map (·.1) = l.map lotD) (v : Vc) : (dGet kvs (kV v)).isSome = decide (v ∈ l) := by
  unfold dGet
  rw [Option.isSome_map, Bool.eq_iff_iff, List.find?_isSome, decide_eq_true_eq]
  constructor
  · rintro ⟨p, hp, e⟩
    have m : p.1 ∈ l.map lotD := by rw [← h]; exact List.mem_map.mpr ⟨p, hp, rfl⟩
    obtain ⟨u, hu, eu⟩ := List.mem_map.mp m
    have e : nk p.1 = some (kV v) := by simpa using e
    rw [← eu, (lot_nk u).1] at e
    exact kV_inj (Option.some.inj e) ▸ hu
  · intro hv
    have m : lotD v ∈ kvs.map (·.1) := by rw [h]; exact List.mem_map.mpr ⟨v, hv, rfl⟩
    obtain ⟨p, hp, ep⟩ := List.mem_map.mp m
    exact ⟨p, hp, by rw [ep]; exact decide_eq_true (lot_nk v).1⟩
theorem dSet_lot {kvs : List (D × D)} {l : List Vc} (h : kvs.map (·.1) = l.map lotD) (v : Vc) (d : D) : (dSet kvs (lotD v) (kV v) d).map (·.1) = (addV l v).map lotD := by
  unfold dSet addV
  rw [dGet_lot h]
  by_cases c : v ∈ l
  · simp only [c, decide_true, if_true]
    rw [← h, List.map_map]
    refine List.map_congr_left fun p _ => ?_
    show (if nk p.1 = some (kV v) then (p.1, d) else p).1 = p.1
    split <;> rfl
  · simp only [c, decide_false, Bool.false_eq_true, if_false]
    rw [List.map_append, h]; simp
theorem merge_lot (d : D) : ∀ (vs : List Vc) {kvs : List (D × D)} {l : List Vc}, kvs.map (·.1) = l.map lotD → (dMerge kvs (vs.map fun v => (lotD v, kV v, d))).map (·.1) = (vs.foldl addV l).map lotD
  | [], _, _, h => h
  | v :: vs, _, _, h => merge_lot d vs (dSet_lot h v d)
theorem dict_lots {vs : List Vc} {d : D} (hl : vs.length < 1000) : ∃ kvs, dictL (.list (vs.map fun v => .tuple [lotD v, d])) = .ok (.dict kvs) ∧ kvs.map (·.1) = (dd vs).map lotD := by
  refine ⟨dMerge [] (vs.map fun v => (lotD v, kV v, d)), ?_, merge_lot d vs rfl⟩
  have pk : ∀ l : List Vc, pairsK (l.map fun v => .tuple [lotD v, d]) = some (l.map fun v => (lotD v, kV v, d)) := fun l => by
    induction l with
    | nil => rfl
    | cons v l ih => simp only [List.map_cons, pairsK, (lot_nk v).2, ih]; rfl
  unfold dictL
  simp only [pk]
  rw [if_pos (by unfold szOk; exact decide_eq_true (by simp; omega))]
/-! ### sorted -/
def lel (u v : Vc) : Bool := decide (u.1 < v.1 ∨ u.1 = v.1 ∧ u.2 ≤ v.2)
def ltl (u v : Vc) : Prop := u.1 < v.1 ∨ u.1 = v.1 ∧ u.2 < v.2
instance (u v : Vc) : Decidable (ltl u v) := inferInstanceAs (Decidable (_ ∨ _))
theorem eqv_lot (u v : Vc) : PyData.eqv (lotD u) (lotD v) = decide (u = v) := by
  unfold lotD
  simp only [PyData.eqv, PyData.eqvAll]
  obtain ⟨a, b⟩ := u
  obtain ⟨c, d⟩ := v
  by_cases e : a = c <;> by_cases f : b = d <;> simp [e, f]
theorem lel_data (u v : Vc) : lel u v = W.dataLe false id (lotD u) (lotD v) := by
  show _ = !W.dataLt (lotD v) (lotD u)
  unfold lotD
  rw [W.dataLt_tuple, W.dataLt_cons (by simp [W.alike]), W.dataLt_cons (by simp [W.alike]), eqv_i, eqv_i, W.dataLt_int, W.dataLt_int]
  rw [show PyProof.Rows.lexLt PyProof.Rows.itemOrd (W.keyToksAll []) (W.keyToksAll []) = false from PyProof.Rows.lex_irrefl _]
  unfold lel
  by_cases c1 : v.1 = u.1
  · rw [if_pos (decide_eq_true c1)]
    by_cases c2 : v.2 = u.2
    · rw [if_pos (decide_eq_true c2)]; simp [c1, c2]
    · rw [if_neg (by simpa using c2), ← decide_not, decide_eq_decide]; omega
  · rw [if_neg (by simpa using c1), ← decide_not, decide_eq_decide]; omega
theorem lel_trans (p q r : Vc) (h1 : lel p q = true) (h2 : lel q r = true) : lel p r = true := by
  simp only [lel, decide_eq_true_eq] at h1 h2 ⊢; omega
theorem lel_total (p q : Vc) : (lel p q || lel q p) = true := by
  simp only [lel, Bool.or_eq_true, decide_eq_true_eq]; omega
theorem lel_anti (p q : Vc) (h1 : lel p q = true) (h2 : lel q p = true) : p = q := by
  simp only [lel, decide_eq_true_eq] at h1 h2
  exact Prod.ext (by omega) (by omega)
theorem lots_ok (l : List Vc) : PyData.plainAll (l.map lotD) = true ∧ PyData.depthAll (l.map lotD) ≤ 3 := by
  induction l with
  | nil => exact ⟨rfl, by simp [PyData.depthAll]⟩
  | cons p l ih =>
    refine ⟨by simp [PyData.plainAll, lotD, PyData.plain, ih.1], ?_⟩
    simp only [List.map_cons, PyData.depthAll]
    have : (lotD p).depth ≤ 3 := by simp [lotD, PyData.depth, PyData.depthAll]
    have := ih.2
    omega
theorem lots_okD (l : List Vc) : okD (.list (l.map lotD)) = true := by
  obtain ⟨a, b⟩ := lots_ok l
  unfold okD
  rw [show (PyData.list (l.map lotD)).plain = true by simpa [PyData.plain] using a, decide_eq_true (by simp only [PyData.depth]; omega)]; rfl
theorem sort_lots {us : List Vc} (hl : us.length < 1000) : sortL (us.map lotD) = .ok (.list ((us.mergeSort lel).map lotD)) := by
  unfold sortL
  rw [if_pos, ← List.map_mergeSort (r := lel) fun p _ q _ => lel_data p q]
  simp only [Bool.and_eq_true, Bool.or_eq_true]
  refine ⟨⟨⟨lots_okD us, ?_⟩, .inl ?_⟩, by unfold szOk; rw [List.length_map]; exact decide_eq_true (by omega)⟩
  · rw [List.all_eq_true]
    intro x hx
    rw [List.all_eq_true]
    intro y hy
    obtain ⟨p, _, rfl⟩ := List.mem_map.mp hx
    obtain ⟨q, _, rfl⟩ := List.mem_map.mp hy
    simp [lotD, W.alike, W.alikeAll]
  · rw [List.all_eq_true]
    intro x hx
    obtain ⟨p, _, rfl⟩ := List.mem_map.mp hx
    rfl
theorem sortd_lots {kvs : List (D × D)} {vs : List Vc} (h : kvs.map (·.1) = vs.map lotD) (hl : vs.length < 1000) : sortedL (.dict kvs) = .ok (.list ((vs.mergeSort lel).map lotD)) := by
  show sortL (kvs.map (·.1)) = _
  rw [h]; exact sort_lots hl
def srt (vs : List Vc) : List Vc := (dd vs).mergeSort lel
theorem srt_strict (vs : List Vc) : (srt vs).Pairwise ltl := by
  have a : (srt vs).Pairwise fun u v => lel u v = true := List.pairwise_mergeSort lel_trans lel_total _
  have b : (srt vs).Nodup := (List.mergeSort_perm (dd vs) lel).nodup_iff.mpr (dd_nodup vs)
  refine (a.and b).imp fun {u v} ⟨h1, h2⟩ => ?_
  simp only [lel, decide_eq_true_eq] at h1
  rcases h1 with h | ⟨h, h'⟩
  · exact .inl h
  · refine .inr ⟨h, ?_⟩
    have : u.2 ≠ v.2 := fun q => h2 (Prod.ext h q)
    omega
theorem srt_self {vs : List Vc} (h : vs.Pairwise ltl) : srt vs = vs := by
  have nd : vs.Nodup := h.imp fun {u v} h e => by subst e; unfold ltl at h; omega
  have e : dd vs = vs := by unfold dd; rw [foldV_self vs [] (by simpa using nd)]; simp
  unfold srt
  rw [e]
  refine List.mergeSort_of_pairwise ?_
  exact h.imp fun {u v} h => by unfold ltl at h; simp only [lel, decide_eq_true_eq]; omega
theorem srt_mem (vs : List Vc) (v : Vc) : v ∈ srt vs ↔ v ∈ vs := by
  unfold srt
  rw [(List.mergeSort_perm _ _).mem_iff]
  unfold dd
  rw [foldV_mem]; simp
theorem srt_len (vs : List Vc) : (srt vs).length ≤ vs.length := by
  unfold srt
  rw [(List.mergeSort_perm _ _).length_eq]
  have := foldV_len vs []
  show (vs.foldl addV []).length ≤ _
  simpa using this
/-- lots == sorted(dict(..)) -/
theorem eqv_lots : ∀ u v : List Vc, PyData.eqvAll (u.map lotD) (v.map lotD) = decide (u = v)
  | [], [] => by simp [PyData.eqvAll]
  | [], _ :: _ => by simp [PyData.eqvAll]
  | _ :: _, [] => by simp [PyData.eqvAll]
  | a :: u, b :: v => by
    simp only [List.map_cons, PyData.eqvAll, eqv_lot, eqv_lots u v, List.cons.injEq]
    by_cases c : a = b <;> by_cases d : u = v <;> simp [c, d]
theorem eq_lots (u v : List Vc) : eqD (.list (u.map lotD)) (.list (v.map lotD)) = .ok (decide (u = v)) := by
  unfold eqD
  rw [lots_okD, lots_okD]
  simp [PyData.eqv, eqv_lots]
theorem strict_iff (vs : List Vc) : vs = srt vs ↔ vs.Pairwise ltl := ⟨fun e => by rw [e]; exact srt_strict vs, fun h => (srt_self h).symm⟩
/-! ### is it of the form -/
theorem forT_all {ι : Type} {f : D → Unit → R (Fl Unit)} {enc : ι → D} {p : ι → Bool} {r : D} : ∀ {xs : List ι}, (∀ x ∈ xs, f (enc x) () = .ok (if p x = true then .nx () else .rt r ())) → forT (xs.map enc) () f = .ok (if xs.all p = true then .nx () else .rt r ())
  | [], _ => rfl
  | x :: xs, h => by
    rw [List.map_cons, forT, h x (by simp), List.all_cons]
    by_cases c : p x = true
    · rw [if_pos c, c]
      simp only [R.bind_ok, Bool.true_and]
      exact forT_all fun y hy => h y (by simp [hy])
    · have c' : p x = false := by simpa using c
      rw [if_neg c, c']
      rfl
theorem whole_n (k : Nat) : m_is_whole (nD k) = .ok (.bool true) := by unfold m_is_whole; rfl
theorem whole_i (k : Int) : m_is_whole (.int k) = .ok (.bool true) := by unfold m_is_whole; rfl
theorem lot_ok (v : Vc) : m_is_lot (lotD v) = .ok (.bool true) := by
  unfold m_is_lot
  refine bok (a := .bool true) ?_ rfl
  refine bok (show isaD isTupD (lotD v) = .ok true from rfl) <| bokT (show truth (.bool true) = .ok true from rfl) <| ?_
  refine bok (len_t _) <| bok (show eqD (.int 2) (.int 2) = .ok true from eq_i 2 2) <| bokT (show truth (.bool true) = .ok true from rfl) <| ?_
  refine bok (iter_t _) <| bok (a := [.bool true, .bool true]) ?_ rfl
  have := compL_all (f := fun x7 => (m_is_whole x7).bind fun z8 => R.ok (some z8)) (g := fun i : Int => .int i) (h := fun _ => .bool true) (xs := [v.1, v.2]) (by simp) fun x _ => bok (whole_i x) rfl
  exact this
def okLine (many : Nat) (l : Ln) : Bool := decide (l.length = many) && l.any Option.isSome
theorem comp_some (l : Ln) (hl : l.length < 1000) : (compL (l.map oD) fun x13 => if (!isNone x13) = true then R.ok (some x13) else R.ok none) = .ok ((l.filterMap id).map nD) := by
  rw [compL_of (by simp; omega)]
  clear hl
  induction l with
  | nil => rfl
  | cons o l ih =>
    cases o with
    | none => simp only [List.map_cons, oD, compP]; rw [ih]; rfl
    | some k => simp only [List.map_cons, compP]; rw [ih]; rfl
theorem eq_nilN (b : List Nat) : eqD (.list (b.map nD)) (.list []) = .ok b.isEmpty := by
  unfold eqD
  rw [okD_nL, show okD (.list []) = true from by simp [okD, PyData.plain, PyData.plainAll, PyData.depth, PyData.depthAll]]
  simp [eqv_nil]
theorem lines_ok {V : List Ln} {many : Nat} (hi : Inn V) (hl : ∀ l ∈ V, l.length < 100) : m_are_lines (nD many) (.tuple (V.map lnT)) = .ok (.bool (V.all (okLine many))) := by
  unfold m_are_lines
  refine bok (show isaD isTupD _ = .ok true from rfl) <| bokN (show truth (.bool true) = .ok true from rfl) <| ?_
  refine bok (iter_t _) <| bok (forT_all (p := okLine many) (r := .bool false) fun l hm => ?_) ?_
  · have hll := hl l hm
    have ne : neD (.int ((l.map oD).length : Int)) (nD many) = .ok (!decide (l.length = many)) := by
      unfold nD; rw [ne_i, List.length_map]
      congr 2
      rw [decide_eq_decide]; omega
    by_cases c : l.length = many
    · refine bokF (bok (show isaD isTupD _ = .ok true from rfl) <| bokN (show truth (.bool true) = .ok true from rfl) <| ?_) ?_
      · exact bok (len_t _) <| bok ne (by rw [decide_eq_true c]; rfl)
      refine bok (iter_t _) <| bok (comp_some l (by omega)) ?_
      have any : (l.filterMap id).isEmpty = !(l.any Option.isSome) := by
        clear ne hm hll c
        induction l with
        | nil => rfl
        | cons o l ih => cases o <;> simp_all
      unfold okLine
      rw [decide_eq_true c, Bool.true_and]
      by_cases e : l.any Option.isSome = true
      · rw [e, Bool.not_true] at any
        rw [e]
        refine bokF (bokF (by rw [eq_nilN, any]) ?_) rfl
        refine bok (iter_l _) <| bok (a := (l.filterMap id).map fun _ => .bool true) ?_ ?_
        · refine compL_all (by have := List.length_filterMap_le id l; omega) fun k hk => ?_
          have hk' : k < V.length := by
            obtain ⟨o, ho, eo⟩ := List.mem_filterMap.mp hk
            exact hi l hm o ho k eo
          refine bok (a := .bool true) (bok (whole_n k) <| bokT (show truth (.bool true) = .ok true from rfl) <| ?_) rfl
          refine bok (a := .bool true) ?_ rfl
          refine bokT (show leD (.int 0) (nD k) = .ok true by unfold nD; rw [le_i]; exact congrArg _ (decide_eq_true (by omega))) ?_
          refine bok (len_t _) <| bok (show ltD (nD k) (.int ((V.map lnT).length : Int)) = .ok true by rw [List.length_map, show (.int (V.length : Int) : D) = nD V.length from rfl, lt_n, decide_eq_true hk']) rfl
        · have ba : allL (.list ((l.filterMap id).map fun _ => .bool true)) = .ok (.bool true) := by
            unfold allL
            have : ∀ b : List Nat, boolsD (b.map fun _ => PyData.bool true) = some (b.map fun _ => true) := fun b => by
              induction b with
              | nil => rfl
              | cons x b ih => simp only [List.map_cons, boolsD, ih]; rfl
            simp only [this]
            congr 2
            rw [List.all_eq_true]
            intro x hx
            obtain ⟨_, _, rfl⟩ := List.mem_map.mp hx
            rfl
          exact bok ba <| bok (show truth (.bool true) = .ok true from rfl) rfl
      · have e' : l.any Option.isSome = false := by simpa using e
        rw [e', Bool.not_false] at any
        rw [e']
        exact bokT (bokT (by rw [eq_nilN, any]) rfl) rfl
    · unfold okLine
      rw [decide_eq_false c]
      refine bokT (bok (show isaD isTupD _ = .ok true from rfl) <| bokN (show truth (.bool true) = .ok true from rfl) <| ?_) rfl
      exact bok (len_t _) <| bok ne (by rw [decide_eq_false c]; rfl)
  · by_cases c : V.all (okLine many) = true
    · rw [if_pos c, c]
    · have c' : V.all (okLine many) = false := by simpa using c
      rw [if_neg c, c']
end K48

set_option autoImplicit false
set_option linter.all false
set_option maxRecDepth 100000
namespace K48
open PySem L2 Z
theorem starts_ok {sts : List St} {many : Nat} (hl : sts.length < 200) : m_are_starts (nD many) (.tuple (sts.map startD)) = .ok (.bool (sts.all (fun p => decide (p.2 < many)) && decide (sts.map (·.1) = srt (sts.map (·.1))))) := by
  unfold m_are_starts
  refine bok (show isaD isTupD _ = .ok true from rfl) <| bokN (show truth (.bool true) = .ok true from rfl) <| ?_
  refine bok (iter_t _) <| bok (forT_all (p := fun p : St => decide (p.2 < many)) (r := .bool false) fun p hm => ?_) ?_
  · refine bokF (bok (show isaD isTupD (startD p) = .ok true from rfl) <| bokN (show truth (.bool true) = .ok true from rfl) <| bok (len_t _) <| bokF (show neD (.int 2) (.int 2) = .ok false by rw [ne_i]; rfl) <| bok (item0 _ _) <| bok (lot_ok p.1) <| bok (show truth (.bool true) = .ok true from rfl) rfl) ?_
    by_cases c : p.2 < many
    · rw [if_pos (decide_eq_true c)]
      exact bokF (bok (item1 _ _ _) <| bok (whole_n p.2) <| bokN (show truth (.bool true) = .ok true from rfl) <| bok (a := true) (bok (item1 _ _ _) <| bokT (show leD (.int 0) (nD p.2) = .ok true by unfold nD; rw [le_i]; exact congrArg _ (decide_eq_true (by omega))) <| bok (by rw [lt_n, decide_eq_true c]) rfl) rfl) rfl
    · rw [if_neg (by simpa using c)]
      exact bokT (bok (item1 _ _ _) <| bok (whole_n p.2) <| bokN (show truth (.bool true) = .ok true from rfl) <| bok (a := false) (bok (item1 _ _ _) <| bokT (show leD (.int 0) (nD p.2) = .ok true by unfold nD; rw [le_i]; exact congrArg _ (decide_eq_true (by omega))) <| bok (by rw [lt_n, decide_eq_false c]) rfl) rfl) rfl
  · by_cases c : sts.all (fun p => decide (p.2 < many)) = true
    · rw [if_pos c, c, Bool.true_and]
      obtain ⟨kvs, d1, d2⟩ := dict_lots (vs := sts.map (·.1)) (d := .bool true) (by simp; omega)
      have c1 : (compL (sts.map startD) fun x24 => (item x24 (PyData.int 0)).bind fun z25 => R.ok (some z25)) = .ok ((sts.map (·.1)).map lotD) := by
        rw [List.map_map]
        exact compL_all (by omega) fun p _ => bok (item0 _ _) rfl
      refine bok (iter_t _) <| bok c1 <| bok (iter_l _) <| bok (compL_all (h := fun v : Vc => .tuple [lotD v, .bool true]) (by simp; omega) fun _ _ => rfl) <| bok d1 <| bok (sortd_lots d2 ?_) <| bok (eq_lots _ _) rfl
      have := foldV_len (sts.map (·.1)) []
      simp only [List.length_nil, Nat.zero_add, List.length_map] at this
      unfold dd; omega
    · have c' : sts.all (fun p => decide (p.2 < many)) = false := by simpa using c
      rw [if_neg c, c']; rfl
section
variable {sts : List St} {V : List Ln} {many : Nat}
theorem item0f (sts : List St) (V : List Ln) : item (formD sts V) (.int 0) = .ok (.tuple (sts.map startD)) := item0 _ _
theorem item1f (sts : List St) (V : List Ln) : item (formD sts V) (.int 1) = .ok (.tuple (V.map lnT)) := item1 _ _ _
theorem no_lines {st v : D} (e : m_are_lines (nD many) v = .ok (.bool false)) : m_is_complete (nD many) (.tuple [st, v]) = .ok (.bool false) := by
  unfold m_is_complete
  exact bokT (bok (show isaD isTupD _ = .ok true from rfl) <| bokN (show truth (.bool true) = .ok true from rfl) <| bok (len_t _) <| bokF (show neD (.int 2) (.int 2) = .ok false by rw [ne_i]; rfl) <| bok (item1 _ _ _) <| bok e <| bok (show truth (.bool false) = .ok false from rfl) rfl) rfl
theorem no_starts {st : D} {n : Nat} {vs : List D} (e : m_are_lines (nD many) (.tuple vs) = .ok (.bool true)) (hn : vs.length = n) (e2 : m_are_starts (nD n) st = .ok (.bool false)) : m_is_complete (nD many) (.tuple [st, .tuple vs]) = .ok (.bool false) := by
  unfold m_is_complete
  refine bokF (bok (show isaD isTupD _ = .ok true from rfl) <| bokN (show truth (.bool true) = .ok true from rfl) <| bok (len_t _) <| bokF (show neD (.int 2) (.int 2) = .ok false by rw [ne_i]; rfl) <| bok (item1 _ _ _) <| bok e <| bok (show truth (.bool true) = .ok true from rfl) rfl) ?_
  subst hn
  exact bok (a := .bool false) (bok (item1 _ _ _) <| bok (len_t _) <| bok (item0 _ _) <| bok e2 <| bokF (show truth (.bool false) = .ok false from rfl) rfl) rfl
theorem by_told {t z : D} {r : Bool} (hi : Inn V) (hl : ∀ l ∈ V, l.length < 100) (e1 : V.all (okLine many) = true) (hs : sts.length < 200) (e2 : (sts.all (fun p => decide (p.2 < V.length)) && decide (sts.map (·.1) = srt (sts.map (·.1)))) = true) (e3 : m_told_by (.tuple (sts.map startD)) (.tuple (V.map lnT)) = .ok (.tuple [t, z])) (e4 : eqD t (formD sts V) = .ok r) :
    m_is_complete (nD many) (formD sts V) = .ok (.bool r) := by
  unfold m_is_complete
  have a := lines_ok (many := many) hi hl
  rw [e1] at a
  have b := starts_ok (many := V.length) hs
  rw [e2] at b
  refine bokF (bok (show isaD isTupD _ = .ok true from rfl) <| bokN (show truth (.bool true) = .ok true from rfl) <| bok (len_t _) <| bokF (show neD (.int 2) (.int 2) = .ok false by rw [ne_i]; rfl) <| bok (item1f _ _) <| bok a <| bok (show truth (.bool true) = .ok true from rfl) rfl) ?_
  refine bok (a := .bool r) (bok (item1f _ _) <| bok (len_t _) <| bok (item0f _ _) <| bok (show m_are_starts (.int ((V.map lnT).length : Int)) _ = _ by rw [List.length_map]; exact b) <| bokT (show truth (.bool true) = .ok true from rfl) <| bok (item0f _ _) <| bok (item1f _ _) <| bok e3 <| bok (item0 _ _) <| bok e4 rfl) rfl
end
/-! ### equal, unlike -/
theorem eqv_o (o : Option Nat) : PyData.eqv (oD o) (oD o) = true := by
  cases o with
  | none => simp [oD, PyData.eqv]
  | some k => show PyData.eqv (nD k) (nD k) = true; rw [eqv_n]; simp
theorem eqv_os : ∀ l : Ln, PyData.eqvAll (l.map oD) (l.map oD) = true
  | [] => by simp [PyData.eqvAll]
  | o :: l => by simp only [List.map_cons, PyData.eqvAll, eqv_o, eqv_os l]; rfl
theorem eqv_lns : ∀ V : List Ln, PyData.eqvAll (V.map lnT) (V.map lnT) = true
  | [] => by simp [PyData.eqvAll]
  | l :: V => by
    simp only [List.map_cons, PyData.eqvAll, eqv_lns V]
    rw [show PyData.eqv (lnT l) (lnT l) = true by unfold lnT; simp [PyData.eqv, eqv_os]]; rfl
theorem eqv_st (p : St) : PyData.eqv (startD p) (startD p) = true := by
  unfold startD
  simp [PyData.eqv, PyData.eqvAll, eqv_lot, eqv_n]
theorem eqv_sts : ∀ s : List St, PyData.eqvAll (s.map startD) (s.map startD) = true
  | [] => by simp [PyData.eqvAll]
  | p :: s => by simp only [List.map_cons, PyData.eqvAll, eqv_st, eqv_sts s]; rfl
theorem eqvAll_len : ∀ {u v : List D}, PyData.eqvAll u v = true → u.length = v.length
  | [], [], _ => rfl
  | [], _ :: _, h => by simp [PyData.eqvAll] at h
  | _ :: _, [], h => by simp [PyData.eqvAll] at h
  | a :: u, b :: v, h => by
    simp only [PyData.eqvAll, Bool.and_eq_true] at h
    simp [eqvAll_len h.2]
/-- plain, not deep -/
def Pd (k : Nat) (ds : List D) : Prop := PyData.plainAll ds = true ∧ PyData.depthAll ds ≤ k
theorem Pd.nil {k : Nat} : Pd k [] := ⟨rfl, by simp [PyData.depthAll]⟩
theorem Pd.cons {k : Nat} {d : D} {ds : List D} (h1 : d.plain = true) (h2 : d.depth ≤ k) (h : Pd k ds) : Pd k (d :: ds) :=
  ⟨by simp [PyData.plainAll, h1, h.1], by have := h.2; simp only [PyData.depthAll]; omega⟩
theorem Pd.map {ι : Type} {k : Nat} {f : ι → D} (h : ∀ x, (f x).plain = true ∧ (f x).depth ≤ k) : ∀ l : List ι, Pd k (l.map f)
  | [] => .nil
  | x :: l => .cons (h x).1 (h x).2 (Pd.map h l)
theorem Pd.tup {k : Nat} {ds : List D} (h : Pd k ds) : (PyData.tuple ds).plain = true ∧ (PyData.tuple ds).depth ≤ k + 1 := ⟨by simpa [PyData.plain] using h.1, by have := h.2; simp only [PyData.depth]; omega⟩
theorem pd_o (o : Option Nat) : (oD o).plain = true ∧ (oD o).depth ≤ 0 := by cases o <;> simp [oD, nD, PyData.plain, PyData.depth]
theorem pd_ln (l : Ln) : (lnT l).plain = true ∧ (lnT l).depth ≤ 1 := (Pd.map pd_o l).tup
theorem pd_lot (v : Vc) : (lotD v).plain = true ∧ (lotD v).depth ≤ 1 := by simp [lotD, PyData.plain, PyData.plainAll, PyData.depth, PyData.depthAll]
theorem pd_pair (v : Vc) (o : Option Nat) : (PyData.tuple [lotD v, oD o]).plain = true ∧ (PyData.tuple [lotD v, oD o]).depth ≤ 2 :=
  (Pd.cons (k := 1) (pd_lot v).1 (pd_lot v).2 (.cons (pd_o o).1 (by have := (pd_o o).2; omega) .nil)).tup
theorem pd_form {s v : List D} (hs : Pd 2 s) (hv : Pd 2 v) : okD (.tuple [.tuple s, .tuple v]) = true := by
  have := (Pd.cons (k := 3) hs.tup.1 hs.tup.2 (.cons hv.tup.1 hv.tup.2 .nil)).tup
  unfold okD
  rw [this.1, decide_eq_true (by have := this.2; omega)]; rfl
theorem pd_sts (s : List St) : Pd 2 (s.map startD) := Pd.map (f := startD) (fun p => pd_pair p.1 (some p.2)) s
theorem pd_lns (V : List Ln) : Pd 2 (V.map lnT) := Pd.map (fun l => ⟨(pd_ln l).1, by have := (pd_ln l).2; omega⟩) V
theorem okD_form (s : List St) (V : List Ln) : okD (formD s V) = true := pd_form (pd_sts s) (pd_lns V)
theorem okD_told (b H : List Nat) (s : List St) (V : List Ln) : okD (toldD b H s V) = true := pd_form (Pd.map (fun p : St => pd_pair p.1 (plc b H p.2)) s) (Pd.map (fun x => ⟨(pd_ln _).1, by have := (pd_ln ((lnOf V x).map fun o => o.bind (plc b H))).2; omega⟩) H)
theorem eq_form (s : List St) (V : List Ln) : eqD (formD s V) (formD s V) = .ok true := by
  unfold eqD
  rw [okD_form]
  simp [formD, PyData.eqv, PyData.eqvAll, eqv_sts, eqv_lns]
/-- fewer states are told than there are -/
theorem ne_told {b H : List Nat} {s : List St} {V : List Ln} (h : H.length ≠ V.length) : eqD (toldD b H s V) (formD s V) = .ok false := by
  unfold eqD
  rw [okD_told, okD_form]
  simp only [Bool.and_self, if_true]
  congr 1
  unfold toldD formD
  simp only [PyData.eqv, PyData.eqvAll]
  have : PyData.eqvAll (H.map fun x => lnT ((lnOf V x).map fun o => o.bind (plc b H))) (V.map lnT) = false := by
    rw [Bool.eq_false_iff]
    intro q
    have := eqvAll_len q
    simp only [List.length_map] at this
    exact h this
  rw [this]; simp
end K48

set_option autoImplicit false
set_option linter.all false
set_option maxRecDepth 100000
namespace K48
open PySem L2 Z
/-! ### a form that tells itself -/
structure Val (dg : Nat) (sts : List St) (V : List Ln) : Prop where
  good : Good V dg
  stOk : Sts V.length sts
  some' : sts ≠ []
  alive : ∀ l ∈ V, l.any Option.isSome = true
  asc : (sts.map (·.1)).Pairwise ltl
  told : ∃ z, m_told_by (.tuple (sts.map startD)) (.tuple (V.map lnT)) = .ok (.tuple [formD sts V, z])
  few : V.length ≤ 6
  few' : sts.length ≤ 4
  lo : 2 ≤ dg
  hi : dg ≤ 5
  near : ∀ p ∈ sts, p.1.1.natAbs ≤ 2 ∧ p.1.2.natAbs ≤ 2
section
variable {dg : Nat} {sts : List St} {V : List Ln}
theorem Val.okl (h : Val dg sts V) : V.all (okLine dg) = true := by
  rw [List.all_eq_true]
  intro l hl
  unfold okLine
  rw [decide_eq_true (h.good.wid l hl), h.alive l hl]; rfl
theorem Val.wid (h : Val dg sts V) : ∀ l ∈ V, l.length < 100 := fun l hl => by rw [h.good.wid l hl]; exact h.good.nar
theorem Val.oks (h : Val dg sts V) : (sts.all (fun p => decide (p.2 < V.length)) && decide (sts.map (·.1) = srt (sts.map (·.1)))) = true := by
  rw [Bool.and_eq_true, List.all_eq_true]
  exact ⟨fun p hp => decide_eq_true (h.stOk.lt p hp), decide_eq_true ((strict_iff _).mpr h.asc)⟩
theorem Val.yes (h : Val dg sts V) : m_is_complete (nD dg) (formD sts V) = .ok (.bool true) := by
  obtain ⟨z, e⟩ := h.told
  exact by_told h.good.inn h.wid h.okl (by have := h.few'; omega) h.oks e (eq_form _ _)
theorem asc_no {s : List St} (n : Nat) (hl : s.length < 200) (h : ¬ (s.map (·.1)).Pairwise ltl) : m_are_starts (nD n) (.tuple (s.map startD)) = .ok (.bool false) := by
  rw [starts_ok hl, decide_eq_false (fun q => h ((strict_iff _).mp q)), Bool.and_false]
theorem Val.linesOk (h : Val dg sts V) : m_are_lines (nD dg) (.tuple (V.map lnT)) = .ok (.bool true) := by rw [lines_ok h.good.inn h.wid, h.okl]
/-- 0: turned round -/
theorem Val.c0 (h : Val dg sts V) (h2 : 2 ≤ sts.length) : m_is_complete (nD dg) (formD sts.reverse V) = .ok (.bool false) := by
  refine no_starts h.linesOk (List.length_map _) (asc_no _ (by rw [List.length_reverse]; have := h.few'; omega) fun q => ?_)
  have a := h.asc
  rw [List.map_reverse, List.pairwise_reverse] at q
  cases sts with
  | nil => simp at h2
  | cons p r =>
    cases r with
    | nil => simp at h2
    | cons p' r =>
      simp only [List.map_cons, List.pairwise_cons] at a q
      have := a.1 p'.1 (by simp)
      have := q.1 p'.1 (by simp)
      unfold ltl at *
      omega
/-- 1: one start twice -/
theorem Val.c1 (h : Val dg sts V) : m_is_complete (nD dg) (formD (sts ++ sts.take 1) V) = .ok (.bool false) := by
  refine no_starts h.linesOk (List.length_map _) (asc_no _ (by rw [List.length_append, List.length_take]; have := h.few'; omega) fun q => ?_)
  have := h.some'
  cases sts with
  | nil => exact this rfl
  | cons p r =>
    simp only [List.take_succ_cons, List.take_zero, List.cons_append, List.map_cons, List.pairwise_cons] at q
    have := q.1 p.1 (by simp)
    unfold ltl at this
    omega
/-- 2: one state twice -/
theorem Val.c2 (h : Val dg sts V) : m_is_complete (nD dg) (formD sts (V ++ V.take 1)) = .ok (.bool false) := by
  have hp := h.good.pos
  have hf := h.few
  obtain ⟨l, r, e⟩ : ∃ l r, V = l :: r := by cases V with | nil => simp at hp | cons l r => exact ⟨l, r, rfl⟩
  have et : V.take 1 = [lnOf V 0] := by subst e; rfl
  have hl : lnOf V 0 ∈ V := lnOf_mem hp
  rw [et]
  have mem : ∀ m ∈ V ++ [lnOf V 0], m ∈ V := fun m hm => by
    rcases List.mem_append.mp hm with q | q
    · exact q
    · rw [List.mem_singleton] at q; rw [q]; exact hl
  have len : (V ++ [lnOf V 0]).length = V.length + 1 := by simp
  have g : Good (V ++ [lnOf V 0]) dg := ⟨fun m hm o ho x e => by have := h.good.inn m (mem m hm) o ho x e; omega, by omega, by omega, fun m hm => h.good.wid m (mem m hm), h.good.nar⟩
  have s : Sts (V ++ [lnOf V 0]).length sts := ⟨fun p hp' => by have := h.stOk.lt p hp'; omega, h.stOk.few⟩
  obtain ⟨b, H, z, e1, hpt, oH, wk⟩ := told_ok g s h.some'
  have ln1 : ∀ {i}, i < V.length → lnOf (V ++ [lnOf V 0]) i = lnOf V i := fun {i} hi => by
    have a := lnOf_get (S := V ++ [lnOf V 0]) (i := i) (by omega)
    rw [List.getElem?_append_left hi, lnOf_get hi] at a
    exact (Option.some.inj a).symm
  have ln2 : lnOf (V ++ [lnOf V 0]) V.length = lnOf V 0 := by
    have a := lnOf_get (S := V ++ [lnOf V 0]) (i := V.length) (by omega)
    rw [List.getElem?_append_right (Nat.le_refl _), Nat.sub_self] at a
    exact (Option.some.inj a).symm
  have self : ∀ (n : Nat) (l : Ln), (∀ o ∈ l, ∀ x, o = some x → x < n) → All2 (fun x y => (x = none ∧ y = none) ∨ ∃ a c, x = some a ∧ y = some c ∧ (a < n ∧ (a = c ∨ (a = 0 ∧ c = V.length)) ∧ c < n)) l l := fun n l hl => by
    induction l with
    | nil => exact .nil
    | cons o l ih =>
      refine .cons ?_ (ih fun o' ho' => hl o' (by simp [ho']))
      cases o with
      | none => exact .inl ⟨rfl, rfl⟩
      | some x => exact .inr ⟨x, x, rfl, rfl, hl _ (by simp) x rfl, .inl rfl, hl _ (by simp) x rfl⟩
  have same : at' b 0 = at' b V.length := hpt.coarse (fun a c => a < V.length + 1 ∧ (a = c ∨ (a = 0 ∧ c = V.length)) ∧ c < V.length + 1) (fun a c ⟨h1, h2, h3⟩ => ⟨by omega, by omega, by
    have ent : ∀ {i}, i < V.length + 1 → ∀ o ∈ lnOf (V ++ [lnOf V 0]) i, ∀ x, o = some x → x < V.length + 1 := fun {i} hi o ho x e => by have := g.inn _ (lnOf_mem (by omega)) o ho x e; omega
    rcases h2 with rfl | ⟨rfl, rfl⟩
    · exact self _ _ (ent h1)
    · rw [ln2, ln1 hp]
      exact self _ _ fun o ho x e => by have := h.good.inn _ hl o ho x e; omega⟩) 0 V.length ⟨by omega, .inr ⟨rfl, rfl⟩, by omega⟩
  have hH : H.length ≤ V.length := by
    have := nodup_lt V.length (H.map fun x => if x = V.length then 0 else x) ?_ ?_
    · simpa using this
    · have nd := oH.nd
      have nH := oH.nodup
      rw [List.nodup_iff_pairwise_ne, List.pairwise_map] at nd ⊢
      refine (nd.and nH).imp_of_mem ?_
      intro x y hx hy ⟨h1, h2⟩ e
      apply h1
      by_cases cx : x = V.length <;> by_cases cy : y = V.length
      · rw [cx, cy]
      · rw [if_pos cx, if_neg cy] at e; rw [cx, ← e, same]
      · rw [if_neg cx, if_pos cy] at e; rw [cy, e, same]
      · rw [if_neg cx, if_neg cy] at e; rw [e]
    · intro x hx
      obtain ⟨y, hy, rfl⟩ := List.mem_map.mp hx
      have := oH.lt y hy
      split
      · exact hp
      · omega
  refine by_told g.inn (fun m hm => h.wid m (mem m hm)) ?_ (by have := h.few'; omega) ?_ e1 (ne_told (by omega))
  · rw [List.all_eq_true]
    intro m hm
    exact List.all_eq_true.mp h.okl m (mem m hm)
  · have := h.oks
    rw [Bool.and_eq_true, List.all_eq_true] at this ⊢
    exact ⟨fun p hp' => decide_eq_true (by have := h.stOk.lt p hp'; omega), this.2⟩
/-- 3: starts as a list -/
theorem Val.c3 (h : Val dg sts V) : m_is_complete (nD dg) (.tuple [.list (sts.map startD), .tuple (V.map lnT)]) = .ok (.bool false) := by
  refine no_starts h.linesOk rfl ?_
  unfold m_are_starts
  exact bok (show isaD isTupD _ = .ok false from rfl) <| bokM (show truth (.bool false) = .ok false from rfl) rfl
/-- 4: three parts -/
theorem Val.c4 (h : Val dg sts V) : m_is_complete (nD dg) (.tuple [.tuple (sts.map startD), .tuple (V.map lnT), .tuple []]) = .ok (.bool false) := by
  unfold m_is_complete
  exact bokT (bok (show isaD isTupD _ = .ok true from rfl) <| bokN (show truth (.bool true) = .ok true from rfl) <| bok (len_t _) <| bokT (show neD (.int 3) (.int 2) = .ok true by rw [ne_i]; rfl) rfl) rfl
/-- 5: a state that leads nowhere -/
theorem Val.c5 (h : Val dg sts V) (s : List St) : m_is_complete (nD dg) (formD s (V ++ [List.replicate dg none])) = .ok (.bool false) := by
  refine no_lines ?_
  have hf := h.few
  rw [lines_ok]
  · have : okLine dg (List.replicate dg none) = false := by
      unfold okLine
      have : (List.replicate dg (none : Option Nat)).any Option.isSome = false := by
        rw [List.any_eq_false]
        intro x hx
        rw [List.eq_of_mem_replicate hx]; simp
      rw [this, Bool.and_false]
    rw [List.all_append]
    simp [this]
  · intro m hm o ho x e
    rcases List.mem_append.mp hm with q | q
    · have := h.good.inn m q o ho x e
      simp; omega
    · rw [List.mem_singleton] at q
      subst q
      rw [List.eq_of_mem_replicate ho] at e; cases e
  · intro m hm
    rcases List.mem_append.mp hm with q | q
    · exact h.wid m q
    · rw [List.mem_singleton] at q
      subst q
      rw [List.length_replicate]; exact h.good.nar
/-- 6: no states -/
theorem Val.c6 (h : Val dg sts V) : m_is_complete (nD dg) (formD sts []) = .ok (.bool false) := by
  refine no_starts (n := 0) (vs := []) (by have := lines_ok (V := []) (many := dg) (fun _ h => by simp at h) (fun _ h => by simp at h); exact this) rfl ?_
  rw [starts_ok (by have := h.few'; omega)]
  have := h.some'
  cases sts with
  | nil => exact absurd rfl this
  | cons p r => simp
theorem no_tup {d : D} (h : isaD isTupD d = .ok false) : m_is_complete (nD dg) d = .ok (.bool false) := by
  unfold m_is_complete
  exact bokT (bok h <| bokM (show truth (.bool false) = .ok false from rfl) rfl) rfl
/-- 8: a start at a state that isn't there -/
theorem Val.c8 (h : Val dg sts V) : m_is_complete (nD dg) (formD [((0, 0), 9)] V) = .ok (.bool false) := by
  refine no_starts h.linesOk (List.length_map _) ?_
  rw [starts_ok (by simp)]
  have := h.few
  simp; omega
/-- 9: lines that are too long -/
theorem Val.c9 (h : Val dg sts V) (s : D) : m_is_complete (nD dg) (.tuple [s, .tuple ((V.map fun l => l ++ [none]).map lnT)]) = .ok (.bool false) := by
  refine no_lines ?_
  have hp := h.good.pos
  rw [lines_ok]
  · cases V with
    | nil => simp at hp
    | cons l r =>
      have := h.good.wid l (by simp)
      simp [okLine, this]
  · intro m hm o ho x e
    obtain ⟨l, hl, rfl⟩ := List.mem_map.mp hm
    rw [List.length_map]
    rcases List.mem_append.mp ho with q | q
    · exact h.good.inn l hl o q x e
    · rw [List.mem_singleton] at q; rw [q] at e; cases e
  · intro m hm
    obtain ⟨l, hl, rfl⟩ := List.mem_map.mp hm
    rw [List.length_append, h.good.wid l hl]
    have := h.hi
    simp; omega
theorem c11 : m_is_complete (nD dg) (.tuple []) = .ok (.bool false) := by
  unfold m_is_complete
  exact bokT (bok (show isaD isTupD _ = .ok true from rfl) <| bokN (show truth (.bool true) = .ok true from rfl) <| bok (len_t _) <| bokT (show neD (.int 0) (.int 2) = .ok true by rw [ne_i]; rfl) rfl) rfl
end
end K48

set_option autoImplicit false
set_option linter.all false
set_option maxRecDepth 100000
namespace K48
open PySem L2 Z
/-! ### how long what is shown is -/
def slen (d : D) : Nat := d.shown.length
def pl (ds : List D) : Nat := match ds with
  | [] => 0
  | d :: r => slen d + 2 + pl r
theorem pl_piled : ∀ ds : List D, piled (PyData.shownAll ds) = pl ds
  | [] => by simp [PyData.shownAll, piled, pl]
  | d :: r => by
    simp only [PyData.shownAll, pl]
    rw [piled_cons, pl_piled r]; rfl
theorem pl_app : ∀ a b : List D, pl (a ++ b) = pl a + pl b
  | [], b => by simp [pl]
  | d :: a, b => by simp only [List.cons_append, pl, pl_app a b]; omega
theorem shAll_len : ∀ ds : List D, (PyData.shownAll ds).length = ds.length
  | [] => by simp [PyData.shownAll]
  | d :: r => by simp [PyData.shownAll, shAll_len r]
theorem tup_len {ds : List D} (h : ds ≠ []) : slen (.tuple ds) = pl ds + if ds.length = 1 then 1 else 0 := by
  unfold slen
  show (tupleText (PyData.shownAll ds)).length = _
  have hn : PyData.shownAll ds ≠ [] := fun q => h (by have := shAll_len ds; rw [q] at this; exact List.eq_nil_of_length_eq_zero this.symm)
  have j := join_length_add _ hn
  rw [pl_piled] at j
  unfold tupleText
  rw [strLen_append, strLen_append, shAll_len]
  have e1 : (("(" : Str)).length = 1 := rfl
  by_cases c : ds.length = 1
  · rw [if_pos c, show (ds.length == 1) = true by simpa using c]
    have e2 : (((if true = true then ",)" else ")" : String) : Str)).length = 2 := rfl
    rw [e1, e2]; omega
  · rw [if_neg c, show (ds.length == 1) = false by simpa using c]
    have e2 : (((if false = true then ",)" else ")" : String) : Str)).length = 1 := rfl
    rw [e1, e2]; omega
theorem tup0_len : slen (.tuple []) = 2 := by
  unfold slen
  show (tupleText (PyData.shownAll [])).length = _
  simp only [PyData.shownAll]
  decide +kernel
theorem none_len : slen .none = 4 := by unfold slen; show ("None" : Str).length = 4; rfl
theorem x_len : slen (.str "x") = 3 := by
  unfold slen
  show (reprText "x").length = 3
  decide +kernel
theorem lst1_len (d : D) : slen (.list [d]) = slen d + 2 := by
  unfold slen
  show (listText (PyData.shownAll [d])).length = _
  simp only [PyData.shownAll]
  unfold listText
  rw [strLen_append]
  show (("[" : Str) ++ ((if 0 > 0 then ", " else "" : String) : Str) ++ d.shown).length + (("]" : Str)).length = _
  rw [strLen_append, strLen_append]
  have e1 : (("[" : Str)).length = 1 := rfl
  have e2 : (("]" : Str)).length = 1 := rfl
  have e3 : (((if 0 > 0 then ", " else "" : String) : Str)).length = 0 := rfl
  rw [e1, e2, e3]; omega
theorem form_len (s v : D) : slen (.tuple [s, v]) = slen s + slen v + 4 := by
  rw [tup_len (by simp)]
  simp only [pl, List.length_cons, List.length_nil]
  simp; omega
theorem ne_len {a b : D} (h : slen a ≠ slen b) : a.shown ≠ b.shown := fun e => h (by unfold slen; rw [e])
/-! ### sizes -/
theorem small_o (o : Option Nat) (h : ∀ x, o = some x → x < 1000) : Small 0 200 (oD o) := by
  cases o with
  | none => exact small_n.mono (Nat.le_refl _) (by omega)
  | some x => exact Small.int (by have := h x rfl; omega)
theorem small_ln {l : Ln} (hl : l.length ≤ 8) (h : ∀ o ∈ l, ∀ x, o = some x → x < 1000) : Small 1 1700 (lnT l) := by
  have := SmallAll.all (dp := 0) (w := 200) (ds := l.map oD) fun d hd => by
    obtain ⟨o, ho, rfl⟩ := List.mem_map.mp hd
    exact small_o o (h o ho)
  refine (this.mono (Nat.le_refl _) ?_).tuple
  rw [List.length_map]; omega
theorem small_lot (v : Vc) (h : v.1.natAbs < 1000 ∧ v.2.natAbs < 1000) : Small 1 600 (lotD v) := by
  have := SmallAll.all (dp := 0) (w := 200) (ds := [PyData.int v.1, .int v.2]) fun d hd => by
    rcases List.mem_cons.mp hd with rfl | hd
    · exact Small.int (by omega)
    · rw [List.mem_singleton] at hd; subst hd; exact Small.int (by omega)
  exact (this.mono (Nat.le_refl _) (by simp)).tuple
theorem small_st (p : St) (h : p.1.1.natAbs < 1000 ∧ p.1.2.natAbs < 1000 ∧ p.2 < 1000) : Small 2 2000 (startD p) := by
  have := SmallAll.cons (small_lot p.1 ⟨h.1, h.2.1⟩) (SmallAll.cons (Small.int (i := (p.2 : Int)) (by omega)) SmallAll.nil)
  exact (this.mono (by simp) (by simp)).tuple
theorem small_sts {s : List St} (hl : s.length ≤ 10) (h : ∀ p ∈ s, p.1.1.natAbs < 1000 ∧ p.1.2.natAbs < 1000 ∧ p.2 < 1000) : SmallAll 2 20010 (s.map startD) := by
  have := SmallAll.all (dp := 2) (w := 2000) (ds := s.map startD) fun d hd => by
    obtain ⟨p, hp, rfl⟩ := List.mem_map.mp hd
    exact small_st p (h p hp)
  refine this.mono (Nat.le_refl _) ?_
  rw [List.length_map]; omega
theorem small_lns {V : List Ln} (hl : V.length ≤ 10) (h : ∀ l ∈ V, l.length ≤ 8 ∧ ∀ o ∈ l, ∀ x, o = some x → x < 1000) : SmallAll 1 17010 (V.map lnT) := by
  have := SmallAll.all (dp := 1) (w := 1700) (ds := V.map lnT) fun d hd => by
    obtain ⟨l, hl, rfl⟩ := List.mem_map.mp hd
    exact small_ln (h l hl).1 (h l hl).2
  refine this.mono (Nat.le_refl _) ?_
  rw [List.length_map]; omega
theorem small_form {s v : D} (hs : Small 3 20010 s) (hv : Small 2 17010 v) : Small 4 37030 (.tuple [s, v]) := by
  have := SmallAll.cons hs (SmallAll.cons hv SmallAll.nil)
  exact (this.mono (by simp) (by simp)).tuple
theorem small_form3 {s v : D} (hs : Small 3 20010 s) (hv : Small 2 17010 v) : Small 4 37040 (.tuple [s, v, .tuple []]) := by
  have := SmallAll.cons hs (SmallAll.cons hv (SmallAll.cons (SmallAll.nil.tuple) SmallAll.nil))
  exact (this.mono (by simp) (by simp)).tuple
end K48

set_option autoImplicit false
set_option linter.all false
set_option maxRecDepth 100000
namespace K48
open PySem L2 Z
/-! ### what is bent -/
def cands (dg : Nat) (sts : List St) (V : List Ln) : List D :=
  [formD sts.reverse V, formD (sts ++ sts.take 1) V, formD sts (V ++ V.take 1), .tuple [.list (sts.map startD), .tuple (V.map lnT)],
   .tuple [.tuple (sts.map startD), .tuple (V.map lnT), .tuple []], formD (sts.take 1) (V ++ [List.replicate dg none]), formD sts [], .none, formD [((0, 0), 9)] V,
   .tuple [.tuple (sts.map startD), .tuple ((V.map fun l => l ++ [none]).map lnT)], .str "x", .tuple []]
def dueE (sts : List St) (V : List Ln) (d : D) : R D :=
  ((item (formD sts V) (PyData.int 0)).bind fun z47 =>
  (lenD z47).bind fun z48 =>
  (ltD z48 (PyData.int 2)).bind fun z49 =>
  (truth (PyData.bool z49)).bind fun t50 =>
  if t50 = true then
  (reprD d).bind fun z51 =>
  (reprD (formD sts V)).bind fun z52 =>
  (eqD z51 z52).bind fun z53 =>
  R.ok (PyData.bool z53)
  else
  R.ok (PyData.bool z49) : R D)
section
variable {dg : Nat} {sts : List St} {V : List Ln}
theorem Val.smS (h : Val dg sts V) : ∀ p ∈ sts, p.1.1.natAbs < 1000 ∧ p.1.2.natAbs < 1000 ∧ p.2 < 1000 := fun p hp => by
  have a := h.near p hp
  have b := h.stOk.lt p hp
  have c := h.few
  omega
theorem Val.smV (h : Val dg sts V) : ∀ l ∈ V, l.length ≤ 5 ∧ ∀ o ∈ l, ∀ x, o = some x → x < 1000 := fun l hl => ⟨by rw [h.good.wid l hl]; exact h.hi, fun o ho x e => by have := h.good.inn l hl o ho x e; have := h.few; omega⟩
theorem Val.sS (h : Val dg sts V) {s : List St} (hs : ∀ p ∈ s, p ∈ sts) (hl : s.length ≤ 10) : Small 3 20010 (.tuple (s.map startD)) := (small_sts hl fun p hp => h.smS p (hs p hp)).tuple
theorem Val.sV (h : Val dg sts V) {W : List Ln} (hw : ∀ l ∈ W, l.length ≤ 8 ∧ ∀ o ∈ l, ∀ x, o = some x → x < 1000) (hl : W.length ≤ 10) : Small 2 17010 (.tuple (W.map lnT)) := (small_lns hl hw).tuple
theorem Val.sL (h : Val dg sts V) : Small 2 17010 (.tuple (V.map lnT)) := h.sV (fun l hl => ⟨by have := (h.smV l hl).1; omega, (h.smV l hl).2⟩) (by have := h.few; omega)
theorem rp {s v : D} (hs : Small 3 20010 s) (hv : Small 2 17010 v) : reprD (.tuple [s, v]) = .ok (.str (PyData.tuple [s, v]).shown) := repr_t (small_form hs hv)
theorem Val.rv (h : Val dg sts V) : reprD (formD sts V) = .ok (.str (formD sts V).shown) := rp (h.sS (fun _ q => q) (by have := h.few'; omega)) h.sL
theorem due_no (h2 : 2 ≤ sts.length) (d : D) : dueE sts V d = .ok (.bool false) := by
  unfold dueE
  exact bok (item0f _ _) <| bok (len_t _) <| bok (show ltD (.int ((sts.map startD).length : Int)) (.int 2) = .ok false by rw [lt_i]; exact congrArg _ (decide_eq_false (by simp; omega))) <| bokF (show truth (.bool false) = .ok false from rfl) rfl
theorem due_one (h : Val dg sts V) (h1 : sts.length = 1) {d : D} (hd : reprD d = .ok (.str d.shown)) : dueE sts V d = .ok (.bool (decide (d.shown = (formD sts V).shown))) := by
  unfold dueE
  exact bok (item0f _ _) <| bok (len_t _) <| bok (show ltD (.int ((sts.map startD).length : Int)) (.int 2) = .ok true by rw [lt_i]; exact congrArg _ (decide_eq_true (by simp; omega))) <| bokT (show truth (.bool true) = .ok true from rfl) <| bok hd <| bok h.rv <| bok (eqs _ _) rfl
/-- one that is none -/
theorem due_ne (h : Val dg sts V) {d : D} (hd : reprD d = .ok (.str d.shown)) (hn : sts.length = 1 → d.shown ≠ (formD sts V).shown) : dueE sts V d = .ok (.bool false) := by
  by_cases c : 2 ≤ sts.length
  · exact due_no c d
  · have := h.some'
    have h1 : sts.length = 1 := by cases sts with | nil => exact absurd rfl this | cons p r => simp at c ⊢; omega
    rw [due_one h h1 hd, decide_eq_false (hn h1)]
theorem slen_ln {l : Ln} (h2 : 2 ≤ l.length) : slen (lnT l) = pl (l.map oD) ∧ 4 ≤ slen (lnT l) := by
  have : slen (lnT l) = pl (l.map oD) := by
    unfold lnT
    rw [tup_len (by intro q; simp at q; rw [q] at h2; simp at h2), List.length_map, if_neg (by omega)]; omega
  refine ⟨this, ?_⟩
  rw [this]
  match l, h2 with
  | a :: b :: r, _ => simp only [List.map_cons, pl]; omega
theorem Val.slV (h : Val dg sts V) : slen (.tuple (V.map lnT)) = pl (V.map lnT) + (if V.length = 1 then 1 else 0) ∧ 6 ≤ pl (V.map lnT) := by
  have hp := h.good.pos
  have hl := h.lo
  constructor
  · rw [tup_len (by intro q; simp at q; rw [q] at hp; simp at hp), List.length_map]
  · cases V with
    | nil => simp at hp
    | cons l r =>
      have := (slen_ln (l := l) (by rw [h.good.wid l (by simp)]; exact hl)).2
      simp only [List.map_cons, pl]; omega
theorem one {sts : List St} (h1 : sts.length = 1) : ∃ p, sts = [p] := by
  match sts, h1 with
  | [p], _ => exact ⟨p, rfl⟩
theorem slen_st (p : St) : 4 ≤ slen (startD p) := by
  unfold startD
  rw [tup_len (by simp)]
  simp only [pl]; omega
theorem slS1 (p : St) : slen (.tuple ([p].map startD)) = slen (startD p) + 3 := by
  rw [tup_len (by simp)]
  simp [pl]
theorem Val.cand (h : Val dg sts V) : ∀ d ∈ cands dg sts V, ∃ due, dueE sts V d = .ok (.bool due) ∧ m_is_complete (nD dg) d = .ok (.bool due) := by
  have hf := h.few
  have hf' := h.few'
  have hp := h.good.pos
  have hlo := h.lo
  have hhi := h.hi
  obtain ⟨v1, v2⟩ := h.slV
  have sub : ∀ p ∈ sts.take 1, p ∈ sts := fun p hp => List.mem_of_mem_take hp
  have smS := h.sS (s := sts) (fun _ q => q) (by omega)
  intro d hd
  simp only [cands, List.mem_cons, List.not_mem_nil, or_false] at hd
  rcases hd with rfl | rfl | rfl | rfl | rfl | rfl | rfl | rfl | rfl | rfl | rfl | rfl
  · by_cases c : 2 ≤ sts.length
    · exact ⟨false, due_no c _, h.c0 c⟩
    · have := h.some'
      have h1 : sts.length = 1 := by cases sts with | nil => exact absurd rfl this | cons p r => simp at c ⊢; omega
      obtain ⟨p, rfl⟩ := one h1
      refine ⟨true, ?_, h.yes⟩
      rw [show [p].reverse = [p] from rfl, due_one h h1 h.rv]; simp
  · refine ⟨false, due_ne h (rp (h.sS (fun p hp => ?_) (by simp; omega)) h.sL) fun h1 => ?_, h.c1⟩
    · rcases List.mem_append.mp hp with q | q
      · exact q
      · exact sub p q
    · obtain ⟨p, rfl⟩ := one h1
      refine ne_len ?_
      unfold formD
      rw [form_len, form_len, slS1]
      show slen (.tuple [startD p, startD p]) + _ + 4 ≠ _
      rw [tup_len (by simp)]
      have := slen_st p
      simp only [pl, List.length_cons, List.length_nil]
      simp; omega
  · refine ⟨false, due_ne h (rp smS (h.sV (fun l hl => ?_) (by simp; omega))) fun h1 => ?_, h.c2⟩
    · have hl : l ∈ V := by
        rcases List.mem_append.mp hl with q | q
        · exact q
        · exact List.mem_of_mem_take q
      exact ⟨by have := (h.smV l hl).1; omega, (h.smV l hl).2⟩
    · refine ne_len ?_
      unfold formD
      rw [form_len, form_len, v1]
      obtain ⟨l, r, e⟩ : ∃ l r, V = l :: r := by cases V with | nil => simp at hp | cons l r => exact ⟨l, r, rfl⟩
      have a := (slen_ln (l := l) (by rw [h.good.wid l (by rw [e]; simp)]; exact hlo)).2
      have et : V.take 1 = [l] := by rw [e]; rfl
      rw [et, List.map_append, tup_len (ds := V.map lnT ++ _) (by simp), pl_app]
      simp only [List.map_cons, List.map_nil, pl, List.length_append, List.length_map, List.length_cons, List.length_nil]
      split <;> split <;> omega
  · refine ⟨false, due_ne h (rp (small_sts (by omega) h.smS).list h.sL) fun h1 => ?_, h.c3⟩
    obtain ⟨p, rfl⟩ := one h1
    refine ne_len ?_
    unfold formD
    rw [form_len, form_len, slS1]
    show slen (.list [startD p]) + _ + 4 ≠ _
    rw [lst1_len]; omega
  · refine ⟨false, due_ne h (repr_t (small_form3 smS h.sL)) fun h1 => ?_, h.c4⟩
    refine ne_len ?_
    unfold formD
    rw [form_len, tup_len (by simp)]
    simp only [pl, tup0_len, List.length_cons, List.length_nil]
    simp; omega
  · refine ⟨false, due_ne h (rp (h.sS sub (by simp; omega)) (h.sV (fun l hl => ?_) (by simp; omega))) fun h1 => ?_, h.c5 _⟩
    · rcases List.mem_append.mp hl with q | q
      · exact ⟨by have := (h.smV l q).1; omega, (h.smV l q).2⟩
      · rw [List.mem_singleton] at q
        subst q
        exact ⟨by rw [List.length_replicate]; omega, fun o ho x e => by rw [List.eq_of_mem_replicate ho] at e; cases e⟩
    · obtain ⟨p, rfl⟩ := one h1
      refine ne_len ?_
      unfold formD
      rw [form_len, form_len, v1, show [p].take 1 = [p] from rfl]
      have a := (slen_ln (l := List.replicate dg none) (by rw [List.length_replicate]; exact hlo)).2
      rw [List.map_append, tup_len (ds := _ ++ _) (by simp), pl_app]
      simp only [List.map_cons, List.map_nil, pl, List.length_append, List.length_map, List.length_cons, List.length_nil]
      split <;> split <;> omega
  · refine ⟨false, due_ne h (rp smS (SmallAll.nil.mono (by omega) (by omega) |>.tuple)) fun h1 => ?_, h.c6⟩
    refine ne_len ?_
    unfold formD
    rw [form_len, form_len, v1, List.map_nil, tup0_len]
    split <;> omega
  · refine ⟨false, due_ne h rfl fun h1 => ?_, no_tup rfl⟩
    refine ne_len ?_
    unfold formD
    rw [none_len, form_len, v1]
    split <;> omega
  · refine ⟨false, due_ne h (rp (small_sts (by simp) (by simp)).tuple h.sL) fun h1 => ?_, h.c8⟩
    obtain ⟨p, rfl⟩ := one h1
    by_cases c : slen (startD ((0, 0), 9)) = slen (startD p)
    · intro e
      have e1 := congrArg TL.tl e
      unfold formD at e1
      rw [tl_pair, tl_pair] at e1
      have e2 := (List.cons.inj e1).2
      have e3 := List.append_cancel_right e2
      have sg : ∀ q : St, TL.tl (PyData.tuple ([q].map startD)).shown = 40 :: (TL.tl (startD q).shown ++ [44, 41]) := fun q => by
        have : (PyData.tuple ([q].map startD)).shown = ("(" : Str) ++ (startD q).shown ++ (",)" : Str) := by
          show (PyData.tuple [startD q]).shown = _
          simp only [PyData.shown, PyData.shownAll]; rfl
        rw [this, TL.tl_append, TL.tl_append]
        have e1 : TL.tl ("(" : Str) = [40] := by decide +kernel
        have e2 : TL.tl (",)" : Str) = [44, 41] := by decide +kernel
        rw [e1, e2]; simp
      rw [sg, sg] at e3
      have e4 := List.append_cancel_right (List.cons.inj e3).2
      have nine : startD ((0, 0), 9) = Z.pointD ((0, 0), 9) := rfl
      have pp : startD p = Z.pointD (p.1, (p.2 : Int)) := rfl
      have e5 : (Z.pointD ((0, 0), 9)).shown = (Z.pointD (p.1, (p.2 : Int))).shown := by
        rw [← nine, ← pp]
        exact TL.ext_tl e4
      have := congrArg Prod.snd (point_inj e5)
      have b := h.stOk.lt p (by simp)
      simp only at this
      omega
    · refine ne_len ?_
      unfold formD
      rw [form_len, form_len, slS1, slS1]
      omega
  · refine ⟨false, due_ne h (rp smS (h.sV (fun l hl => ?_) (by simp; omega))) fun h1 => ?_, h.c9 _⟩
    · obtain ⟨m, hm, rfl⟩ := List.mem_map.mp hl
      obtain ⟨a, b⟩ := h.smV m hm
      refine ⟨by rw [List.length_append]; simp; omega, fun o ho x e => ?_⟩
      rcases List.mem_append.mp ho with q | q
      · exact b o q x e
      · rw [List.mem_singleton] at q; rw [q] at e; cases e
    · refine ne_len ?_
      unfold formD
      rw [form_len, form_len, v1]
      have lt : ∀ W : List Ln, (∀ l ∈ W, 2 ≤ l.length) → pl ((W.map fun l => l ++ [none]).map lnT) = pl (W.map lnT) + 6 * W.length := fun W => by
        induction W with
        | nil => intro _; rfl
        | cons l W ih =>
          intro hw
          have a := (slen_ln (hw l (by simp))).1
          have b := (slen_ln (l := l ++ [none]) (by rw [List.length_append]; have := hw l (by simp); omega)).1
          simp only [List.map_cons, pl, ih fun m hm => hw m (by simp [hm]), List.length_cons]
          rw [a, b, List.map_append, pl_app]
          show pl (l.map oD) + (slen .none + 2 + 0) + 2 + _ = _
          rw [none_len]; omega
      rw [tup_len (ds := (V.map fun l => l ++ [none]).map lnT) (by intro q; simp at q; rw [q] at hp; simp at hp), lt V fun l hl => by rw [h.good.wid l hl]; exact hlo]
      simp only [List.length_map]
      split <;> omega
  · refine ⟨false, due_ne h (by show (if _ then _ else _) = _; rw [if_pos (by show (reprText "x").length ≤ _; have := x_len; unfold slen at this; have e : (PyData.str "x").shown = reprText "x" := rfl; rw [e] at this; omega)]) fun h1 => ?_, no_tup rfl⟩
    refine ne_len ?_
    unfold formD
    rw [x_len, form_len, v1]
    split <;> omega
  · refine ⟨false, due_ne h (repr_t SmallAll.nil.tuple) fun h1 => ?_, c11⟩
    refine ne_len ?_
    unfold formD
    rw [tup0_len, form_len, v1]
    split <;> omega
end
end K48

set_option autoImplicit false
set_option linter.all false
set_option maxRecDepth 100000
namespace K48
open PySem L2 Z
theorem oD_none : (PyData.none : D) = oD none := rfl
theorem mulN_ok {dg : Nat} (h1 : 2 ≤ dg) (h2 : dg ≤ 5) : mul (PyData.tuple [PyData.none]) (nD dg) = .ok (lnT (List.replicate dg none)) := by
  have : dg = 2 ∨ dg = 3 ∨ dg = 4 ∨ dg = 5 := by omega
  rcases this with rfl | rfl | rfl | rfl <;> rfl
section
variable {dg : Nat} {sts : List St} {V : List Ln}
theorem bent_ok (h : Val dg sts V) {n : Nat} {s : Src} (hn : Ok (n + 1) s) : ∃ d s' due, m__law_bent s (formD sts V) (nD dg) = .ok (d, s') ∧ Ok n s' ∧ dueE sts V d = .ok (.bool due) ∧ m_is_complete (nD dg) d = .ok (.bool due) := by
  have hf := h.few
  have hf' := h.few'
  have hp := h.good.pos
  have hs1 : 1 ≤ sts.length := by have := h.some'; cases sts with | nil => exact absurd rfl this | cons p r => simp
  obtain ⟨r, d, s', e1, e2, e3⟩ := of_ok (xs := cands dg sts V) hn (by simp [cands]) (by simp [cands])
  obtain ⟨due, d1, d2⟩ := h.cand d (List.mem_of_getElem? e2)
  refine ⟨d, s', due, ?_, e3, d1, d2⟩
  unfold m__law_bent
  have t1 : (sts.map startD).take 1 = (sts.take 1).map startD := by rw [List.map_take]
  have t2 : (V.map lnT).take 1 = (V.take 1).map lnT := by rw [List.map_take]
  have a1 : slice (.tuple (sts.map startD)) none (some 1) = .ok (.tuple ((sts.take 1).map startD)) := by
    have := slice_t (xs := sts.map startD) (i := 1) (by simp; omega)
    rw [t1] at this; exact this
  have a2 : slice (.tuple (V.map lnT)) none (some 1) = .ok (.tuple ((V.take 1).map lnT)) := by
    have := slice_t (xs := V.map lnT) (i := 1) (by simp; omega)
    rw [t2] at this; exact this
  have a3 : add (.tuple (sts.map startD)) (.tuple ((sts.take 1).map startD)) = .ok (.tuple ((sts ++ sts.take 1).map startD)) := by
    rw [List.map_append]; exact add_t (by simp; omega)
  have a4 : add (.tuple (V.map lnT)) (.tuple ((V.take 1).map lnT)) = .ok (.tuple ((V ++ V.take 1).map lnT)) := by
    rw [List.map_append]; exact add_t (by simp; omega)
  have a5 : add (.tuple (V.map lnT)) (.tuple [lnT (List.replicate dg none)]) = .ok (.tuple ((V ++ [List.replicate dg none]).map lnT)) := by
    rw [List.map_append]; exact add_t (by simp; omega)
  have a6 : (compL (V.map lnT) fun x16 => (add x16 (PyData.tuple [PyData.none])).bind fun z17 => R.ok (some z17)) = .ok ((V.map fun l => l ++ [none]).map lnT) := by
    rw [List.map_map]
    exact compL_all (by omega) fun l hl => bok (by
      show add (.tuple (l.map oD)) (.tuple [oD none]) = .ok (.tuple ((l ++ [none]).map oD))
      rw [List.map_append]; exact add_t (by have := h.wid l hl; simp; omega)) rfl
  refine bok (un2_t _ _) <| bok (show revTD (.tuple (sts.map startD)) = .ok (.tuple (sts.reverse.map startD)) by rw [List.map_reverse]; rfl) <| bok a1 <| bok a3 <| bok a2 <| bok a4 <| bok (show listD _ = .ok (.list (sts.map startD)) from rfl) <| bok a1 <| bok (mulN_ok h.lo h.hi) <| bok a5 <|
    bok (show addL2 _ _ = .ok _ from rfl) <| bok (push1 _ _ (by simp)) <| bok (iter_t _) <| bok a6 <| bok (tuple_l _) <| bok (show addL2 _ _ = .ok _ from rfl) <| bok e1 rfl
end
/-! ### pieces counted -/
def nextW (V : List Ln) (c : List Nat) : List Nat := V.map fun l => ((l.filterMap id).map (at' c)).sum
def ways (V : List Ln) : Nat → List Nat
  | 0 => List.replicate V.length 1
  | n + 1 => nextW V (ways V n)
def pieces (sts : List St) (V : List Ln) (n : Nat) : Nat := (sts.map fun p => at' (ways V n) p.2).sum
theorem ways_len (V : List Ln) : ∀ n, (ways V n).length = V.length
  | 0 => by simp [ways]
  | n + 1 => by simp [ways, nextW]
theorem intsD_n : ∀ b : List Nat, intsD (b.map nD) = some (b.map fun k : Nat => (k : Int))
  | [] => rfl
  | k :: b => by
    show (intsD (b.map nD)).map _ = _
    rw [intsD_n b]; rfl
theorem sum_cast : ∀ b : List Nat, (b.map fun k : Nat => (k : Int)).sum = ((b.sum : Nat) : Int)
  | [] => rfl
  | k :: b => by simp only [List.map_cons, List.sum_cons, sum_cast b]; omega
theorem sum_n (b : List Nat) : sumL (.list (b.map nD)) = .ok (nD b.sum) := by
  unfold sumL
  simp only [intsD_n, sum_cast]; rfl
theorem ones_ok {n : Nat} (h : n < 1000) : mul (PyData.list [(PyData.int 1)]) (.int (n : Int)) = .ok (nL (List.replicate n 1)) := by
  have e : nL (List.replicate n 1) = .list (List.replicate n (.int 1)) := by unfold nL; rw [List.map_replicate]; rfl
  rw [e]
  unfold mul
  have c1 : decide (-(2 ^ 63) ≤ (n : Int)) = true := decide_eq_true (by omega)
  have c2 : decide ((n : Int) < 2 ^ 63) = true := decide_eq_true (by omega)
  have c3 : szOk (([PyData.int 1] : List D).length * (n : Int).toNat) = true := by unfold szOk; exact decide_eq_true (by simp; omega)
  show (if (decide (-(2 ^ 63) ≤ (n : Int)) && decide ((n : Int) < 2 ^ 63) && szOk (([PyData.int 1] : List D).length * (n : Int).toNat)) = true then _ else _) = _
  rw [c1, c2, c3]
  simp [repl]
/-- what counts ask -/
structure Cv (sts : List St) (V : List Ln) : Prop where
  inn : Inn V
  few : V.length < 100
  wid : ∀ l ∈ V, l.length < 100
  lt : ∀ p ∈ sts, p.2 < V.length
  few' : sts.length < 100
theorem Val.cv {dg : Nat} {sts : List St} {V : List Ln} (h : Val dg sts V) : Cv sts V := ⟨h.good.inn, h.good.few, h.wid, h.stOk.lt, h.stOk.few⟩
section
variable {sts : List St} {V : List Ln}
theorem lap_c (h : Cv sts V) {c : List Nat} (hc : c.length = V.length) : (compL (V.map lnT) fun x10 =>
    (iter x10).bind fun z11 =>
    (compL z11 fun x12 =>
    if (!isNone x12) = true then
    (item (nL c) x12).bind fun z13 =>
    R.ok (some z13)
    else
    R.ok none).bind fun ys14 =>
    (sumL (PyData.list ys14)).bind fun z15 =>
    R.ok (some z15)) = .ok ((nextW V c).map nD) := by
  unfold nextW
  rw [List.map_map]
  refine compL_all (by have := h.few; omega) fun l hl => bok (iter_t _) <| bok (a := ((l.filterMap id).map (at' c)).map nD) ?_ <| bok (sum_n _) rfl
  rw [compL_of (by have := h.wid l hl; simp; omega)]
  have hi := h.inn l hl
  clear hl
  induction l with
  | nil => rfl
  | cons o l ih =>
    have ih := ih fun o ho => hi o (by simp [ho])
    cases o with
    | none => simp only [List.map_cons, oD, compP]; rw [ih]; rfl
    | some k =>
      simp only [List.map_cons, compP]
      rw [ih]
      refine bok (a := some (nD (at' c k))) ?_ rfl
      show (if (!isNone (nD k)) = true then _ else _) = _
      rw [show (!isNone (nD k)) = true from rfl, if_pos rfl]
      exact bok (item_nL (by rw [hc]; exact hi _ (by simp) k rfl)) rfl
theorem heads_c (h : Cv sts V) {c : List Nat} (hc : c.length = V.length) : (compL (sts.map startD) fun x19 =>
    (un2 x19).bind fun (p20, p21) =>
    (item (nL c) p21).bind fun z22 =>
    R.ok (some z22)) = .ok ((sts.map fun p => at' c p.2).map nD) := by
  rw [List.map_map]
  exact compL_all (by have := h.few'; omega) fun p hp => bok (un2_t _ _) <| bok (item_nL (by rw [hc]; exact h.lt p hp)) rfl
theorem pieces_ok (h : Cv sts V) {n : Nat} (hn : n < 1000) : m_pieces_counted (formD sts V) (nD n) = .ok (nD (pieces sts V n)) := by
  unfold m_pieces_counted
  obtain ⟨s, e1, e2⟩ := forI (f := fun (x5 : D) (s6 : D) => (item (formD sts V) (PyData.int 1)).bind fun z8 =>
      (iter z8).bind fun z9 =>
      (compL z9 fun x10 =>
      (iter x10).bind fun z11 =>
      (compL z11 fun x12 =>
      if (!isNone x12) = true then
      (item s6 x12).bind fun z13 =>
      R.ok (some z13)
      else
      R.ok none).bind fun ys14 =>
      (sumL (PyData.list ys14)).bind fun z15 =>
      R.ok (some z15)).bind fun ys16 =>
      R.ok (PyData.list ys16)) (xs := rangeD 0 n) (st := nL (ways V 0)) (fun i s => s = nL (ways V i)) rfl fun i s x _ hs => by
        subst hs
        exact ⟨_, bok (item1f _ _) <| bok (iter_t _) <| bok (lap_c h (ways_len V i)) rfl, rfl⟩
  subst e2
  have hl : (rangeD 0 (n : Int)).length = n := by rw [rangeD_eq]; simp
  rw [hl] at e1
  refine bok (item1f _ _) <| bok (len_t _) <| bok (by rw [List.length_map]; exact ones_ok (by have := h.few; omega)) <| bok (range_i (by omega)) <| bok e1 <| bok (item0f _ _) <| bok (iter_t _) <| bok (heads_c h (ways_len V n)) <| bok (sum_n _) rfl
theorem counts_ok (h : Cv sts V) {most : Nat} (hn : most < 1000) : m__law_counts (formD sts V) (nD most) = .ok (.list ((List.range (most + 1)).map fun i => nD (pieces sts V i))) := by
  unfold m__law_counts
  obtain ⟨s, e1, e2⟩ := forI (f := fun (x6 : D) (s7 : D × List D) => (item (formD sts V) (PyData.int 0)).bind fun z9 =>
      (iter z9).bind fun z10 =>
      (compL z10 fun x11 =>
      (un2 x11).bind fun (p12, p13) =>
      (item s7.1 p13).bind fun z14 =>
      R.ok (some z14)).bind fun ys15 =>
      (sumL (PyData.list ys15)).bind fun z16 =>
      (pushM s7.2 [z16]).bind fun (z17, y18) =>
      (item (formD sts V) (PyData.int 1)).bind fun z19 =>
      (iter z19).bind fun z20 =>
      (compL z20 fun x21 =>
      (iter x21).bind fun z22 =>
      (compL z22 fun x23 =>
      if (!isNone x23) = true then
      (item s7.1 x23).bind fun z24 =>
      R.ok (some z24)
      else
      R.ok none).bind fun ys25 =>
      (sumL (PyData.list ys25)).bind fun z26 =>
      R.ok (some z26)).bind fun ys27 =>
      R.ok ((PyData.list ys27), y18)) (xs := rangeD 0 ((most + 1 : Nat) : Int)) (st := (nL (ways V 0), [])) (fun i s => s = (nL (ways V i), (List.range i).map fun i => nD (pieces sts V i))) rfl fun i s x hx hs => by
        subst hs
        have hi : i < most + 1 := by
          have := (List.getElem?_eq_some_iff.mp hx).1
          rw [rangeD_eq] at this; simpa using this
        refine ⟨_, bok (item0f _ _) <| bok (iter_t _) <| bok (heads_c h (ways_len V i)) <| bok (sum_n _) <| bok (push1 _ _ (by simp; omega)) <| bok (item1f _ _) <| bok (iter_t _) <| bok (lap_c h (ways_len V i)) rfl, ?_⟩
        rw [List.range_succ, List.map_append]; rfl
  subst e2
  have hl : (rangeD 0 ((most + 1 : Nat) : Int)).length = most + 1 := by rw [rangeD_eq]; simp
  rw [hl] at e1
  exact bok (item1f _ _) <| bok (len_t _) <| bok (by rw [List.length_map]; exact ones_ok (by have := h.few; omega)) <| bok (show add (nD most) (.int 1) = .ok (.int ((most + 1 : Nat) : Int)) from rfl) <| bok (range_i (by omega)) <| bok e1 rfl
end
/-- how great they are -/
theorem sum_le {B : Nat} : ∀ l : List Nat, (∀ x ∈ l, x ≤ B) → l.sum ≤ l.length * B
  | [], _ => by simp
  | x :: l, h => by
    have a := h x (by simp)
    have b := sum_le l fun y hy => h y (by simp [hy])
    rw [List.sum_cons, List.length_cons, Nat.succ_mul]; omega
theorem ways_le {V : List Ln} {w : Nat} (hw : ∀ l ∈ V, l.length ≤ w) : ∀ n i, at' (ways V n) i ≤ (w + 1) ^ n
  | 0, i => by
    show at' (List.replicate V.length 1) i ≤ 1
    unfold at'
    rw [List.getD_eq_getElem?_getD, List.getElem?_replicate]
    split <;> simp
  | n + 1, i => by
    by_cases hi : i < V.length
    · have e : at' (ways V (n + 1)) i = (((lnOf V i).filterMap id).map (at' (ways V n))).sum := by
        have := at_get (b := ways V (n + 1)) (i := i) (by rw [ways_len]; exact hi)
        show _ = _
        unfold ways nextW at this
        rw [List.getElem?_map, lnOf_get hi] at this
        exact (Option.some.inj this).symm
      rw [e]
      refine Nat.le_trans (sum_le (B := (w + 1) ^ n) _ fun x hx => ?_) ?_
      · obtain ⟨y, _, rfl⟩ := List.mem_map.mp hx
        exact ways_le hw n y
      · rw [List.length_map, Nat.pow_succ, Nat.mul_comm ((w + 1) ^ n)]
        refine Nat.mul_le_mul_right _ ?_
        have := List.length_filterMap_le id (lnOf V i)
        have := hw _ (lnOf_mem hi)
        omega
    · have : at' (ways V (n + 1)) i = 0 := by
        unfold at'
        rw [List.getD_eq_getElem?_getD, List.getElem?_eq_none (by rw [ways_len]; omega)]; rfl
      rw [this]; exact Nat.zero_le _
theorem pieces_le {dg : Nat} {sts : List St} {V : List Ln} (h : Val dg sts V) {n : Nat} (hn : n ≤ 60) : pieces sts V n < 2 ^ 200 := by
  have a := sum_le (B := 6 ^ 60) (sts.map fun p => at' (ways V n) p.2) fun x hx => by
    obtain ⟨p, _, rfl⟩ := List.mem_map.mp hx
    refine Nat.le_trans (ways_le (w := 5) (fun l hl => (h.smV l hl).1) n p.2) (Nat.pow_le_pow_right (by omega) hn)
  rw [List.length_map] at a
  have b : sts.length * 6 ^ 60 ≤ 4 * 6 ^ 60 := Nat.mul_le_mul_right _ h.few'
  have c : 4 * 6 ^ 60 < 2 ^ 200 := by decide
  show (sts.map fun p => at' (ways V n) p.2).sum < _
  omega
theorem repr_n {k : Nat} (h : k < 2 ^ 200) : reprD (nD k) = .ok (.str (toString (k : Int))) := by
  show (if (k : Int).natAbs.log2 < 1920 then _ else _) = _
  rw [if_pos]
  by_cases h0 : (k : Int).natAbs = 0
  · rw [h0]; decide
  · exact Nat.lt_trans ((Nat.log2_lt h0).mpr (show (k : Int).natAbs < 2 ^ 200 by omega)) (by decide)
end K48

set_option autoImplicit false
set_option linter.all false
set_option maxRecDepth 100000
namespace K48
open PySem L2 Z
/-! ### rows of digits -/
def rowsN (dg : Nat) : Nat → List (List Nat)
  | 0 => [[]]
  | n + 1 => (rowsN dg n).flatMap fun r => (List.range dg).map fun d => r ++ [d]
def rowsC (dg : Nat) : Nat → List (List Nat)
  | 0 => [[]]
  | n + 1 => (List.range dg).flatMap fun d => (rowsC dg n).map fun r => d :: r
theorem rows_eq (dg : Nat) : ∀ n, rowsN dg n = rowsC dg n
  | 0 => rfl
  | 1 => by
    show ([[]] : List (List Nat)).flatMap (fun r => (List.range dg).map fun d => r ++ [d]) = (List.range dg).flatMap fun d => ([[]] : List (List Nat)).map fun r => d :: r
    simp only [List.flatMap_cons, List.flatMap_nil, List.append_nil, List.nil_append, List.map_cons, List.map_nil]
    induction List.range dg with
    | nil => rfl
    | cons a l ih => simp [ih]
  | n + 2 => by
    have a := rows_eq dg (n + 1)
    have b : rowsC dg (n + 1) = (rowsC dg n).flatMap fun r => (List.range dg).map fun d => r ++ [d] := by
      rw [← a, ← rows_eq dg n]; rfl
    show (rowsN dg (n + 1)).flatMap _ = _
    rw [a]
    show ((List.range dg).flatMap fun d => (rowsC dg n).map fun r => d :: r).flatMap _ = (List.range dg).flatMap fun d => (rowsC dg (n + 1)).map fun r => d :: r
    rw [List.flatMap_assoc]
    congr 1
    funext d
    rw [b, List.map_flatMap, List.flatMap_map]
    congr 1
    funext r
    rw [List.map_map]; rfl
theorem rows_mem (dg : Nat) : ∀ n, ∀ r ∈ rowsN dg n, r.length = n ∧ ∀ d ∈ r, d < dg
  | 0, r, h => by
    have : r = [] := by simpa [rowsN] using h
    subst this; simp
  | n + 1, r, h => by
    obtain ⟨q, hq, hr⟩ := List.mem_flatMap.mp h
    obtain ⟨d, hd, rfl⟩ := List.mem_map.mp hr
    obtain ⟨a, b⟩ := rows_mem dg n q hq
    refine ⟨by simp [a], fun e he => ?_⟩
    rcases List.mem_append.mp he with x | x
    · exact b e x
    · rw [List.mem_singleton] at x; rw [x]; exact List.mem_range.mp hd
theorem sum_rep (k : Nat) : ∀ n, (List.replicate n k).sum = n * k
  | 0 => by simp
  | n + 1 => by rw [List.replicate_succ, List.sum_cons, sum_rep k n, Nat.succ_mul]; omega
theorem rows_len (dg : Nat) : ∀ n, (rowsN dg n).length = dg ^ n
  | 0 => rfl
  | n + 1 => by
    show ((rowsN dg n).flatMap fun r => (List.range dg).map fun d => r ++ [d]).length = _
    rw [List.length_flatMap]
    have e : ((rowsN dg n).map fun r => ((List.range dg).map fun d => r ++ [d]).length) = List.replicate (rowsN dg n).length dg := by
      rw [List.eq_replicate_iff]
      refine ⟨by simp, fun x hx => ?_⟩
      obtain ⟨r, _, rfl⟩ := List.mem_map.mp hx
      simp
    rw [e, sum_rep, rows_len dg n, Nat.pow_succ]
theorem rows_ok {dg many : Nat} (h1 : dg ≤ 5) (h2 : many ≤ 4) : m__law_rows (nD dg) (nD many) = .ok (.list ((rowsN dg many).map nT)) := by
  unfold m__law_rows
  obtain ⟨s, e1, e2⟩ := forI (f := fun (x2 : D) (s3 : D) => (iter s3).bind fun z5 =>
      (forS z5 (PyData.list []) fun x6 s7 =>
      (range1 (nD dg)).bind fun z9 =>
      (compL z9 fun x10 =>
      (add x6 (PyData.tuple [x10])).bind fun z11 =>
      R.ok (some z11)).bind fun ys12 =>
      (add s7 (PyData.list ys12)).bind fun z13 =>
      R.ok z13).bind fun s8 =>
      R.ok s8) (xs := rangeD 0 many) (st := .list [.tuple []]) (fun i s => s = .list ((rowsN dg i).map nT)) rfl fun i s x hx hs => by
        subst hs
        have hi : i < many := by
          have := (List.getElem?_eq_some_iff.mp hx).1
          rw [rangeD_eq] at this; simpa using this
        have hlen : ∀ k, k ≤ 4 → (rowsN dg k).length ≤ 625 := fun k hk => by
          rw [rows_len]
          exact Nat.le_trans (Nat.pow_le_pow_left h1 k) (Nat.le_trans (Nat.pow_le_pow_right (by omega) hk) (by decide))
        obtain ⟨t, a1, a2⟩ := forI (f := fun (x6 : D) (s7 : D) => (range1 (nD dg)).bind fun z9 =>
          (compL z9 fun x10 =>
          (add x6 (PyData.tuple [x10])).bind fun z11 =>
          R.ok (some z11)).bind fun ys12 =>
          (add s7 (PyData.list ys12)).bind fun z13 =>
          R.ok z13) (xs := (rowsN dg i).map nT) (st := .list []) (fun j t => t = .list ((((rowsN dg i).take j).flatMap fun r => (List.range dg).map fun d => r ++ [d]).map nT)) rfl fun j t x hx ht => by
            subst ht
            rw [List.getElem?_map] at hx
            obtain ⟨r, hr, rfl⟩ := Option.map_eq_some_iff.mp hx
            have hj := (List.getElem?_eq_some_iff.mp hr).1
            have hrl := (rows_mem dg i r (List.mem_of_getElem? hr)).1
            have c1 : (compL (rangeD 0 dg) fun x10 => (add (nT r) (PyData.tuple [x10])).bind fun z11 => R.ok (some z11)) = .ok (((List.range dg).map fun d => r ++ [d]).map nT) := by
              rw [rangeD_eq, List.map_map]
              exact compL_all (by simp; omega) fun d _ => bok (by
                show add (.tuple (r.map nD)) (.tuple [nD d]) = .ok (nT (r ++ [d]))
                unfold nT
                rw [List.map_append]; exact add_t (by simp; omega)) rfl
            have ad : add (.list ((((rowsN dg i).take j).flatMap fun r => (List.range dg).map fun d => r ++ [d]).map nT)) (.list (((List.range dg).map fun d => r ++ [d]).map nT)) = .ok (.list ((((rowsN dg i).take j).flatMap fun r => (List.range dg).map fun d => r ++ [d]).map nT ++ ((List.range dg).map fun d => r ++ [d]).map nT)) := by
              show (if szOk _ = true then _ else _) = _
              rw [if_pos]
              unfold szOk
              refine decide_eq_true ?_
              rw [List.length_map, List.length_flatMap]
              have := sum_le (B := 5) (((rowsN dg i).take j).map fun r => ((List.range dg).map fun d => r ++ [d]).length) fun x hx => by
                obtain ⟨q, _, rfl⟩ := List.mem_map.mp hx
                simp; omega
              rw [List.length_map, List.length_take] at this
              have := hlen i (by omega)
              simp only [List.length_map, List.length_range] at *
              have : min j (rowsN dg i).length * 5 ≤ 625 * 5 := Nat.mul_le_mul_right _ (by omega)
              omega
            refine ⟨_, bok (range_i (by omega)) <| bok c1 <| bok ad rfl, ?_⟩
            rw [List.take_succ, hr, List.flatMap_append, List.map_append]
            simp
        rw [List.length_map, List.take_length] at a2
        subst a2
        exact ⟨_, bok (iter_l _) <| bok a1 rfl, rfl⟩
  have hl : (rangeD 0 (many : Int)).length = many := by rw [rangeD_eq]; simp
  rw [hl] at e2
  subst e2
  exact bok (range_i (by omega)) <| bok e1 rfl
/-! ### led by digits -/
def step (V : List Ln) (o : Option Nat) (d : Nat) : Option Nat := o.bind fun s => (lnOf V s).getD d none
def walkS (V : List Ln) (o : Option Nat) (r : List Nat) : Option Nat := r.foldl (step V) o
section
variable {dg : Nat} {sts : List St} {V : List Ln}
theorem step_lt (h : Good V dg) {o : Option Nat} {d : Nat} (hd : d < dg) (ho : ∀ x, o = some x → x < V.length) : ∀ x, step V o d = some x → x < V.length := by
  intro x e
  cases o with
  | none => simp [step] at e
  | some s =>
    have hs := ho s rfl
    have e : (lnOf V s).getD d none = some x := e
    have hl : d < (lnOf V s).length := by rw [h.wid _ (lnOf_mem hs)]; exact hd
    rw [List.getD_eq_getElem?_getD, List.getElem?_eq_getElem hl] at e
    exact h.inn _ (lnOf_mem hs) _ (List.getElem_mem hl) x e
theorem led_loop (h : Good V dg) {f : D → D → R D} (hf : ∀ x5 s6, f x5 s6 = ((if (!isNone s6) = true then
      (item (formD sts V) (PyData.int 1)).bind fun z8 =>
      (item z8 s6).bind fun z9 =>
      (item z9 x5).bind fun z10 =>
      R.ok z10
      else
      R.ok PyData.none : R D).bind fun z11 =>
      R.ok z11)) : ∀ (r : List Nat) (o : Option Nat), (∀ d ∈ r, d < dg) → (∀ x, o = some x → x < V.length) → forS (r.map nD) (oD o) f = .ok (oD (walkS V o r))
  | [], _, _, _ => rfl
  | d :: r, o, hd, ho => by
    rw [List.map_cons, forS_cons]
    have hd0 := hd d (by simp)
    refine bok (a := oD (step V o d)) ?_ (led_loop h hf r (step V o d) (fun e he => hd e (by simp [he])) (step_lt h hd0 ho))
    rw [hf]
    cases o with
    | none => rfl
    | some s =>
      have hs := ho s rfl
      show ((if (!isNone (nD s)) = true then _ else _ : R D).bind _) = _
      rw [show (!isNone (nD s)) = true from rfl, if_pos rfl]
      have hl : d < (lnOf V s).length := by rw [h.wid _ (lnOf_mem hs)]; exact hd0
      refine bok (bok (item1f _ _) <| bok (item_n (by rw [List.getElem?_map, lnOf_get hs]; rfl)) <| bok (item_n (d := oD (step V (some s) d)) ?_) rfl) rfl
      rw [List.getElem?_map, List.getElem?_eq_getElem hl]
      show some (oD _) = some (oD ((lnOf V s).getD d none))
      rw [List.getD_eq_getElem?_getD, List.getElem?_eq_getElem hl]; rfl
/-- the starts as a dict -/
def kvS (sts : List St) : List (D × D) := sts.map fun p => (lotD p.1, nD p.2)
theorem pairs_st : ∀ s : List St, pairsK (s.map startD) = some (s.map fun p => (lotD p.1, kV p.1, nD p.2))
  | [] => rfl
  | p :: s => by
    simp only [List.map_cons, startD, pairsK, (lot_nk p.1).2]
    have := pairs_st s
    rw [this]; rfl
theorem mkd_st {s : List St} (h : s ≠ []) : mkd (s.map startD) = true := by
  unfold mkd
  rw [Bool.and_eq_true]
  refine ⟨by cases s with | nil => exact absurd rfl h | cons _ _ => rfl, ?_⟩
  rw [List.all_eq_true]
  intro d hd
  obtain ⟨p, _, rfl⟩ := List.mem_map.mp hd
  rfl
theorem merge_st : ∀ (s acc : List St), ((acc ++ s).map (·.1)).Nodup → dMerge (kvS acc) (s.map fun p => (lotD p.1, kV p.1, nD p.2)) = kvS (acc ++ s)
  | [], acc, _ => by simp [dMerge]
  | p :: s, acc, h => by
    have hk : (kvS acc).map (·.1) = (acc.map (·.1)).map lotD := by unfold kvS; rw [List.map_map, List.map_map]; rfl
    have hn : p.1 ∉ acc.map (·.1) := fun q => by
      rw [List.map_append, List.nodup_append] at h
      exact h.2.2 p.1 q p.1 (by simp) rfl
    show dMerge (dSet (kvS acc) (lotD p.1) (kV p.1) (nD p.2)) _ = _
    have : dSet (kvS acc) (lotD p.1) (kV p.1) (nD p.2) = kvS (acc ++ [p]) := by
      unfold dSet
      rw [dGet_lot hk, decide_eq_false hn]
      simp [kvS]
    rw [this, merge_st s (acc ++ [p]) (by simpa using h)]
    simp
theorem get_st (v : Vc) : ∀ s : List St, dGet (kvS s) (kV v) = (s.find? fun p => decide (p.1 = v)).map fun p => nD p.2
  | [] => rfl
  | p :: s => by
    have ih := get_st v s
    unfold dGet kvS at ih ⊢
    rw [List.map_cons, List.find?_cons, List.find?_cons]
    have : decide (nk (lotD p.1, nD p.2).1 = some (kV v)) = decide (p.1 = v) := by
      rw [(lot_nk p.1).1, decide_eq_decide]
      exact ⟨fun e => kV_inj (Option.some.inj e), fun e => by rw [e]⟩
    rw [this]
    cases decide (p.1 = v)
    · exact ih
    · rfl
def startOf (sts : List St) (v : Vc) : Option Nat := (sts.find? fun p => decide (p.1 = v)).map (·.2)
theorem Val.nodup (h : Val dg sts V) : (sts.map (·.1)).Nodup := h.asc.imp fun {u v} h e => by subst e; unfold ltl at h; omega
theorem startOf_lt (h : Val dg sts V) (v : Vc) : ∀ x, startOf sts v = some x → x < V.length := fun x e => by
  obtain ⟨p, hp, rfl⟩ := Option.map_eq_some_iff.mp e
  exact h.stOk.lt p (List.mem_of_find?_eq_some hp)
theorem state_ok (h : Val dg sts V) (v : Vc) {r : List Nat} (hr : ∀ d ∈ r, d < dg) : m_state_led (formD sts V) (lotD v) (nT r) = .ok (oD (walkS V (startOf sts v) r)) := by
  unfold m_state_led
  have d1 : dictT (.tuple (sts.map startD)) = .ok (.dict (kvS sts)) := by
    unfold dictT
    simp only [mkd_st h.some', if_true, pairs_st]
    rw [if_pos (by unfold szOk; exact decide_eq_true (by simp; have := h.few'; omega))]
    have := merge_st sts [] (by simpa using h.nodup)
    rw [List.nil_append] at this
    rw [← this]; rfl
  have d2 : getD (.dict (kvS sts)) [lotD v] = .ok (oD (startOf sts v)) := by
    show getD.getE (kvS sts) (lotD v) .none = _
    unfold getD.getE
    simp only [(lot_nk v).2]
    rw [if_pos, get_st]
    · unfold startOf
      cases sts.find? fun p => decide (p.1 = v) <;> rfl
    · unfold nestK
      rw [List.all_eq_true]
      intro p hp
      obtain ⟨q, _, rfl⟩ := List.mem_map.mp hp
      rfl
  exact bok (item0f _ _) <| bok d1 <| bok (show shapeR isDctD _ = .ok () from rfl) <| bok d2 <| bok (iter_t _) <| bok (led_loop h.good (fun _ _ => rfl) r _ hr (startOf_lt h v)) rfl
theorem startOf_self (h : Val dg sts V) {p : St} (hp : p ∈ sts) : startOf sts p.1 = some p.2 := by
  have nd := h.nodup
  unfold startOf
  cases e : sts.find? fun q => decide (q.1 = p.1) with
  | none =>
    rw [List.find?_eq_none] at e
    exact absurd (e p hp) (by simp)
  | some q =>
    have a := List.mem_of_find?_eq_some e
    have b : q.1 = p.1 := by simpa using List.find?_some e
    have : q = p := by
      obtain ⟨i, hi, ei⟩ := List.getElem_of_mem a
      obtain ⟨j, hj, ej⟩ := List.getElem_of_mem hp
      have g1 : (sts.map (·.1))[i]? = some q.1 := by rw [List.getElem?_map, List.getElem?_eq_getElem hi, ei]; rfl
      have g2 : (sts.map (·.1))[j]? = some p.1 := by rw [List.getElem?_map, List.getElem?_eq_getElem hj, ej]; rfl
      rw [b] at g1
      have := (List.getElem?_inj (by simpa using hi) nd).mp (g1.trans g2.symm)
      subst this
      rw [← ei, ← ej]
    rw [this]; rfl
/-! ### how many rows lead on -/
def ledN (V : List Ln) (o : Option Nat) (rs : List (List Nat)) : Nat := (rs.filter fun r => (walkS V o r).isSome).length
theorem walk_none (V : List Ln) : ∀ r, walkS V none r = none
  | [] => rfl
  | d :: r => walk_none V r
theorem ledN_ways (h : Good V dg) : ∀ n s, s < V.length → ledN V (some s) (rowsC dg n) = at' (ways V n) s
  | 0, s, hs => by
    show ([[]].filter fun r => (walkS V (some s) r).isSome).length = at' (List.replicate V.length 1) s
    unfold at'
    rw [List.getD_eq_getElem?_getD, List.getElem?_replicate, if_pos hs]; rfl
  | n + 1, s, hs => by
    have e : at' (ways V (n + 1)) s = (((lnOf V s).filterMap id).map (at' (ways V n))).sum := by
      have := at_get (b := ways V (n + 1)) (i := s) (by rw [ways_len]; exact hs)
      unfold ways nextW at this
      rw [List.getElem?_map, lnOf_get hs] at this
      exact (Option.some.inj this).symm
    rw [e]
    have w := h.wid _ (lnOf_mem hs)
    have inn := h.inn _ (lnOf_mem hs)
    have e2 : ledN V (some s) (rowsC dg (n + 1)) = ((List.range dg).map fun d => match (lnOf V s).getD d none with | some t => at' (ways V n) t | none => 0).sum := by
      unfold ledN
      show (((List.range dg).flatMap fun d => (rowsC dg n).map fun r => d :: r).filter _).length = _
      rw [List.filter_flatMap, List.length_flatMap]
      congr 1
      refine List.map_congr_left fun d hd => ?_
      have hd := List.mem_range.mp hd
      rw [List.filter_map, List.length_map]
      have e3 : ((fun r => (walkS V (some s) r).isSome) ∘ fun r => d :: r) = fun r => (walkS V ((lnOf V s).getD d none) r).isSome := rfl
      rw [e3]
      cases c : (lnOf V s).getD d none with
      | none =>
        have : ((rowsC dg n).filter fun r => (walkS V none r).isSome) = [] := by
          rw [List.filter_eq_nil_iff]
          intro r _
          rw [walk_none]; simp
        rw [this]; rfl
      | some t =>
        have ht : t < V.length := by
          have hl : d < (lnOf V s).length := by omega
          rw [List.getD_eq_getElem?_getD, List.getElem?_eq_getElem hl] at c
          exact inn _ (List.getElem_mem hl) t c
        exact ledN_ways h n t ht
    rw [e2]
    have e4 : (List.range dg).map (fun d => match (lnOf V s).getD d none with | some t => at' (ways V n) t | none => 0) = (lnOf V s).map fun o => match o with | some t => at' (ways V n) t | none => 0 := by
      apply List.ext_getElem?
      intro i
      by_cases hi : i < dg
      · have hl : i < (lnOf V s).length := by omega
        rw [List.getElem?_map, List.getElem?_range hi, List.getElem?_map, List.getElem?_eq_getElem hl]
        show some (match (lnOf V s).getD i none with | some t => _ | none => _) = some _
        rw [List.getD_eq_getElem?_getD, List.getElem?_eq_getElem hl]; rfl
      · rw [List.getElem?_eq_none (by simp; omega), List.getElem?_eq_none (by rw [List.length_map]; omega)]
    rw [e4]
    clear e4 e2 e w inn
    induction lnOf V s with
    | nil => rfl
    | cons o l ih =>
      cases o with
      | none => simp only [List.map_cons, List.sum_cons, ih]; simp
      | some t => simp only [List.map_cons, List.sum_cons, ih]; simp
theorem ledN_rows (h : Good V dg) {n s : Nat} (hs : s < V.length) : ledN V (some s) (rowsN dg n) = at' (ways V n) s := by rw [rows_eq]; exact ledN_ways h n s hs
end
end K48

set_option autoImplicit false
set_option linter.all false
set_option maxRecDepth 100000
namespace K48
open PySem L2 Z
/-! ### what is drawn -/
/-- a comprehension that draws: each item takes k picks at most -/
theorem comp_draw {ι : Type} {k : Nat} {f : D → Src → R (Option D × Src)} {enc : ι → D} {P : ι → Prop} (hf : ∀ x n s, Ok (n + k) s → ∃ y s', f x s = .ok (some (enc y), s') ∧ P y ∧ Ok n s') : ∀ (xs : List D) (n : Nat) (s : Src), Ok (n + k * xs.length) s → xs.length < 16777216 →
    ∃ ys : List ι, ∃ s', compS xs s f = .ok (ys.map enc, s') ∧ ys.length = xs.length ∧ (∀ y ∈ ys, P y) ∧ Ok n s' := by
  intro xs n s h hl
  rw [compS_of hl]
  clear hl
  induction xs generalizing n s with
  | nil => exact ⟨[], s, rfl, rfl, by simp, h.le (by omega)⟩
  | cons x xs ih =>
    obtain ⟨y, s1, e1, p1, o1⟩ := hf x (n + k * xs.length) s (h.le (by rw [List.length_cons, Nat.mul_succ]; omega))
    obtain ⟨ys, s2, e2, l2, p2, o2⟩ := ih n s1 o1
    refine ⟨y :: ys, s2, ?_, by simp [l2], fun z hz => ?_, o2⟩
    · unfold compT
      rw [e1]
      simp only [R.bind_ok, e2]; rfl
    · rcases List.mem_cons.mp hz with rfl | hz
      · exact p1
      · exact p2 z hz
/-- .. item by item -/
theorem comp_draw2 {ι μ : Type} {k : Nat} {f : D → Src → R (Option D × Src)} {enc : ι → D} {dec : μ → D} {P : μ → ι → Prop} (hf : ∀ x n s, Ok (n + k) s → ∃ y s', f (dec x) s = .ok (some (enc y), s') ∧ P x y ∧ Ok n s') : ∀ (xs : List μ) (n : Nat) (s : Src), Ok (n + k * xs.length) s → xs.length < 16777216 →
    ∃ ys : List ι, ∃ s', compS (xs.map dec) s f = .ok (ys.map enc, s') ∧ ys.length = xs.length ∧ (∀ (j : Nat) (x : μ) (y : ι), xs[j]? = some x → ys[j]? = some y → P x y) ∧ Ok n s' := by
  intro xs n s h hl
  rw [compS_of (by rw [List.length_map]; exact hl)]
  clear hl
  induction xs generalizing n s with
  | nil => exact ⟨[], s, rfl, rfl, by simp, h.le (by omega)⟩
  | cons x xs ih =>
    obtain ⟨y, s1, e1, p1, o1⟩ := hf x (n + k * xs.length) s (h.le (by rw [List.length_cons, Nat.mul_succ]; omega))
    obtain ⟨ys, s2, e2, l2, p2, o2⟩ := ih n s1 o1
    refine ⟨y :: ys, s2, ?_, by simp [l2], fun j a b ha hb => ?_, o2⟩
    · rw [List.map_cons]
      unfold compT
      rw [e1]
      simp only [R.bind_ok, e2]; rfl
    · cases j with
      | zero => simp at ha hb; subst ha hb; exact p1
      | succ j => exact p2 j a b (by simpa using ha) (by simpa using hb)
structure Drawn (many dg : Nat) (l : Ln) : Prop where
  len : l.length = dg
  lt : ∀ o ∈ l, ∀ x, o = some x → x < many
  alive : l.any Option.isSome = true
theorem pickN {n : Nat} {s : Src} {many : Nat} (h : Ok (n + 1) s) (h1 : 1 ≤ many) (h2 : many < 1000) : ∃ r s', m__law_pick s (nD many) = .ok (nD r, s') ∧ r < many ∧ Ok n s' := by
  obtain ⟨r, s', e, lt, o⟩ := pick_ok (many := (many : Int)) h (by omega) (by omega)
  exact ⟨r, s', e, by omega, o⟩
theorem any_set {l : Ln} {i x : Nat} (hi : i < l.length) : (l.set i (some x)).any Option.isSome = true := by
  rw [List.any_eq_true]
  exact ⟨some x, by rw [List.mem_iff_getElem?]; exact ⟨i, by rw [List.getElem?_set_self hi]⟩, rfl⟩
theorem steps_ok {many dg n : Nat} {s : Src} (hm : 1 ≤ many) (hm2 : many ≤ 6) (hd : 2 ≤ dg) (hd2 : dg ≤ 5) (h : Ok (n + 12 * many) s) : ∃ S : List Ln, ∃ s', m__law_drawn_steps s (nD many) (nD dg) = .ok (.list (S.map lnL), s') ∧ S.length = many ∧ (∀ l ∈ S, Drawn many dg l) ∧ Ok n s' := by
  unfold m__law_drawn_steps
  have one : ∀ (n : Nat) (s : Src), Ok (n + 12) s → ∃ (ys : List D) (s1 : Src) (l : Ln) (s' : Src), (compS (rangeD 0 (dg : Int)) s fun x6 s7 =>
      ((m__law_pick s7 (PyData.int 2)).bind fun (z8, s9) =>
      (eqD z8 (PyData.int 0)).bind fun z10 =>
      if z10 = true then
      (m__law_pick s9 (nD many)).bind fun (z11, s12) =>
      R.ok (z11, s12)
      else
      R.ok (PyData.none, s9) : R (D × Src)).bind fun (z13, s14) =>
      R.ok (some z13, s14)) = .ok (ys, s1) ∧ 
      (((iter (PyData.list ys)).bind fun z17 =>
      (compL z17 fun x18 =>
      if (!isNone x18) = true then
      R.ok (some x18)
      else
      R.ok none).bind fun ys19 =>
      (eqD (PyData.list ys19) (PyData.list [])).bind fun z20 =>
      R.ok z20).bind fun t21 =>
      if t21 = true then
      (m__law_pick s1 (nD many)).bind fun (z22, s23) =>
      (m__law_pick s23 (nD dg)).bind fun (z24, s25) =>
      (setM ys z24 z22).bind fun y26 =>
      R.ok (s25, y26)
      else
      R.ok (s1, ys) : R (Src × List D)) = .ok (s', l.map oD) ∧ Drawn many dg l ∧ Ok n s' := fun n s h => by
    have hl : (rangeD 0 (dg : Int)).length = dg := by rw [rangeD_eq]; simp
    obtain ⟨l, s1, e1, l1, p1, o1⟩ := comp_draw (k := 2) (f := fun x6 s7 =>
      ((m__law_pick s7 (PyData.int 2)).bind fun (z8, s9) =>
      (eqD z8 (PyData.int 0)).bind fun z10 =>
      if z10 = true then
      (m__law_pick s9 (nD many)).bind fun (z11, s12) =>
      R.ok (z11, s12)
      else
      R.ok (PyData.none, s9) : R (D × Src)).bind fun (z13, s14) =>
      R.ok (some z13, s14)) (enc := oD) (P := fun o => ∀ x, o = some x → x < many) (fun x n s h => by
        obtain ⟨r, s1, a1, a2, a3⟩ := pickN (n := n + 1) (many := 2) h (by omega) (by omega)
        by_cases c : r = 0
        · subst c
          obtain ⟨q, s2, b1, b2, b3⟩ := pickN (n := n) (many := many) a3 hm (by omega)
          exact ⟨some q, s2, bok (bok a1 <| bokT (show eqD (nD 0) (.int 0) = .ok true from eq_i 0 0) <| bok b1 rfl) rfl, fun x e => by cases e; exact b2, b3⟩
        · refine ⟨none, s1, bok (bok a1 <| bokF (show eqD (nD r) (.int 0) = .ok false by unfold nD; rw [eq_i]; exact congrArg _ (decide_eq_false (by omega))) rfl) rfl, (fun x e => by cases e), a3.le (by omega)⟩) (rangeD 0 (dg : Int)) (n + 2) s (h.le (by rw [hl]; omega)) (by rw [hl]; omega)
    rw [hl] at l1
    have any : (l.filterMap id).isEmpty = !(l.any Option.isSome) := by
      clear e1 l1 p1
      induction l with
      | nil => rfl
      | cons o l ih => cases o <;> simp_all
    by_cases c : l.any Option.isSome = true
    · refine ⟨_, s1, l, s1, e1, bokF (bok (iter_l _) <| bok (comp_some l (by omega)) <| bok (eq_nilN _) (by rw [any, c]; rfl)) rfl, ⟨l1, p1, c⟩, o1.le (by omega)⟩
    · have c' : l.any Option.isSome = false := by simpa using c
      obtain ⟨q, s2, b1, b2, b3⟩ := pickN (n := n + 1) (many := many) o1 hm (by omega)
      obtain ⟨i, s3, d1, d2, d3⟩ := pickN (n := n) (many := dg) b3 (by omega) (by omega)
      have st : setM (l.map oD) (nD i) (nD q) = .ok ((l.set i (some q)).map oD) := by
        have : L2.ixN (l.map oD).length (i : Int) = some i := by unfold L2.ixN; rw [List.length_map, if_pos (by omega), if_pos (by omega)]; simp
        show (match L2.ixN (l.map oD).length (i : Int) with | some j => R.ok ((l.map oD).set j (nD q)) | none => .stuck) = _
        rw [this, List.map_set]; rfl
      refine ⟨_, s1, l.set i (some q), s3, e1, bokT (bok (iter_l _) <| bok (comp_some l (by omega)) <| bok (eq_nilN _) (by rw [any, c']; rfl)) <| bok b1 <| bok d1 <| bok st rfl, ⟨by simp [l1], fun o ho x e => ?_, any_set (by omega)⟩, d3⟩
      rcases List.mem_or_eq_of_mem_set ho with hq | hq
      · exact p1 o hq x e
      · rw [hq] at e; cases e; exact b2
  have hl : (rangeD 0 (many : Int)).length = many := by rw [rangeD_eq]; simp
  obtain ⟨t, e1, S, e2, e3, e4, e5⟩ := forI (f := fun (x2 : D) (s3 : Src × List D) => (range1 (nD dg)).bind fun z5 =>
      (compS z5 s3.1 fun x6 s7 =>
      ((m__law_pick s7 (PyData.int 2)).bind fun (z8, s9) =>
      (eqD z8 (PyData.int 0)).bind fun z10 =>
      if z10 = true then
      (m__law_pick s9 (nD many)).bind fun (z11, s12) =>
      R.ok (z11, s12)
      else
      R.ok (PyData.none, s9) : R (D × Src)).bind fun (z13, s14) =>
      R.ok (some z13, s14)).bind fun (ys15, s16) =>
      (((iter (PyData.list ys15)).bind fun z17 =>
      (compL z17 fun x18 =>
      if (!isNone x18) = true then
      R.ok (some x18)
      else
      R.ok none).bind fun ys19 =>
      (eqD (PyData.list ys19) (PyData.list [])).bind fun z20 =>
      R.ok z20).bind fun t21 =>
      if t21 = true then
      (m__law_pick s16 (nD many)).bind fun (z22, s23) =>
      (m__law_pick s23 (nD dg)).bind fun (z24, s25) =>
      (setM ys15 z24 z22).bind fun y26 =>
      R.ok (s25, y26)
      else
      R.ok (s16, ys15) : R (Src × List D)).bind fun s27 =>
      (pushM s3.2 [(PyData.list s27.2)]).bind fun (z28, y29) =>
      R.ok (s27.1, y29)) (xs := rangeD 0 (many : Int)) (st := (s, [])) (fun i t => ∃ S : List Ln, t.2 = S.map lnL ∧ S.length = i ∧ (∀ l ∈ S, Drawn many dg l) ∧ Ok (n + 12 * (many - i)) t.1) ⟨[], rfl, rfl, by simp, h⟩ fun i t x hx ⟨S, a1, a2, a3, a4⟩ => by
        have hi : i < many := by
          have := (List.getElem?_eq_some_iff.mp hx).1
          rwa [hl] at this
        obtain ⟨ys, s1, l, s', b0, b1, b2, b3⟩ := one (n + 12 * (many - (i + 1))) t.1 (a4.le (by omega))
        obtain ⟨t1, t2⟩ := t
        simp only at a1 a4 b0 b1
        subst a1
        have pu : pushM (S.map lnL) [lnL l] = .ok (.none, (S ++ [l]).map lnL) := by rw [List.map_append]; exact push1 _ _ (by simp; omega)
        refine ⟨(s', (S ++ [l]).map lnL), bok (range_i (by omega)) <| bok b0 <| bok b1 <| bok pu rfl, S ++ [l], rfl, by simp [a2], fun m hm => ?_, b3⟩
        rcases List.mem_append.mp hm with q | q
        · exact a3 m q
        · rw [List.mem_singleton] at q; rw [q]; exact b2
  rw [hl] at e3 e5
  obtain ⟨t1, t2⟩ := t
  simp only at e2 e5
  subst e2
  exact ⟨S, t1, bok (range_i (by omega)) <| bok e1 rfl, e3, e4, e5.le (by omega)⟩
end K48

set_option autoImplicit false
set_option linter.all false
set_option maxRecDepth 100000
set_option exponentiation.threshold 5000
namespace K48
open PySem L2 Z
theorem forT_inv {τ : Type} {f : D → τ → R (Fl τ)} (I : Nat → τ → Prop) {xs : List D} {st : τ} (h0 : I 0 st) (hs : ∀ i s x, xs[i]? = some x → I i s → ∃ s', f x s = .ok (.nx s') ∧ I (i + 1) s') : ∃ s, forT xs st f = .ok (.nx s) ∧ I xs.length s := by
  have key : ∀ (zs : List D) (i : Nat) (s : τ), (∀ j, zs[j]? = xs[i + j]?) → i + zs.length = xs.length → I i s → ∃ s', forT zs s f = .ok (.nx s') ∧ I xs.length s' := by
    intro zs
    induction zs with
    | nil => intro i s _ hl hi; exact ⟨s, rfl, by simp at hl; rw [← hl]; exact hi⟩
    | cons z zs ih =>
      intro i s e hl hi
      obtain ⟨s1, e1, i1⟩ := hs i s z (by have := e 0; simp at this; exact this.symm) hi
      obtain ⟨s2, e2, i2⟩ := ih (i + 1) s1 (fun j => by have := e (j + 1); simp at this; rw [this]; congr 1; omega) (by simp at hl; omega) i1
      exact ⟨s2, by rw [forT, e1]; exact e2, i2⟩
  exact key xs 0 st (fun j => by simp) (by simp) h0
theorem repr_o {o : Option Nat} (h : ∀ x, o = some x → x < 1000) : ∃ t : Str, reprD (oD o) = .ok (.str t) := by
  cases o with
  | none => exact ⟨_, rfl⟩
  | some k => exact ⟨_, repr_n (by have := h k rfl; omega)⟩
theorem add_n (a b : Nat) : add (nD a) (nD b) = .ok (nD (a + b)) := by
  unfold nD; rw [add_i]; rfl
section
variable {dg : Nat} {sts : List St} {V : List Ln}
theorem walk_lt (h : Good V dg) : ∀ (r : List Nat) (o : Option Nat), (∀ d ∈ r, d < dg) → (∀ x, o = some x → x < V.length) → ∀ x, walkS V o r = some x → x < V.length
  | [], _, _, ho => ho
  | d :: r, o, hd, ho => walk_lt h r (step V o d) (fun e he => hd e (by simp [he])) (step_lt h (hd d (by simp)) ho)
/-- the rows of one start -/
theorem rows_loop (h : Val dg sts V) {p : St} (hp : p ∈ sts) {most : Nat} (c0 : Nat) {f : D → D → R (Fl D)} (hf : ∀ x88 s89, f x88 s89 = ((iter x88).bind fun z91 =>
      (forS z91 (nD p.2) fun x92 s93 =>
      (if (!isNone s93) = true then
      (item (formD sts V) (PyData.int 1)).bind fun z95 =>
      (item z95 s93).bind fun z96 =>
      (item z96 x92).bind fun z97 =>
      R.ok z97
      else
      R.ok PyData.none : R D).bind fun z98 =>
      R.ok z98).bind fun s94 =>
      (m_state_led (formD sts V) (lotD p.1) x88).bind fun z99 =>
      (reprD z99).bind fun z100 =>
      (reprD s94).bind fun z101 =>
      (neD z100 z101).bind fun z102 =>
      if z102 = true then
      R.ok (.rt (PyData.bool false) s89)
      else
      (intD (PyData.bool (!isNone s94))).bind fun z103 =>
      (add s89 z103).bind fun z104 =>
      R.ok (.nx z104))) : forT ((rowsN dg most).map nT) (nD c0) f = .ok (.nx (nD (c0 + at' (ways V most) p.2))) := by
  have hlt := h.stOk.lt p hp
  have hs0 : ∀ x, some p.2 = some x → x < V.length := fun x e => by cases e; exact hlt
  obtain ⟨s, e1, e2⟩ := forT_inv (f := f) (xs := (rowsN dg most).map nT) (st := nD c0) (fun j s => s = nD (c0 + ledN V (some p.2) ((rowsN dg most).take j))) rfl fun j s x hx hs => by
    subst hs
    rw [List.getElem?_map] at hx
    obtain ⟨r, hr, rfl⟩ := Option.map_eq_some_iff.mp hx
    have hd := (rows_mem dg most r (List.mem_of_getElem? hr)).2
    have l1 := led_loop h.good (sts := sts) (f := fun x92 s93 => (if (!isNone s93) = true then
      (item (formD sts V) (PyData.int 1)).bind fun z95 =>
      (item z95 s93).bind fun z96 =>
      (item z96 x92).bind fun z97 =>
      R.ok z97
      else
      R.ok PyData.none : R D).bind fun z98 =>
      R.ok z98) (fun _ _ => rfl) r (some p.2) hd hs0
    have l2 := state_ok h p.1 hd
    rw [startOf_self h hp] at l2
    have wl := walk_lt h.good r (some p.2) hd hs0
    obtain ⟨t, et⟩ := repr_o (o := walkS V (some p.2) r) fun x e => by have := wl x e; have := h.few; omega
    have ic : intD (PyData.bool (!isNone (oD (walkS V (some p.2) r)))) = .ok (nD (if (walkS V (some p.2) r).isSome = true then 1 else 0)) := by
      cases walkS V (some p.2) r <;> rfl
    refine ⟨nD (c0 + ledN V (some p.2) ((rowsN dg most).take j) + (if (walkS V (some p.2) r).isSome = true then 1 else 0)), ?_, ?_⟩
    · rw [hf]
      exact bok (iter_t _) <| bok l1 <| bok l2 <| bok et <| bok et <| bokF (ne_s _) <| bok ic <| bok (add_n _ _) rfl
    · congr 1
      rw [List.take_succ, hr]
      unfold ledN
      rw [List.filter_append, List.length_append]
      show _ = c0 + (_ + ([r].filter _).length)
      by_cases c : (walkS V (some p.2) r).isSome = true
      · rw [if_pos c]; simp [c]; omega
      · rw [if_neg c]; simp [c]
  rw [e1, e2]
  rw [List.length_map, List.take_length, ledN_rows h.good hlt]
end
/-! ### the drawn form -/
theorem quo_alive {S : List Ln} {w : Nat} {sts : List St} {b L : List Nat} (h : Good S w) (hs : Sts S.length sts) (q : Quo S sts b L) (ha : ∀ l ∈ S, l.any Option.isSome = true) : ∀ l ∈ quoL S b L, l.any Option.isSome = true := by
  intro l hl
  obtain ⟨x, hx, rfl⟩ := List.mem_map.mp hl
  have := ha _ (lnOf_mem (q.rep h hs x hx).1)
  unfold led
  rw [List.map_map, List.any_map]
  rw [List.any_eq_true] at this ⊢
  obtain ⟨o, ho, e⟩ := this
  exact ⟨o, ho, by cases o <;> simp_all⟩
theorem val_of {dg many : Nat} (h2 : 2 ≤ dg) (h5 : dg ≤ 5) (hm : 1 ≤ many) (hm2 : many ≤ 6) {S : List Ln} (hS : S.length = many) (hd : ∀ l ∈ S, Drawn many dg l) {vs : List Vc} {sts : List St} (hv : vs ≠ []) (hv4 : vs.length ≤ 4) (hv2 : ∀ v ∈ vs, v.1.natAbs ≤ 2 ∧ v.2.natAbs ≤ 2) (e1 : sts.map (·.1) = srt vs) (e2 : ∀ p ∈ sts, p.2 < many) {b L : List Nat} (q : Quo S sts b L) : Val dg (quoS sts b L) (quoL S b L) := by
  have g : Good S dg := ⟨fun l hl o ho x e => by rw [hS]; exact (hd l hl).lt o ho x e, by omega, by omega, fun l hl => (hd l hl).len, by omega⟩
  have len : sts.length ≤ 4 := by have a := srt_len vs; rw [← e1, List.length_map] at a; omega
  have s : Sts S.length sts := ⟨fun p hp => by rw [hS]; exact e2 p hp, by omega⟩
  have s0 : sts ≠ [] := fun q => by
    rw [q] at e1
    cases vs with
    | nil => exact hv rfl
    | cons v r => have := (srt_mem (v :: r) v).mpr (by simp); rw [← e1] at this; simp at this
  have lots : (quoS sts b L).map (·.1) = srt vs := by rw [← e1]; unfold quoS; rw [List.map_map]; rfl
  refine ⟨q.good g s s0, q.sts' s, ?_, quo_alive g s q fun l hl => (hd l hl).alive, by rw [lots]; exact srt_strict vs, q.told g s s0, ?_, by unfold quoS; rw [List.length_map]; exact len, h2, h5, fun p hp => ?_⟩
  · intro q'; unfold quoS at q'; simp at q'; exact s0 q'
  · rw [quo_len]; have := (q.ok g s).len; omega
  · have : p.1 ∈ srt vs := by rw [← lots]; exact List.mem_map.mpr ⟨p, hp, rfl⟩
    exact hv2 _ ((srt_mem vs _).mp this)
/-! ### what is told at the end -/
def sideS : List St := [((0, 0), 0)]
def sideV : List Ln := [[some 0, some 0, none, none]]
theorem side_cv : Cv sideS sideV where
  inn := by
    intro l hl o ho x e
    simp only [sideV, List.mem_singleton] at hl
    subst hl
    subst e
    have : x = 0 := by simpa using ho
    subst this; decide
  few := by decide
  wid := by
    intro l hl
    simp only [sideV, List.mem_singleton] at hl
    subst hl; decide
  lt := by
    intro p hp
    simp only [sideS, List.mem_singleton] at hp
    subst hp; decide
  few' := by decide
theorem nil_cv : Cv [] [] := ⟨(fun _ h => by simp at h), by decide, (fun _ h => by simp at h), (fun _ h => by simp at h), by decide⟩
theorem side60 : pieces sideS sideV 60 = 2 ^ 60 := by decide +kernel
theorem side0 : pieces sideS sideV 0 = 1 := by decide +kernel
theorem nil7 : pieces [] [] 7 = 0 := by decide +kernel
theorem told_nil : ∃ z, m_told_by (.tuple []) (.tuple []) = .ok (.tuple [formD [] [], z]) := by
  refine ⟨.tuple [], ?_⟩
  unfold m_told_by m_blocks_of m_states_come
  rfl
theorem nil_yes : m_is_complete (nD 3) (formD [] []) = .ok (.bool true) := by
  obtain ⟨z, e⟩ := told_nil
  refine by_told (sts := []) (V := []) (fun _ h => by simp at h) (fun _ h => by simp at h) rfl (by decide) ?_ e (eq_form _ _)
  rw [show ([] : List St).map (·.1) = [] from rfl, srt_self List.Pairwise.nil]
  simp
end K48

set_option autoImplicit false
set_option linter.all false
set_option maxRecDepth 100000
set_option exponentiation.threshold 5000
namespace K48
open PySem L2 Z
theorem item_c {dg : Nat} {sts : List St} {V : List Ln} {k : Nat} (hk : k < 61) : item (.list ((List.range 61).map fun i => nD (pieces sts V i))) (nD k) = .ok (nD (pieces sts V k)) := item_ln (by rw [List.getElem?_map, List.getElem?_range hk]; rfl)
theorem rep_end : ∃ t : Str, reprD (PyData.list [nD (pieces sideS sideV 60), nD (pieces [] [] 7), nD (pieces sideS sideV 0), .bool true]) = .ok (.str t) ∧ reprD (PyData.list [.int (2 ^ 60), .int 0, .int 1, .bool true]) = .ok (.str t) := by
  rw [side60, side0, nil7]
  have e : PyData.list [nD (2 ^ 60), nD 0, nD 1, .bool true] = PyData.list [.int (2 ^ 60), .int 0, .int 1, .bool true] := rfl
  rw [e]
  refine ⟨_, repr_l ((SmallAll.cons (Small.int (by decide)) (SmallAll.cons (Small.int (by decide)) (SmallAll.cons (Small.int (by decide)) (SmallAll.cons (small_b true) SmallAll.nil)))).list), ?_⟩
  exact repr_l ((SmallAll.cons (Small.int (by decide)) (SmallAll.cons (Small.int (by decide)) (SmallAll.cons (Small.int (by decide)) (SmallAll.cons (small_b true) SmallAll.nil)))).list)
theorem holds : ∀ ns : List Int, ns.length ≤ 63 → m_law ns = .ok (.bool true) := by
  intro ns hns
  obtain ⟨s0, a0, o0⟩ := source_ok ns hns
  obtain ⟨d0, s1, a1, l1, o1⟩ := pickN (n := 1000) (many := 4) (o0.le (by decide)) (by decide) (by decide)
  obtain ⟨m0, s2, a2, l2, o2⟩ := pickN (n := 999) (many := 6) o1 (by decide) (by decide)
  obtain ⟨k0, s3, a3, l3, o3⟩ := pickN (n := 998) (many := 4) o2 (by decide) (by decide)
  have hr : ∀ n : Nat, (rangeD 0 (n : Int)).length = n := fun n => by rw [rangeD_eq]; simp
  obtain ⟨vs, s4, a4, l4, p4, o4⟩ := comp_draw (ι := Vc) (k := 2) (f := fun x14 s15 => (m__law_pick s15 (PyData.int 5)).bind fun (z16, s17) =>
    (sub z16 (PyData.int 2)).bind fun z18 =>
    (m__law_pick s17 (PyData.int 5)).bind fun (z19, s20) =>
    (sub z19 (PyData.int 2)).bind fun z21 =>
    R.ok (some (PyData.tuple [z18, z21]), s20)) (enc := lotD) (P := fun v => v.1.natAbs ≤ 2 ∧ v.2.natAbs ≤ 2) (fun x n s h => by
      obtain ⟨r, t1, b1, b2, b3⟩ := pickN (n := n + 1) (many := 5) h (by decide) (by decide)
      obtain ⟨q, t2, c1, c2, c3⟩ := pickN (n := n) (many := 5) b3 (by decide) (by decide)
      exact ⟨((r : Int) - 2, (q : Int) - 2), t2, bok b1 <| bok (sub_i _ _) <| bok c1 <| bok (sub_i _ _) rfl, ⟨by show ((r : Int) - 2).natAbs ≤ 2; omega, by show ((q : Int) - 2).natAbs ≤ 2; omega⟩, c3⟩) (rangeD 0 ((1 + k0 : Nat) : Int)) 900 s3 (o3.le (by rw [hr]; omega)) (by rw [hr]; omega)
  rw [hr] at l4
  have hv : vs ≠ [] := fun q => by rw [q] at l4; simp at l4; omega
  obtain ⟨kvs, d1, d2⟩ := dict_lots (vs := vs) (d := .int 0) (by omega)
  have srtd : sortedL (.dict kvs) = .ok (.list ((srt vs).map lotD)) := sortd_lots d2 (by have := foldV_len vs []; simp at this; unfold dd; omega)
  obtain ⟨S, s5, a5, l5, p5, o5⟩ := steps_ok (many := 1 + m0) (dg := 2 + d0) (n := 800) (s := s4) (by omega) (by omega) (by omega) (by omega) (o4.le (by omega))
  have lsrt := srt_len vs
  obtain ⟨sts, s6, a6, l6, p6, o6⟩ := comp_draw2 (ι := St) (μ := Vc) (k := 1) (f := fun x32 s33 => (m__law_pick s33 (nD (1 + m0))).bind fun (z34, s35) =>
    R.ok (some (PyData.tuple [x32, z34]), s35)) (enc := startD) (dec := lotD) (P := fun v p => p.1 = v ∧ p.2 < 1 + m0) (fun v n s h => by
      obtain ⟨r, t1, b1, b2, b3⟩ := pickN (n := n) (many := 1 + m0) h (by omega) (by omega)
      exact ⟨(v, r), t1, bok b1 rfl, ⟨rfl, b2⟩, b3⟩) (srt vs) 700 s5 (o5.le (by omega)) (by omega)
  have e1 : sts.map (·.1) = srt vs := by
    apply List.ext_getElem?
    intro i
    by_cases hi : i < (srt vs).length
    · have h1 : i < sts.length := by omega
      have := (p6 i _ _ (List.getElem?_eq_getElem hi) (List.getElem?_eq_getElem h1)).1
      rw [List.getElem?_map, List.getElem?_eq_getElem h1, List.getElem?_eq_getElem hi]
      exact congrArg some this
    · rw [List.getElem?_eq_none (by rw [List.length_map]; omega), List.getElem?_eq_none (by omega)]
  have e2 : ∀ p ∈ sts, p.2 < 1 + m0 := fun p hp => by
    obtain ⟨i, hi, rfl⟩ := List.getElem_of_mem hp
    exact (p6 i _ _ (List.getElem?_eq_getElem (show i < (srt vs).length by omega)) (List.getElem?_eq_getElem hi)).2
  have g : Good S (2 + d0) := ⟨fun l hl o ho x e => by rw [l5]; exact (p5 l hl).lt o ho x e, by omega, by omega, fun l hl => (p5 l hl).len, by omega⟩
  obtain ⟨b, L, a7, q⟩ := least_ok g (sts := sts) ⟨fun p hp => by rw [l5]; exact e2 p hp, by omega⟩
  have v := val_of (by omega) (by omega) (by omega) (by omega) l5 p5 hv (by omega) p4 e1 e2 q
  revert a7 v
  generalize quoS sts b L = T
  generalize quoL S b L = V
  intro a7 v
  have cv := v.cv
  -- the bent ones
  obtain ⟨s7, a8, o7⟩ := forT_inv (f := fun x42 s43 => (m__law_bent s43 (formD T V) (nD (2 + d0))).bind fun (z45, s46) =>
    ((item (formD T V) (PyData.int 0)).bind fun z47 =>
    (lenD z47).bind fun z48 =>
    (ltD z48 (PyData.int 2)).bind fun z49 =>
    (truth (PyData.bool z49)).bind fun t50 =>
    if t50 = true then
    (reprD z45).bind fun z51 =>
    (reprD (formD T V)).bind fun z52 =>
    (eqD z51 z52).bind fun z53 =>
    R.ok (PyData.bool z53)
    else
    R.ok (PyData.bool z49) : R D).bind fun z54 =>
    (m_is_complete (nD (2 + d0)) z45).bind fun z55 =>
    (reprD z55).bind fun z56 =>
    (reprD z54).bind fun z57 =>
    (neD z56 z57).bind fun z58 =>
    if z58 = true then
    R.ok (.rt (PyData.bool false) s46)
    else
    R.ok (.nx s46)) (xs := rangeD 0 (3 : Nat)) (st := s6) (fun i s => Ok (600 - i) s) (o6.le (by omega)) fun i s x hx h => by
      have hi : i < 3 := by have := (List.getElem?_eq_some_iff.mp hx).1; rwa [hr] at this
      obtain ⟨d, s', due, b1, b2, b3, b4⟩ := bent_ok v (n := 600 - (i + 1)) (h.le (by omega))
      exact ⟨s', bok b1 <| bok b3 <| bok b4 <| bok (show reprD (.bool due) = .ok (.str (if due then "True" else "False")) from rfl) <| bok (show reprD (.bool due) = .ok (.str (if due then "True" else "False")) from rfl) <| bokF (ne_s _) rfl, b2⟩
  rw [hr] at o7
  have a9 := counts_ok cv (most := 60) (by decide)
  obtain ⟨most, hm4, hme⟩ : ∃ most : Nat, most ≤ 4 ∧ (((eqD (nD (2 + d0)) (PyData.int 2)).bind fun z60 => if z60 = true then R.ok (PyData.int 4) else R.ok (PyData.int 2) : R D) = .ok (nD most)) := by
    by_cases c : d0 = 0
    · subst c; exact ⟨4, by decide, bokT (eq_i 2 2) rfl⟩
    · exact ⟨2, by decide, bokF (show eqD (nD (2 + d0)) (.int 2) = .ok false by unfold nD; rw [eq_i]; exact congrArg _ (decide_eq_false (by omega))) rfl⟩
  obtain ⟨xs, s8, a10, l10, p10, o10⟩ := comp_draw (ι := Nat) (k := 1) (f := fun x63 s64 => (m__law_pick s64 (PyData.int 61)).bind fun (z65, s66) =>
    R.ok (some z65, s66)) (enc := nD) (P := fun r => r < 61) (fun x n s h => by
      obtain ⟨r, t1, b1, b2, b3⟩ := pickN (n := n) (many := 61) h (by decide) (by decide)
      exact ⟨r, t1, bok b1 rfl, b2, b3⟩) (rangeD 0 (4 : Nat)) 500 s7 (o7.le (by rw [hr]; omega)) (by rw [hr]; decide)
  rw [hr] at l10
  have a11 : add (PyData.list [(PyData.int 0), (PyData.int 1), (PyData.int 2), nD most, (PyData.int 60)]) (PyData.list (xs.map nD)) = .ok (.list (([0, 1, 2, most, 60] ++ xs).map nD)) := by
    rw [List.map_append]
    show (if szOk _ = true then _ else _) = _
    rw [if_pos (by unfold szOk; exact decide_eq_true (by simp; omega))]
    rfl
  obtain ⟨s9, a12, _⟩ := forT_inv (f := fun x71 s72 => (m_pieces_counted (formD T V) x71).bind fun z74 =>
    (reprD z74).bind fun z75 =>
    (item (.list ((List.range (60 + 1)).map fun i => nD (pieces T V i))) x71).bind fun z76 =>
    (reprD z76).bind fun z77 =>
    (neD z75 z77).bind fun z78 =>
    if z78 = true then
    R.ok (.rt (PyData.bool false) s72)
    else
    R.ok (.nx s72)) (xs := ([0, 1, 2, most, 60] ++ xs).map nD) (st := s8) (fun _ _ => True) trivial fun i s x hx _ => by
      rw [List.getElem?_map] at hx
      obtain ⟨k, hk, rfl⟩ := Option.map_eq_some_iff.mp hx
      have hk60 : k < 61 := by
        rcases List.mem_append.mp (List.mem_of_getElem? hk) with m | m
        · simp at m; omega
        · exact p10 k m
      have rp := repr_n (pieces_le v (n := k) (by omega))
      exact ⟨s, bok (pieces_ok cv (by omega)) <| bok rp <| bok (item_c (dg := 0) hk60) <| bok rp <| bokF (ne_s _) rfl, trivial⟩
  have a13 := rows_ok (dg := 2 + d0) (many := most) (by omega) hm4
  obtain ⟨s10, a14, e14⟩ := forT_inv (f := fun x81 s82 => (un2 x81).bind fun (p84, p85) =>
    (m__law_rows (nD (2 + d0)) (nD most)).bind fun z86 =>
    (iter z86).bind fun z87 =>
    (forT z87 s82 fun x88 s89 =>
    (iter x88).bind fun z91 =>
    (forS z91 p85 fun x92 s93 =>
    (if (!isNone s93) = true then
    (item (formD T V) (PyData.int 1)).bind fun z95 =>
    (item z95 s93).bind fun z96 =>
    (item z96 x92).bind fun z97 =>
    R.ok z97
    else
    R.ok PyData.none : R D).bind fun z98 =>
    R.ok z98).bind fun s94 =>
    (m_state_led (formD T V) p84 x88).bind fun z99 =>
    (reprD z99).bind fun z100 =>
    (reprD s94).bind fun z101 =>
    (neD z100 z101).bind fun z102 =>
    if z102 = true then
    R.ok (.rt (PyData.bool false) s89)
    else
    (intD (PyData.bool (!isNone s94))).bind fun z103 =>
    (add s89 z103).bind fun z104 =>
    R.ok (.nx z104)).bind fun
    | .nx s90 =>
    (R.ok (.nx s90))
    | .bk _ => .stuck
    | .rt r105 s90 =>
    (R.ok (.rt r105 s90))) (xs := T.map startD) (st := nD 0) (fun i s => s = nD (((T.map fun p => at' (ways V most) p.2).take i).sum)) rfl fun i s x hx hs => by
      subst hs
      rw [List.getElem?_map] at hx
      obtain ⟨p, hp, rfl⟩ := Option.map_eq_some_iff.mp hx
      have rl := rows_loop v (List.mem_of_getElem? hp) (most := most) (((T.map fun p => at' (ways V most) p.2).take i).sum) (fun _ _ => rfl)
      refine ⟨_, bok (un2_t _ _) <| bok a13 <| bok (iter_l _) <| bok rl rfl, ?_⟩
      rw [List.take_succ, List.getElem?_map, hp]
      show _ = nD ((_ ++ [at' (ways V most) p.2]).sum)
      rw [List.sum_append]; simp
  have e15 : s10 = nD (pieces T V most) := by
    rw [e14, List.length_map, List.take_of_length_le (by rw [List.length_map]; omega)]; rfl
  have st9 : startOf T (9, 9) = none := by
    unfold startOf
    have : T.find? (fun p => decide (p.1 = ((9 : Int), (9 : Int)))) = none := by
      rw [List.find?_eq_none]
      intro p hp e
      have := v.near p hp
      have e : p.1 = (9, 9) := by simpa using e
      rw [e] at this
      simp at this
    rw [this]; rfl
  have a16 := state_ok v (9, 9) (r := []) (by simp)
  rw [st9] at a16
  obtain ⟨t, t1, t2⟩ := rep_end
  unfold m_law
  refine bok a0 <| bok a1 <| bok (show add (.int 2) (nD d0) = .ok (nD (2 + d0)) from add_n 2 d0) <| bok a2 <| bok (show add (.int 1) (nD m0) = .ok (nD (1 + m0)) from add_n 1 m0) <| bok (un2_t _ _) <| bok a3 <| bok (show add (.int 1) (nD k0) = .ok (nD (1 + k0)) from add_n 1 k0) <| bok (range_i (by omega)) <| bok a4 <|
    bok (iter_l _) <| bok (compL_all (h := fun v : Vc => .tuple [lotD v, .int 0]) (by omega) fun _ _ => rfl) <| bok d1 <| bok srtd <| bok a5 <| bok (iter_l _) <| bok a6 <| bok a7 <| bok v.yes <| bokF (show isNotBD (.bool true) (.bool true) = .ok false from rfl) <| ?_
  refine bok (show range1 (.int 3) = .ok (rangeD 0 (3 : Nat)) from range_i (n := 3) (by decide)) <| bok a8 ?_
  refine bok a9 <| bok hme <| bok (show range1 (.int 4) = .ok (rangeD 0 (4 : Nat)) from range_i (n := 4) (by decide)) <| bok a10 <| bok a11 <| bok (iter_l _) <| bok a12 ?_
  refine bok (item0f _ _) <| bok (iter_t _) <| bok a14 ?_
  subst e15
  refine bokF (bok (item_c (dg := 0) (by omega)) <| bokF (show neD (nD (pieces T V most)) (nD (pieces T V most)) = .ok false by unfold nD; rw [ne_i]; simp) <| bok a16 rfl) ?_
  exact bok (pieces_ok side_cv (n := 60) (by decide)) <| bok (pieces_ok nil_cv (n := 7) (by decide)) <| bok (pieces_ok side_cv (n := 0) (by decide)) <| bok nil_yes <| bok t1 <| bok (show pow (.int 2) (.int 60) = .ok (.int (2 ^ 60)) from rfl) <| bok t2 <| bok (eq_s _) rfl
end K48

open PySem PySem.W PyProof.Rows in
set_option maxRecDepth 100000 in
set_option maxHeartbeats 0 in
theorem PySem.Challenge.cw_touchingtiles_k48_pieces_counted_holds : PySem.Challenge.rw_touchingtiles_k48_pieces_counted.Holds := by
  w_on; o_law; k_head; (case hw => w_witness2)
  k_fill
  refine Z.walkG (l := PySem.Challenge.rw_touchingtiles_k48_pieces_counted) (n := 63) (k := 5) (x := "script") (sp := Z.spLaw) rfl (by decide) rfl ⟨rfl, by decide, by decide⟩ (fun w h Y => PySem.W.kIn_of Y) ?F (fun _ H a ns hl hS => ⟨a, ns, rfl, hS, hl, fun _ => rfl⟩)
  case F =>
    intro w mg fa h KX G hmg
    refine' K48.all_mk KX G hmg ?a0 ?l0 ?c0 ?k0 ?a1 ?l1 ?c1 ?k1 ?a2 ?l2 ?c2 ?k2 ?a3 ?l3 ?c3 ?k3 ?a4 ?l4 ?c4 ?k4 ?a5 ?l5 ?c5 ?k5 ?a6 ?l6 ?c6 ?k6 ?a7 ?l7 ?c7 ?k7 ?a8 ?l8 ?c8 ?k8 ?a9 ?l9 ?c9 ?k9 ?a10 ?l10 ?c10 ?k10 ?a11 ?l11 ?c11 ?k11 ?a12 ?l12 ?c12 ?k12 ?a13 ?l13 ?c13 ?k13 ?a14 ?l14 ?c14 ?k14 ?a15 ?l15 ?c15 ?k15 ?a16 ?l16 ?c16 ?k16 ?a17 ?l17 ?c17 ?k17 ?a18 ?l18 ?c18 ?k18 ?a19 ?l19 ?c19 ?k19 ?z_len ?z_range ?z_sum ?z_dict ?z_enumerate ?z_tuple ?z_isinstance ?z_int ?z_bool ?z_all ?z_sorted ?z_abs ?z_max ?z_list ?z_repr K48.holds
    (case a0 => k_is)
    (case l0 => k_is)
    (case c0 => k_is)
    (case k0 => k_is)
    (case a1 => k_is)
    (case l1 => k_is)
    (case c1 => k_is)
    (case k1 => k_is)
    (case a2 => k_is)
    (case l2 => k_is)
    (case c2 => k_is)
    (case k2 => k_is)
    (case a3 => k_is)
    (case l3 => k_is)
    (case c3 => k_is)
    (case k3 => k_is)
    (case a4 => k_is)
    (case l4 => k_is)
    (case c4 => k_is)
    (case k4 => k_is)
    (case a5 => k_is)
    (case l5 => k_is)
    (case c5 => k_is)
    (case k5 => k_is)
    (case a6 => k_is)
    (case l6 => k_is)
    (case c6 => k_is)
    (case k6 => k_is)
    (case a7 => k_is)
    (case l7 => k_is)
    (case c7 => k_is)
    (case k7 => k_is)
    (case a8 => k_is)
    (case l8 => k_is)
    (case c8 => k_is)
    (case k8 => k_is)
    (case a9 => k_is)
    (case l9 => k_is)
    (case c9 => k_is)
    (case k9 => k_is)
    (case a10 => k_is)
    (case l10 => k_is)
    (case c10 => k_is)
    (case k10 => k_is)
    (case a11 => k_is)
    (case l11 => k_is)
    (case c11 => k_is)
    (case k11 => k_is)
    (case a12 => k_is)
    (case l12 => k_is)
    (case c12 => k_is)
    (case k12 => k_is)
    (case a13 => k_is)
    (case l13 => k_is)
    (case c13 => k_is)
    (case k13 => k_is)
    (case a14 => k_is)
    (case l14 => k_is)
    (case c14 => k_is)
    (case k14 => k_is)
    (case a15 => k_is)
    (case l15 => k_is)
    (case c15 => k_is)
    (case k15 => k_is)
    (case a16 => k_is)
    (case l16 => k_is)
    (case c16 => k_is)
    (case k16 => k_is)
    (case a17 => k_is)
    (case l17 => k_is)
    (case c17 => k_is)
    (case k17 => k_is)
    (case a18 => k_is)
    (case l18 => k_is)
    (case c18 => k_is)
    (case k18 => k_is)
    (case a19 => k_is)
    (case l19 => k_is)
    (case c19 => k_is)
    (case k19 => k_is)
    (case z_len => k_is)
    (case z_range => k_is)
    (case z_sum => k_is)
    (case z_dict => k_is)
    (case z_enumerate => k_is)
    (case z_tuple => k_is)
    (case z_isinstance => k_is)
    (case z_int => k_is)
    (case z_bool => k_is)
    (case z_all => k_is)
    (case z_sorted => k_is)
    (case z_abs => k_is)
    (case z_max => k_is)
    (case z_list => k_is)
    (case z_repr => k_is)

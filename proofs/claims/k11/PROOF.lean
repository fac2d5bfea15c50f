import PyProof.Rows.All
import HandS.ForMost
import HandS.Wide
import KE.DataEq
import KE.DataCmp
import KE.DataMinMax
import KE.DataAny
import KE.DataFind
import KE.SortData
import PyProof.ReprRoads
import KE.KDictKeyed
import KE.KDictSum
import KE.KDictLaw
import HandS.Comp
import HandS.NoneIn
import HandS.Walk
import HandS.Zip
import HandS.Words
import HandS.Ends
import HandS.TupAny
import HandS.TupMul
import HandS.Gcd
import HandS.More
import PyProof.ListMulRoad
import PyProof.FactsAll.tuple_2
import HandS.IsInst
import PyProof.Rows.ReprR
import HandS.Style
import HandS.Iter
import KE.GoesMore
import KE.GoesEnum
import PyProof.ReprLen
import HandS.Flow
import HandS.Text
import PySem.Challenge.RW_touchingtiles_k11_least_tellings
set_option Elab.async false
set_option linter.all false
set_option maxRecDepth 100000
set_option maxHeartbeats 0
set_option autoImplicit false
set_option exponentiation.threshold 5000
set_option Elab.async false
set_option linter.all false
set_option maxRecDepth 100000
/-! # Z1: plain data, outcomes, the operations that the mirrors name -/
namespace Z
open PySem

abbrev D := PyData

/-- an outcome: a value; an exception, its class's name and what it was made of; nothing is said -/
inductive R (α : Type) where
  | ok (a : α) | exc (cls : Str) (args : List D) | stuck

namespace R
def bind {α β : Type} (m : R α) (f : α → R β) : R β :=
  match m with
  | ok a => f a
  | exc c a => exc c a
  | stuck => stuck
@[simp] theorem bind_ok {α β : Type} (a : α) (f : α → R β) : (ok a).bind f = f a := rfl
@[simp] theorem bind_stuck {α β : Type} (f : α → R β) : (stuck : R α).bind f = stuck := rfl
@[simp] theorem bind_exc {α β : Type} (c : Str) (a : List D) (f : α → R β) : (exc c a : R α).bind f = exc c a := rfl
theorem bind_assoc {α β γ : Type} (m : R α) (f : α → R β) (g : β → R γ) : (m.bind f).bind g = m.bind fun a => (f a).bind g := by
  cases m <;> rfl
theorem bind_eq_ok {α β : Type} {m : R α} {f : α → R β} {b : β} (h : m.bind f = ok b) : ∃ a, m = ok a ∧ f a = ok b := by
  cases m with
  | ok a => exact ⟨a, rfl, h⟩
  | exc c a => cases h
  | stuck => cases h
end R

/-- how a loop's turn, a block ends -/
inductive Fl (τ : Type) where
  | nx (st : τ) | bk (st : τ) | rt (d : D) (st : τ)

def forT {τ : Type} : List D → τ → (D → τ → R (Fl τ)) → R (Fl τ)
  | [], st, _ => .ok (.nx st)
  | x :: xs, st, f => (f x st).bind fun
    | .nx s => forT xs s f
    | .bk s => .ok (.nx s)
    | .rt d s => .ok (.rt d s)

/-- a loop without break and return -/
def forS {τ : Type} : List D → τ → (D → τ → R τ) → R τ
  | [], st, _ => .ok st
  | x :: xs, st, f => (f x st).bind fun s => forS xs s f

inductive Wl (τ : Type) where
  | go (st : τ) | done (st : τ) | rt (d : D) (st : τ)

def whileT {τ : Type} : Nat → τ → (τ → R (Wl τ)) → R (Fl τ)
  | 0, _, _ => .stuck
  | n + 1, st, f => (f st).bind fun
    | .go s => whileT n s f
    | .done s => .ok (.nx s)
    | .rt d s => .ok (.rt d s)

/-- a comprehension's list; the state is what its element changes -/
def compT {τ : Type} : List D → τ → (D → τ → R (Option D × τ)) → R (List D × τ)
  | [], st, _ => .ok ([], st)
  | x :: xs, st, f => (f x st).bind fun p => (compT xs p.2 f).bind fun q =>
    match p.1 with
    | some y => .ok (y :: q.1, q.2)
    | none => .ok (q.1, q.2)
/-- without a state -/
def compP : List D → (D → R (Option D)) → R (List D)
  | [], _ => .ok []
  | x :: xs, f => (f x).bind fun p => (compP xs f).bind fun q =>
    match p with
    | some y => .ok (y :: q)
    | none => .ok q

/-- .. of not too many items -/
def compL (xs : List D) (f : D → R (Option D)) : R (List D) := if decide (xs.length < 16777216) then compP xs f else .stuck
def compS {τ : Type} (xs : List D) (st : τ) (f : D → τ → R (Option D × τ)) : R (List D × τ) := if decide (xs.length < 16777216) then compT xs st f else .stuck

/-! ### operations -/
def okD (d : D) : Bool := d.plain && decide (d.depth ≤ 40)
def bigM (i j : Int) : Bool := decide (i.natAbs < 2 ^ 64) || decide (j.natAbs < 2 ^ 64) || decide (i.natAbs.log2 + j.natAbs.log2 < 1000000)
def bigD (j : Int) : Bool := decide (j.natAbs.log2 < 9000)
def szOk (n : Nat) : Bool := decide (n ≤ 16777216)

def add : D → D → R D
  | .int i, .int j => .ok (.int (i + j))
  | .str a, .str b => if szOk (a.length + b.length) then .ok (.str (a ++ b)) else .stuck
  | .list a, .list b => if szOk (a.length + b.length) then .ok (.list (a ++ b)) else .stuck
  | .tuple a, .tuple b => if szOk (a.length + b.length) then .ok (.tuple (a ++ b)) else .stuck
  | _, _ => .stuck
def sub : D → D → R D
  | .int i, .int j => .ok (.int (i - j))
  | _, _ => .stuck
def repl (xs : List D) (k : Int) : List D := (List.replicate k.toNat xs).flatten
def mul : D → D → R D
  | .int i, .int j => if bigM i j then .ok (.int (i * j)) else .stuck
  | .list a, .int k => if decide (-(2 ^ 63) ≤ k) && decide (k < 2 ^ 63) && szOk (a.length * k.toNat) then .ok (.list (repl a k)) else .stuck
  | .tuple a, .int k => if decide (k = 1) then .ok (.tuple a) else if decide (2 ≤ k) && !a.isEmpty && decide ((a.length : Int) * k ≤ 1000000) then .ok (.tuple (repl a k)) else .stuck
  | _, _ => .stuck
def fdiv : D → D → R D
  | .int i, .int j => if decide (j ≠ 0) && bigD j then .ok (.int (i.fdiv j)) else .stuck
  | _, _ => .stuck
def fmod : D → D → R D
  | .int i, .int j => if decide (j ≠ 0) then .ok (.int (i.fmod j)) else .stuck
  | _, _ => .stuck
def pow : D → D → R D
  | .int i, .int j => if decide (0 ≤ j) && decide (j ≤ 1000000) && decide (i.natAbs < 2 ^ 64) then .ok (.int (i ^ j.toNat)) else .stuck
  | _, _ => .stuck
def neg : D → R D
  | .int i => .ok (.int (-i))
  | _ => .stuck

def eqD (a b : D) : R Bool := if okD a && okD b then .ok (PyData.eqv a b) else .stuck
def isNone : D → Bool
  | .none => true
  | _ => false
/-- a < b -/
def ltD : D → D → R Bool
  | .int i, .int j => .ok (decide (i < j))
  | a, b => if W.alike a b && !isNone a && okD a && okD b then .ok (W.dataLt a b) else .stuck
def neD (a b : D) : R Bool := (eqD a b).bind fun t => .ok (!t)
/-- a <= b -/
def leD : D → D → R Bool
  | .int i, .int j => .ok (decide (i ≤ j))
  | a, b => if W.alike a b && !isNone a && okD a && okD b then .ok (!W.dataLt b a) else .stuck
def gtD (a b : D) : R Bool := ltD b a
def geD (a b : D) : R Bool := leD b a
mutual
/-- the library's name of such a key -/
def nk : D → Option NestedKey
  | .int i => some (.num i)
  | .tuple xs => (nkAll xs).map .tup
  | _ => none
def nkAll : List D → Option (List NestedKey)
  | [] => some []
  | x :: xs => (nk x).bind fun k => (nkAll xs).map (k :: ·)
end
/-- a key of a dict -/
def keyN : D → Option NestedKey
  | .tuple xs => (nk (.tuple xs)).bind fun k => if decide (k.depth ≤ 8) then some k else none
  | _ => none
def dGet (kvs : List (D × D)) (k : NestedKey) : Option D := (kvs.find? fun p => decide (nk p.1 = some k)).map (·.2)
def dSet (kvs : List (D × D)) (kd : D) (k : NestedKey) (v : D) : List (D × D) :=
  if (dGet kvs k).isSome then kvs.map fun p => if nk p.1 = some k then (p.1, v) else p else kvs ++ [(kd, v)]
def dMerge : List (D × D) → List (D × NestedKey × D) → List (D × D)
  | acc, [] => acc
  | acc, (kd, k, v) :: r => dMerge (dSet acc kd k v) r
def pairsK : List D → Option (List (D × NestedKey × D))
  | [] => some []
  | .tuple [kd, v] :: r => (keyN kd).bind fun k => (pairsK r).map ((kd, k, v) :: ·)
  | _ => none
/-- dict(pairs) -/
def dictL : D → R D
  | .list ps => match pairsK ps with
    | some qs => if szOk ps.length then .ok (.dict (dMerge [] qs)) else .stuck
    | none => .stuck
  | _ => .stuck
def inD (x : D) : D → R Bool
  | .list ys => if okD x && okD (.list ys) then .ok (ys.any fun y => PyData.eqv y x) else .stuck
  | .tuple ys => if okD x && okD (.tuple ys) then .ok (ys.any fun y => PyData.eqv y x) else .stuck
  | .str z => match x with
    | .str c => .ok (!(Builtin.Str.occurrences z c 0 z.length 1).isEmpty)
    | _ => .stuck
  | .dict kvs => match keyN x with
    | some k => .ok (dGet kvs k).isSome
    | none => .stuck
  | _ => .stuck

def notInD (x y : D) : R Bool := (inD x y).bind fun t => .ok (!t)

def truth : D → R Bool
  | .none => .ok false
  | .bool b => .ok b
  | .int i => .ok (i != 0)
  | .str x => if szOk x.length then .ok (x.length != 0) else .stuck
  | .list xs => .ok (!xs.isEmpty)
  | .tuple xs => .ok (!xs.isEmpty)
  | .dict _ => .stuck

/-- the item at a place, from the end below 0 -/
def atD (xs : List D) (i : Int) : R D :=
  match L2.atI xs i with
  | some x => .ok x
  | none => .stuck
def item : D → D → R D
  | .tuple xs, .int i => atD xs i
  | .list xs, .int i => atD xs i
  | .str s, .int i => if szOk s.length then match L2.atI s.cps.toList i with
    | some c => .ok (.str ⟨#[c]⟩)
    | none => .stuck
    else .stuck
  | .dict kvs, x => match keyN x with
    | some k => match dGet kvs k with
      | some v => .ok v
      | none => .stuck
    | none => .stuck
  | _, _ => .stuck
/-- an end of a slice -/
def toI : D → R Int
  | .int i => .ok i
  | _ => .stuck
def cut {α : Type} (xs : List α) (lo hi : Option Int) : List α := (xs.drop (HT.sIx xs.length 0 lo)).take (HT.sIx xs.length xs.length hi - HT.sIx xs.length 0 lo)
def slice (a : D) (l u : Option Int) : R D := match a with
  | .tuple xs => .ok (.tuple (cut xs l u))
  | .list xs => .ok (.list (cut xs l u))
  | .str s => if szOk s.length then .ok (.str (L2.cutS s l u)) else .stuck
  | _ => .stuck
/-- xs[::-1] -/
def backwards : D → R D
  | .list xs => .ok (.list xs.reverse)
  | _ => .stuck
/-- the items that a loop, a star, list(..) walk -/
def iter : D → R (List D)
  | .tuple xs => .ok xs
  | .list xs => .ok xs
  | .str s => .ok (s.cps.toList.map fun c => .str ⟨#[c]⟩)
  | _ => .stuck
def rangeD (lo hi : Int) : List D := (List.range (hi - lo).toNat).map fun (k : Nat) => .int (lo + k)
def range2 : D → D → R (List D)
  | .int lo, .int hi => if decide (-(2 ^ 62) ≤ lo) && decide (lo < 2 ^ 62) && decide (-(2 ^ 62) ≤ hi) && decide (hi < 2 ^ 62) then .ok (rangeD lo hi) else .stuck
  | _, _ => .stuck
def range1 (a : D) : R (List D) := range2 (.int 0) a
def enumD (xs : List D) : List D := xs.zipIdx.map fun p => .tuple [.int (p.2 : Nat), p.1]
def zipD (xs ys : List D) : List D := (xs.zip ys).map fun p => .tuple [p.1, p.2]

def lenD : D → R D
  | .tuple xs => .ok (.int xs.length)
  | .list xs => .ok (.int xs.length)
  | .str s => if szOk s.length then .ok (.int s.length) else .stuck
  | .dict kvs => .ok (.int kvs.length)
  | _ => .stuck
def absD : D → R D
  | .int i => .ok (.int (if i < 0 then -i else i))
  | _ => .stuck
def maxD2 : D → D → R D
  | .int i, .int j => .ok (.int (if j > i then j else i))
  | _, _ => .stuck
def minD2 : D → D → R D
  | .int i, .int j => .ok (.int (if j < i then j else i))
  | _, _ => .stuck
def maxL : D → R D
  | .list (x :: xs) => if okD (.list (x :: xs)) && (x :: xs).all (fun a => !isNone a && (x :: xs).all fun b => W.alike a b) then .ok (W.maxD x xs) else .stuck
  | .tuple (x :: xs) => if okD (.list (x :: xs)) && (x :: xs).all (fun a => !isNone a && (x :: xs).all fun b => W.alike a b) then .ok (W.maxD x xs) else .stuck
  | _ => .stuck
def minL : D → R D
  | .list (x :: xs) => if okD (.list (x :: xs)) && (x :: xs).all (fun a => !isNone a && (x :: xs).all fun b => W.alike a b) then .ok (W.minD x xs) else .stuck
  | .tuple (x :: xs) => if okD (.list (x :: xs)) && (x :: xs).all (fun a => !isNone a && (x :: xs).all fun b => W.alike a b) then .ok (W.minD x xs) else .stuck
  | _ => .stuck
def isTup1 : D → Bool
  | .tuple (_ :: _) => true
  | _ => false
def isTup : D → Bool
  | .tuple _ => true
  | _ => false
/-- sorted(xs) -/
def sortL (xs : List D) : R D := if okD (.list xs) && xs.all (fun a => xs.all fun b => W.alike a b) && (xs.all isTup1 || xs.all fun a => !isNone a && !isTup a) && szOk xs.length then .ok (.list (xs.mergeSort (W.dataLe false id))) else .stuck
def sortedL : D → R D
  | .list xs => sortL xs
  | .dict kvs => sortL (kvs.map (·.1))
  | _ => .stuck
def intsD : List D → Option (List Int)
  | [] => some []
  | .int i :: r => (intsD r).map (i :: ·)
  | _ => none
def boolsD : List D → Option (List Bool)
  | [] => some []
  | .bool i :: r => (boolsD r).map (i :: ·)
  | _ => none
def sumL : D → R D
  | .list xs => match intsD xs with
    | some ns => .ok (.int ns.sum)
    | none => .stuck
  | _ => .stuck
def allL : D → R D
  | .list xs => match boolsD xs with
    | some bs => .ok (.bool (bs.all id))
    | none => .stuck
  | _ => .stuck
def anyL : D → R D
  | .list xs => match boolsD xs with
    | some bs => .ok (.bool (bs.any id))
    | none => .stuck
  | _ => .stuck
def tupleD : D → R D
  | .list xs => .ok (.tuple xs)
  | .tuple xs => .ok (.tuple xs)
  | _ => .stuck
def listD : D → R D
  | .list xs => .ok (.list xs)
  | .tuple xs => .ok (.list xs)
  | .dict kvs => .ok (.list (kvs.map (·.1)))
  | _ => .stuck
def fn1 (f : D → R D) : List D → R D
  | [a] => f a
  | _ => .stuck
def fn2 (f : D → D → R D) : List D → R D
  | [a, b] => f a b
  | _ => .stuck
def fn3 (f : D → D → D → R D) : List D → R D
  | [a, b, c] => f a b c
  | _ => .stuck
def fn4 (f : D → D → D → D → R D) : List D → R D
  | [a, b, c, d] => f a b c d
  | _ => .stuck
def intD : D → R D
  | .int i => .ok (.int i)
  | .bool b => .ok (.int (if b then 1 else 0))
  | _ => .stuck
def gcdD : D → D → R D
  | .int i, .int j => .ok (.int ((Nat.gcd i.natAbs j.natAbs : Nat) : Int))
  | _, _ => .stuck
/-- the parts of a row that is unpacked -/
def unpack (n : Nat) : D → R (List D)
  | .tuple xs => if xs.length = n then .ok xs else .stuck
  | .list xs => if xs.length = n then .ok xs else .stuck
  | _ => .stuck

def iterL : D → R (List D)
  | .tuple xs => .ok xs
  | .list xs => .ok xs
  | _ => .stuck
/-! what changes a list of one's own: the answer, the list -/
def pushM (xs : List D) : List D → R (D × List D)
  | [d] => if decide (xs.length < 16777216) then .ok (.none, xs ++ [d]) else .stuck
  | _ => .stuck
def extendM (xs : List D) : List D → R (D × List D)
  | [.list ys] => if szOk (xs.length + ys.length) then .ok (.none, xs ++ ys) else .stuck
  | _ => .stuck
def pop0M (xs : List D) : List D → R (D × List D)
  | [] => match xs.getLast? with
    | some d => .ok (d, xs.dropLast)
    | none => .stuck
  | _ => .stuck
def pop1M (xs : List D) : List D → R (D × List D)
  | [.int i] => match L2.ixN xs.length i with
    | some j => match xs[j]? with
      | some d => .ok (d, xs.eraseIdx j)
      | none => .stuck
    | none => .stuck
  | _ => .stuck
def setM (xs : List D) (j d : D) : R (List D) := match j with
  | .int i => match L2.ixN xs.length i with
    | some j => .ok (xs.set j d)
    | none => .stuck
  | _ => .stuck
def flatB : D → Bool
  | .none => true
  | .bool _ => true
  | .int _ => true
  | .str _ => true
  | _ => false
/-- a value that has no parts -/
def flatR (r : R D) : R D := r.bind fun d => if flatB d then .ok d else .stuck

/-- what is shown fits -/
def reprOk (d : D) : Bool := okD d && d.showable && !d.hasDict && decide (d.shown.length ≤ 16777216)
def reprD : D → R D
  | .list xs => if reprOk (.list xs) then .ok (.str (PyData.list xs).shown) else .stuck
  | .tuple xs => if reprOk (.tuple xs) then .ok (.str (PyData.tuple xs).shown) else .stuck
  | _ => .stuck
/-- the law's source of choices -/
structure Src where
  cells : List Int
  left : Int
  mixed : Int
  turn : Int

/-- the source's last cell -/
def popC (cs : List Int) : R (Int × List Int) := match cs.getLast? with
  | some n => .ok (n, cs.dropLast)
  | none => .stuck
def mkSrc (ds : List D) (l mx t : D) : R Src := match intsD ds with
  | some ns => if decide (ns.length ≤ 63) then (toI l).bind fun l => (toI mx).bind fun mx => (toI t).bind fun t => .ok ⟨ns, l, mx, t⟩ else .stuck
  | none => .stuck
def revL : D → R (List D)
  | .list xs => .ok xs.reverse
  | _ => .stuck

/-- what a slot holds: a value that nobody changes; a list of its own; the source -/
inductive Sl where
  | val (d : D)
  | own (xs : List D)
  | src (a : Addr) (s : Src)
  | scr (ns : List Int)
  /-- a dict of its own -/
  | dct (kvs : List (D × D))
abbrev Env := List (Option Sl)
end Z

set_option Elab.async false
set_option linter.all false
set_option maxRecDepth 100000
set_option autoImplicit false
/-! # Z2: data in the heap, the state of a body, the judgements -/
namespace Z
open PySem L2

/-! ### dicts whose keys are nested tuples of whole numbers -/
abbrev DEnt := NestedKey × Addr × V
def EntOk (w : World) (x : DEnt) (e : DictEntry) : Prop := e.hash = x.1.hash w ∧ e.key = .ref x.2.1 ∧ RelV x.2.2 e.val
/-- the dict at a whose entries are xs -/
def dctP (a : Addr) (xs : List DEnt) (h : Heap) : Prop := (a == sysModules) = false ∧ xs.length ≤ sizeLine ∧ (xs.map (·.1)).Nodup ∧ (∀ x ∈ xs, x.1.depth ≤ 8) ∧
  ∃ (w : World) (o : Obj) (es : Array DictEntry) (ep : Nat), h.get? a = some o ∧ o.ExactDict ∧ o.data = .dict es ep ∧ Paired (EntOk w) xs es.toList
def dctO (a : Addr) (xs : List DEnt) : HO := .ext (dctP a xs)

mutual
/-- v reads as the data d -/
inductive Rp (K : PySem.W.Frag) (F : Hp) : V → D → Prop
  | non : Rp K F .non .none
  | bl (b : Bool) : Rp K F (.bl b) (.bool b)
  | int (i : Int) : Rp K F (.int i) (.int i)
  | str (x : Str) : Rp K F (.str x) (.str x)
  | lst {a : Addr} {xs : List V} {ds : List D} : F a = some (.lst xs) → RpAll K F xs ds → Rp K F (.ref a) (.list ds)
  | tup {a : Addr} {xs : List V} {ds : List D} : SqT K F a xs → RpAll K F xs ds → Rp K F (.ref a) (.tuple ds)
  | dct {a : Addr} {xs : List DEnt} {ks ds : List D} : F a = some (dctO a xs) → RpAll K F (xs.map fun x => .ref x.2.1) ks → nkAll ks = some (xs.map (·.1)) → RpAll K F (xs.map fun x => x.2.2) ds → Rp K F (.ref a) (.dict (ks.zip ds))
inductive RpAll (K : PySem.W.Frag) (F : Hp) : List V → List D → Prop
  | nil : RpAll K F [] []
  | cons {v : V} {vs : List V} {d : D} {ds : List D} : Rp K F v d → RpAll K F vs ds → RpAll K F (v :: vs) (d :: ds)
end
theorem seqT {K : PySem.W.Frag} {H H' : Hp} {a : Addr} {xs : List V} (e : Same H H') (h : SqT K H a xs) : SqT K H' a xs := by
  rcases h with (h | ⟨o, h⟩) | h
  · exact .inl (.inl (e _ _ h))
  · exact .inl (.inr ⟨o, e _ _ h⟩)
  · exact .inr h
section
variable {K : PySem.W.Frag} {F F' : Hp}
mutual
theorem Rp.mono (e : Same F F') : ∀ {v : V} {d : D}, Rp K F v d → Rp K F' v d
  | _, _, .non => .non
  | _, _, .bl b => .bl b
  | _, _, .int i => .int i
  | _, _, .str x => .str x
  | _, _, .lst h r => .lst (e _ _ h) (RpAll.mono e r)
  | _, _, .tup h r => .tup (seqT e h) (RpAll.mono e r)
  | _, _, .dct h r i r' => .dct (e _ _ h) (RpAll.mono e r) i (RpAll.mono e r')
theorem RpAll.mono (e : Same F F') : ∀ {vs : List V} {ds : List D}, RpAll K F vs ds → RpAll K F' vs ds
  | _, _, .nil => .nil
  | _, _, .cons h r => .cons (Rp.mono e h) (RpAll.mono e r)
end
theorem RpAll.length : ∀ {vs : List V} {ds : List D}, RpAll K F vs ds → vs.length = ds.length
  | _, _, .nil => rfl
  | _, _, .cons _ r => by simp [RpAll.length r]
theorem RpAll.isEmpty : ∀ {vs : List V} {ds : List D}, RpAll K F vs ds → vs.isEmpty = ds.isEmpty
  | _, _, .nil => rfl
  | _, _, .cons _ r => rfl
theorem RpAll.append : ∀ {vs ws : List V} {ds es : List D}, RpAll K F vs ds → RpAll K F ws es → RpAll K F (vs ++ ws) (ds ++ es)
  | _, _, _, _, .nil, r => r
  | _, _, _, _, .cons h t, r => .cons h (RpAll.append t r)
theorem RpAll.at : ∀ {vs : List V} {ds : List D}, RpAll K F vs ds → ∀ {i : Nat} {d : D}, ds[i]? = some d → ∃ v, vs[i]? = some v ∧ Rp K F v d
  | _, _, .nil, i, d, h => by simp at h
  | _, _, .cons h t, 0, d, e => by simp at e; subst e; exact ⟨_, by simp, h⟩
  | _, _, .cons h t, i + 1, d, e => by
    obtain ⟨v, h1, h2⟩ := RpAll.at t (i := i) (d := d) (by simpa using e)
    exact ⟨v, by simpa using h1, h2⟩
theorem RpAll.at' : ∀ {vs : List V} {ds : List D}, RpAll K F vs ds → ∀ {i : Nat} {v : V}, vs[i]? = some v → ∃ d, ds[i]? = some d ∧ Rp K F v d
  | _, _, .nil, i, d, h => by simp at h
  | _, _, .cons h t, 0, d, e => by simp at e; subst e; exact ⟨_, by simp, h⟩
  | _, _, .cons h t, i + 1, d, e => by
    obtain ⟨v, h1, h2⟩ := RpAll.at' t (i := i) (v := d) (by simpa using e)
    exact ⟨v, by simpa using h1, h2⟩
mutual
/-- without a dict it is the library's reading -/
theorem Rp.dp : ∀ {v : V} {d : D}, Rp K F v d → d.plain = true → Dp K F v d
  | _, _, .non, _ => .non
  | _, _, .bl b, _ => .bl b
  | _, _, .int i, _ => .int i
  | _, _, .str x, _ => .str x
  | _, _, .lst h r, p => .lst (SqL.of h) (RpAll.dp r (by simpa [PyData.plain] using p))
  | _, _, .tup h r, p => .tup h (RpAll.dp r (by simpa [PyData.plain] using p))
theorem RpAll.dp : ∀ {vs : List V} {ds : List D}, RpAll K F vs ds → PyData.plainAll ds = true → DpAll K F vs ds
  | _, _, .nil, _ => .nil
  | _, _, .cons h r, p => by
    simp [PyData.plainAll] at p
    exact .cons (Rp.dp h p.1) (RpAll.dp r p.2)
end
end

theorem okD_plain {d : D} (h : okD d = true) : d.plain = true := by simp [okD] at h; exact h.1
theorem okD_depth {d : D} (h : okD d = true) : d.depth ≤ 40 := by simp [okD] at h; exact h.2
section
variable {X : Cx} {pins : List (Addr × Obj)} {σ : St} {H F : Hp} {s : Shared}
theorem Dp.up {K : PySem.W.Frag} {F H : Hp} (e : Same F H) : (∀ (v : V) (d : D), Rp K F v d → Rp K H v d) := fun v d h => h.mono e
/-- the reads of the library -/
theorem Rp.reads (I : Inv X pins σ H s) (e : Same F H) {v : V} {u : Value} {d : D} (h : Rp X.K F v d) (r : RelV v u) (p : d.plain = true) : ∃ as, Reads s.heap u d as :=
  L2.Dp.reads I d v u ((h.mono e).dp p) r
theorem RpAll.reads (I : Inv X pins σ H s) (e : Same F H) {vs : List V} {us : List Value} {ds : List D} (h : RpAll X.K F vs ds) (r : Vals vs us) (p : PyData.plainAll ds = true) : ∃ as, ReadsAll s.heap us ds as :=
  L2.Dp.readsAll I ds vs us ((h.mono e).dp p) r
end

/-! ### the state of a body -/
/-- the entries of a dict as data -/
structure DcR (K : PySem.W.Frag) (F : Hp) (xs : List DEnt) (kvs : List (D × D)) : Prop where
  ks : RpAll K F (xs.map fun x => .ref x.2.1) (kvs.map (·.1))
  nk : nkAll (kvs.map (·.1)) = some (xs.map (·.1))
  vs : RpAll K F (xs.map fun x => x.2.2) (kvs.map (·.2))
theorem DcR.mono {K : PySem.W.Frag} {F F' : Hp} (e : Same F F') {xs : List DEnt} {kvs : List (D × D)} (h : DcR K F xs kvs) : DcR K F' xs kvs := ⟨h.ks.mono e, h.nk, h.vs.mono e⟩
/-- what a slot holds, the addresses that it alone has -/
def SlR (K : PySem.W.Frag) (F H : Hp) : Sl → V → List Addr → Prop
  | .val d, v, as => Rp K F v d ∧ as = []
  | .own xs, v, as => ∃ (p : Addr) (vs : List V), v = .ref p ∧ as = [p] ∧ H p = some (.lst vs) ∧ F p = none ∧ RpAll K F vs xs
  | .src a s, v, as => ∃ (c : Addr), v = .ref a ∧ as = [a, c] ∧ a ≠ c ∧ F a = none ∧ F c = none ∧
      H a = some (.dK [(.inr "cells", .ref c), (.inr "left", .int s.left), (.inr "mixed", .int s.mixed), (.inr "turn", .int s.turn)]) ∧ H c = some (.lst (s.cells.map V.int)) ∧ s.cells.length ≤ 63
  | .scr ns, v, as => ∃ a, v = .ref a ∧ SqL K F a (ns.map V.int) ∧ ns.length ≤ 63 ∧ as = []
  | .dct kvs, v, as => ∃ (p : Addr) (xs : List DEnt), v = .ref p ∧ as = [p] ∧ H p = some (dctO p xs) ∧ F p = none ∧ DcR K F xs kvs

/-- what is handed out to its new owner -/
inductive Ow where
  | src (s : Src)
  | own (xs : List D)
def OwR (K : PySem.W.Frag) (F H : Hp) (ow : Ow) (v : V) (as : List Addr) : Prop := match ow with
  | .src s => ∃ a, SlR K F H (.src a s) v as
  | .own xs => SlR K F H (.own xs) v as

/-- the entry of a body: its heap, what nobody changes, the addresses that are handed in to be changed -/
structure Wd where
  K : PySem.W.Frag
  F0 : Hp
  H0 : Hp
  io : List Addr

structure Rel (W : Wd) (ρ : Env) (σ : St) (H F : Hp) : Prop where
  sub : Same F H
  sub0 : Same W.F0 F
  keep : ∀ b o, W.H0 b = some o → b ∉ W.io → H b = some o
  fresh : ∀ b o, F b = some o → W.F0 b = some o ∨ W.H0 b = none ∨ b ∈ W.io
  env : ∃ ad : Nat → List Addr, ∀ i sl, ρ[i]? = some (some sl) → ∃ v, σ[i]? = some (some v) ∧ SlR W.K F H sl v (ad i) ∧
    (∀ b ∈ ad i, b ∈ W.io ∨ W.H0 b = none) ∧ ∀ j sl', i ≠ j → ρ[j]? = some (some sl') → ∀ b ∈ ad i, b ∉ ad j
  len : ρ.length ≤ σ.length
  trk : ∀ b o, W.H0 b = some o → ∃ o', H b = some o'

/-- the text around: the program, its module, the names by slot, the scope, the room -/
structure Ct where
  P : Program
  w : World
  K : PySem.W.Frag
  mg : Str → Option Value
  base : Heap
  k : Nat
  N : List Str
  sc : Scope
  fn : Str → Bool

structure XOk (C : Ct) (X : Cx) : Prop where
  prog : X.prog = C.P
  w : X.w = C.w
  K : X.K = C.K
  mg : X.mg = C.mg
  base : X.base = C.base
  N : X.N = C.N
  nd : C.N.Nodup
  sc : X.env.scope = C.sc
  calm : X.calm = true
  room : Room C.k X.A
  grd : X.A.guards = some []
  own : PassesOwn (model X.prog X.w) X.A X.env X.xe
  /-- which names' cells are the body's own -/
  fnl : ∀ x, C.fn x = true → X.fn x = true

/-- what is known of a mirror: it tells a value -/
structure Cl {α : Type} (Z : R α → Prop) : Prop where
  st : ¬ Z .stuck
  ex : ∀ c a, ¬ Z (.exc c a)
theorem Cl.bind {α β : Type} {Z : R α → Prop} (c : Cl Z) {m : R β} {f : β → R α} (h : Z (m.bind f)) : ∃ b, m = .ok b ∧ Z (f b) := by
  cases m with
  | ok b => exact ⟨b, rfl, h⟩
  | exc x a => exact (c.ex x a h).elim
  | stuck => exact (c.st h).elim

/-! ### judgements -/
/-- e in ρ: m is what is reckoned from here; κ d ρ' m': m' is what is reckoned behind e, its value d -/
def DE {α : Type} (C : Ct) (ρ : Env) (e : Expr) (m : R α) (κ : D → Env → R α → Prop) : Prop :=
  ∀ (X : Cx) (W : Wd) (Z : R α → Prop), XOk C X → W.K = C.K → Cl Z → Z m →
    PE X e fun σ H Q => ∃ F, Rel W ρ σ H F ∧ ∀ d ρ' m' v H' F', κ d ρ' m' → Z m' → Rel W ρ' σ H' F' → Same F F' → Rp W.K F' v d → Q v H'
/-- a test -/
def DT {α : Type} (C : Ct) (ρ : Env) (e : Expr) (m : R α) (κ : Bool → Env → R α → Prop) : Prop :=
  ∀ (X : Cx) (W : Wd) (Z : R α → Prop), XOk C X → W.K = C.K → Cl Z → Z m →
    PT X e fun σ H Q => ∃ F, Rel W ρ σ H F ∧ ∀ b ρ' m' H' F', κ b ρ' m' → Z m' → Rel W ρ' σ H' F' → Same F F' → Q b H'
def DW {α : Type} (C : Ct) (ρ : Env) (e : Expr) (m : R α) (κ : Bool → Env → R α → Prop) : Prop :=
  ∀ (X : Cx) (W : Wd) (Z : R α → Prop), XOk C X → W.K = C.K → Cl Z → Z m →
    PW X e fun σ H Q => ∃ F, Rel W ρ σ H F ∧ ∀ b ρ' m' H' F', κ b ρ' m' → Z m' → Rel W ρ' σ H' F' → Same F F' → Q b H'
/-- arguments -/
def DA {α : Type} (C : Ct) (ρ : Env) (es : List Expr) (m : R α) (κ : List D → Env → R α → Prop) : Prop :=
  ∀ (X : Cx) (W : Wd) (Z : R α → Prop), XOk C X → W.K = C.K → Cl Z → Z m →
    PA X es fun σ H Q => ∃ F, Rel W ρ σ H F ∧ ∀ ds ρ' m' vs H' F', κ ds ρ' m' → Z m' → Rel W ρ' σ H' F' → Same F F' → RpAll W.K F' vs ds → Q vs H'

/-- what the mirror must be at each way out of a block -/
structure Jd (α : Type) where
  nx : Env → R α → Prop
  rt : D → Env → R α → Prop
  bk : Env → R α → Prop
  ct : Env → R α → Prop
  rn : Ow → Env → R α → Prop := fun _ _ _ => False
structure Lk {α : Type} (W : Wd) (J : Jd α) (Z : R α → Prop) (D : Ends) : Prop where
  nx : ∀ ρ m σ H F, J.nx ρ m → Z m → Rel W ρ σ H F → D.nx σ H
  rt : ∀ d ρ m v σ H F, J.rt d ρ m → Z m → Rel W ρ σ H F → Rp W.K F v d → D.rt v H
  bk : ∀ ρ m σ H F, J.bk ρ m → Z m → Rel W ρ σ H F → D.bk σ H
  ct : ∀ ρ m σ H F, J.ct ρ m → Z m → Rel W ρ σ H F → D.ct σ H
  rn : ∀ (ow : Ow) (ρ : Env) (m : R α) (v : V) (as : List Addr) (H F : Hp), J.rn ow ρ m → Z m → Rel W [] [] H F → OwR W.K F H ow v as → (∀ b ∈ as, W.H0 b = none) → D.rt v H
def DSs {α : Type} (C : Ct) (ρ : Env) (sts : List Stmt) (m : R α) (J : Jd α) : Prop :=
  ∀ (X : Cx) (W : Wd) (Z : R α → Prop), XOk C X → W.K = C.K → Cl Z → Z m →
    PSs X sts fun D σ H => ∃ F, Rel W ρ σ H F ∧ Lk W J Z D

/-! ### readings weakened -/
theorem PE_imp {X : Cx} {e : Expr} {t t' : TE} (h : PE X e t) (i : ∀ σ H Q, t' σ H Q → t σ H Q) : PE X e t' := ⟨fun p s σ H Q I q => h.run p s σ H Q I (i σ H Q q)⟩
theorem PT_imp {X : Cx} {e : Expr} {t t' : TT} (h : PT X e t) (i : ∀ σ H Q, t' σ H Q → t σ H Q) : PT X e t' := ⟨fun p s σ H Q I q => h.run p s σ H Q I (i σ H Q q)⟩
theorem PW_imp {X : Cx} {e : Expr} {t t' : TT} (h : PW X e t) (i : ∀ σ H Q, t' σ H Q → t σ H Q) : PW X e t' := ⟨fun wh p s σ H Q I q => h.run wh p s σ H Q I (i σ H Q q)⟩
theorem PA_imp {X : Cx} {e : List Expr} {t t' : TA} (h : PA X e t) (i : ∀ σ H Q, t' σ H Q → t σ H Q) : PA X e t' := ⟨fun po p s σ H Q I q => h.run po p s σ H Q I (i σ H Q q)⟩
theorem PS_imp {X : Cx} {e : Stmt} {t t' : TS} (h : PS X e t) (i : ∀ D σ H, t' D σ H → t D σ H) : PS X e t' := ⟨fun p s σ H D I q => h.run p s σ H D I (i D σ H q)⟩
theorem PSs_imp {X : Cx} {e : List Stmt} {t t' : TS} (h : PSs X e t) (i : ∀ D σ H, t' D σ H → t D σ H) : PSs X e t' := ⟨fun p s σ H D I q => h.run p s σ H D I (i D σ H q)⟩
/-- by what is known: a reading for each -/
theorem PE_any {ι : Type 1} {X : Cx} {e : Expr} {t : ι → TE} (h : ∀ i, PE X e (t i)) : PE X e fun σ H Q => ∃ i, t i σ H Q := ⟨fun p s σ H Q I ⟨i, q⟩ => (h i).run p s σ H Q I q⟩
theorem PE_if {X : Cx} {e : Expr} {t : TE} {c : Prop} (h : c → PE X e t) : PE X e fun σ H Q => c ∧ t σ H Q := ⟨fun p s σ H Q I ⟨i, q⟩ => (h i).run p s σ H Q I q⟩
end Z

set_option Elab.async false
set_option linter.all false
set_option maxRecDepth 100000
set_option autoImplicit false
/-! # Z3: the rules: names, constants, operators, tests, joins, blocks -/
namespace Z
open PySem L2

/-- a step: what nobody changes grows by new objects alone -/
structure Fx (F H F' H' : Hp) : Prop where
  ff : Same F F'
  fh : Same F' H'
  hh : Same H H'
  new : ∀ b o, F' b = some o → F b = some o ∨ H b = none
theorem Fx.refl {F H : Hp} (e : Same F H) : Fx F H F H := ⟨Same.refl _, e, Same.refl _, fun _ _ h => .inl h⟩
theorem Fx.alloc {F H : Hp} {p : Addr} {u : HO} (e : Same F H) (hp : H p = none) : Fx F H (upd F p u) (upd H p u) := by
  have hf : F p = none := e.free hp
  refine ⟨fun b o h => ?_, fun b o h => ?_, fun b o h => ?_, fun b o h => ?_⟩
  · rw [upd_ne (ne_of_none h hf)]; exact h
  · by_cases hb : b = p
    · subst hb; rw [upd_same] at h ⊢; exact h
    · rw [upd_ne hb] at h ⊢; exact e b o h
  · rw [upd_ne (ne_of_none h hp)]; exact h
  · by_cases hb : b = p
    · subst hb; exact .inr hp
    · rw [upd_ne hb] at h; exact .inl h
theorem Fx.trans {F H F1 H1 F2 H2 : Hp} (a : Fx F H F1 H1) (b : Fx F1 H1 F2 H2) : Fx F H F2 H2 :=
  ⟨a.ff.trans b.ff, b.fh, a.hh.trans b.hh, fun c o h => (b.new c o h).elim (fun q => a.new c o q) fun q => .inr (a.hh.free q)⟩

theorem Fx.none {F H F' H' : Hp} (x : Fx F H F' H') {p : Addr} {u : HO} (hf : F p = none) (h : H p = some u) : F' p = none := by
  cases q : F' p with
  | none => rfl
  | some o =>
    rcases x.new p o q with z | z
    · rw [hf] at z; cases z
    · rw [h] at z; cases z
theorem SlR.step {K : PySem.W.Frag} {F H F' H' : Hp} (x : Fx F H F' H') : ∀ {sl : Sl} {v : V} {as : List Addr}, SlR K F H sl v as → SlR K F' H' sl v as
  | .val d, v, as, ⟨h, e⟩ => ⟨h.mono x.ff, e⟩
  | .own xs, v, as, ⟨p, vs, e1, e2, h, hf, r⟩ => ⟨p, vs, e1, e2, x.hh _ _ h, x.none hf h, r.mono x.ff⟩
  | .src a s, v, as, ⟨c, e1, e2, ne, ha, hc, h1, h2, l⟩ => ⟨c, e1, e2, ne, x.none ha h1, x.none hc h2, x.hh _ _ h1, x.hh _ _ h2, l⟩
  | .scr ns, v, as, ⟨a, e1, h, l, e2⟩ => ⟨a, e1, x.ff.seq h, l, e2⟩
  | .dct kvs, v, as, ⟨p, xs, e1, e2, h, hf, r⟩ => ⟨p, xs, e1, e2, x.hh _ _ h, x.none hf h, r.mono x.ff⟩

section
variable {W : Wd} {ρ : Env} {σ : L2.St} {H F F' H' : Hp}
theorem Rel.step (r : Rel W ρ σ H F) (x : Fx F H F' H') : Rel W ρ σ H' F' := by
  refine ⟨x.fh, r.sub0.trans x.ff, fun b o h n => x.hh _ _ (r.keep b o h n), fun b o h => ?_, ?_, r.len, fun b o h => ?_⟩
  · rcases x.new b o h with q | q
    · exact r.fresh b o q
    · refine .inr (.inl ?_)
      cases e : W.H0 b with
      | none => rfl
      | some u => obtain ⟨o', q'⟩ := r.trk b u e; rw [q] at q'; cases q'
  · obtain ⟨ad, h⟩ := r.env
    refine ⟨ad, fun i sl e => ?_⟩
    obtain ⟨v, h1, h2, h3, h4⟩ := h i sl e
    exact ⟨v, h1, h2.step x, h3, h4⟩
  · obtain ⟨o', q⟩ := r.trk b o h
    exact ⟨o', x.hh _ _ q⟩
theorem Rel.val (r : Rel W ρ σ H F) {i : Nat} {d : D} (e : ρ[i]? = some (some (.val d))) : ∃ v, σ[i]? = some (some v) ∧ Rp W.K F v d := by
  obtain ⟨ad, h⟩ := r.env
  obtain ⟨v, h1, ⟨h2, _⟩, _⟩ := h i _ e
  exact ⟨v, h1, h2⟩
theorem get_set {α : Type} {l : List α} {i j : Nat} {x y : α} (h : (l.set i x)[j]? = some y) : (i = j ∧ j < l.length ∧ y = x) ∨ (i ≠ j ∧ l[j]? = some y) := by
  rw [List.getElem?_set] at h
  split at h
  · rename_i e
    split at h
    · cases h; rename_i hl; exact .inl ⟨e, e ▸ hl, rfl⟩
    · cases h
  · rename_i e; exact .inr ⟨e, h⟩
theorem Rel.set (r : Rel W ρ σ H F) (i : Nat) {v : V} {d : D} (h : Rp W.K F v d) : Rel W (ρ.set i (some (.val d))) (σ.set i (some v)) H F := by
  refine ⟨r.sub, r.sub0, r.keep, r.fresh, ?_, by rw [List.length_set, List.length_set]; exact r.len, r.trk⟩
  obtain ⟨ad, k⟩ := r.env
  refine ⟨fun j => if j = i then [] else ad j, fun j sl e => ?_⟩
  rcases get_set e with ⟨e1, e2, e3⟩ | ⟨e1, e2⟩
  · subst e1
    cases e3
    refine ⟨v, by rw [List.getElem?_set_self (Nat.lt_of_lt_of_le e2 r.len)], ⟨h, by simp⟩, by simp, by simp⟩
  · obtain ⟨u, h1, h2, h3, h4⟩ := k j sl e2
    have ne : j ≠ i := fun z => e1 z.symm
    refine ⟨u, by rw [List.getElem?_set_ne e1]; exact h1, by simpa [ne] using h2, by simpa [ne] using h3, fun l sl' hl e' b hb => ?_⟩
    simp only [ne, if_false] at hb
    rcases get_set e' with ⟨z1, z2, z3⟩ | ⟨z1, z2⟩
    · subst z1; simp
    · have ne' : l ≠ i := fun z => z1 z.symm
      simp only [ne', if_false]
      exact h4 l sl' hl z2 b hb
/-- a slot is forgotten -/
theorem Rel.forget (r : Rel W ρ σ H F) (i : Nat) (x : Option V) : Rel W (ρ.set i none) (σ.set i x) H F := by
  refine ⟨r.sub, r.sub0, r.keep, r.fresh, ?_, by rw [List.length_set, List.length_set]; exact r.len, r.trk⟩
  obtain ⟨ad, k⟩ := r.env
  refine ⟨ad, fun j sl e => ?_⟩
  rcases get_set e with ⟨e1, e2, e3⟩ | ⟨e1, e2⟩
  · cases e3
  · obtain ⟨u, h1, h2, h3, h4⟩ := k j sl e2
    refine ⟨u, by rw [List.getElem?_set_ne e1]; exact h1, h2, h3, fun l sl' hl e' b hb => ?_⟩
    rcases get_set e' with ⟨z1, z2, z3⟩ | ⟨z1, z2⟩
    · cases z3
    · exact h4 l sl' hl z2 b hb
end

section
variable {α : Type} {C : Ct} {ρ : Env} {m : R α}

theorem XOk.vis {X : Cx} (x : XOk C X) {n : Str} (h : Vis C.sc n) : Vis X.env.scope n := by rw [x.sc]; exact h
theorem XOk.gl {X : Cx} (x : XOk C X) {n : Str} (h : C.sc.names.lookup n = some .globalImplicit) : Gl X n := by unfold Gl PySem.Env.kindOf; rw [x.sc]; exact h
theorem XOk.mg0 {X : Cx} (x : XOk C X) {n : Str} (h : C.mg n = none) : X.mg n = none := by rw [x.mg]; exact h

/-! ### names, constants -/
theorem de_var {κ : D → Env → R α → Prop} {n : Str} {pos : Pos} (i : Nat) {d : D} (hρ : ρ[i]? = some (some (.val d))) (k : κ d ρ m) (hN : C.N[i]? = some n := by rfl)
    (hv : Vis C.sc n := by first | exact Or.inl rfl | exact Or.inr (Or.inl rfl) | exact Or.inr (Or.inr rfl)) (hd : (n == ("__debug__" : Str)) = false := by decide) (hcd : (n == ("__classdict__" : Str)) = false := by decide) : DE C ρ (.Name n pos) m κ := by
  intro X W Z x hK c z
  refine PE_imp (pe_var (i := i) (by rw [x.N]; exact hN) (x.vis hv) hd hcd) fun σ H Q ⟨F, r, q⟩ => ?_
  obtain ⟨v, h1, h2⟩ := r.val hρ
  exact ⟨v, h1, q d ρ m v H F k z r (Same.refl _) h2⟩
theorem de_int {κ : D → Env → R α → Prop} {i : Int} {j : Nat} {pos : Pos} (k : κ (.int i) ρ m) : DE C ρ (.Constant (.int i) j pos) m κ := fun X W Z x hK c z =>
  PE_imp pe_int fun σ H Q ⟨F, r, q⟩ => q _ ρ m _ H F k z r (Same.refl _) (.int i)
theorem de_str {κ : D → Env → R α → Prop} {i : Str} {j : Nat} {pos : Pos} (k : κ (.str i) ρ m) : DE C ρ (.Constant (.str i) j pos) m κ := fun X W Z x hK c z =>
  PE_imp pe_str fun σ H Q ⟨F, r, q⟩ => q _ ρ m _ H F k z r (Same.refl _) (.str i)
theorem de_bool {κ : D → Env → R α → Prop} {i : Bool} {j : Nat} {pos : Pos} (k : κ (.bool i) ρ m) : DE C ρ (.Constant (.bool i) j pos) m κ := fun X W Z x hK c z =>
  PE_imp pe_bl fun σ H Q ⟨F, r, q⟩ => q _ ρ m _ H F k z r (Same.refl _) (.bl i)
theorem de_none {κ : D → Env → R α → Prop} {j : Nat} {pos : Pos} (k : κ .none ρ m) : DE C ρ (.Constant .none j pos) m κ := fun X W Z x hK c z =>
  PE_imp pe_non fun σ H Q ⟨F, r, q⟩ => q _ ρ m _ H F k z r (Same.refl _) .non
/-- a module's constant -/
structure ConD (C : Ct) (n : Str) (d : D) : Prop where
  ex : ∃ v u, C.mg n = some u ∧ RelV v u ∧ Rp C.K (fun _ => none) v d
theorem de_con {κ : D → Env → R α → Prop} {n : Str} {pos : Pos} {d : D} (h : ConD C n d) (k : κ d ρ m) (hg : C.sc.names.lookup n = some .globalImplicit := by rfl) (hd : (n == ("__debug__" : Str)) = false := by decide) : DE C ρ (.Name n pos) m κ := fun X W Z x hK c z => by
  obtain ⟨v, u, h1, h2, h3⟩ := h.ex
  refine PE_imp (pe_glob (x.gl hg) (by rw [x.mg]; exact h1) h2 hd) fun σ H Q ⟨F, r, q⟩ => ?_
  exact q _ ρ m _ H F k z r (Same.refl _) (by rw [hK]; exact h3.mono fun b o e => by cases e)

/-! ### operators -/
/-- what an operator of two values tells, by data -/
def r2D (K : PySem.W.Frag) (f : D → D → R D) : R2 := fun x y H Q => ∃ F a b c, Same F H ∧ Rp K F x a ∧ Rp K F y b ∧ f a b = .ok c ∧ ∀ v H' F', Fx F H F' H' → Rp K F' v c → Q v H'
def r2B (K : PySem.W.Frag) (f : D → D → R Bool) : R2 := fun x y H Q => ∃ F a b c, Same F H ∧ Rp K F x a ∧ Rp K F y b ∧ f a b = .ok c ∧ Q (.bl c) H
def r1D (K : PySem.W.Frag) (f : D → R D) : V → Hp → VK → Prop := fun x H Q => ∃ F a c, Same F H ∧ Rp K F x a ∧ f a = .ok c ∧ ∀ v H' F', Fx F H F' H' → Rp K F' v c → Q v H'
def BinS (op : Operator) (f : D → D → R D) : Prop := ∀ (X : Cx) (k : Nat), Room k X.A → OpR X (binaryOp op) (r2D X.K f)
def CmpS (op : CmpOp) (f : D → D → R Bool) : Prop := ∀ (X : Cx) (k : Nat), Room k X.A → OpR X (compareOp op) (r2B X.K f)
def UnS (op : UnaryOp) (f : D → R D) : Prop := ∀ (X : Cx) (k : Nat), Room k X.A → UnR X (unaryOp op) (r1D X.K f)

/-- two parts, then what is reckoned of both -/
theorem de_op {κ : D → Env → R α → Prop} {op : Operator} {f : D → D → R D} {a b : Expr} {pos : Pos} (ho : BinS op f)
    (h : DE C ρ a m fun x ρ1 m1 => DE C ρ1 b m1 fun y ρ2 m2 => ∃ g, m2 = (f x y).bind g ∧ ∀ z, κ z ρ2 (g z)) : DE C ρ (.BinOp a op b pos) m κ := by
  intro X W Z x hK c z
  refine ⟨fun pins s σ H Q I hq => ?_⟩
  obtain ⟨F, r, q⟩ := hq
  refine wpAny_BinOp (thn ((h X W Z x hK c z).run pins s σ H (fun vx H1 => ∃ F1 dx ρ1 m1, DE C ρ1 b m1 (fun y ρ2 m2 => ∃ g, m2 = (f dx y).bind g ∧ ∀ z, κ z ρ2 (g z)) ∧ Z m1 ∧ Rel W ρ1 σ H1 F1 ∧ Same F F1 ∧ Rp W.K F1 vx dx) I
    ⟨F, r, fun d ρ' m' v H' F' h1 h2 h3 h4 h5 => ⟨F', d, ρ', m', h1, h2, h3, h4, h5⟩⟩) fun v s1 ⟨vx, H1, I1, r1, F1, dx, ρ1, m1, h1, z1, rel1, s1', p1⟩ => ?_)
  refine thn ((h1 X W Z x hK c z1).run pins s1 σ H1 (fun vy H2 => ∃ F2 dy ρ2 m2, (∃ g, m2 = (f dx dy).bind g ∧ ∀ z, κ z ρ2 (g z)) ∧ Z m2 ∧ Rel W ρ2 σ H2 F2 ∧ Same F1 F2 ∧ Rp W.K F2 vy dy) I1
    ⟨F1, rel1, fun d ρ' m' v H' F' h1 h2 h3 h4 h5 => ⟨F', d, ρ', m', h1, h2, h3, h4, h5⟩⟩) fun u s2 ⟨vy, H2, I2, r2, F2, dy, ρ2, m2, ⟨g, e2, hg⟩, z2, rel2, s2', p2⟩ => ?_
  subst e2
  obtain ⟨w, ew, zw⟩ := c.bind z2
  refine ho X _ x.room pins s2 σ H2 vx vy v u Q I2 r1 r2 ⟨F2, dx, dy, w, rel2.sub, ?_, ?_, ew, fun v' H' F' fx p' => ?_⟩
  · rw [x.K, ← hK]; exact p1.mono s2'
  · rw [x.K, ← hK]; exact p2
  · exact q _ ρ2 _ v' H' F' (hg w) zw (rel2.step fx) ((s1'.trans s2').trans fx.ff) (by rw [hK, ← x.K]; exact p')

/-- a pair of parts in a test or a value, by the operator's reading -/
theorem cmp_run {X : Cx} {W : Wd} {Z : R α → Prop} (x : XOk C X) (hK : W.K = C.K) (c : Cl Z) (z : Z m) {op : CmpOp} {f : D → D → R Bool} {a b : Expr} (ho : CmpS op f) {κ : Bool → Env → R α → Prop}
    (h : DE C ρ a m fun x ρ1 m1 => DE C ρ1 b m1 fun y ρ2 m2 => ∃ g, m2 = (f x y).bind g ∧ ∀ t, κ t ρ2 (g t)) :
    PC X op a b fun σ H Q => ∃ F, Rel W ρ σ H F ∧ ∀ t ρ' m' H' F', κ t ρ' m' → Z m' → Rel W ρ' σ H' F' → Same F F' → Q (.bl t) H' := by
  refine ⟨fun pins s σ H Q I hq => ?_⟩
  obtain ⟨F, r, q⟩ := hq
  refine thn ((h X W Z x hK c z).run pins s σ H (fun vx H1 => ∃ F1 dx ρ1 m1, DE C ρ1 b m1 (fun y ρ2 m2 => ∃ g, m2 = (f dx y).bind g ∧ ∀ t, κ t ρ2 (g t)) ∧ Z m1 ∧ Rel W ρ1 σ H1 F1 ∧ Same F F1 ∧ Rp W.K F1 vx dx) I
    ⟨F, r, fun d ρ' m' v H' F' h1 h2 h3 h4 h5 => ⟨F', d, ρ', m', h1, h2, h3, h4, h5⟩⟩) fun v s1 ⟨vx, H1, I1, r1, F1, dx, ρ1, m1, h1, z1, rel1, s1', p1⟩ => ?_
  refine thn ((h1 X W Z x hK c z1).run pins s1 σ H1 (fun vy H2 => ∃ F2 dy ρ2 m2, (∃ g, m2 = (f dx dy).bind g ∧ ∀ t, κ t ρ2 (g t)) ∧ Z m2 ∧ Rel W ρ2 σ H2 F2 ∧ Same F1 F2 ∧ Rp W.K F2 vy dy) I1
    ⟨F1, rel1, fun d ρ' m' v H' F' h1 h2 h3 h4 h5 => ⟨F', d, ρ', m', h1, h2, h3, h4, h5⟩⟩) fun u s2 ⟨vy, H2, I2, r2, F2, dy, ρ2, m2, ⟨g, e2, hg⟩, z2, rel2, s2', p2⟩ => ?_
  subst e2
  obtain ⟨w, ew, zw⟩ := c.bind z2
  exact ho X _ x.room pins s2 σ H2 vx vy v u Q I2 r1 r2 ⟨F2, dx, dy, w, rel2.sub, by rw [x.K, ← hK]; exact p1.mono s2', by rw [x.K, ← hK]; exact p2, ew, q _ ρ2 _ H2 F2 (hg w) zw rel2 (s1'.trans s2')⟩
theorem de_cmp {κ : D → Env → R α → Prop} {op : CmpOp} {f : D → D → R Bool} {a b : Expr} {pos : Pos} (ho : CmpS op f)
    (h : DE C ρ a m fun x ρ1 m1 => DE C ρ1 b m1 fun y ρ2 m2 => ∃ g, m2 = (f x y).bind g ∧ ∀ t, κ (.bool t) ρ2 (g t)) (hm : behindInMarks op b = false := by first | exact nobehind _ (by decide) (by decide) | rfl) : DE C ρ (.Compare a [op] [b] pos) m κ := by
  intro X W Z x hK c z
  refine PE_imp (pe_cmp (cmp_run (κ := fun t => κ (.bool t)) x hK c z ho h) hm) fun σ H Q ⟨F, r, q⟩ => ⟨F, r, fun t ρ' m' H' F' h1 h2 h3 h4 => q _ ρ' m' _ H' F' h1 h2 h3 h4 (.bl t)⟩
theorem dt_cmp {κ : Bool → Env → R α → Prop} {op : CmpOp} {f : D → D → R Bool} {a b : Expr} {pos : Pos} (ho : CmpS op f)
    (h : DE C ρ a m fun x ρ1 m1 => DE C ρ1 b m1 fun y ρ2 m2 => ∃ g, m2 = (f x y).bind g ∧ ∀ t, κ t ρ2 (g t)) (hm : behindInMarks op b = false := by first | exact nobehind _ (by decide) (by decide) | rfl) : DT C ρ (.Compare a [op] [b] pos) m κ := by
  intro X W Z x hK c z
  refine PT_imp (pt_cmp (cmp_run x hK c z ho h) hm) fun σ H Q ⟨F, r, q⟩ => ⟨F, r, fun t ρ' m' H' F' h1 h2 h3 h4 => ⟨t, rfl, q t ρ' m' H' F' h1 h2 h3 h4⟩⟩
/-- is None, is not None -/
theorem dt_isN {κ : Bool → Env → R α → Prop} {a : Expr} {j : Nat} {p pos : Pos} (h : DE C ρ a m fun x ρ1 m1 => κ (isNone x) ρ1 m1) : DT C ρ (.Compare a [.Is] [.Constant .none j p] pos) m κ := by
  intro X W Z x hK c z
  refine PT_imp (pt_cmp (pc_isN (h X W Z x hK c z))) fun σ H Q ⟨F, r, q⟩ => ⟨F, r, fun d ρ' m' v H' F' h1 h2 h3 h4 h5 => ⟨_, rfl, ?_⟩⟩
  have e : decide (v = V.non) = isNone d := by cases h5 <;> rfl
  rw [e]; exact q _ ρ' m' H' F' h1 h2 h3 h4
theorem dt_notN {κ : Bool → Env → R α → Prop} {a : Expr} {j : Nat} {p pos : Pos} (h : DE C ρ a m fun x ρ1 m1 => κ (!isNone x) ρ1 m1) : DT C ρ (.Compare a [.IsNot] [.Constant .none j p] pos) m κ := by
  intro X W Z x hK c z
  refine PT_imp (pt_cmp (pc_notN (h X W Z x hK c z))) fun σ H Q ⟨F, r, q⟩ => ⟨F, r, fun d ρ' m' v H' F' h1 h2 h3 h4 h5 => ⟨_, rfl, ?_⟩⟩
  have e : decide (v = V.non) = isNone d := by cases h5 <;> rfl
  rw [e]; exact q _ ρ' m' H' F' h1 h2 h3 h4
theorem de_isN {κ : D → Env → R α → Prop} {a : Expr} {j : Nat} {p pos : Pos} (h : DE C ρ a m fun x ρ1 m1 => κ (.bool (isNone x)) ρ1 m1) : DE C ρ (.Compare a [.Is] [.Constant .none j p] pos) m κ := by
  intro X W Z x hK c z
  refine PE_imp (pe_cmp (pc_isN (h X W Z x hK c z))) fun σ H Q ⟨F, r, q⟩ => ⟨F, r, fun d ρ' m' v H' F' h1 h2 h3 h4 h5 => ?_⟩
  have e : decide (v = V.non) = isNone d := by cases h5 <;> rfl
  show Q (V.bl (decide (v = V.non))) H'
  rw [e]; exact q _ ρ' m' _ H' F' h1 h2 h3 h4 (.bl _)
theorem de_notN {κ : D → Env → R α → Prop} {a : Expr} {j : Nat} {p pos : Pos} (h : DE C ρ a m fun x ρ1 m1 => κ (.bool (!isNone x)) ρ1 m1) : DE C ρ (.Compare a [.IsNot] [.Constant .none j p] pos) m κ := by
  intro X W Z x hK c z
  refine PE_imp (pe_cmp (pc_notN (h X W Z x hK c z))) fun σ H Q ⟨F, r, q⟩ => ⟨F, r, fun d ρ' m' v H' F' h1 h2 h3 h4 h5 => ?_⟩
  have e : decide (v = V.non) = isNone d := by cases h5 <;> rfl
  show Q (V.bl (!decide (v = V.non))) H'
  rw [e]; exact q _ ρ' m' _ H' F' h1 h2 h3 h4 (.bl _)
theorem de_un {κ : D → Env → R α → Prop} {op : UnaryOp} {f : D → R D} {a : Expr} {pos : Pos} (ho : UnS op f)
    (h : DE C ρ a m fun x ρ1 m1 => ∃ g, m1 = (f x).bind g ∧ ∀ z, κ z ρ1 (g z)) : DE C ρ (.UnaryOp op a pos) m κ := by
  intro X W Z x hK c z
  refine PE_imp (pe_un (ho X _ x.room) (h X W Z x hK c z)) fun σ H Q ⟨F, r, q⟩ => ⟨F, r, fun d ρ' m' v H' F' ⟨g, e, hg⟩ h2 h3 h4 h5 => ?_⟩
  subst e
  obtain ⟨w, ew, zw⟩ := c.bind h2
  refine ⟨F', d, w, h3.sub, by rw [x.K, ← hK]; exact h5, ew, fun v' H2 F2 fx p' => ?_⟩
  exact q _ ρ' _ v' H2 F2 (hg w) zw (h3.step fx) (h4.trans fx.ff) (by rw [hK, ← x.K]; exact p')

/-! ### tests -/
/-- a value's truth, of a bool -/
theorem dt_bool {κ : Bool → Env → R α → Prop} {e : Expr} (h : DE C ρ e m fun d ρ1 m1 => ∃ t, d = .bool t ∧ κ t ρ1 m1)
    (he : ∀ (env : PySem.Env) (whole : Sem Value), isTrue e env whole = (do let v ← whole; standAt e.pos; holding [v] (truthy v)) := by intro _ _; rfl) : DT C ρ e m κ := by
  intro X W Z x hK c z
  refine PT_imp (pt_val (h X W Z x hK c z) (he _)) fun σ H Q ⟨F, r, q⟩ => ⟨F, r, fun d ρ' m' v H' F' ⟨t, e1, h1⟩ h2 h3 h4 h5 => ?_⟩
  subst e1
  cases h5
  exact ⟨t, rfl, q t ρ' m' H' F' h1 h2 h3 h4⟩
/-- any value's truth -/
theorem dt_truth {κ : Bool → Env → R α → Prop} {e : Expr} (h : DE C ρ e m fun d ρ1 m1 => ∃ g, m1 = (truth d).bind g ∧ ∀ t, κ t ρ1 (g t))
    (he : ∀ (env : PySem.Env) (whole : Sem Value), isTrue e env whole = (do let v ← whole; standAt e.pos; holding [v] (truthy v)) := by intro _ _; rfl) : DT C ρ e m κ := by
  intro X W Z x hK c z
  refine PT_imp (pt_truth (h X W Z x hK c z) (he _)) fun σ H Q ⟨F, r, q⟩ => ⟨F, r, fun d ρ' m' v H' F' ⟨g, e1, h1⟩ h2 h3 h4 h5 => ?_⟩
  subst e1
  obtain ⟨t, et, zt⟩ := c.bind h2
  refine ⟨t, ?_, q t ρ' _ H' F' (h1 t) zt h3 h4⟩
  have sub := h3.sub
  cases h5 with
  | non => cases et; rfl
  | bl b => cases et; rfl
  | int i => cases et; rfl
  | str y =>
    simp only [truth] at et
    split at et
    · rename_i hz
      cases et
      exact ⟨by rw [sizeLine_eq]; simpa [szOk] using hz, by cases hh : y.length <;> simp <;> omega⟩
    · cases et
  | lst a b =>
    have e0 := b.isEmpty
    cases et
    exact .inl ⟨_, .inl (.inl (sub _ _ a)), by rw [e0]⟩
  | tup a b =>
    have e0 := b.isEmpty
    cases et
    exact .inr (.inl ⟨_, by rw [x.K, ← hK]; exact seqT sub a, by rw [e0]⟩)
  | dct _ _ _ _ => cases et
theorem dt_not {κ : Bool → Env → R α → Prop} {e : Expr} {pos : Pos} (h : DT C ρ e m fun t ρ1 m1 => κ (!t) ρ1 m1) : DT C ρ (.UnaryOp .Not e pos) m κ := by
  intro X W Z x hK c z
  refine PT_imp (pt_not (h X W Z x hK c z)) fun σ H Q ⟨F, r, q⟩ => ⟨F, r, fun t ρ' m' H' F' h1 h2 h3 h4 => q _ ρ' m' H' F' h1 h2 h3 h4⟩
theorem dt_w {κ : Bool → Env → R α → Prop} {e : Expr} (h : DW C ρ e m κ) : DT C ρ e m κ := fun X W Z x hK c z => (h X W Z x hK c z).pt
theorem dw_and1 {κ : Bool → Env → R α → Prop} {e : Expr} {pos : Pos} (h : DT C ρ e m κ) : DW C ρ (.BoolOp .And [e] pos) m κ := fun X W Z x hK c z => pw_and1 (h X W Z x hK c z)
theorem dw_or1 {κ : Bool → Env → R α → Prop} {e : Expr} {pos : Pos} (h : DT C ρ e m κ) : DW C ρ (.BoolOp .Or [e] pos) m κ := fun X W Z x hK c z => pw_or1 (h X W Z x hK c z)
/-- readings chosen by what came -/
theorem PW_all {ι : Type 1} {X : Cx} {e : Expr} {P : ι → Prop} {t : ι → TT} (h : ∀ i, P i → PW X e (t i)) : PW X e fun σ H Q => ∃ i, P i ∧ t i σ H Q := ⟨fun wh p s σ H Q I ⟨i, pi, q⟩ => (h i pi).run wh p s σ H Q I q⟩
theorem dw_and {κ : Bool → Env → R α → Prop} {a b : Expr} {rest : List Expr} {pos : Pos}
    (h : DT C ρ a m fun t ρ1 m1 => ∃ A B, m1 = (if t = true then A else B) ∧ DW C ρ1 (.BoolOp .And (b :: rest) pos) A κ ∧ κ false ρ1 B) : DW C ρ (.BoolOp .And (a :: b :: rest) pos) m κ := by
  intro X W Z x hK c z
  have hb : PW X (.BoolOp .And (b :: rest) pos) fun σ H Q => ∃ i : R α × Env, (DW C i.2 (.BoolOp .And (b :: rest) pos) i.1 κ ∧ Z i.1) ∧ ∃ F, Rel W i.2 σ H F ∧ ∀ b ρ' m' H' F', κ b ρ' m' → Z m' → Rel W ρ' σ H' F' → Same F F' → Q b H' :=
    ⟨fun wh p s σ H Q I ⟨i, pi, q⟩ => (pi.1 X W Z x hK c pi.2).run wh p s σ H Q I q⟩
  refine PW_imp (pw_and (h X W Z x hK c z) hb) fun σ H Q ⟨F, r, q⟩ => ⟨F, r, fun t ρ' m' H' F' ⟨A, B, e, hA, hB⟩ h2 h3 h4 => ?_⟩
  subst e
  cases t with
  | true => exact ⟨(A, ρ'), ⟨hA, h2⟩, F', h3, fun b ρ2 m2 H2 F2 k1 k2 k3 k4 => q b ρ2 m2 H2 F2 k1 k2 k3 (h4.trans k4)⟩
  | false => exact q _ ρ' _ H' F' hB h2 h3 h4
theorem dw_or {κ : Bool → Env → R α → Prop} {a b : Expr} {rest : List Expr} {pos : Pos}
    (h : DT C ρ a m fun t ρ1 m1 => ∃ A B, m1 = (if t = true then A else B) ∧ κ true ρ1 A ∧ DW C ρ1 (.BoolOp .Or (b :: rest) pos) B κ) : DW C ρ (.BoolOp .Or (a :: b :: rest) pos) m κ := by
  intro X W Z x hK c z
  have hb : PW X (.BoolOp .Or (b :: rest) pos) fun σ H Q => ∃ i : R α × Env, (DW C i.2 (.BoolOp .Or (b :: rest) pos) i.1 κ ∧ Z i.1) ∧ ∃ F, Rel W i.2 σ H F ∧ ∀ b ρ' m' H' F', κ b ρ' m' → Z m' → Rel W ρ' σ H' F' → Same F F' → Q b H' :=
    ⟨fun wh p s σ H Q I ⟨i, pi, q⟩ => (pi.1 X W Z x hK c pi.2).run wh p s σ H Q I q⟩
  refine PW_imp (pw_or (h X W Z x hK c z) hb) fun σ H Q ⟨F, r, q⟩ => ⟨F, r, fun t ρ' m' H' F' ⟨A, B, e, hA, hB⟩ h2 h3 h4 => ?_⟩
  subst e
  cases t with
  | true => exact q _ ρ' _ H' F' hA h2 h3 h4
  | false => exact ⟨(B, ρ'), ⟨hB, h2⟩, F', h3, fun b ρ2 m2 H2 F2 k1 k2 k3 k4 => q b ρ2 m2 H2 F2 k1 k2 k3 (h4.trans k4)⟩

/-! ### joins: a part reckoned by itself -/
theorem Cl.at {β : Type} {Z : R α → Prop} (c : Cl Z) (g : β → R α) : Cl fun r : R β => ∃ p, r = .ok p ∧ Z (g p) := ⟨(fun ⟨_, e, _⟩ => nomatch e), (fun _ _ ⟨_, e, _⟩ => nomatch e)⟩
theorem de_join {τ : Type} {κ : D → Env → R α → Prop} {e : Expr} (pack : τ → Env) {r : R (D × τ)} {g : D × τ → R α}
    (h : DE C ρ e r fun d ρ' m' => ∃ st, ρ' = pack st ∧ m' = .ok (d, st)) (k : ∀ d st, κ d (pack st) (g (d, st))) : DE C ρ e (r.bind g) κ := by
  intro X W Z x hK c z
  obtain ⟨p, e1, z1⟩ := c.bind z
  refine PE_imp (h X W _ x hK (c.at g) ⟨p, e1, z1⟩) fun σ H Q ⟨F, rl, q⟩ => ⟨F, rl, fun d ρ' m' v H' F' ⟨st, e2, e3⟩ ⟨p', e4, z2⟩ h3 h4 h5 => ?_⟩
  subst e2 e3; cases e4
  exact q _ _ _ v H' F' (k _ _) z2 h3 h4 h5
/-- .. that changes nothing -/
theorem de_dir {κ : D → Env → R α → Prop} {e : Expr} {r : R D} {g : D → R α} (h : DE C ρ e r fun d ρ' m' => ρ' = ρ ∧ m' = .ok d) (k : ∀ d, κ d ρ (g d)) : DE C ρ e (r.bind g) κ := by
  intro X W Z x hK c z
  obtain ⟨p, e1, z1⟩ := c.bind z
  refine PE_imp (h X W _ x hK (c.at g) ⟨p, e1, z1⟩) fun σ H Q ⟨F, rl, q⟩ => ⟨F, rl, fun d ρ' m' v H' F' ⟨e2, e3⟩ ⟨p', e4, z2⟩ h3 h4 h5 => ?_⟩
  subst e2 e3; cases e4
  exact q _ _ _ v H' F' (k _) z2 h3 h4 h5
theorem dt_join {τ : Type} {κ : Bool → Env → R α → Prop} {e : Expr} (pack : τ → Env) {r : R (Bool × τ)} {g : Bool × τ → R α}
    (h : DT C ρ e r fun d ρ' m' => ∃ st, ρ' = pack st ∧ m' = .ok (d, st)) (k : ∀ d st, κ d (pack st) (g (d, st))) : DT C ρ e (r.bind g) κ := by
  intro X W Z x hK c z
  obtain ⟨p, e1, z1⟩ := c.bind z
  refine PT_imp (h X W _ x hK (c.at g) ⟨p, e1, z1⟩) fun σ H Q ⟨F, rl, q⟩ => ⟨F, rl, fun d ρ' m' H' F' ⟨st, e2, e3⟩ ⟨p', e4, z2⟩ h3 h4 => ?_⟩
  subst e2 e3; cases e4
  exact q _ _ _ H' F' (k _ _) z2 h3 h4
theorem dt_dir {κ : Bool → Env → R α → Prop} {e : Expr} {r : R Bool} {g : Bool → R α} (h : DT C ρ e r fun d ρ' m' => ρ' = ρ ∧ m' = .ok d) (k : ∀ d, κ d ρ (g d)) : DT C ρ e (r.bind g) κ := by
  intro X W Z x hK c z
  obtain ⟨p, e1, z1⟩ := c.bind z
  refine PT_imp (h X W _ x hK (c.at g) ⟨p, e1, z1⟩) fun σ H Q ⟨F, rl, q⟩ => ⟨F, rl, fun d ρ' m' H' F' ⟨e2, e3⟩ ⟨p', e4, z2⟩ h3 h4 => ?_⟩
  subst e2 e3; cases e4
  exact q _ _ _ H' F' (k _) z2 h3 h4
/-- a if t else b -/
theorem de_ifx {κ : D → Env → R α → Prop} {t a b : Expr} {pos : Pos} (h : DT C ρ t m fun t ρ1 m1 => ∃ A B, m1 = (if t = true then A else B) ∧ DE C ρ1 a A κ ∧ DE C ρ1 b B κ) : DE C ρ (.IfExp t a b pos) m κ := by
  intro X W Z x hK c z
  have each : ∀ e : Expr, PE X e fun σ H Q => ∃ i : R α × Env, (DE C i.2 e i.1 κ ∧ Z i.1) ∧ ∃ F, Rel W i.2 σ H F ∧ ∀ d ρ' m' v H' F', κ d ρ' m' → Z m' → Rel W ρ' σ H' F' → Same F F' → Rp W.K F' v d → Q v H' := fun e =>
    ⟨fun p s σ H Q I ⟨i, pi, q⟩ => (pi.1 X W Z x hK c pi.2).run p s σ H Q I q⟩
  refine PE_imp (pe_ifExp (h X W Z x hK c z) (each a) (each b)) fun σ H Q ⟨F, r, q⟩ => ⟨F, r, fun t ρ' m' H' F' ⟨A, B, e, hA, hB⟩ h2 h3 h4 => ?_⟩
  subst e
  cases t with
  | true => exact ⟨(A, ρ'), ⟨hA, h2⟩, F', h3, fun d ρ2 m2 v H2 F2 k1 k2 k3 k4 k5 => q d ρ2 m2 v H2 F2 k1 k2 k3 (h4.trans k4) k5⟩
  | false => exact ⟨(B, ρ'), ⟨hB, h2⟩, F', h3, fun d ρ2 m2 v H2 F2 k1 k2 k3 k4 k5 => q d ρ2 m2 v H2 F2 k1 k2 k3 (h4.trans k4) k5⟩

/-! ### arguments, displays -/
theorem da_nil {κ : List D → Env → R α → Prop} (k : κ [] ρ m) : DA C ρ [] m κ := fun X W Z x hK c z =>
  PA_imp pa_nil fun σ H Q ⟨F, r, q⟩ => q _ ρ m _ H F k z r (Same.refl _) .nil
theorem da_cons {κ : List D → Env → R α → Prop} {e : Expr} {es : List Expr} (h : DE C ρ e m fun d ρ1 m1 => DA C ρ1 es m1 fun ds ρ2 m2 => κ (d :: ds) ρ2 m2)
    (hs : ∀ env : PySem.Env, starEach (e :: es) env = (false, eval e env) :: starEach es env := by intro _; rfl) : DA C ρ (e :: es) m κ := by
  intro X W Z x hK c z
  have rest : PA X es fun σ H Q => ∃ i : R α × Env × D, (DA C i.2.1 es i.1 (fun ds ρ2 m2 => κ (i.2.2 :: ds) ρ2 m2) ∧ Z i.1) ∧ ∃ F, Rel W i.2.1 σ H F ∧ ∀ ds ρ' m' vs H' F', κ (i.2.2 :: ds) ρ' m' → Z m' → Rel W ρ' σ H' F' → Same F F' → RpAll W.K F' vs ds → Q vs H' :=
    ⟨fun po p s σ H Q I ⟨i, pi, q⟩ => (pi.1 X W Z x hK c pi.2).run po p s σ H Q I q⟩
  refine PA_imp (pa_cons (h X W Z x hK c z) rest (hs _)) fun σ H Q ⟨F, r, q⟩ => ⟨F, r, fun d ρ' m' v H' F' h1 h2 h3 h4 h5 => ?_⟩
  exact ⟨(m', ρ', d), ⟨h1, h2⟩, F', h3, fun ds ρ2 m2 vs H2 F2 k1 k2 k3 k4 k5 => q _ ρ2 m2 _ H2 F2 k1 k2 k3 (h4.trans k4) (.cons (h5.mono k4) k5)⟩
theorem de_tup {κ : D → Env → R α → Prop} {es : List Expr} {k : Nat} {pos : Pos} (h : DA C ρ es m fun ds ρ1 m1 => ds.length ≤ 16777216 ∧ κ (.tuple ds) ρ1 m1) : DE C ρ (.Tuple es k pos) m κ := by
  intro X W Z x hK c z
  refine PE_imp (pe_tup (h X W Z x hK c z)) fun σ H Q ⟨F, r, q⟩ => ⟨F, r, fun ds ρ' m' vs H' F' ⟨hz, h1⟩ h2 h3 h4 h5 => ⟨by rw [h5.length, sizeLine_eq]; exact hz, fun p hp => ?_⟩⟩
  have fx : Fx F' H' _ _ := Fx.alloc (u := .tup vs) h3.sub hp
  exact q _ ρ' m' _ _ _ h1 h2 (h3.step fx) (h4.trans fx.ff) (.tup (.inl (.inl upd_same)) (h5.mono fx.ff))
theorem de_lst {κ : D → Env → R α → Prop} {es : List Expr} {pos : Pos} (h : DA C ρ es m fun ds ρ1 m1 => ds.length ≤ 16777216 ∧ κ (.list ds) ρ1 m1) : DE C ρ (.List es pos) m κ := by
  intro X W Z x hK c z
  refine PE_imp (pe_lst (h X W Z x hK c z)) fun σ H Q ⟨F, r, q⟩ => ⟨F, r, fun ds ρ' m' vs H' F' ⟨hz, h1⟩ h2 h3 h4 h5 => ⟨by rw [h5.length, sizeLine_eq]; exact hz, fun p hp => ?_⟩⟩
  have fx : Fx F' H' _ _ := Fx.alloc (u := .lst vs) h3.sub hp
  exact q _ ρ' m' _ _ _ h1 h2 (h3.step fx) (h4.trans fx.ff) (.lst upd_same (h5.mono fx.ff))
end
end Z

set_option Elab.async false
set_option linter.all false
set_option maxRecDepth 100000
set_option autoImplicit false
/-! # Z4: targets, blocks, loops, a def by its mirror -/
namespace Z
open PySem L2

/-! ### less is known -/
def Le : Env → Env → Prop
  | [], [] => True
  | none :: r, _ :: r' => Le r r'
  | some a :: r, some b :: r' => a = b ∧ Le r r'
  | _, _ => False
theorem Le.refl : ∀ ρ : Env, Le ρ ρ
  | [] => trivial
  | none :: r => Le.refl r
  | some a :: r => ⟨rfl, Le.refl r⟩
theorem Le.len : ∀ {ρ ρ' : Env}, Le ρ ρ' → ρ.length = ρ'.length
  | [], [], _ => rfl
  | none :: r, _ :: r', h => by simp [Le.len (ρ := r) (ρ' := r') h]
  | some a :: r, some b :: r', h => by simp [Le.len (ρ := r) (ρ' := r') h.2]
  | [], _ :: _, h => h.elim
  | some a :: r, [], h => h.elim
  | none :: r, [], h => h.elim
  | some a :: r, none :: r', h => h.elim
theorem Le.get : ∀ {ρ ρ' : Env}, Le ρ ρ' → ∀ {i : Nat} {sl : Sl}, ρ[i]? = some (some sl) → ρ'[i]? = some (some sl)
  | [], [], _, i, sl, e => by simp at e
  | none :: r, _ :: r', h, 0, sl, e => by simp at e
  | none :: r, _ :: r', h, i + 1, sl, e => by
    have := Le.get (ρ := r) (ρ' := r') h (i := i) (sl := sl) (by simpa using e)
    simpa using this
  | some a :: r, some b :: r', h, 0, sl, e => by
    have h1 := h.1
    subst h1; simpa using e
  | some a :: r, some b :: r', h, i + 1, sl, e => by
    have := Le.get (ρ := r) (ρ' := r') h.2 (i := i) (sl := sl) (by simpa using e)
    simpa using this
  | [], _ :: _, h, _, _, _ => h.elim
  | some a :: r, [], h, _, _, _ => h.elim
  | none :: r, [], h, _, _, _ => h.elim
  | some a :: r, none :: r', h, _, _, _ => h.elim
theorem Rel.le {W : Wd} {ρ ρ' : Env} {σ : L2.St} {H F : Hp} (r : Rel W ρ' σ H F) (h : Le ρ ρ') : Rel W ρ σ H F := by
  refine ⟨r.sub, r.sub0, r.keep, r.fresh, ?_, by rw [h.len]; exact r.len, r.trk⟩
  obtain ⟨ad, k⟩ := r.env
  refine ⟨ad, fun i sl e => ?_⟩
  obtain ⟨v, h1, h2, h3, h4⟩ := k i sl (h.get e)
  exact ⟨v, h1, h2, h3, fun j sl' ne e' => h4 j sl' ne (h.get e')⟩

section
variable {α : Type} {C : Ct} {ρ : Env} {m : R α}

/-! ### targets -/
theorem set_wipe {σ : L2.St} {i : Nat} {x : Option V} : ∀ {vs : List Nat}, i ∈ vs → wipe (σ.set i x) vs = wipe σ vs
  | v :: vs, h => by
    unfold wipe
    by_cases hv : i ∈ vs
    · rw [set_wipe hv]
    · have e : v = i := by
        rcases List.mem_cons.mp h with q | q
        · exact q.symm
        · exact absurd q hv
      subst e
      refine List.ext_getElem? fun j => ?_
      have key : ∀ (us : List Nat) (τ : L2.St) (k : Nat), (wipe τ us)[k]? = if k ∈ us then (τ[k]?.map fun _ => none) else τ[k]? := by
        intro us τ k
        induction us with
        | nil => simp [wipe]
        | cons u us ih =>
          unfold wipe
          rw [List.getElem?_set, ih]
          by_cases e : u = k
          · subst e
            have hl : (wipe τ us).length = τ.length := wipe_length τ us
            by_cases hk : u < τ.length
            · simp [hl, hk]
            · simp [hl, hk]
          · have e' : ¬ k = u := fun q => e q.symm
            simp [e, e']
      rw [List.getElem?_set, List.getElem?_set, key, key]
      by_cases e : v = j
      · subst e
        simp [wipe_length]
      · simp only [if_neg e, List.getElem?_set_ne e]
/-- L tells the slots that the target may set -/
def DG {α : Type} (C : Ct) (L : Nat → Prop) (ρ : Env) (tg : Expr) (d : D) (m : R α) (κ : Env → R α → Prop) : Prop :=
  ∀ (X : Cx) (W : Wd) (Z : R α → Prop), XOk C X → W.K = C.K → Cl Z → Z m →
    PG X tg fun v σ H Q => ∃ F, Rel W ρ σ H F ∧ Rp W.K F v d ∧ ∀ ρ' m' σ' H' F', κ ρ' m' → Z m' → Rel W ρ' σ' H' F' → Same F F' → (∀ vs, (∀ i, L i → i ∈ vs) → wipe σ' vs = wipe σ vs) → Q σ' H'
def DGs {α : Type} (C : Ct) (L : Nat → Prop) (ρ : Env) (tgs : List Expr) (ds : List D) (m : R α) (κ : Env → R α → Prop) : Prop :=
  ∀ (X : Cx) (W : Wd) (Z : R α → Prop), XOk C X → W.K = C.K → Cl Z → Z m →
    PGs X tgs fun vs σ H Q => ∃ F, Rel W ρ σ H F ∧ RpAll W.K F vs ds ∧ ∀ ρ' m' σ' H' F', κ ρ' m' → Z m' → Rel W ρ' σ' H' F' → Same F F' → (∀ vs, (∀ i, L i → i ∈ vs) → wipe σ' vs = wipe σ vs) → Q σ' H'
theorem PG_imp {X : Cx} {e : Expr} {t t' : TG} (h : PG X e t) (i : ∀ v σ H Q, t' v σ H Q → t v σ H Q) : PG X e t' := ⟨fun p s σ H v u Q I r q => h.run p s σ H v u Q I r (i v σ H Q q)⟩
theorem PGs_imp {X : Cx} {e : List Expr} {t t' : TGs} (h : PGs X e t) (i : ∀ v σ H Q, t' v σ H Q → t v σ H Q) : PGs X e t' := ⟨fun p s σ H v u Q I r q => h.run p s σ H v u Q I r (i v σ H Q q)⟩
theorem dg_name {L : Nat → Prop} {κ : Env → R α → Prop} {n : Str} {pos : Pos} {d : D} (i : Nat) (k : κ (ρ.set i (some (.val d))) m) (hN : C.N[i]? = some n := by rfl)
    (hx : Loc C.sc n := by first | exact Or.inl rfl | exact Or.inr rfl) (hfn : C.fn n = true ∨ C.sc.names.lookup n = some .local := by first | exact Or.inl rfl | exact Or.inr rfl) (hL : L i := by first | trivial | simp) : DG C L ρ (.Name n pos) d m κ := by
  intro X W Z x hK c z
  have hf : X.fn n = true ∨ X.env.scope.names.lookup n = some .local := hfn.elim (fun h => .inl (x.fnl n h)) fun h => .inr (by rw [x.sc]; exact h)
  refine PG_imp (pg_name (i := i) (by rw [x.N]; exact x.nd) (by rw [x.N]; exact hN) (by rw [x.sc]; exact hx) hf) fun v σ H Q ⟨F, r, p, q⟩ => ?_
  exact q _ m _ H F k z (r.set i p) (Same.refl _) fun vs hv => set_wipe (hv i hL)
theorem dgs_nil {L : Nat → Prop} {κ : Env → R α → Prop} (k : κ ρ m) : DGs C L ρ [] [] m κ := fun X W Z x hK c z =>
  PGs_imp pgs_nil fun v σ H Q ⟨F, r, p, q⟩ => ⟨by cases p; rfl, q _ m _ H F k z r (Same.refl _) fun _ _ => rfl⟩
theorem dgs_cons {L : Nat → Prop} {κ : Env → R α → Prop} {e : Expr} {es : List Expr} {d : D} {ds : List D} (h : DG C L ρ e d m fun ρ1 m1 => DGs C L ρ1 es ds m1 κ)
    (hs : ∀ env : PySem.Env, (assignEach (e :: es) env).map (·.2) = assign e env :: (assignEach es env).map (·.2) := by intro _; rfl) : DGs C L ρ (e :: es) (d :: ds) m κ := by
  intro X W Z x hK c z
  have rest : PGs X es fun vs σ H Q => ∃ i : R α × Env, (DGs C L i.2 es ds i.1 κ ∧ Z i.1) ∧ ∃ F, Rel W i.2 σ H F ∧ RpAll W.K F vs ds ∧ ∀ ρ' m' σ' H' F', κ ρ' m' → Z m' → Rel W ρ' σ' H' F' → Same F F' → (∀ vs, (∀ i, L i → i ∈ vs) → wipe σ' vs = wipe σ vs) → Q σ' H' :=
    ⟨fun p s σ H v u Q I r ⟨i, pi, q⟩ => (pi.1 X W Z x hK c pi.2).run p s σ H v u Q I r q⟩
  refine PGs_imp (pgs_cons (h X W Z x hK c z) rest (hs _)) fun vs σ H Q ⟨F, r, p, q⟩ => ?_
  cases p with
  | cons p ps =>
    refine ⟨_, _, rfl, F, r, p, fun ρ1 m1 σ1 H1 F1 k1 k2 k3 k4 k5 => ?_⟩
    exact ⟨(m1, ρ1), ⟨k1, k2⟩, F1, k3, ps.mono k4, fun ρ' m' σ' H' F' h1 h2 h3 h4 h5 => q ρ' m' σ' H' F' h1 h2 h3 (k4.trans h4) fun vs hv => (h5 vs hv).trans (k5 vs hv)⟩
theorem dg_tup {L : Nat → Prop} {κ : Env → R α → Prop} {es : List Expr} {k n : Nat} {pos : Pos} {d : D} {g : List D → R α} (hm : m = (unpack n d).bind g) (h : ∀ ds, ds.length = n → DGs C L ρ es ds (g ds) κ)
    (hn : ∀ env : PySem.Env, (assignEach es env).length = n := by intro _; rfl) (hst : ∀ env : PySem.Env, (assignEach es env).findIdx? (·.1) = none := by intro _; rfl) : DG C L ρ (.Tuple es k pos) d m κ := by
  intro X W Z x hK c z
  subst hm
  obtain ⟨ds, e1, z1⟩ := c.bind z
  have hd : ds.length = n ∧ (d = .tuple ds ∨ d = .list ds) := by
    unfold unpack at e1
    split at e1
    · split at e1
      · cases e1; rename_i hl; exact ⟨hl, .inl rfl⟩
      · cases e1
    · split at e1
      · cases e1; rename_i hl; exact ⟨hl, .inr rfl⟩
      · cases e1
    · cases e1
  obtain ⟨hl, rfl | rfl⟩ := hd
  · refine PG_imp (pg_tup (n := n) x.calm (h ds hl X W Z x hK c z1) (hn _) (hst _)) fun v σ H Q ⟨F, r, p, q⟩ => ?_
    cases p with
    | tup a b => exact ⟨_, _, rfl, by rw [x.K, ← hK]; exact seqT r.sub a, by rw [b.length]; exact hl, F, r, b, q⟩
  · refine PG_imp (pg_unl (n := n) x.calm (h ds hl X W Z x hK c z1) (hn _) (hst _)) fun v σ H Q ⟨F, r, p, q⟩ => ?_
    cases p with
    | lst a b => exact ⟨_, _, rfl, SqL.of (r.sub _ _ a), by rw [b.length]; exact hl, F, r, b, q⟩
/-- two, three parts -/
def un2 (d : D) : R (D × D) := (unpack 2 d).bind fun
  | [a, b] => .ok (a, b)
  | _ => .stuck
def un3 (d : D) : R (D × D × D) := (unpack 3 d).bind fun
  | [a, b, c] => .ok (a, b, c)
  | _ => .stuck
theorem dg_tup2 {L : Nat → Prop} {κ : Env → R α → Prop} {e1 e2 : Expr} {k : Nat} {pos : Pos} {d : D} {g : D × D → R α} (hm : m = (un2 d).bind g) (h : ∀ a b, DGs C L ρ [e1, e2] [a, b] (g (a, b)) κ)
    (hn : ∀ env : PySem.Env, (assignEach [e1, e2] env).length = 2 := by intro _; rfl) (hst : ∀ env : PySem.Env, (assignEach [e1, e2] env).findIdx? (·.1) = none := by intro _; rfl) : DG C L ρ (.Tuple [e1, e2] k pos) d m κ := by
  unfold un2 at hm
  rw [R.bind_assoc] at hm
  refine dg_tup hm (fun ds hl => ?_) hn hst
  match ds, hl with
  | [a, b], _ => exact h a b
theorem dg_tup3 {L : Nat → Prop} {κ : Env → R α → Prop} {e1 e2 e3 : Expr} {k : Nat} {pos : Pos} {d : D} {g : D × D × D → R α} (hm : m = (un3 d).bind g) (h : ∀ a b c, DGs C L ρ [e1, e2, e3] [a, b, c] (g (a, b, c)) κ)
    (hn : ∀ env : PySem.Env, (assignEach [e1, e2, e3] env).length = 3 := by intro _; rfl) (hst : ∀ env : PySem.Env, (assignEach [e1, e2, e3] env).findIdx? (·.1) = none := by intro _; rfl) : DG C L ρ (.Tuple [e1, e2, e3] k pos) d m κ := by
  unfold un3 at hm
  rw [R.bind_assoc] at hm
  refine dg_tup hm (fun ds hl => ?_) hn hst
  match ds, hl with
  | [a, b, c], _ => exact h a b c

/-! ### blocks -/
def Jd.sq (C : Ct) (J : Jd α) (rest : List Stmt) : Jd α := { J with nx := fun ρ' m' => DSs C ρ' rest m' J }
theorem rest_run {J : Jd α} {rest : List Stmt} {X : Cx} {W : Wd} {Z : R α → Prop} (x : XOk C X) (hK : W.K = C.K) (c : Cl Z) :
    PSs X rest fun D σ H => ∃ i : R α × Env, (DSs C i.2 rest i.1 J ∧ Z i.1) ∧ ∃ F, Rel W i.2 σ H F ∧ Lk W J Z D :=
  ⟨fun p s σ H D I ⟨i, pi, q⟩ => (pi.1 X W Z x hK c pi.2).run p s σ H D I q⟩
theorem Lk.sq {J : Jd α} {rest : List Stmt} {W : Wd} {Z : R α → Prop} {D : Ends} (l : Lk W J Z D) :
    Lk W (J.sq C rest) Z { D with nx := fun σ H => ∃ i : R α × Env, (DSs C i.2 rest i.1 J ∧ Z i.1) ∧ ∃ F, Rel W i.2 σ H F ∧ Lk W J Z D } :=
  ⟨fun ρ m σ H F h1 h2 h3 => ⟨(m, ρ), ⟨h1, h2⟩, F, h3, l⟩, l.rt, l.bk, l.ct, l.rn⟩
theorem ds_nil {J : Jd α} (k : J.nx ρ m) : DSs C ρ [] m J := fun X W Z x hK c z => PSs_imp pss_nil fun D σ H ⟨F, r, l⟩ => l.nx ρ m σ H F k z r
theorem ds_le {ρ' : Env} {J : Jd α} {sts : List Stmt} (l : Le ρ ρ') (h : DSs C ρ sts m J) : DSs C ρ' sts m J := fun X W Z x hK c z => PSs_imp (h X W Z x hK c z) fun D σ H ⟨F, r, k⟩ => ⟨F, r.le l, k⟩
theorem ds_set {J : Jd α} {n : Str} {e : Expr} {p pos : Pos} {rest : List Stmt} (i : Nat) (h : DE C ρ e m fun d ρ1 m1 => DSs C (ρ1.set i (some (.val d))) rest m1 J) (hN : C.N[i]? = some n := by rfl)
    (hx : Loc C.sc n := by first | exact Or.inl rfl | exact Or.inr rfl) (hfn : C.fn n = true ∨ C.sc.names.lookup n = some .local := by first | exact Or.inl rfl | exact Or.inr rfl) (hs : ∀ env : PySem.Env, env.scope = C.sc → swapsWith e (some (.Name n p)) pos.line env = pure false := by intro env he; rfl) : DSs C ρ (.Assign [.Name n p] e pos :: rest) m J := by
  intro X W Z x hK c z
  have hf : X.fn n = true ∨ X.env.scope.names.lookup n = some .local := hfn.elim (fun h => .inl (x.fnl n h)) fun h => .inr (by rw [x.sc]; exact h)
  refine PSs_imp (pss_cons (ps_set (i := i) (by rw [x.N]; exact x.nd) (by rw [x.N]; exact hN) (by rw [x.sc]; exact hx) (h X W Z x hK c z) (hs _ x.sc) hf) (rest_run (J := J) x hK c)) fun D σ H ⟨F, r, l⟩ => ?_
  exact ⟨F, r, fun d ρ' m' v H' F' h1 h2 h3 h4 h5 => ⟨(m', _), ⟨h1, h2⟩, F', h3.set i h5, l⟩⟩
theorem ds_asg {J : Jd α} {tg e : Expr} {pos : Pos} {rest : List Stmt} (h : DE C ρ e m fun d ρ1 m1 => DG C (fun _ => True) ρ1 tg d m1 fun ρ2 m2 => DSs C ρ2 rest m2 J)
    (hs : ∀ env : PySem.Env, env.scope = C.sc → swapsWithSole [tg] e pos.line env = pure false := by intro env he; rfl) (hw : ∀ env : PySem.Env, env.scope = C.sc → swappedStores [tg] e env = pure none := by intro env he; first | rfl | (cases env; cases he; rfl))
    (h1 : ∀ env : PySem.Env, (assignEach [tg] env).map (·.2) = [assign tg env] := by intro _; rfl) : DSs C ρ (.Assign [tg] e pos :: rest) m J := by
  intro X W Z x hK c z
  have hg : PG X tg fun v σ H Q => ∃ i : R α × Env × D, (DG C (fun _ => True) i.2.1 tg i.2.2 i.1 (fun ρ2 m2 => DSs C ρ2 rest m2 J) ∧ Z i.1) ∧ ∃ F, Rel W i.2.1 σ H F ∧ Rp W.K F v i.2.2 ∧ ∀ ρ' m' σ' H' F', DSs C ρ' rest m' J → Z m' → Rel W ρ' σ' H' F' → Same F F' → (∀ vs, (∀ i, (fun _ : Nat => True) i → i ∈ vs) → wipe σ' vs = wipe σ vs) → Q σ' H' :=
    ⟨fun p s σ H v u Q I r ⟨i, pi, q⟩ => (pi.1 X W Z x hK c pi.2).run p s σ H v u Q I r q⟩
  refine PSs_imp (pss_cons (ps_asg (h X W Z x hK c z) hg (hs _ x.sc) (hw _ x.sc) (h1 _)) (rest_run (J := J) x hK c)) fun D σ H ⟨F, r, l⟩ => ?_
  exact ⟨F, r, fun d ρ' m' v H' F' h1 h2 h3 h4 h5 => ⟨(m', ρ', d), ⟨h1, h2⟩, F', h3, h5, fun ρ2 m2 σ2 H2 F2 k1 k2 k3 k4 _ => ⟨(m2, ρ2), ⟨k1, k2⟩, F2, k3, l⟩⟩⟩
/-- a, b = e1, e2, both plain locals: no tuple is made -/
theorem ds_par {J : Jd α} {n1 n2 : Str} {e1 e2 : Expr} {px py pt pt2 pos : Pos} {kt k2 : Nat} {rest : List Stmt} (i j : Nat)
    (h : DE C ρ e1 m fun d1 ρ1 m1 => DE C ρ1 e2 m1 fun d2 ρ2 m2 => DSs C ((ρ2.set i (some (.val d1))).set j (some (.val d2))) rest m2 J) (hN : C.N[i]? = some n1 := by rfl) (hN2 : C.N[j]? = some n2 := by rfl) (hij : i ≠ j := by decide)
    (hx : C.sc.names.lookup n1 = some .local := by rfl) (hy : C.sc.names.lookup n2 = some .local := by rfl)
    (hst : ∀ env : PySem.Env, starEach [e1, e2] env = (false, eval e1 env) :: starEach [e2] env := by intro _; rfl) (hst2 : ∀ env : PySem.Env, starEach [e2] env = (false, eval e2 env) :: starEach [] env := by intro _; rfl)
    (hw : ∀ env : PySem.Env, env.scope = C.sc → swappedStores [.Tuple [.Name n1 px, .Name n2 py] kt pt] (.Tuple [e1, e2] k2 pt2) env = pure (some [n1, n2])) : DSs C ρ (.Assign [.Tuple [.Name n1 px, .Name n2 py] kt pt] (.Tuple [e1, e2] k2 pt2) pos :: rest) m J := by
  intro X W Z x hK c z
  have ha : DA C ρ [e1, e2] m fun ds ρ2 m2 => ∃ d1 d2, ds = [d1, d2] ∧ DSs C ((ρ2.set i (some (.val d1))).set j (some (.val d2))) rest m2 J := by
    refine da_cons (fun X W Z x hK c z => PE_imp (h X W Z x hK c z) fun σ H Q ⟨F, r, q⟩ => ⟨F, r, fun d ρ' m' v H' F' k1 => q d ρ' m' v H' F' (da_cons (fun X W Z x hK c z => PE_imp (k1 X W Z x hK c z) fun σ H Q ⟨F, r, q⟩ => ⟨F, r, fun d' ρ2 m2 v H' F' k2 => q d' ρ2 m2 v H' F' (da_nil ⟨d, d', rfl, k2⟩)⟩) hst2)⟩) hst
  refine PSs_imp (pss_cons (ps_par (i := i) (j := j) x.calm (by rw [x.N]; exact x.nd) (by rw [x.N]; exact hN) (by rw [x.N]; exact hN2) hij (by rw [x.sc]; exact hx) (by rw [x.sc]; exact hy) (ha X W Z x hK c z) (hw _ x.sc)) (rest_run (J := J) x hK c)) fun D σ H ⟨F, r, l⟩ => ?_
  refine ⟨F, r, fun ds ρ' m' vs H' F' ⟨d1, d2, e, h1⟩ h2 h3 h4 h5 => ?_⟩
  subst e
  cases h5 with
  | cons p1 t => cases t with
    | cons p2 t => cases t; exact ⟨_, _, rfl, (m', _), ⟨h1, h2⟩, F', (h3.set i p1).set j p2, l⟩
theorem ds_ret {J : Jd α} {e : Expr} {pos : Pos} {rest : List Stmt} (h : DE C ρ e m fun d ρ1 m1 => J.rt d ρ1 m1) : DSs C ρ (.Return (some e) pos :: rest) m J := by
  intro X W Z x hK c z
  refine PSs_imp (pss_cons (ps_ret (h X W Z x hK c z)) pss_never) fun D σ H ⟨F, r, l⟩ => ?_
  exact ⟨F, r, fun d ρ' m' v H' F' h1 h2 h3 h4 h5 => l.rt d ρ' m' v σ H' F' h1 h2 h3 h5⟩
theorem ds_brk {J : Jd α} {pos : Pos} {rest : List Stmt} (k : J.bk ρ m) : DSs C ρ (.Break pos :: rest) m J := fun X W Z x hK c z =>
  PSs_imp (pss_cons ps_break pss_never) fun D σ H ⟨F, r, l⟩ => l.bk ρ m σ H F k z r
theorem ds_cnt {J : Jd α} {pos : Pos} {rest : List Stmt} (k : J.ct ρ m) : DSs C ρ (.Continue pos :: rest) m J := fun X W Z x hK c z =>
  PSs_imp (pss_cons ps_continue pss_never) fun D σ H ⟨F, r, l⟩ => l.ct ρ m σ H F k z r
theorem ds_if {J : Jd α} {t : Expr} {a b rest : List Stmt} {pos : Pos} (h : DT C ρ t m fun t ρ1 m1 => ∃ A B, m1 = (if t = true then A else B) ∧ DSs C ρ1 a A (J.sq C rest) ∧ DSs C ρ1 b B (J.sq C rest)) : DSs C ρ (.If t a b pos :: rest) m J := by
  intro X W Z x hK c z
  refine PSs_imp (pss_cons (ps_if (h X W Z x hK c z) (rest_run (J := J.sq C rest) x hK c) (rest_run (J := J.sq C rest) x hK c)) (rest_run (J := J) x hK c)) fun D σ H ⟨F, r, l⟩ => ?_
  refine ⟨F, r, fun t ρ' m' H' F' ⟨A, B, e, hA, hB⟩ h2 h3 h4 => ?_⟩
  subst e
  cases t with
  | true => exact ⟨(A, ρ'), ⟨hA, h2⟩, F', h3, l.sq⟩
  | false => exact ⟨(B, ρ'), ⟨hB, h2⟩, F', h3, l.sq⟩

/-- a part's ends as data: what the packed state is -/
def Jq {τ : Type} (pack : τ → Env) : Jd τ := { nx := fun ρ m => ∃ st, Le (pack st) ρ ∧ m = .ok st, rt := fun _ _ _ => False, bk := fun _ _ => False, ct := fun ρ m => ∃ st, Le (pack st) ρ ∧ m = .ok st }
def Jl {τ : Type} (pack : τ → Env) : Jd (Fl τ) := { nx := fun ρ m => ∃ st, Le (pack st) ρ ∧ m = .ok (.nx st), rt := fun d ρ m => ∃ st, Le (pack st) ρ ∧ m = .ok (.rt d st), bk := fun ρ m => ∃ st, Le (pack st) ρ ∧ m = .ok (.bk st), ct := fun ρ m => ∃ st, Le (pack st) ρ ∧ m = .ok (.nx st) }
def Jw {τ : Type} (pack : τ → Env) : Jd (Wl τ) := { nx := fun ρ m => ∃ st, Le (pack st) ρ ∧ m = .ok (.go st), rt := fun d ρ m => ∃ st, Le (pack st) ρ ∧ m = .ok (.rt d st), bk := fun ρ m => ∃ st, Le (pack st) ρ ∧ m = .ok (.done st), ct := fun ρ m => ∃ st, Le (pack st) ρ ∧ m = .ok (.go st) }
def Jn {τ : Type} (pack : τ → Env) : Jd τ := { nx := fun ρ m => ∃ st, Le (pack st) ρ ∧ m = .ok st, rt := fun _ _ _ => False, bk := fun _ _ => False, ct := fun _ _ => False }
/-- an if whose ways meet -/
theorem ds_ifq {J : Jd α} {τ : Type} {t : Expr} {a b rest : List Stmt} {pos : Pos} (pack : τ → Env) {r : R τ} {g : τ → R α} (hm : m = r.bind g)
    (h : DT C ρ t r fun t ρ1 m1 => ∃ A B, m1 = (if t = true then A else B) ∧ DSs C ρ1 a A (Jn pack) ∧ DSs C ρ1 b B (Jn pack)) (k : ∀ st, DSs C (pack st) rest (g st) J) : DSs C ρ (.If t a b pos :: rest) m J := by
  intro X W Z x hK c z
  subst hm
  obtain ⟨st0, e1, z1⟩ := c.bind z
  refine PSs_imp (pss_cons (ps_if (h X W _ x hK (c.at g) ⟨st0, e1, z1⟩) (rest_run (J := Jn pack) x hK (c.at g)) (rest_run (J := Jn pack) x hK (c.at g))) (rest_run (J := J) x hK c)) fun D σ H ⟨F, rl, l⟩ => ?_
  have lk : Lk W (Jn pack) (fun r : R τ => ∃ p, r = .ok p ∧ Z (g p)) { D with nx := fun σ H => ∃ i : R α × Env, (DSs C i.2 rest i.1 J ∧ Z i.1) ∧ ∃ F, Rel W i.2 σ H F ∧ Lk W J Z D } :=
    ⟨fun ρ m σ H F ⟨st, hl, e⟩ ⟨p, e2, zp⟩ h3 => by subst e; cases e2; exact ⟨(g st, pack st), ⟨k st, zp⟩, F, h3.le hl, l⟩, fun _ _ _ _ _ _ _ h => h.elim, fun _ _ _ _ _ h => h.elim,
     fun _ _ _ _ _ h => h.elim, fun _ _ _ _ _ _ _ h => h.elim⟩
  refine ⟨F, rl, fun t ρ' m' H' F' ⟨A, B, e, hA, hB⟩ h2 h3 h4 => ?_⟩
  subst e
  cases t with
  | true => exact ⟨(A, ρ'), ⟨hA, h2⟩, F', h3, lk⟩
  | false => exact ⟨(B, ρ'), ⟨hB, h2⟩, F', h3, lk⟩
end
end Z

set_option Elab.async false
set_option linter.all false
set_option maxRecDepth 100000
set_option autoImplicit false
/-! # Z5: what is walked, loops, comprehensions -/
namespace Z
open PySem L2

/-- the iterator J yields these data, whatever grows meanwhile -/
structure ItD (K : PySem.W.Frag) (J : It) (items : List D) (F0 : Hp) : Prop where
  goes : ∀ i F H, i < items.length → Same F0 F → Same F H → J.go i H
  stops : ∀ F H, Same F0 F → Same F H → J.stop items.length H
  yields : ∀ i F H x H', i < items.length → Same F0 F → Same F H → J.yld i H x H' → ∃ F' d, items[i]? = some d ∧ Fx F H F' H' ∧ Rp K F' x d
theorem ItD.mono {K : PySem.W.Frag} {J : It} {items : List D} {F0 F1 : Hp} (x : ItD K J items F0) (e : Same F0 F1) : ItD K J items F1 :=
  ⟨fun i F H h a b => x.goes i F H h (e.trans a) b, fun F H a b => x.stops F H (e.trans a) b, fun i F H y H' h a b c => x.yields i F H y H' h (e.trans a) b c⟩

theorem itd_list {K : PySem.W.Frag} {a : Addr} {xs : List V} {items : List D} {F : Hp} (h : SqL K F a xs) (r : RpAll K F xs items) : ItD K (Itl K a) items F where
  goes := fun i F1 H hi e1 e2 => walk_list.goes i H (by rw [r.length]; exact hi) (e2.seq (e1.seq h))
  stops := fun F1 H e1 e2 => by rw [← r.length]; exact walk_list.stops H (e2.seq (e1.seq h))
  yields := fun i F1 H x H' hi e1 e2 y => by
    obtain ⟨e, hx⟩ := walk_list.yields i H x H' (by rw [r.length]; exact hi) (e2.seq (e1.seq h)) y
    subst e
    obtain ⟨d, h1, h2⟩ := r.at' hx
    exact ⟨F1, d, h1, Fx.refl e2, h2.mono e1⟩
theorem itd_tup {K : PySem.W.Frag} {a : Addr} {xs : List V} {items : List D} {F : Hp} (h : SqT K F a xs) (r : RpAll K F xs items) : ItD K (Itt K a) items F where
  goes := fun i F1 H hi e1 e2 => walk_tup.goes i H (by rw [r.length]; exact hi) (seqT e2 (seqT e1 h))
  stops := fun F1 H e1 e2 => by rw [← r.length]; exact walk_tup.stops H (seqT e2 (seqT e1 h))
  yields := fun i F1 H x H' hi e1 e2 y => by
    obtain ⟨e, hx⟩ := walk_tup.yields i H x H' (by rw [r.length]; exact hi) (seqT e2 (seqT e1 h)) y
    subst e
    obtain ⟨d, h1, h2⟩ := r.at' hx
    exact ⟨F1, d, h1, Fx.refl e2, h2.mono e1⟩
theorem rangeD_at {lo hi : Int} {i : Nat} (h : i < (hi - lo).toNat) : (rangeD lo hi)[i]? = some (.int (lo + i)) := by
  unfold rangeD
  rw [List.getElem?_map, List.getElem?_range h]
  rfl
theorem rangeD_len {lo hi : Int} : (rangeD lo hi).length = (hi - lo).toNat := by simp [rangeD]
theorem itd_range {K : PySem.W.Frag} {lo hi : Int} {F : Hp} : ItD K (Itr lo (hi - lo).toNat) (rangeD lo hi) F where
  goes := fun i F1 H hh e1 e2 => by rw [rangeD_len] at hh; exact hh
  stops := fun F1 H e1 e2 => by rw [rangeD_len]; exact Nat.le_refl _
  yields := fun i F1 H x H' hh e1 e2 y => by
    obtain ⟨e, hx⟩ := y
    subst e hx
    rw [rangeD_len] at hh
    exact ⟨F1, _, rangeD_at hh, Fx.refl e2, .int _⟩
theorem itd_str {K : PySem.W.Frag} {z : Str} {F : Hp} : ItD K (Its z) (z.cps.toList.map fun c => .str ⟨#[c]⟩) F where
  goes := fun i F1 H hi e1 e2 => by
    show i < z.cps.size
    simpa using hi
  stops := fun F1 H e1 e2 => by show z.cps.size ≤ _; simp
  yields := fun i F1 H x H' hi e1 e2 y => by
    obtain ⟨e, c, hc, hx⟩ := y
    subst e hx
    refine ⟨F1, .str ⟨#[c]⟩, ?_, Fx.refl e2, .str _⟩
    rw [List.getElem?_map, Array.getElem?_toList, hc]
    rfl

section
variable {α : Type} {C : Ct} {ρ : Env} {m : R α} {tg : Expr}
def DI {α : Type} (C : Ct) (ρ : Env) (tg it : Expr) (m : R α) (κ : List D → Env → R α → Prop) : Prop :=
  ∀ (X : Cx) (W : Wd) (Z : R α → Prop), XOk C X → W.K = C.K → Cl Z → Z m →
    PI X tg it fun σ H Rr => ∃ F, Rel W ρ σ H F ∧ ∀ items ρ' m' J H' F', κ items ρ' m' → Z m' → Rel W ρ' σ H' F' → Same F F' → ItD W.K J items F' → Rr J H'
theorem PI_imp {X : Cx} {it : Expr} {t t' : TI} (h : PI X tg it t) (i : ∀ σ H Q, t' σ H Q → t σ H Q) : PI X tg it t' := ⟨fun p s σ H Q I q => h.run p s σ H Q I (i σ H Q q)⟩
/-- a list, a tuple, a text is walked -/
theorem di_val {κ : List D → Env → R α → Prop} {it : Expr} (h : DE C ρ it m fun d ρ1 m1 => ∃ g, m1 = (iter d).bind g ∧ ∀ items, κ items ρ1 (g items)) : DI C ρ tg it m κ := by
  intro X W Z x hK c z
  refine ⟨fun pins s σ H Rr I ⟨F, r, q⟩ => ?_⟩
  refine thn ((h X W Z x hK c z).run pins s σ H (fun v H1 => ∃ (J : It) (t : TI), PI X tg it t ∧ True ∧ ∃ F1 d ρ1 m1, (∃ g, m1 = (iter d).bind g ∧ ∀ items, κ items ρ1 (g items)) ∧ Z m1 ∧ Rel W ρ1 σ H1 F1 ∧ Same F F1 ∧ Rp W.K F1 v d) I
    ⟨F, r, fun d ρ' m' v H' F' h1 h2 h3 h4 h5 => ⟨⟨fun _ _ => True, fun _ _ _ _ => True, fun _ _ => True⟩, fun _ _ _ => False, ⟨fun _ _ _ _ _ _ q => q.elim⟩, trivial, F', d, ρ', m', h1, h2, h3, h4, h5⟩⟩) fun v s1 ⟨vx, H1, I1, r1, _, _, _, _, F1, d, ρ1, m1, ⟨g, e, hg⟩, z1, rel1, ss, p⟩ => ?_
  subst e
  obtain ⟨items, ei, zi⟩ := c.bind z1
  cases p with
  | lst a b =>
    cases ei
    cases r1
    rename_i ad xs _x0
    have aX : SqL X.K H1 ad xs := SqL.of (rel1.sub _ _ a)
    obtain ⟨its, rv, p, hz⟩ := I1.list aX
    refine wpAny_pyIter_list p.isList (pi_one (tk := s1.toks) I1 _ (turn_list _ _) ⟨_, Heap.get?_push_size _ rfl, rfl, rfl⟩ ?_)
    refine q _ ρ1 _ _ H1 F1 (hg _) zi rel1 ss ?_
    rw [x.K, ← hK]; exact itd_list (SqL.of a) b
  | tup a b =>
    cases ei
    cases r1
    rename_i ad xs _x0
    have aX : SqT X.K H1 ad xs := by rw [x.K, ← hK]; exact seqT rel1.sub a
    obtain ⟨its, rv, p, hz⟩ := I1.tuple aX
    refine wpAny_pyIter_tuple (show s1.heap.IsTuple ad its.toArray from p) (pi_one (tk := s1.toks) I1 _ (turn_tuple _ _) ⟨_, Heap.get?_push_size _ rfl, rfl, rfl⟩ ?_)
    refine q _ ρ1 _ _ H1 F1 (hg _) zi rel1 ss ?_
    rw [x.K, ← hK]; exact itd_tup a b
  | str y =>
    cases ei
    obtain ⟨t, rfl⟩ := r1
    have fin := q _ ρ1 _ (Its y) H1 F1 (hg _) zi rel1 ss itd_str
    cases ha : y.cps.all (· < 128)
    · exact wpAny_pyIter_wide ha (pi_one (tk := s1.toks) I1 _ (turn_str _ y t "str_iterator" (.inr rfl)) ⟨_, Heap.get?_push_size _ rfl, rfl, rfl⟩ fin)
    · exact wpAny_pyIter_ascii ha (pi_one (tk := s1.toks) I1 _ (turn_str _ y t "str_ascii_iterator" (.inl rfl)) ⟨_, Heap.get?_push_size _ rfl, rfl, rfl⟩ fin)
  | _ => cases ei
theorem range2_ok {a b : D} {items : List D} (h : range2 a b = .ok items) : ∃ lo hi : Int, a = .int lo ∧ b = .int hi ∧ -(2 ^ 62) ≤ lo ∧ lo < 2 ^ 62 ∧ -(2 ^ 62) ≤ hi ∧ hi < 2 ^ 62 ∧ items = rangeD lo hi := by
  unfold range2 at h
  split at h
  · split at h
    · rename_i lo hi hh
      simp only [Bool.and_eq_true, decide_eq_true_eq] at hh
      cases h
      exact ⟨lo, hi, rfl, rfl, hh.1.1.1, hh.1.1.2, hh.1.2, hh.2, rfl⟩
    · cases h
  · cases h
theorem di_range1 {κ : List D → Env → R α → Prop} {a : Expr} {p pos : Pos} (hm : C.mg ("range" : Str) = none) (h : DE C ρ a m fun d ρ1 m1 => ∃ g, m1 = (range1 d).bind g ∧ ∀ items, κ items ρ1 (g items))
    (hg : C.sc.names.lookup ("range" : Str) = some .globalImplicit := by rfl) (hs : ∀ env : PySem.Env, starEach [a] env = [(false, eval a env)] := by intro _; rfl) : DI C ρ tg (.Call (.Name "range" p) [a] [] pos) m κ := by
  intro X W Z x hK c z
  have ha : DA C ρ [a] m fun ds ρ1 m1 => ∃ d, ds = [d] ∧ ∃ g, m1 = (range1 d).bind g ∧ ∀ items, κ items ρ1 (g items) :=
    da_cons (fun X W Z x hK c z => PE_imp (h X W Z x hK c z) fun σ H Q ⟨F, r, q⟩ => ⟨F, r, fun d ρ' m' v H' F' k1 => q d ρ' m' v H' F' (da_nil ⟨d, rfl, k1⟩)⟩) hs
  refine PI_imp (pi_range1 (x.gl hg) (x.mg0 hm) (ha X W Z x hK c z) (hs _)) fun σ H Rr ⟨F, r, q⟩ => ⟨F, r, fun ds ρ' m' vs H' F' ⟨d, e1, g, e2, hgg⟩ h2 h3 h4 h5 => ?_⟩
  subst e1 e2
  obtain ⟨items, ei, zi⟩ := c.bind h2
  obtain ⟨lo, hi, e3, e4, b1, b2, b3, b4, e5⟩ := range2_ok ei
  cases e3; subst e4 e5
  cases h5 with
  | cons p1 t =>
    cases t; cases p1
    refine ⟨hi, rfl, b3, b4, ?_⟩
    have := q _ ρ' _ _ H' F' (hgg _) zi h3 h4 (itd_range (K := W.K) (lo := 0) (hi := hi) (F := F'))
    simpa using this
theorem di_range2 {κ : List D → Env → R α → Prop} {a b : Expr} {p pos : Pos} (hm : C.mg ("range" : Str) = none) (h : DE C ρ a m fun d ρ1 m1 => DE C ρ1 b m1 fun e ρ2 m2 => ∃ g, m2 = (range2 d e).bind g ∧ ∀ items, κ items ρ2 (g items))
    (hg : C.sc.names.lookup ("range" : Str) = some .globalImplicit := by rfl) (hs : ∀ env : PySem.Env, starEach [a, b] env = [(false, eval a env), (false, eval b env)] := by intro _; rfl) (hs2 : ∀ env : PySem.Env, starEach [b] env = [(false, eval b env)] := by intro _; rfl) : DI C ρ tg (.Call (.Name "range" p) [a, b] [] pos) m κ := by
  intro X W Z x hK c z
  have ha : DA C ρ [a, b] m fun ds ρ1 m1 => ∃ d e, ds = [d, e] ∧ ∃ g, m1 = (range2 d e).bind g ∧ ∀ items, κ items ρ1 (g items) :=
    da_cons (fun X W Z x hK c z => PE_imp (h X W Z x hK c z) fun σ H Q ⟨F, r, q⟩ => ⟨F, r, fun d ρ' m' v H' F' k1 => q d ρ' m' v H' F' (da_cons (fun X W Z x hK c z => PE_imp (k1 X W Z x hK c z) fun σ H Q ⟨F, r, q⟩ => ⟨F, r, fun e ρ' m' v H' F' k2 => q e ρ' m' v H' F' (da_nil ⟨d, e, rfl, k2⟩)⟩) (fun env => by rw [hs2]; rfl))⟩) (fun env => by rw [hs, hs2])
  refine PI_imp (pi_range2 (x.gl hg) (x.mg0 hm) (ha X W Z x hK c z) (hs _) (hs2 _)) fun σ H Rr ⟨F, r, q⟩ => ⟨F, r, fun ds ρ' m' vs H' F' ⟨d, e, e1, g, e2, hgg⟩ h2 h3 h4 h5 => ?_⟩
  subst e1 e2
  obtain ⟨items, ei, zi⟩ := c.bind h2
  obtain ⟨lo, hi, e3, e4, b1, b2, b3, b4, e5⟩ := range2_ok ei
  subst e3 e4 e5
  cases h5 with
  | cons p1 t =>
    cases t with
    | cons p2 t =>
      cases t; cases p1; cases p2
      exact ⟨lo, hi, rfl, ⟨b1, b2, b3, b4⟩, q _ ρ' _ _ H' F' (hgg _) zi h3 h4 itd_range⟩

/-! ### a later beginning -/
theorem Rel.up {W : Wd} {F1 H1 F H : Hp} {ρ ρ1 : Env} {σ σ1 : L2.St} (r : Rel { W with F0 := F1 } ρ σ H F) (r1 : Rel W ρ1 σ1 H1 F1) : Rel W ρ σ H F :=
  ⟨r.sub, r1.sub0.trans r.sub0, r.keep, fun b o h => (r.fresh b o h).elim (fun q => r1.fresh b o q) .inr, r.env, r.len, r.trk⟩
theorem Rel.down {W : Wd} {F1 H1 F H : Hp} {ρ ρ1 : Env} {σ σ1 : L2.St} (r : Rel W ρ σ H F) (e : Same F1 F) (r1 : Rel W ρ1 σ1 H1 F1) : Rel { W with F0 := F1 } ρ σ H F :=
  ⟨r.sub, e, r.keep, fun b o h => (r.fresh b o h).elim (fun q => .inl (r1.sub0 b o q)) .inr, r.env, r.len, r.trk⟩

/-! ### for -/
theorem forS_step {τ : Type} {items : List D} {i : Nat} {d : D} (h : items[i]? = some d) (st : τ) (f : D → τ → R τ) : forS (items.drop i) st f = (f d st).bind fun s => forS (items.drop (i + 1)) s f := by
  have : items.drop i = d :: items.drop (i + 1) := by
    obtain ⟨hl, e⟩ := List.getElem?_eq_some_iff.mp h
    rw [List.drop_eq_getElem_cons hl, e]
  rw [this]; rfl
theorem forT_step {τ : Type} {items : List D} {i : Nat} {d : D} (h : items[i]? = some d) (st : τ) (f : D → τ → R (Fl τ)) : forT (items.drop i) st f = (f d st).bind fun
    | .nx s => forT (items.drop (i + 1)) s f
    | .bk s => .ok (.nx s)
    | .rt d s => .ok (.rt d s) := by
  have : items.drop i = d :: items.drop (i + 1) := by
    obtain ⟨hl, e⟩ := List.getElem?_eq_some_iff.mp h
    rw [List.drop_eq_getElem_cons hl, e]
  rw [this]; rfl

theorem ds_forT {J : Jd α} {it : Expr} {body rest : List Stmt} {pos : Pos} {τ : Type} (pack : τ → Env)
    (h : DI C ρ tg it m fun items ρ1 m1 => ∃ st0 f g, Le (pack st0) ρ1 ∧ m1 = (forT items st0 f).bind g ∧
      (∀ x st, DG C (fun _ => True) (pack st) tg x (f x st) fun ρ2 m2 => DSs C ρ2 body m2 (Jl pack)) ∧ (∀ st, DSs C (pack st) rest (g (.nx st)) J) ∧ (∀ d st ρ', Le (pack st) ρ' → J.rt d ρ' (g (.rt d st))))
    (hs : ∀ (env : PySem.Env) (x : Value), foldedSetIterable it env x = pure x := by intro _ _; rfl) : DSs C ρ (.For tg it body [] pos :: rest) m J := by
  intro X W Z x hK c z
  have hg : PG X tg fun v σ H Q => ∃ (W' : Wd) (τ' : Type) (Z' : R τ' → Prop) (i : R τ' × Env × D) (κ : Env → R τ' → Prop), (DG C (fun _ => True) i.2.1 tg i.2.2 i.1 κ ∧ W'.K = C.K ∧ Cl Z' ∧ Z' i.1) ∧ ∃ F, Rel W' i.2.1 σ H F ∧ Rp W'.K F v i.2.2 ∧ ∀ ρ' m' σ' H' F', κ ρ' m' → Z' m' → Rel W' ρ' σ' H' F' → Same F F' → (∀ vs, (∀ i, (fun _ : Nat => True) i → i ∈ vs) → wipe σ' vs = wipe σ vs) → Q σ' H' :=
    ⟨fun p s σ H v u Q I r ⟨W', _, Z', i, κ, ⟨pi, hK', c', z'⟩, q⟩ => (pi X W' Z' x hK' c' z').run p s σ H v u Q I r q⟩
  have hb : PSs X body fun D σ H => ∃ (W' : Wd) (τ' : Type) (Z' : R τ' → Prop) (i : R τ' × Env) (J' : Jd τ'), (DSs C i.2 body i.1 J' ∧ W'.K = C.K ∧ Cl Z' ∧ Z' i.1) ∧ ∃ F, Rel W' i.2 σ H F ∧ Lk W' J' Z' D :=
    ⟨fun p s σ H D I ⟨W', _, Z', i, J', ⟨pi, hK', c', z'⟩, q⟩ => (pi X W' Z' x hK' c' z').run p s σ H D I q⟩
  refine PSs_imp (pss_cons (ps_for x.own x.calm (h X W Z x hK c z) hg hb (hs _)) (rest_run (J := J) x hK c)) fun Dn σ H ⟨F, rl, lk⟩ => ?_
  refine ⟨F, rl, fun items ρ' m' Jt H1 F1 ⟨st0, f, g, hle, em, hf, hnx, hrt⟩ zm rel1 ss itd => ?_⟩
  subst em
  refine ⟨fun i n σ H => n = items.length - i ∧ i ≤ items.length ∧ ∃ st F2, Rel { W with F0 := F1 } (pack st) σ H F2 ∧ Z ((forT (items.drop i) st f).bind g), ⟨items.length, by simp, Nat.zero_le _, st0, F1, (rel1.le hle).down (Same.refl _) rel1, by simpa using zm⟩, ?_⟩
  rintro i n σ2 H2 ⟨rfl, hi, st, F2, rel2, z2⟩
  by_cases hlt : i < items.length
  · refine .inr ⟨itd.goes i F2 H2 hlt rel2.sub0 rel2.sub, fun σ H => ∃ st F3, Rel { W with F0 := F1 } (pack st) σ H F3 ∧ Z ((forT (items.drop (i + 1)) st f).bind g), fun σ3 H3 ⟨st3, F3, b, c3⟩ => ⟨_, by omega, rfl, hlt, st3, F3, b, c3⟩, fun v H3 y => ?_⟩
    obtain ⟨F3, d, hd, fx, pd⟩ := itd.yields i F2 H2 v H3 hlt rel2.sub0 rel2.sub y
    rw [forT_step hd, R.bind_assoc] at z2
    obtain ⟨fl, ef, zf⟩ := c.bind z2
    refine ⟨{ W with F0 := F1 }, Fl τ, fun r => ∃ p, r = .ok p ∧ Z ((match p with | .nx s => forT (items.drop (i + 1)) s f | .bk s => .ok (.nx s) | .rt d s => .ok (.rt d s)).bind g), (f d st, pack st, d), _, ⟨hf d st, hK, c.at _, fl, ef, zf⟩, F3, rel2.step fx, pd, fun ρ4 m4 σ4 H4 F4 h1 h2 h3 h4 _ => ?_⟩
    refine ⟨{ W with F0 := F1 }, Fl τ, _, (m4, ρ4), Jl pack, ⟨h1, hK, c.at _, h2⟩, F4, h3, ⟨fun ρ m σ H F ⟨st', hl, e⟩ ⟨p, e2, zp⟩ h3 => ?_, fun d ρ m v σ H F ⟨st', hl, e⟩ ⟨p, e2, zp⟩ h3 h5 => ?_, fun ρ m σ H F ⟨st', hl, e⟩ ⟨p, e2, zp⟩ h3 => ?_, fun ρ m σ H F ⟨st', hl, e⟩ ⟨p, e2, zp⟩ h3 => ?_, fun _ _ _ _ _ _ _ h => h.elim⟩⟩
    · subst e; cases e2; exact ⟨st', F, h3.le hl, zp⟩
    · subst e; cases e2; exact lk.rt d ρ _ v σ H F (hrt d st' ρ hl) zp (h3.up rel1) h5
    · subst e; cases e2; exact ⟨(g (.nx st'), pack st'), ⟨hnx st', zp⟩, F, (h3.up rel1).le hl, lk⟩
    · subst e; cases e2; exact ⟨st', F, h3.le hl, zp⟩
  · have e : i = items.length := by omega
    subst e
    rw [List.drop_length] at z2
    exact .inl ⟨itd.stops F2 H2 rel2.sub0 rel2.sub, (g (.nx st), pack st), ⟨hnx st, z2⟩, F2, rel2.up rel1, lk⟩
theorem ds_forS {J : Jd α} {it : Expr} {body rest : List Stmt} {pos : Pos} {τ : Type} (pack : τ → Env)
    (h : DI C ρ tg it m fun items ρ1 m1 => ∃ st0 f g, Le (pack st0) ρ1 ∧ m1 = (forS items st0 f).bind g ∧
      (∀ x st, DG C (fun _ => True) (pack st) tg x (f x st) fun ρ2 m2 => DSs C ρ2 body m2 (Jq pack)) ∧ (∀ st, DSs C (pack st) rest (g st) J))
    (hs : ∀ (env : PySem.Env) (x : Value), foldedSetIterable it env x = pure x := by intro _ _; rfl) : DSs C ρ (.For tg it body [] pos :: rest) m J := by
  intro X W Z x hK c z
  have hg : PG X tg fun v σ H Q => ∃ (W' : Wd) (τ' : Type) (Z' : R τ' → Prop) (i : R τ' × Env × D) (κ : Env → R τ' → Prop), (DG C (fun _ => True) i.2.1 tg i.2.2 i.1 κ ∧ W'.K = C.K ∧ Cl Z' ∧ Z' i.1) ∧ ∃ F, Rel W' i.2.1 σ H F ∧ Rp W'.K F v i.2.2 ∧ ∀ ρ' m' σ' H' F', κ ρ' m' → Z' m' → Rel W' ρ' σ' H' F' → Same F F' → (∀ vs, (∀ i, (fun _ : Nat => True) i → i ∈ vs) → wipe σ' vs = wipe σ vs) → Q σ' H' :=
    ⟨fun p s σ H v u Q I r ⟨W', _, Z', i, κ, ⟨pi, hK', c', z'⟩, q⟩ => (pi X W' Z' x hK' c' z').run p s σ H v u Q I r q⟩
  have hb : PSs X body fun D σ H => ∃ (W' : Wd) (τ' : Type) (Z' : R τ' → Prop) (i : R τ' × Env) (J' : Jd τ'), (DSs C i.2 body i.1 J' ∧ W'.K = C.K ∧ Cl Z' ∧ Z' i.1) ∧ ∃ F, Rel W' i.2 σ H F ∧ Lk W' J' Z' D :=
    ⟨fun p s σ H D I ⟨W', _, Z', i, J', ⟨pi, hK', c', z'⟩, q⟩ => (pi X W' Z' x hK' c' z').run p s σ H D I q⟩
  refine PSs_imp (pss_cons (ps_for x.own x.calm (h X W Z x hK c z) hg hb (hs _)) (rest_run (J := J) x hK c)) fun Dn σ H ⟨F, rl, lk⟩ => ?_
  refine ⟨F, rl, fun items ρ' m' Jt H1 F1 ⟨st0, f, g, hle, em, hf, hnx⟩ zm rel1 ss itd => ?_⟩
  subst em
  refine ⟨fun i n σ H => n = items.length - i ∧ i ≤ items.length ∧ ∃ st F2, Rel { W with F0 := F1 } (pack st) σ H F2 ∧ Z ((forS (items.drop i) st f).bind g), ⟨items.length, by simp, Nat.zero_le _, st0, F1, (rel1.le hle).down (Same.refl _) rel1, by simpa using zm⟩, ?_⟩
  rintro i n σ2 H2 ⟨rfl, hi, st, F2, rel2, z2⟩
  by_cases hlt : i < items.length
  · refine .inr ⟨itd.goes i F2 H2 hlt rel2.sub0 rel2.sub, fun σ H => ∃ st F3, Rel { W with F0 := F1 } (pack st) σ H F3 ∧ Z ((forS (items.drop (i + 1)) st f).bind g), fun σ3 H3 ⟨st3, F3, b, c3⟩ => ⟨_, by omega, rfl, hlt, st3, F3, b, c3⟩, fun v H3 y => ?_⟩
    obtain ⟨F3, d, hd, fx, pd⟩ := itd.yields i F2 H2 v H3 hlt rel2.sub0 rel2.sub y
    rw [forS_step hd, R.bind_assoc] at z2
    obtain ⟨fl, ef, zf⟩ := c.bind z2
    refine ⟨{ W with F0 := F1 }, τ, fun r => ∃ p, r = .ok p ∧ Z ((forS (items.drop (i + 1)) p f).bind g), (f d st, pack st, d), _, ⟨hf d st, hK, c.at _, fl, ef, zf⟩, F3, rel2.step fx, pd, fun ρ4 m4 σ4 H4 F4 h1 h2 h3 h4 _ => ?_⟩
    refine ⟨{ W with F0 := F1 }, τ, _, (m4, ρ4), Jq pack, ⟨h1, hK, c.at _, h2⟩, F4, h3, ⟨fun ρ m σ H F ⟨st', hl, e⟩ ⟨p, e2, zp⟩ h3 => ?_, fun _ _ _ _ _ _ _ h => h.elim, fun _ _ _ _ _ h => h.elim, fun ρ m σ H F ⟨st', hl, e⟩ ⟨p, e2, zp⟩ h3 => ?_, fun _ _ _ _ _ _ _ h => h.elim⟩⟩
    · subst e; cases e2; exact ⟨st', F, h3.le hl, zp⟩
    · subst e; cases e2; exact ⟨st', F, h3.le hl, zp⟩
  · have e : i = items.length := by omega
    subst e
    rw [List.drop_length] at z2
    exact .inl ⟨itd.stops F2 H2 rel2.sub0 rel2.sub, (g st, pack st), ⟨hnx st, z2⟩, F2, rel2.up rel1, lk⟩

/-! ### while -/
theorem ds_while {J : Jd α} {t : Expr} {body rest : List Stmt} {pos : Pos} {τ : Type} (pack : τ → Env) (n : Nat) (st0 : τ) {f : τ → R (Wl τ)} {g : Fl τ → R α} (hle : Le (pack st0) ρ) (hm : m = (whileT n st0 f).bind g)
    (h : ∀ st, DT C (pack st) t (f st) fun t ρ1 m1 => ∃ A B, m1 = (if t = true then A else B) ∧ DSs C ρ1 body A (Jw pack) ∧ ∃ st', Le (pack st') ρ1 ∧ B = .ok (.done st'))
    (hnx : ∀ st, DSs C (pack st) rest (g (.nx st)) J) (hrt : ∀ d st ρ', Le (pack st) ρ' → J.rt d ρ' (g (.rt d st)) ∨ g (.rt d st) = .stuck) : DSs C ρ (.While t body [] pos :: rest) m J := by
  intro X W Z x hK c z
  subst hm
  have ht : PT X t fun σ H Q => ∃ (W' : Wd) (τ' : Type) (Z' : R τ' → Prop) (i : R τ' × Env) (κ : Bool → Env → R τ' → Prop), (DT C i.2 t i.1 κ ∧ W'.K = C.K ∧ Cl Z' ∧ Z' i.1) ∧ ∃ F, Rel W' i.2 σ H F ∧ ∀ b ρ' m' H' F', κ b ρ' m' → Z' m' → Rel W' ρ' σ H' F' → Same F F' → Q b H' :=
    ⟨fun p s σ H Q I ⟨W', _, Z', i, κ, ⟨pi, hK', c', z'⟩, q⟩ => (pi X W' Z' x hK' c' z').run p s σ H Q I q⟩
  have hb : PSs X body fun D σ H => ∃ (W' : Wd) (τ' : Type) (Z' : R τ' → Prop) (i : R τ' × Env) (J' : Jd τ'), (DSs C i.2 body i.1 J' ∧ W'.K = C.K ∧ Cl Z' ∧ Z' i.1) ∧ ∃ F, Rel W' i.2 σ H F ∧ Lk W' J' Z' D :=
    ⟨fun p s σ H D I ⟨W', _, Z', i, J', ⟨pi, hK', c', z'⟩, q⟩ => (pi X W' Z' x hK' c' z').run p s σ H D I q⟩
  refine PSs_imp (pss_cons (ps_while x.own ht hb) (rest_run (J := J) x hK c)) fun Dn σ H ⟨F, rl, lk⟩ => ?_
  refine ⟨fun k σ H => ∃ st F2, Rel W (pack st) σ H F2 ∧ Z ((whileT k st f).bind g), ⟨n, st0, F, rl.le hle, z⟩, ?_⟩
  rintro k σ2 H2 ⟨st, F2, rel2, z2⟩
  cases k with
  | zero => exact (c.st z2).elim
  | succ k =>
    rw [whileT, R.bind_assoc] at z2
    obtain ⟨wl, ef, zf⟩ := c.bind z2
    refine ⟨W, Wl τ, fun r => ∃ p, r = .ok p ∧ Z ((match p with | .go s => whileT k s f | .done s => .ok (.nx s) | .rt d s => .ok (.rt d s)).bind g), (f st, pack st), _, ⟨h st, hK, c.at _, wl, ef, zf⟩, F2, rel2, fun b ρ3 m3 H3 F3 ⟨A, B, e, hA, st', hl, hB⟩ z3 rel3 s3 => ?_⟩
    subst e
    cases b with
    | false =>
      rw [if_neg Bool.false_ne_true] at z3
      obtain ⟨p, e2, zp⟩ := z3
      rw [hB] at e2
      cases e2
      rw [if_neg Bool.false_ne_true]
      exact ⟨(g (.nx st'), pack st'), ⟨hnx st', zp⟩, F3, rel3.le hl, lk⟩
    | true =>
      rw [if_pos rfl] at z3 ⊢
      refine ⟨fun σ H => ∃ st F2, Rel W (pack st) σ H F2 ∧ Z ((whileT k st f).bind g), fun σ' H' q => ⟨k, Nat.lt_succ_self k, q⟩, W, Wl τ, _, (A, ρ3), Jw pack, ⟨hA, hK, c.at _, z3⟩, F3, rel3, ⟨fun ρ m σ H F ⟨st', hl, e⟩ ⟨p, e2, zp⟩ h3 => ?_, fun d ρ m v σ H F ⟨st', hl, e⟩ ⟨p, e2, zp⟩ h3 h5 => ?_, fun ρ m σ H F ⟨st', hl, e⟩ ⟨p, e2, zp⟩ h3 => ?_, fun ρ m σ H F ⟨st', hl, e⟩ ⟨p, e2, zp⟩ h3 => ?_, fun _ _ _ _ _ _ _ h => h.elim⟩⟩
      · subst e; cases e2; exact ⟨st', F, h3.le hl, zp⟩
      · subst e; cases e2; rcases hrt d st' ρ hl with h | h
        · exact lk.rt d ρ _ v σ H F h zp h3 h5
        · have zp' : Z (g (.rt d st')) := zp
          rw [h] at zp'
          exact (c.st zp').elim
      · subst e; cases e2; exact ⟨(g (.nx st'), pack st'), ⟨hnx st', zp⟩, F, h3.le hl, lk⟩
      · subst e; cases e2; exact ⟨st', F, h3.le hl, zp⟩
end
end Z

set_option Elab.async false
set_option linter.all false
set_option maxRecDepth 100000
set_option autoImplicit false
/-! # Z6: comprehensions -/
namespace Z
open PySem L2

/-- the slots of a block's own names are empty -/
def wipeE (ρ : Env) : List Nat → Env
  | [] => ρ
  | v :: vs => (wipeE ρ vs).set v none
theorem wipeE_get {ρ : Env} {i : Nat} {sl : Sl} : ∀ {vs : List Nat}, (wipeE ρ vs)[i]? = some (some sl) → ρ[i]? = some (some sl) ∧ i ∉ vs
  | [], h => ⟨h, by simp⟩
  | v :: vs, h => by
    unfold wipeE at h
    rcases get_set h with ⟨_, _, e⟩ | ⟨e, h'⟩
    · cases e
    · obtain ⟨a, b⟩ := wipeE_get h'
      exact ⟨a, by simp only [List.mem_cons, not_or]; exact ⟨fun q => e q.symm, b⟩⟩
theorem Rel.wipe {W : Wd} {ρ : Env} {σ : L2.St} {H F : Hp} (r : Rel W ρ σ H F) : ∀ vs : List Nat, Rel W (wipeE ρ vs) (wipe σ vs) H F
  | [] => r
  | v :: vs => (r.wipe vs).forget v none

/-- the state at a turn, by itself: io are the addresses that the slots alone have -/
theorem Rel.turn {W : Wd} {ρ : Env} {σ : L2.St} {H F : Hp} (r : Rel W ρ σ H F) : ∃ io, Rel ⟨W.K, F, H, io⟩ ρ σ H F ∧ (∀ b ∈ io, b ∈ W.io ∨ W.H0 b = none) ∧ ∀ b ∈ io, ∃ o, H b = some o := by
  obtain ⟨ad, k⟩ := r.env
  refine ⟨((List.range ρ.length).filter fun i => (match ρ[i]? with | some (some _) => true | _ => false)).flatMap ad, ⟨r.sub, Same.refl _, fun b o h _ => h, fun b o h => .inl h, ⟨ad, fun i sl e => ?_⟩, r.len, fun b o h => ⟨o, h⟩⟩, fun b hb => ?_, fun b hb => ?_⟩
  · obtain ⟨v, h1, h2, h3, h4⟩ := k i sl e
    refine ⟨v, h1, h2, fun b hb => .inl (List.mem_flatMap.mpr ⟨i, List.mem_filter.mpr ⟨List.mem_range.mpr (List.getElem?_eq_some_iff.mp e).1, by rw [e]⟩, hb⟩), h4⟩
  · obtain ⟨i, hi, hb⟩ := List.mem_flatMap.mp hb
    obtain ⟨_, h2⟩ := List.mem_filter.mp hi
    cases e : ρ[i]? with
    | none => rw [e] at h2; cases h2
    | some q =>
      cases q with
      | none => rw [e] at h2; cases h2
      | some sl =>
        obtain ⟨v, _, _, h3, _⟩ := k i sl e
        exact h3 b hb
  · obtain ⟨i, hi, hb⟩ := List.mem_flatMap.mp hb
    obtain ⟨_, h2⟩ := List.mem_filter.mp hi
    cases e : ρ[i]? with
    | none => rw [e] at h2; cases h2
    | some q =>
      cases q with
      | none => rw [e] at h2; cases h2
      | some sl =>
        obtain ⟨v, _, h2, _, _⟩ := k i sl e
        cases sl with
        | val d => rw [h2.2] at hb; cases hb
        | own xs =>
          obtain ⟨p, vs, _, e2, h, _⟩ := h2
          rw [e2] at hb
          have : b = p := by simpa using hb
          subst this; exact ⟨_, h⟩
        | src a s =>
          obtain ⟨c, _, e2, _, _, _, h1, h3, _⟩ := h2
          rw [e2] at hb
          have : b = a ∨ b = c := by simpa using hb
          rcases this with rfl | rfl
          · exact ⟨_, h1⟩
          · exact ⟨_, h3⟩
        | scr ns =>
          obtain ⟨_, _, _, _, e2⟩ := h2
          rw [e2] at hb; cases hb
        | dct kvs =>
          obtain ⟨p, xs, _, e2, h, _⟩ := h2
          rw [e2] at hb
          have : b = p := by simpa using hb
          subst this; exact ⟨_, h⟩
theorem Rel.unturn {W : Wd} {ρ ρ' : Env} {σ σ' : L2.St} {H F H' F' : Hp} {io : List Addr} (r' : Rel ⟨W.K, F, H, io⟩ ρ' σ' H' F') (r : Rel W ρ σ H F) (hio : ∀ b ∈ io, b ∈ W.io ∨ W.H0 b = none) : Rel W ρ' σ' H' F' := by
  have up : ∀ b, H b = none → W.H0 b = none := fun b h => by
    cases e : W.H0 b with
    | none => rfl
    | some u => obtain ⟨o, q⟩ := r.trk b u e; rw [h] at q; cases q
  refine ⟨r'.sub, r.sub0.trans r'.sub0, fun b o h hn => ?_, fun b o h => ?_, ?_, r'.len, fun b o h => ?_⟩
  · refine r'.keep b o (r.keep b o h hn) fun hb => ?_
    rcases hio b hb with q | q
    · exact hn q
    · rw [h] at q; cases q
  · rcases r'.fresh b o h with q | q | q
    · exact r.fresh b o q
    · exact .inr (.inl (up b q))
    · exact .inr ((hio b q).elim .inr .inl)
  · obtain ⟨ad, k⟩ := r'.env
    refine ⟨ad, fun i sl e => ?_⟩
    obtain ⟨v, h1, h2, h3, h4⟩ := k i sl e
    exact ⟨v, h1, h2, fun b hb => (h3 b hb).elim (hio b) fun q => .inr (up b q), h4⟩
  · obtain ⟨o', q⟩ := r.trk b o h
    exact r'.trk b o' q
/-- values alone -/
def ValOnly (ρ : Env) : Prop := ∀ (i : Nat) (sl : Sl), ρ[i]? = some (some sl) → ∃ d, sl = .val d
def valB : Env → Bool
  | [] => true
  | none :: r => valB r
  | some (.val _) :: r => valB r
  | _ => false
theorem valOnly_of : ∀ {ρ : Env}, valB ρ = true → ValOnly ρ
  | [], _, i, sl, e => by simp at e
  | none :: r, h, 0, sl, e => by simp at e
  | none :: r, h, i + 1, sl, e => valOnly_of (ρ := r) h i sl (by simpa using e)
  | some (.val d) :: r, h, 0, sl, e => by simp at e; exact ⟨d, e.symm⟩
  | some (.val d) :: r, h, i + 1, sl, e => valOnly_of (ρ := r) h i sl (by simpa using e)
  | some (.own _) :: r, h, _, _, _ => by cases h
  | some (.src _ _) :: r, h, _, _, _ => by cases h
  | some (.scr _) :: r, h, _, _, _ => by cases h
/-- values alone: nothing else is changed -/
theorem Rel.pure {W : Wd} {ρ : Env} {σ : L2.St} {H F : Hp} (r : Rel W ρ σ H F) (h : ValOnly ρ) : Rel ⟨W.K, F, H, []⟩ ρ σ H F := by
  refine ⟨r.sub, Same.refl _, fun b o h _ => h, fun b o h => .inl h, ⟨fun _ => [], fun i sl e => ?_⟩, r.len, fun b o h => ⟨o, h⟩⟩
  obtain ⟨ad, k⟩ := r.env
  obtain ⟨d, rfl⟩ := h i sl e
  obtain ⟨v, h1, h2, _, _⟩ := k i _ e
  exact ⟨v, h1, ⟨h2.1, rfl⟩, by simp, by simp⟩
theorem Rel.fx {K : PySem.W.Frag} {ρ' : Env} {σ' : L2.St} {H F H' F' : Hp} (r' : Rel ⟨K, F, H, []⟩ ρ' σ' H' F') : Fx F H F' H' :=
  ⟨r'.sub0, r'.sub, fun b o h => r'.keep b o h (by simp), fun b o h => (r'.fresh b o h).elim .inl fun q => q.elim .inr fun z => absurd z (by simp)⟩

section
variable {α : Type} {C : Ct} {ρ : Env} {m : R α}
def Ct.blk (C : Ct) (scope : Scope) : Ct := { C with sc := relS scope C.sc, fn := fun x => scope.names.lookup x == some .cell }
theorem XOk.blk {X : Cx} (x : XOk C X) {scope : Scope} (s : Shared) (H : Hp) (Ca : Addr) (cl : List (Str × Addr)) (fp : List Addr) : XOk (C.blk scope) (X.blk s H scope (compEnvC scope cl Ca X.env) fp) :=
  ⟨x.prog, x.w, x.K, x.mg, x.base, x.N, x.nd, by show relS scope X.env.scope = _; rw [x.sc]; rfl, x.calm, x.room, x.grd, PassesOwn.never, fun _ h => h⟩

def DTs {α : Type} (C : Ct) (ρ : Env) (es : List Expr) (m : R α) (κ : Bool → Env → R α → Prop) : Prop :=
  ∀ (X : Cx) (W : Wd) (Z : R α → Prop), XOk C X → W.K = C.K → Cl Z → Z m →
    PTs X es fun σ H Q => ∃ F, Rel W ρ σ H F ∧ ∀ b ρ' m' H' F', κ b ρ' m' → Z m' → Rel W ρ' σ H' F' → Same F F' → Q b H'
theorem PTs_imp {X : Cx} {e : List Expr} {t t' : TT} (h : PTs X e t) (i : ∀ σ H Q, t' σ H Q → t σ H Q) : PTs X e t' := ⟨fun p s σ H Q I q => h.run p s σ H Q I (i σ H Q q)⟩
theorem dts_nil {κ : Bool → Env → R α → Prop} (k : κ true ρ m) : DTs C ρ [] m κ := fun X W Z x hK c z => PTs_imp pts_nil fun σ H Q ⟨F, r, q⟩ => q _ ρ m H F k z r (Same.refl _)
theorem dts_one {κ : Bool → Env → R α → Prop} {e : Expr} (h : DT C ρ e m κ) : DTs C ρ [e] m κ := fun X W Z x hK c z => pts_one (h X W Z x hK c z)
theorem tsplit {P Q : R α → Prop} {t : Bool} {m1 A B : R α} (h : m1 = (if t = true then A else B)) (hA : P A) (hB : Q B) : (t = true → P m1) ∧ (t = false → Q m1) := by
  subst h
  cases t with
  | true => exact ⟨(fun _ => hA), (fun e => nomatch e)⟩
  | false => exact ⟨(fun e => nomatch e), (fun _ => hB)⟩

theorem compP_step {items : List D} {i : Nat} {d : D} (h : items[i]? = some d) (f : D → R (Option D)) : compP (items.drop i) f = (f d).bind fun p => (compP (items.drop (i + 1)) f).bind fun q =>
    match p with
    | some y => .ok (y :: q)
    | none => .ok q := by
  have : items.drop i = d :: items.drop (i + 1) := by
    obtain ⟨hl, e⟩ := List.getElem?_eq_some_iff.mp h
    rw [List.drop_eq_getElem_cons hl, e]
  rw [this]; rfl
theorem compT_step {τ : Type} {items : List D} {i : Nat} {d : D} (h : items[i]? = some d) (st : τ) (f : D → τ → R (Option D × τ)) : compT (items.drop i) st f = (f d st).bind fun p => (compT (items.drop (i + 1)) p.2 f).bind fun q =>
    match p.1 with
    | some y => .ok (y :: q.1, q.2)
    | none => .ok (q.1, q.2) := by
  have : items.drop i = d :: items.drop (i + 1) := by
    obtain ⟨hl, e⟩ := List.getElem?_eq_some_iff.mp h
    rw [List.drop_eq_getElem_cons hl, e]
  rw [this]; rfl

theorem wipe_wipe {σ : L2.St} {vs : List Nat} : wipe (wipe σ vs) vs = wipe σ vs := by
  have key : ∀ (us : List Nat) (τ : L2.St) (k : Nat), (wipe τ us)[k]? = if k ∈ us then (τ[k]?.map fun _ => none) else τ[k]? := by
    intro us τ k
    induction us with
    | nil => simp [wipe]
    | cons u us ih =>
      unfold wipe
      rw [List.getElem?_set, ih]
      by_cases e : u = k
      · subst e
        have hl : (wipe τ us).length = τ.length := wipe_length τ us
        by_cases hk : u < τ.length
        · simp [hl, hk]
        · simp [hl, hk]
      · have e' : ¬ k = u := fun q => e q.symm
        simp [e, e']
  refine List.ext_getElem? fun j => ?_
  rw [key, key]
  by_cases h : j ∈ vs
  · simp only [h, if_true, Option.map_map]; rfl
  · simp only [h, if_false]
/-- the values of a row of slots -/
structure VRel (K : PySem.W.Frag) (F : Hp) (ρ : Env) (σ : L2.St) : Prop where
  ref : ∀ (i : Nat) (d : D), ρ[i]? = some (some (.val d)) → ∃ v, σ[i]? = some (some v) ∧ Rp K F v d
  len : ρ.length ≤ σ.length
theorem Rel.vrel {W : Wd} {ρ : Env} {σ : L2.St} {H F : Hp} (r : Rel W ρ σ H F) : VRel W.K F ρ σ := ⟨fun i d e => r.val e, r.len⟩
theorem VRel.mono {K : PySem.W.Frag} {F F' : Hp} {ρ : Env} {σ : L2.St} (r : VRel K F ρ σ) (e : Same F F') : VRel K F' ρ σ := ⟨fun i d h => let ⟨v, a, b⟩ := r.ref i d h; ⟨v, a, b.mono e⟩, r.len⟩
theorem VRel.rel {K : PySem.W.Frag} {F H : Hp} {ρ : Env} {σ : L2.St} (r : VRel K F ρ σ) (h : ValOnly ρ) (e : Same F H) : Rel ⟨K, F, H, []⟩ ρ σ H F := by
  refine ⟨e, Same.refl _, fun b o h _ => h, fun b o h => .inl h, ⟨fun _ => [], fun i sl q => ?_⟩, r.len, fun b o h => ⟨o, h⟩⟩
  obtain ⟨d, rfl⟩ := h i sl q
  obtain ⟨v, a, b⟩ := r.ref i d q
  exact ⟨v, a, ⟨b, rfl⟩, by simp, by simp⟩
theorem RpAll.snoc {K : PySem.W.Frag} {F : Hp} {vs : List V} {ds : List D} {v : V} {d : D} (r : RpAll K F vs ds) (h : Rp K F v d) : RpAll K F (vs ++ [v]) (ds ++ [d]) := r.append (.cons h .nil)

theorem compL_ok {xs : List D} {f : D → R (Option D)} {q : List D} (h : compL xs f = .ok q) : xs.length < 16777216 ∧ compP xs f = .ok q := by
  unfold compL at h
  split at h
  · rename_i e; exact ⟨of_decide_eq_true e, h⟩
  · cases h
theorem compS_ok {τ : Type} {xs : List D} {st : τ} {f : D → τ → R (Option D × τ)} {q : List D × τ} (h : compS xs st f = .ok q) : xs.length < 16777216 ∧ compT xs st f = .ok q := by
  unfold compS at h
  split at h
  · rename_i e; exact ⟨of_decide_eq_true e, h⟩
  · cases h
/-- the readings of a comprehension whose element changes nothing, and what they ask -/
theorem lcP_main {κ : D → Env → R α → Prop} {tg it elt : Expr} {ifs : List Expr} {scope : Scope} {vs : List Nat} {X : Cx} {W : Wd} {Z : R α → Prop} (x : XOk C X) (hK : W.K = C.K) (c : Cl Z) (z : Z m)
    (h : DI C ρ tg it m fun items ρ1 m1 => ∃ ρb f g, Le ρb (wipeE ρ1 vs) ∧ valB ρb = true ∧ m1 = (compL items f).bind g ∧
      (∀ y, DG (C.blk scope) (fun i => i ∈ vs) ρb tg y (f y) fun ρ2 m2 => DTs (C.blk scope) ρ2 ifs m2 fun t ρ3 m3 =>
        (t = true → DE (C.blk scope) ρ3 elt m3 fun d ρ4 m4 => m4 = .ok (some d)) ∧ (t = false → m3 = .ok none)) ∧
      ∀ ys, κ (.list ys) ρ1 (g ys)) :
    ∃ wi g tt te, PI X tg it wi ∧ (∀ (s : Shared) (H : Hp) (Ca : Addr) (cl : List (Str × Addr)) (fp : List Addr), PG (X.blk s H scope (compEnvC scope cl Ca X.env) fp) tg g) ∧
      (∀ (s : Shared) (H : Hp) (Ca : Addr) (cl : List (Str × Addr)) (fp : List Addr), PTs (X.blk s H scope (compEnvC scope cl Ca X.env) fp) ifs tt) ∧
      (∀ (s : Shared) (H : Hp) (Ca : Addr) (cl : List (Str × Addr)) (fp : List Addr), PE (X.blk s H scope (compEnvC scope cl Ca X.env) fp) elt te) ∧
      ∀ σ H Q, (∃ F, Rel W ρ σ H F ∧ ∀ d ρ' m' v H' F', κ d ρ' m' → Z m' → Rel W ρ' σ H' F' → Same F F' → Rp W.K F' v d → Q v H') → tLc wi g tt te vs σ H Q := by
  refine ⟨_, fun v σ H Q => ∃ (W' : Wd) (τ' : Type) (Z' : R τ' → Prop) (i : R τ' × Env × D) (κ : Env → R τ' → Prop), (DG (C.blk scope) (fun i => i ∈ vs) i.2.1 tg i.2.2 i.1 κ ∧ W'.K = C.K ∧ Cl Z' ∧ Z' i.1) ∧ ∃ F, Rel W' i.2.1 σ H F ∧ Rp W'.K F v i.2.2 ∧ ∀ ρ' m' σ' H' F', κ ρ' m' → Z' m' → Rel W' ρ' σ' H' F' → Same F F' → (∀ us, (∀ i, i ∈ vs → i ∈ us) → wipe σ' us = wipe σ us) → Q σ' H',
    fun σ H Q => ∃ (W' : Wd) (τ' : Type) (Z' : R τ' → Prop) (i : R τ' × Env) (κ : Bool → Env → R τ' → Prop), (DTs (C.blk scope) i.2 ifs i.1 κ ∧ W'.K = C.K ∧ Cl Z' ∧ Z' i.1) ∧ ∃ F, Rel W' i.2 σ H F ∧ ∀ b ρ' m' H' F', κ b ρ' m' → Z' m' → Rel W' ρ' σ H' F' → Same F F' → Q b H',
    fun σ H Q => ∃ (W' : Wd) (τ' : Type) (Z' : R τ' → Prop) (i : R τ' × Env) (κ : D → Env → R τ' → Prop), (DE (C.blk scope) i.2 elt i.1 κ ∧ W'.K = C.K ∧ Cl Z' ∧ Z' i.1) ∧ ∃ F, Rel W' i.2 σ H F ∧ ∀ d ρ' m' v H' F', κ d ρ' m' → Z' m' → Rel W' ρ' σ H' F' → Same F F' → Rp W'.K F' v d → Q v H', h X W Z x hK c z, ?_, ?_, ?_, ?_⟩
  · exact fun s H Ca cl fp => ⟨fun p s' σ H v u Q I r ⟨W', _, Z', i, κ, ⟨pi, hK', c', z'⟩, q⟩ => (pi _ W' Z' (x.blk s _ Ca cl fp) hK' c' z').run p s' σ H v u Q I r q⟩
  · exact fun s H Ca cl fp => ⟨fun p s' σ H Q I ⟨W', _, Z', i, κ, ⟨pi, hK', c', z'⟩, q⟩ => (pi _ W' Z' (x.blk s _ Ca cl fp) hK' c' z').run p s' σ H Q I q⟩
  · exact fun s H Ca cl fp => ⟨fun p s' σ H Q I ⟨W', _, Z', i, κ, ⟨pi, hK', c', z'⟩, q⟩ => (pi _ W' Z' (x.blk s _ Ca cl fp) hK' c' z').run p s' σ H Q I q⟩
  rintro σ H Q ⟨F, rl, q⟩
  refine ⟨F, rl, fun items ρ1 m1 J H1 F1 ⟨ρb, f, g, hle, hv, em, hf, hk⟩ zm rel1 ss itd Da hDa => ?_⟩
  subst em
  obtain ⟨qs0, eq0, zq0⟩ := c.bind zm
  obtain ⟨hlen, eq0⟩ := compL_ok eq0
  have vo := valOnly_of hv
  have hF1D : F1 Da = none := rel1.sub.free hDa
  have v1 : VRel W.K F1 ρb (wipe σ vs) := ((rel1.wipe vs).le hle).vrel
  refine ⟨fun i n H => n = items.length - i ∧ i ≤ items.length ∧ ∃ Fi acc ds qs, H Da = some (.lst acc) ∧ Fi Da = none ∧ RpAll W.K Fi acc ds ∧ acc.length ≤ i ∧ Same F1 Fi ∧ Same Fi H ∧ Same H1 H ∧ (∀ b o, Fi b = some o → F1 b = some o ∨ H1 b = none) ∧ compP (items.drop i) f = .ok qs ∧ Z (g (ds ++ qs)),
    ⟨items.length, by simp, Nat.zero_le _, F1, [], [], qs0, upd_same, hF1D, .nil, Nat.le_refl _, Same.refl _, fun b o e => by rw [upd_ne (ne_of_none e hF1D)]; exact rel1.sub b o e, fun b o e => by rw [upd_ne (ne_of_none e hDa)]; exact e, fun _ _ e => .inl e, by simpa using eq0, by simpa using zq0⟩, ?_⟩
  rintro i n H2 ⟨rfl, hi, Fi, acc, ds, qs, hD, hFD, racc, hal, s1i, sih, s1h, fri, eqs, zqs⟩
  by_cases hlt : i < items.length
  · refine .inr ⟨itd.goes i Fi H2 hlt s1i sih, fun H => ∃ Fi acc ds qs, H Da = some (.lst acc) ∧ Fi Da = none ∧ RpAll W.K Fi acc ds ∧ acc.length ≤ i + 1 ∧ Same F1 Fi ∧ Same Fi H ∧ Same H1 H ∧ (∀ b o, Fi b = some o → F1 b = some o ∨ H1 b = none) ∧ compP (items.drop (i + 1)) f = .ok qs ∧ Z (g (ds ++ qs)),
      fun H' hh => ⟨_, by omega, rfl, hlt, hh⟩, fun v H3 y => ?_⟩
    obtain ⟨F3, d, hd, fx, pd⟩ := itd.yields i Fi H2 v H3 hlt s1i sih y
    rw [compP_step hd] at eqs
    obtain ⟨p, ep, eqs⟩ := R.bind_eq_ok eqs
    obtain ⟨q2, eq2, eqs⟩ := R.bind_eq_ok eqs
    have clp : Cl fun r : R (Option D) => r = .ok p := ⟨(fun e => nomatch e), (fun _ _ e => nomatch e)⟩
    refine ⟨⟨W.K, F3, H3, []⟩, Option D, fun r => r = .ok p, (f d, ρb, d), _, ⟨hf d, hK, clp, ep⟩, F3, (v1.mono (s1i.trans fx.ff)).rel vo fx.fh, pd, fun ρ2 m2 σ4 H4 F4 h1 h2 h3 h4 hw => ⟨(hw vs fun _ h => h).trans wipe_wipe, ?_⟩⟩
    refine ⟨⟨W.K, F3, H3, []⟩, Option D, fun r => r = .ok p, (m2, ρ2), _, ⟨h1, hK, clp, h2⟩, F4, h3, fun b ρ3 m3 H5 F5 k1 k2 k3 k4 => ?_⟩
    have grow : ∀ {H6 F6 : Hp}, Fx F3 H3 F6 H6 → H6 Da = some (.lst acc) ∧ F6 Da = none ∧ Same F1 F6 ∧ Same H1 H6 ∧ (∀ b o, F6 b = some o → F1 b = some o ∨ H1 b = none) ∧ Same Fi F6 := fun {H6 F6} f6 => by
      have fa := fx.trans f6
      exact ⟨fa.hh _ _ hD, fa.none hFD hD, s1i.trans fa.ff, s1h.trans fa.hh, fun b o e => (fa.new b o e).elim (fun q => fri b o q) fun q => .inr (s1h.free q), fa.ff⟩
    cases b with
    | false =>
      show (if false = true then _ else _)
      rw [if_neg Bool.false_ne_true]
      obtain ⟨g1, g2, g3, g4, g5, g6⟩ := grow k3.fx
      have e3 := k1.2 rfl
      rw [k2] at e3
      cases e3
      cases eqs
      exact ⟨F5, acc, ds, _, g1, g2, racc.mono g6, Nat.le_succ_of_le hal, g3, k3.sub, g4, g5, eq2, zqs⟩
    | true =>
      show (if true = true then _ else _)
      rw [if_pos rfl]
      refine ⟨⟨W.K, F3, H3, []⟩, Option D, fun r => r = .ok p, (m3, ρ3), _, ⟨k1.1 rfl, hK, clp, k2⟩, F5, k3, fun dd ρ4 m4 vv H6 F6 j1 j2 j3 j4 j5 => ?_⟩
      obtain ⟨g1, g2, g3, g4, g5, g6⟩ := grow j3.fx
      rw [j2] at j1
      cases j1
      cases eqs
      have hz : acc.length < 16777216 := by omega
      refine ⟨acc, g1, by rw [sizeLine_eq]; exact hz, F6, acc ++ [vv], ds ++ [dd], q2, upd_same, g2, (racc.mono g6).snoc j5, by simp; omega, g3, fun b o e => by rw [upd_ne (ne_of_none e g2)]; exact j3.sub b o e, fun b o e => by rw [upd_ne (ne_of_none e hDa)]; exact g4 b o e, g5, eq2, by simpa using zqs⟩
  · have e : i = items.length := by omega
    subst e
    rw [List.drop_length] at eqs
    cases eqs
    rw [List.append_nil] at zqs
    refine .inl ⟨itd.stops Fi H2 s1i sih, ?_⟩
    have fx : Fx F1 H1 (upd Fi Da (.lst acc)) H2 := ⟨fun b o e => by rw [upd_ne (ne_of_none e hF1D)]; exact s1i b o e, fun b o e => by
      by_cases hb : b = Da
      · subst hb; rw [upd_same] at e; rw [hD]; exact e
      · rw [upd_ne hb] at e; exact sih b o e, s1h, fun b o e => by
      by_cases hb : b = Da
      · subst hb; exact .inr hDa
      · rw [upd_ne hb] at e; exact fri b o e⟩
    exact q _ ρ1 _ _ H2 _ (hk ds) zqs (rel1.step fx) (ss.trans fx.ff) (.lst upd_same (racc.mono fun b o e => by rw [upd_ne (ne_of_none e hFD)]; exact e))

/-- [e for tg in it if ..], the element changes nothing -/
theorem de_lcP {κ : D → Env → R α → Prop} {tg it elt : Expr} {ifs : List Expr} {scope : Scope} {pos : Pos} (own : List (Str × Nat)) (ok : blkC C.N C.sc scope own = true)
    (h : DI C ρ tg it m fun items ρ1 m1 => ∃ ρb f g, Le ρb (wipeE ρ1 (own.map (·.2))) ∧ valB ρb = true ∧ m1 = (compL items f).bind g ∧
      (∀ y, DG (C.blk scope) (fun i => i ∈ own.map (·.2)) ρb tg y (f y) fun ρ2 m2 => DTs (C.blk scope) ρ2 ifs m2 fun t ρ3 m3 =>
        (t = true → DE (C.blk scope) ρ3 elt m3 fun d ρ4 m4 => m4 = .ok (some d)) ∧ (t = false → m3 = .ok none)) ∧
      ∀ ys, κ (.list ys) ρ1 (g ys)) (hs : ∀ (env : PySem.Env) (x : Value), foldedSetIterable it env x = pure x := by intro _ _; rfl) : DE C ρ (.ListComp elt [⟨tg, it, ifs, 0⟩] scope pos) m κ := by
  intro X W Z x hK c z
  obtain ⟨wi, g, tt, te, h1, h2, h3, h4, h5⟩ := lcP_main (vs := own.map (·.2)) x hK c z h
  exact PE_imp (pe_lc x.calm (by rw [x.N]; exact x.nd) h1 (blkOk_by (by rw [x.N, x.sc]; exact ok)) h2 h3 h4 (hs _)) h5
/-- y = [..], y a local, on one line -/
theorem ds_setLcP {J : Jd α} {n : Str} {tg it elt : Expr} {ifs : List Expr} {scope : Scope} {p pos cpos : Pos} {rest : List Stmt} (i : Nat) (own : List (Str × Nat)) (ok : blkC C.N C.sc scope own = true)
    (h : DI C ρ tg it m fun items ρ1 m1 => ∃ ρb f g, Le ρb (wipeE ρ1 (own.map (·.2))) ∧ valB ρb = true ∧ m1 = (compL items f).bind g ∧
      (∀ y, DG (C.blk scope) (fun i => i ∈ own.map (·.2)) ρb tg y (f y) fun ρ2 m2 => DTs (C.blk scope) ρ2 ifs m2 fun t ρ3 m3 =>
        (t = true → DE (C.blk scope) ρ3 elt m3 fun d ρ4 m4 => m4 = .ok (some d)) ∧ (t = false → m3 = .ok none)) ∧
      ∀ ys, DSs C (ρ1.set i (some (.val (.list ys)))) rest (g ys) J) (hN : C.N[i]? = some n := by rfl) (hy : C.sc.names.lookup n = some .local := by rfl)
    (hsw : ∀ env : PySem.Env, env.scope = C.sc → swapsWith (.ListComp elt [⟨tg, it, ifs, 0⟩] scope cpos) (some (.Name n p)) pos.line env = pure true)
    (hs : ∀ (env : PySem.Env) (x : Value), foldedSetIterable it env x = pure x := by intro _ _; rfl) : DSs C ρ (.Assign [.Name n p] (.ListComp elt [⟨tg, it, ifs, 0⟩] scope cpos) pos :: rest) m J := by
  intro X W Z x hK c z
  obtain ⟨wi, g, tt, te, h1, h2, h3, h4, h5⟩ := lcP_main (κ := fun d ρ1 m1 => DSs C (ρ1.set i (some (.val d))) rest m1 J) (vs := own.map (·.2)) x hK c z h
  refine PSs_imp (pss_cons (ps_setLc (i := i) x.calm (by rw [x.N]; exact x.nd) (by rw [x.N]; exact hN) (by rw [x.sc]; exact hy) (hsw _ x.sc) h1 (blkOk_by (by rw [x.N, x.sc]; exact ok)) h2 h3 h4 (hs _)) (rest_run (J := J) x hK c)) fun Dn σ H ⟨F, r, l⟩ => ?_
  exact h5 σ H (fun y H1 => ∃ j : R α × Env, (DSs C j.2 rest j.1 J ∧ Z j.1) ∧ ∃ F, Rel W j.2 (σ.set i (some y)) H1 F ∧ Lk W J Z Dn) ⟨F, r, fun d ρ' m' v H' F' k1 k2 k3 k4 k5 => ⟨(m', _), ⟨k1, k2⟩, F', k3.set i k5, l⟩⟩
end
end Z

set_option Elab.async false
set_option linter.all false
set_option maxRecDepth 100000
set_option autoImplicit false
/-! # ZG: defs where nothing is being shown (repr), the head of the law with it -/
namespace Z
open PySem L2 PySem.Spec PyProof.Rows

/-- what a def promises to a caller for whom no repr is under way -/
structure FnG (P : Program) (w : World) (K : PySem.W.Frag) (mg : Str → Option Value) (base : Heap) (Cx : CXT) (k : Nat) (f : Addr) (fd : FuncData) (ps : List Str) (sp : Sp) : Prop where
  len : ∀ vs H Q E, sp vs H Q E → vs.length = ps.length
  run : ∀ (A : Around) (out : List PySem.Env) (s : Shared) (H : Hp) (ar : Args) (us : List Value) (vs : List V) (Q : VK) (E : XK),
    A.guards = some [] → Room k A → Env0 P w K mg base A out s H → BindsTo s fd ar (ps.zip us) → Vals vs us → sp vs H Q E → codeAny (model P w) A (.call (.ref f) ar) (CR Cx out P w H s Q E) s
theorem FnG.mono {P : Program} {w : World} {K : PySem.W.Frag} {mg : Str → Option Value} {base : Heap} {Cx : CXT} {i j : Nat} {f : Addr} {fd : FuncData} {ps : List Str} {sp : Sp} (G : FnG P w K mg base Cx i f fd ps sp) (le : i ≤ j) : FnG P w K mg base Cx j f fd ps sp where
  len := G.len
  run := fun A out s H ar us vs Q E gd rm => G.run A out s H ar us vs Q E gd (rm.mono le)

/-- by the body -/
theorem okG {P : Program} {w : World} {K : PySem.W.Frag} {mg : Str → Option Value} {base : Heap} {Cx : CXT} {nm qual : Str} {st : Stmt} {f : Addr} {fd : FuncData} {N ps : List Str} {k : Nat} {sp : Sp} (F : Fun K nm qual st f fd) (S : FnScope N ps (defScope st))
    (ln : ∀ vs H Q E, sp vs H Q E → vs.length = ps.length)
    (body : ∀ (cv : Value) (A : Around) (out : List PySem.Env) (s : Shared) (H : Hp) (vs : List V) (Q : VK) (E : XK), A.guards = some [] → Room k (A.deeper (envOfC qual (defScope st) s.heap.objs.size f cv)) → sp vs H Q E →
      ∃ t, PSs (cxOf Cx P w K mg base N qual (defScope st) f cv A out s H E) (defBody st) t ∧ t { nx := fun _ H' => Q .non H', rt := Q } (L2.start N vs) H) : FnG P w K mg base Cx (k + 1) f fd ps sp := by
  obtain ⟨_, _, _, _, _, _, cv, _, _, rfl, look, hc⟩ := F.ex
  refine ⟨ln, fun A out s H ar us vs Q E gd rm e0 bd rel hp => ?_⟩
  have nvs := ln _ _ _ _ hp
  have there : ∀ b o, base.get? b = some o → s.heap.get? b = some o := fun b o e => (e0.bs b o e).1
  have kin : K.In s.heap := e0.mod.kin.keeps there
  have nolim := e0.mod.nolimit.keeps there
  have kinds : ∀ z ∈ ps.zip us, (defScope st).names.lookup z.1 = some .local ∨ ((defScope st).names.lookup z.1 = some .cell ∧ ((cellsFrom (s.heap.objs.size + 1) (defScope st).names []).lookup z.1).isSome = true) := by
    intro ⟨a, b⟩ hz
    exact (S.par a (List.of_mem_zip hz).1).imp id fun q => ⟨q, PySem.W.cellsFrom_some _ _ _ (.inl q)⟩
  refine codeAny_call_function rm.depth (kin _ _ look) rfl S.co S.gen rfl (PySem.W.codeRec_of kin hc) (bd _ _ _ _ (wpAny_newFunctionEnv_cells S.kind kinds fun env eq s1 ic => ?_))
  subst eq
  obtain ⟨t, run, ask⟩ := body cv A out s H vs Q E gd (rm.deeper _) hp
  refine ⟨nolim.keeps ic.toInCall.keep, codeAny_func (wpAny_mono (run.run [] s1 (L2.start N vs) H _ (inv_start S rm.hd e0 nvs rel ic) ask) (fun fl s2 done => ?_) fun _ _ z => z)⟩
  match fl, done with
  | .ret u, ⟨v, τ, H2, J, rv, q⟩ => exact ⟨v, H2, J.os, J.bare, J.base, J.hok, rv, q⟩
  | .next, ⟨τ, H2, J, q⟩ => exact ⟨V.non, H2, J.os, J.bare, J.base, J.hok, rfl, q⟩
  | .brk, ⟨_, _, _, q⟩ => exact q.elim
  | .cont, ⟨_, _, _, q⟩ => exact q.elim

section
variable {X : Cx} {Cy : CXT} {k : Nat} {f : Addr} {fd : FuncData} {ps : List Str} {sp : Sp} {E : XK} {x : Str} {p pos : Pos} {e : Expr} {es : List Expr} {t : TA}
theorem runG {pins : List (Addr × Obj)} {σ : L2.St} {H : Hp} {s : Shared} {Q : VK} {us : List Value} {vs : List V} (G : FnG X.prog X.w X.K X.mg X.base Cy k f fd ps sp) (gd : X.A.guards = some []) (rm : Room k X.A) (bd : Binds X.K fd ps []) (pass : Passes Cy X E)
    (I : Inv X pins σ H s) (rel : Vals vs us) (ask : sp vs H Q E) : wpAny (model X.prog X.w) X.A (call (.ref f) us) (EP X pins σ Q) X.xe s := by
  have nus : us.length = ps.length := by rw [← rel.length]; exact G.len _ _ _ _ ask
  have bs := bd s us I.kIn (by rw [List.append_nil]; exact nus)
  rw [List.append_nil] at bs
  refine wpAny_call (codeAny_mono (G.run X.A X.stack s H ⟨us, []⟩ us vs Q E gd rm I.env0 bs rel ask) fun r s2 done => ?_)
  match r, done with
  | .error e, z => exact pass pins σ H s e s2 I z
  | .ok (.ret u), z => exact I.after z
/-- f(e, ..) -/
theorem pe_callG (G : FnG X.prog X.w X.K X.mg X.base Cy k f fd ps sp) (gd : X.A.guards = some []) (rm : Room k X.A) (hg : Gl X x) (hm : X.mg x = some (.ref f)) (kp : PySem.W.keepIn X.K (.ref f) = true) (bd : Binds X.K fd ps []) (pass : Passes Cy X E)
    (ha : PA X (e :: es) t) (nd : (x == ("__debug__" : Str)) = false) (he : starEach (e :: es) X.env = (false, eval e X.env) :: starEach es X.env) (hpl : (backTo pos (starEach es X.env)).any (·.1) = false) :
    PE X (.Call (.Name x p) (e :: es) [] pos) (fun σ H Q => t σ H fun vs H1 => sp vs H1 Q E) where
  run := fun pins s σ H Q I ask => wpAny_Call_Name_kw (ld_glob I hg hm (PySem.W.callWith_K (h₀ := X.base) I.ok.mod.kin kp (thn (ha.run pos pins s σ H _ I ask) fun us s1 ⟨vs, H1, I1, rel, q⟩ => ⟨I1.kIn, runG G gd rm bd pass I1 rel q⟩) he hpl) nd)
end

/-! ### the head -/
/-- the heap in which the law is entered: of what is tracked there is the script alone, if it is no object of the module -/
def entryH (K : PySem.W.Frag) (a : Addr) (o : Obj) (ns : List Int) : Hp := fun b => if b = a ∧ K.lookup a = none then some (.frz o (.lst (ns.map V.int))) else none
theorem entryH_some {K : PySem.W.Frag} {a b : Addr} {o : Obj} {ns : List Int} {u : HO} (h : entryH K a o ns b = some u) : b = a ∧ K.lookup a = none ∧ u = .frz o (.lst (ns.map V.int)) := by
  unfold entryH at h
  split at h
  · rename_i e; cases h; exact ⟨e.1, e.2, rfl⟩
  · cases h
theorem headG {P : Program} {w : World} {K : PySem.W.Frag} {mg mb : Str → Option Value} {k : Nat} {fa a : Addr} {fd : FuncData} {x : Str} {sp : Sp} {s : Shared} {us : List Value} {ns : List Int}
    (kin : K.In s.heap) (nm : s.heap.Ns mainGlobals mg) (nb : s.heap.Ns builtinsNs mb) (bb : ∀ x : Str, x ≠ "__name__" → mb x = bootBuiltins x) (nl : s.heap.NoLimit) (ng : s.gens = #[])
    (obj : s.heap.get? a = some { cls := .type "list", data := .seq us.toArray }) (ia : IntsAre us ns) (hl : ns.length ≤ sizeLine) (rm : Room k callerA)
    (G : ∀ base : Heap, K.In base → base.Ns mainGlobals mg → FnG P w K mg base CX0 k fa fd [x] sp) (bd : ∀ (s : Shared) (u : Value), BindsTo s fd ⟨[u], []⟩ [(x, u)])
    (hsp : ∀ H : Hp, SqL K H a (ns.map V.int) → sp [.ref a] H (fun v _ => v = .bl true) E0) :
    codeAny (model P w) callerA (.call (.ref fa) ⟨[.ref a], []⟩) (fun r s' => r = .ok (.ret (.bool true)) ∧ OldK s.heap s'.heap ∧ s'.os = s.os ∧ AllBare s'.gens) s := by
  have rv : Vals (ns.map V.int) us := vals_ints ia
  have lu := ia.length
  generalize ho : ({ cls := .type "list", data := .seq us.toArray } : Obj) = o at obj
  have sq : SqL K (entryH K a o ns) a (ns.map V.int) := by
    cases hk : K.lookup a with
    | none => exact .inl (.inr ⟨o, by unfold entryH; rw [if_pos ⟨rfl, hk⟩]⟩)
    | some o2 =>
      have e := kin a o2 hk
      rw [obj] at e
      cases e
      subst ho
      exact .inr ⟨_, us.toArray, _, hk, rfl, rfl, rfl, by rw [List.size_toArray, lu]; exact hl, by simpa using rv⟩
  have hok : HOk P w (entryH K a o ns) s.heap := fun b u z => by
    obtain ⟨rfl, _, rfl⟩ := entryH_some z
    subst ho
    show s.heap.get? b = some _ ∧ _
    exact ⟨obj, by rw [List.length_map]; exact hl, us, _, rv, obj⟩
  have keep : ∀ {b : Addr} {o' : Obj}, s.heap.get? b = some o' → entryH K a o ns b = none → (hidT s.heap (entryH K a o ns)).get? b = some o' := fun e n => hidT_get e n
  have nodict : ∀ {b : Addr} {o' : Obj} {es : Array DictEntry} {ep : Nat}, s.heap.get? b = some o' → o'.data = .dict es ep → entryH K a o ns b = none := fun {b o' es ep} e d => by
    cases q : entryH K a o ns b with
    | none => rfl
    | some u =>
      obtain ⟨rfl, _, _⟩ := entryH_some q
      rw [obj] at e
      cases e
      subst ho
      cases d
  have ns' : ∀ {b : Addr} {m : Str → Option Value}, s.heap.Ns b m → (hidT s.heap (entryH K a o ns)).Ns b m := fun ⟨o', es, ep, e, d, r⟩ => ⟨o', es, ep, keep e (nodict e d), d, r⟩
  have kb : K.In (hidT s.heap (entryH K a o ns)) := fun b o' e => keep (kin b o' e) (by
    cases q : entryH K a o ns b with
    | none => rfl
    | some u =>
      obtain ⟨rfl, z, _⟩ := entryH_some q
      rw [z] at e; cases e)
  have md : Mod K mg (hidT s.heap (entryH K a o ns)) := ⟨kb, ns' nm, ⟨mb, ns' nb, bb⟩, let ⟨m, h1, h2⟩ := nl; ⟨m, ns' h1, h2⟩⟩
  have e0 : Env0 P w K mg (hidT s.heap (entryH K a o ns)) callerA [] s (entryH K a o ns) := ⟨rfl, md, fun b o' e => of_hidT e, Nat.le_of_eq (hidT_size _ _), trivial, fun b hb => absurd (show b ∈ ([] : List Addr) from hb) (by simp), hok, .of_eq ng⟩
  refine codeAny_mono ((G _ kb (ns' nm)).run callerA [] s (entryH K a o ns) ⟨[.ref a], []⟩ [.ref a] [.ref a] _ _ rfl rm e0 (bd s (.ref a)) (.cons rfl .nil) (hsp _ sq)) fun r s2 done => ?_
  match r, done with
  | .ok (.ret u), ⟨v, H2, os, bare, un, hok2, ru, q⟩ =>
    replace q : v = .bl true := q
    subst q
    cases ru
    refine ⟨rfl, OldK.of_keep fun b o' e => ?_, os, bare⟩
    cases q : entryH K a o ns b with
    | none => exact un.keep b o' e q (fun z => by cases z) (by simp)
    | some u =>
      obtain ⟨rfl, _, rfl⟩ := entryH_some q
      obtain ⟨e1, _⟩ := hok2 b _ (un.frzs b o _ q)
      rw [obj] at e; cases e
      exact e1
/-- the goal that k_head leaves -/
theorem walkG {l : PySem.W.OpenLaw} {n k : Nat} {q : Program} {loose : List Str} {XP : (Str → Option Value) → Heap → Prop} {YP : World → Heap → Prop} {d : DefRec} {K : Params → PySem.W.Frag} {sp : PySem.W.Frag → Sp} {x : Str}
    (hn : l.most = some n) (hn2 : n ≤ sizeLine) (hdf : d.params.defaults = []) (rm : Room k callerA) (hY : ∀ (w : World) (h : Heap), YP w h → (K w.params).In h)
    (F : ∀ (w : World) (mg : Str → Option Value) (fa : Addr) (h : Heap), (K w.params).In h → h.Ns mainGlobals mg → mg d.name = some (.ref fa) →
      ∃ fd : FuncData, (∀ (s : Shared) (u : Value), BindsTo s fd ⟨[u], []⟩ [(x, u)]) ∧ ∀ base : Heap, (K w.params).In base → base.Ns mainGlobals mg → FnG l.prog w (K w.params) mg base CX0 k fa fd [x] (sp (K w.params)))
    (hsp : ∀ (w : World) (H : Hp) (a : Addr) (ns : List Int), ns.length ≤ n → SqL (K w.params) H a (ns.map V.int) → sp (K w.params) [.ref a] H (fun v _ => v = .bl true) E0) :
    PySem.W.WalkO q loose XP YP l.row.toRowW d [] (fun f vs => PySem.call f vs) :=
  Att.attach_call hn hdf fun w _ s1 mg mb fa o pm cd doc a vs ns G Y _ _ _ hmg hobj hints hlen hg =>
    have kin := hY w _ Y
    let ⟨_, hb, hF⟩ := F w mg fa _ kin G.T.g hmg
    headG kin G.T.g G.T.b G.T.builtins G.T.nolimit hg hobj hints (Nat.le_trans hlen hn2) rm hF hb fun H hS => hsp w H a ns hlen hS
end Z

set_option Elab.async false
set_option linter.all false
set_option maxRecDepth 100000
set_option autoImplicit false
/-! # Z7: defs by their mirrors, calls of them; the source of choices handed on -/
namespace Z
open PySem L2

/-- the promise of a def that changes nothing -/
def spP (K : PySem.W.Frag) (n : Nat) (fm : List D → R D) : Sp := fun vs H Q _ => ∃ F ds r, vs.length = n ∧ Same F H ∧ RpAll K F vs ds ∧ fm ds = .ok r ∧ ∀ v H' F', Fx F H F' H' → Rp K F' v r → Q v H'
structure FnP (C : Ct) (n : Str) (k : Nat) (fm : List D → R D) : Prop where
  ex : ∃ f fd ps j, j ≤ C.k ∧ FnG C.P C.w C.K C.mg C.base CX0 j f fd ps (spP C.K k fm) ∧ C.mg n = some (.ref f) ∧ PySem.W.keepIn C.K (.ref f) = true ∧ Binds C.K fd ps []

/-- what is changed lies at as alone -/
structure Gx (F H F' H' : Hp) (as : List Addr) : Prop where
  ff : Same F F'
  fh : Same F' H'
  hh : ∀ b o, H b = some o → b ∉ as → H' b = some o
  trk : ∀ b o, H b = some o → ∃ o', H' b = some o'
  new : ∀ b o, F' b = some o → F b = some o ∨ H b = none ∨ b ∈ as
theorem Gx.none {F H F' H' : Hp} {as : List Addr} (x : Gx F H F' H' as) {p : Addr} {u : HO} (hf : F p = none) (h : H p = some u) (hn : p ∉ as) : F' p = none := by
  cases q : F' p with
  | none => rfl
  | some o =>
    rcases x.new p o q with z | z | z
    · rw [hf] at z; cases z
    · rw [h] at z; cases z
    · exact absurd z hn
theorem SlR.gstep {K : PySem.W.Frag} {F H F' H' : Hp} {bs : List Addr} (x : Gx F H F' H' bs) : ∀ {sl : Sl} {v : V} {as : List Addr}, SlR K F H sl v as → (∀ b ∈ as, b ∉ bs) → SlR K F' H' sl v as
  | .val d, v, as, ⟨h, e⟩, _ => ⟨h.mono x.ff, e⟩
  | .own xs, v, as, ⟨p, vs, e1, e2, h, hf, r⟩, n => ⟨p, vs, e1, e2, x.hh _ _ h (n p (by rw [e2]; simp)), x.none hf h (n p (by rw [e2]; simp)), r.mono x.ff⟩
  | .src a s, v, as, ⟨c, e1, e2, ne, ha, hc, h1, h2, l⟩, n => ⟨c, e1, e2, ne, x.none ha h1 (n a (by rw [e2]; simp)), x.none hc h2 (n c (by rw [e2]; simp)), x.hh _ _ h1 (n a (by rw [e2]; simp)), x.hh _ _ h2 (n c (by rw [e2]; simp)), l⟩
  | .scr ns, v, as, ⟨a, e1, h, l, e2⟩, n => ⟨a, e1, x.ff.seq h, l, e2⟩
  | .dct kvs, v, as, ⟨p, xs, e1, e2, h, hf, r⟩, n => ⟨p, xs, e1, e2, x.hh _ _ h (n p (by rw [e2]; simp)), x.none hf h (n p (by rw [e2]; simp)), r.mono x.ff⟩
theorem SlR.there {K : PySem.W.Frag} {F H : Hp} {sl : Sl} {v : V} {as : List Addr} (h : SlR K F H sl v as) : ∀ b ∈ as, F b = none ∧ ∃ o, H b = some o := by
  intro b hb
  cases sl with
  | val d => rw [h.2] at hb; cases hb
  | own xs =>
    obtain ⟨p, vs, _, e2, h1, hf, _⟩ := h
    rw [e2] at hb
    have : b = p := by simpa using hb
    subst this; exact ⟨hf, _, h1⟩
  | src a s =>
    obtain ⟨c, _, e2, _, ha, hc, h1, h3, _⟩ := h
    rw [e2] at hb
    have : b = a ∨ b = c := by simpa using hb
    rcases this with rfl | rfl
    · exact ⟨ha, _, h1⟩
    · exact ⟨hc, _, h3⟩
  | scr ns =>
    obtain ⟨_, _, _, _, e2⟩ := h
    rw [e2] at hb; cases hb
  | dct kvs =>
    obtain ⟨p, xs, _, e2, h1, hf, _⟩ := h
    rw [e2] at hb
    have : b = p := by simpa using hb
    subst this; exact ⟨hf, _, h1⟩
theorem Rel.slot {W : Wd} {ρ : Env} {σ : L2.St} {H F : Hp} (r : Rel W ρ σ H F) {i : Nat} {sl : Sl} (e : ρ[i]? = some (some sl)) : ∃ v as, σ[i]? = some (some v) ∧ SlR W.K F H sl v as ∧ (∀ b ∈ as, b ∈ W.io ∨ W.H0 b = none) ∧
    ∀ {F' H' : Hp} {sl' : Sl} {as' : List Addr} , Gx F H F' H' as → SlR W.K F' H' sl' v as' → (∀ b ∈ as', b ∈ as ∨ H b = none) → Rel W (ρ.set i (some sl')) σ H' F' := by
  obtain ⟨ad, k⟩ := r.env
  obtain ⟨v, h1, h2, h3, h4⟩ := k i sl e
  have up : ∀ b, H b = none → W.H0 b = none := fun b h => by
    cases e : W.H0 b with
    | none => rfl
    | some u => obtain ⟨o, q⟩ := r.trk b u e; rw [h] at q; cases q
  refine ⟨v, ad i, h1, h2, h3, fun {F' H' sl' as'} gx hs hn => ?_⟩
  refine ⟨gx.fh, r.sub0.trans gx.ff, fun b o h n => gx.hh b o (r.keep b o h n) fun hb => ?_, fun b o h => ?_, ⟨fun j => if j = i then as' else ad j, fun j slj ej => ?_⟩, by rw [List.length_set]; exact r.len, fun b o h => ?_⟩
  · rcases h3 b hb with q | q
    · exact n q
    · rw [h] at q; cases q
  · rcases gx.new b o h with q | q | q
    · exact r.fresh b o q
    · exact .inr (.inl (up b q))
    · exact .inr ((h3 b q).elim .inr .inl)
  · rcases get_set ej with ⟨e1, e2, e3⟩ | ⟨e1, e2⟩
    · subst e1; cases e3
      simp only [if_true]
      refine ⟨v, h1, hs, fun b hb => (hn b hb).elim (h3 b) fun q => .inr (up b q), fun l sl'' hl e' b hb => ?_⟩
      have ne : l ≠ i := fun q => hl q.symm
      simp only [if_neg ne]
      rcases get_set e' with ⟨z1, _, _⟩ | ⟨z1, z2⟩
      · exact absurd z1 hl
      · intro hbl
        obtain ⟨v', k1, k2, _, k4⟩ := k l sl'' z2
        rcases hn b hb with q | q
        · exact h4 l sl'' hl z2 b q hbl
        · obtain ⟨_, o, q'⟩ := k2.there b hbl
          rw [q] at q'; cases q'
    · have ne : j ≠ i := fun q => e1 q.symm
      simp only [if_neg ne]
      obtain ⟨v', k1, k2, k3, k4⟩ := k j slj e2
      refine ⟨v', k1, k2.gstep gx (k4 i sl ne e), k3, fun l sl'' hl e' b hb => ?_⟩
      rcases get_set e' with ⟨z1, z2, z3⟩ | ⟨z1, z2⟩
      · subst z1; cases z3
        simp only [if_true]
        intro hbl
        rcases hn b hbl with q | q
        · exact k4 i sl ne e b hb q
        · obtain ⟨_, o, q'⟩ := k2.there b hb
          rw [q] at q'; cases q'
      · have ne' : l ≠ i := fun q => z1 q.symm
        simp only [if_neg ne']
        exact k4 l sl'' hl z2 b hb
  · obtain ⟨o', q⟩ := r.trk b o h
    exact gx.trk b o' q
/-- the promise of a def whose first argument is the source -/
def spS (K : PySem.W.Frag) (n : Nat) (fm : Src → List D → R (D × Src)) : Sp := fun vs H Q _ => ∃ F a s as ws ds r s', vs = .ref a :: ws ∧ ws.length = n ∧ Same F H ∧ SlR K F H (.src a s) (.ref a) as ∧ RpAll K F ws ds ∧ fm s ds = .ok (r, s') ∧
  ∀ v H' F' as', Gx F H F' H' as → SlR K F' H' (.src a s') (.ref a) as' → (∀ b ∈ as', b ∈ as ∨ H b = none) → Rp K F' v r → Q v H'
structure FnS (C : Ct) (n : Str) (k : Nat) (fm : Src → List D → R (D × Src)) : Prop where
  ex : ∃ f fd ps j, j ≤ C.k ∧ FnG C.P C.w C.K C.mg C.base CX0 j f fd ps (spS C.K k fm) ∧ C.mg n = some (.ref f) ∧ PySem.W.keepIn C.K (.ref f) = true ∧ Binds C.K fd ps []

section
variable {α : Type} {C : Ct} {ρ : Env} {m : R α}
theorem fnAt {C : Ct} {X : Cx} (x : XOk C X) {CX : CXT} {j : Nat} {f : Addr} {fd : FuncData} {ps : List Str} {sp : Sp} (h : FnG C.P C.w C.K C.mg C.base CX j f fd ps sp) (hj : j ≤ C.k) : FnG X.prog X.w X.K X.mg X.base CX C.k f fd ps sp := by
  rw [x.prog, x.w, x.K, x.mg, x.base]; exact h.mono hj
theorem de_call {κ : D → Env → R α → Prop} {n : Str} {k : Nat} {fm : List D → R D} {p pos : Pos} {e : Expr} {es : List Expr} (G : FnP C n k fm)
    (h : DA C ρ (e :: es) m fun ds ρ1 m1 => ds.length = k ∧ ∃ (rr : R D) (g : D → R α), fm ds = rr ∧ m1 = rr.bind g ∧ ∀ r, κ r ρ1 (g r)) (hg : C.sc.names.lookup n = some .globalImplicit := by rfl) (hdb : (n == ("__debug__" : Str)) = false := by decide)
    (he : ∀ env : PySem.Env, starEach (e :: es) env = (false, eval e env) :: starEach es env := by intro _; rfl) (hpl : ∀ env : PySem.Env, (backTo pos (starEach es env)).any (·.1) = false := by intro _; rfl) : DE C ρ (.Call (.Name n p) (e :: es) [] pos) m κ := by
  intro X W Z x hK c z
  obtain ⟨f, fd, ps, j, hj, ok, hm, kp, b⟩ := G.ex
  refine PE_imp (pe_callG (fnAt x ok hj) x.grd x.room (x.gl hg) (by rw [x.mg]; exact hm) (by rw [x.K]; exact kp) (by rw [x.K]; exact b) pass0 (h X W Z x hK c z) hdb (he _) (hpl _)) fun σ H Q ⟨F, r, q⟩ => ⟨F, r, fun ds ρ' m' vs H' F' ⟨hl, r0, g, e0, e1, hg⟩ h2 h3 h4 h5 => ?_⟩
  subst e0 e1
  obtain ⟨rr, er, zr⟩ := c.bind h2
  show spP C.K k fm vs H' Q E0
  exact ⟨F', ds, rr, by rw [h5.length]; exact hl, h3.sub, by rw [← hK]; exact h5, er, fun v H2 F2 fx p => q _ ρ' _ v H2 F2 (hg rr) zr (h3.step fx) (h4.trans fx.ff) (by rw [hK]; exact p)⟩
/-- f(source, ..) -/
theorem de_callS {κ : D → Env → R α → Prop} {n x0 : Str} {k : Nat} {fm : Src → List D → R (D × Src)} {p p0 pos : Pos} {es : List Expr} (i : Nat) {a0 : Addr} {s0 : Src} (G : FnS C n k fm) (hρ : ρ[i]? = some (some (.src a0 s0)))
    (h : DA C ρ es m fun ds ρ1 m1 => ds.length = k ∧ ∃ (s : Src) (r0 : R (D × Src)) (g : D × Src → R α), ρ1[i]? = some (some (.src a0 s)) ∧ fm s ds = r0 ∧ m1 = r0.bind g ∧ ∀ r s', κ r (ρ1.set i (some (.src a0 s'))) (g (r, s'))) (hN : C.N[i]? = some x0 := by rfl)
    (hv : Vis C.sc x0 := by first | exact Or.inl rfl | exact Or.inr (Or.inl rfl) | exact Or.inr (Or.inr rfl)) (hg : C.sc.names.lookup n = some .globalImplicit := by rfl) (hdb : (n == ("__debug__" : Str)) = false := by decide) (hd : (x0 == ("__debug__" : Str)) = false := by decide) (hcd : (x0 == ("__classdict__" : Str)) = false := by decide)
    (he : ∀ env : PySem.Env, starEach (.Name x0 p0 :: es) env = (false, eval (.Name x0 p0) env) :: starEach es env := by intro _; rfl) (hpl : ∀ env : PySem.Env, (backTo pos (starEach es env)).any (·.1) = false := by intro _; rfl) : DE C ρ (.Call (.Name n p) (.Name x0 p0 :: es) [] pos) m κ := by
  intro X W Z x hK c z
  obtain ⟨f, fd, ps, j, hj, ok, hm, kp, b⟩ := G.ex
  have pa := pa_cons (pe_var (i := i) (pos := p0) (by rw [x.N]; exact hN) (x.vis hv) hd hcd) (h X W Z x hK c z) (he _)
  refine PE_imp (pe_callG (fnAt x ok hj) x.grd x.room (x.gl hg) (by rw [x.mg]; exact hm) (by rw [x.K]; exact kp) (by rw [x.K]; exact b) pass0 pa hdb (he _) (hpl _)) fun σ H Q ⟨F, r, q⟩ => ?_
  obtain ⟨v0, as0, e0, _, _, _⟩ := r.slot hρ
  refine ⟨v0, e0, F, r, fun ds ρ' m' vs H' F' ⟨hl, s, r0, g, es', e00, e1, hg⟩ h2 h3 h4 h5 => ?_⟩
  subst e00 e1
  obtain ⟨⟨rr, s'⟩, er, zr⟩ := c.bind h2
  show spS C.K k fm (v0 :: vs) H' Q E0
  obtain ⟨v1, as, e2, hsl, _, up⟩ := h3.slot es'
  rw [e0] at e2; cases e2
  obtain ⟨cc, ev, rest⟩ := id hsl
  subst ev
  refine ⟨F', a0, s, as, vs, ds, rr, s', rfl, by rw [h5.length]; exact hl, h3.sub, by rw [← hK]; exact hsl, by rw [← hK]; exact h5, er, fun v H2 F2 as' gx hs hn pv => ?_⟩
  exact q _ _ _ v H2 F2 (hg rr s') zr (up gx (by rw [hK]; exact hs) hn) (h4.trans gx.ff) (by rw [hK]; exact pv)

/-! ### a def's body -/
def Jf : Jd D := { nx := fun _ m => m = .ok .none, rt := fun d _ m => m = .ok d, bk := fun _ _ => False, ct := fun _ _ => False }
def JfS (a : Addr) : Jd (D × Src) := { nx := fun ρ m => ∃ s, ρ[0]? = some (some (.src a s)) ∧ m = .ok (.none, s), rt := fun d ρ m => ∃ s, ρ[0]? = some (some (.src a s)) ∧ m = .ok (d, s), bk := fun _ _ => False, ct := fun _ _ => False }
def startE (N : List Str) (sls : List Sl) : Env := sls.map some ++ List.replicate (N.length - sls.length) none
theorem startE_get {N : List Str} {sls : List Sl} {i : Nat} {sl : Sl} (h : (startE N sls)[i]? = some (some sl)) : sls[i]? = some sl := by
  unfold startE at h
  by_cases hi : i < sls.length
  · rw [List.getElem?_append_left (by simpa using hi), List.getElem?_map] at h
    cases e : sls[i]? with
    | none => rw [e] at h; cases h
    | some u => rw [e] at h; cases h; rfl
  · rw [List.getElem?_append_right (by simpa using hi), List.getElem?_replicate] at h
    split at h <;> cases h
theorem start_get {N : List Str} {vs : List V} {i : Nat} {v : V} (h : vs[i]? = some v) : (start N vs)[i]? = some (some v) := by
  unfold L2.start
  obtain ⟨hl, e⟩ := List.getElem?_eq_some_iff.mp h
  rw [List.getElem?_append_left (by simpa using hl), List.getElem?_map, h]; rfl
theorem fnP_of {P : Program} {w : World} {K : PySem.W.Frag} {mg : Str → Option Value} {base : Heap} {x qual : Str} {st : Stmt} {f : Addr} {fd : FuncData} {N ps : List Str} {k n : Nat} {fm : List D → R D} (F : Fun K x qual st f fd) (S : FnScope N ps (defScope st)) (hn : ps.length = n)
    (h : ∀ ds : List D, ds.length = n → DSs ⟨P, w, K, mg, base, k, N, defScope st, fun _ => true⟩ (startE N (ds.map .val)) (defBody st) (fm ds) Jf) : FnG P w K mg base CX0 (k + 1) f fd ps (spP K n fm) := by
  refine okG F S (fun vs H Q E h => ?_) (fun cdv A outer s H vs Q E gd hr hsp => ?_)
  · obtain ⟨_, _, _, hl, _⟩ := h
    rw [hl, hn]
  · obtain ⟨F0, ds, r, hl, sub, rd, er, q⟩ := hsp
    have hds : ds.length = n := by rw [← rd.length]; exact hl
    have xo : XOk ⟨P, w, K, mg, base, k, N, defScope st, fun _ => true⟩ (cxOf CX0 P w K mg base N qual (defScope st) f cdv A outer s H E).nox :=
      ⟨rfl, rfl, rfl, rfl, rfl, rfl, S.nd, rfl, rfl, hr, gd, PassesOwn.never, fun _ _ => rfl⟩
    have cl : Cl fun r' : R D => r' = .ok r := ⟨(fun e => nomatch e), (fun _ _ e => nomatch e)⟩
    refine ⟨_, (h ds hds _ ⟨K, F0, H, []⟩ _ xo rfl cl er).nox, F0, ?_, ⟨fun ρ m σ H' F' h1 h2 h3 => ?_, fun d ρ m v σ H' F' h1 h2 h3 h4 => ?_, fun _ _ _ _ _ h => h.elim, fun _ _ _ _ _ h => h.elim, fun _ _ _ _ _ _ _ h => h.elim⟩⟩
    · refine VRel.rel (K := K) ⟨fun i d e => ?_, ?_⟩ (fun i sl e => ?_) sub
      · have e1 := startE_get e
        rw [List.getElem?_map] at e1
        cases e2 : ds[i]? with
        | none => rw [e2] at e1; cases e1
        | some d' =>
          rw [e2] at e1; cases e1
          obtain ⟨v, h1, h2⟩ := rd.at e2
          exact ⟨v, start_get h1, h2⟩
      · unfold startE L2.start; simp; omega
      · have e1 := startE_get e
        rw [List.getElem?_map] at e1
        cases e2 : ds[i]? with
        | none => rw [e2] at e1; cases e1
        | some d' => rw [e2] at e1; cases e1; exact ⟨d', rfl⟩
    · rw [h2] at h1; cases h1
      exact q .non H' F' h3.fx .non
    · rw [h2] at h1; cases h1
      exact q v H' F' h3.fx h4
theorem fnS_of {P : Program} {w : World} {K : PySem.W.Frag} {mg : Str → Option Value} {base : Heap} {x qual : Str} {st : Stmt} {f : Addr} {fd : FuncData} {N ps : List Str} {k n : Nat} {fm : Src → List D → R (D × Src)} (F : Fun K x qual st f fd) (S : FnScope N ps (defScope st)) (hn : ps.length = n + 1)
    (h : ∀ (a : Addr) (s : Src) (ds : List D), ds.length = n → DSs ⟨P, w, K, mg, base, k, N, defScope st, fun _ => true⟩ (startE N (.src a s :: ds.map .val)) (defBody st) (fm s ds) (JfS a)) : FnG P w K mg base CX0 (k + 1) f fd ps (spS K n fm) := by
  refine okG F S (fun vs H Q E h => ?_) (fun cdv A outer s H vs Q E gd hr hsp => ?_)
  · obtain ⟨_, _, _, _, ws, _, _, _, e, hl, _⟩ := h
    rw [e, List.length_cons, hl, hn]
  · obtain ⟨F0, a, so, as, ws, ds, r, s', e0, hl, sub, hsl, rd, er, q⟩ := hsp
    subst e0
    have hds : ds.length = n := by rw [← rd.length]; exact hl
    have xo : XOk ⟨P, w, K, mg, base, k, N, defScope st, fun _ => true⟩ (cxOf CX0 P w K mg base N qual (defScope st) f cdv A outer s H E).nox :=
      ⟨rfl, rfl, rfl, rfl, rfl, rfl, S.nd, rfl, rfl, hr, gd, PassesOwn.never, fun _ _ => rfl⟩
    have cl : Cl fun r' : R (D × Src) => r' = .ok (r, s') := ⟨(fun e => nomatch e), (fun _ _ e => nomatch e)⟩
    have fin : ∀ {ρ : Env} {σ : L2.St} {H' F' : Hp} {v : V}, Rel ⟨K, F0, H, as⟩ ρ σ H' F' → ρ[0]? = some (some (.src a s')) → Rp K F' v r → Q v H' := fun {ρ σ H' F' v} rl e pv => by
      obtain ⟨v1, as', e1, h1, h2, _⟩ := rl.slot e
      obtain ⟨_, ev, _⟩ := id h1
      subst ev
      exact q v H' F' as' ⟨rl.sub0, rl.sub, fun b o h n => rl.keep b o h n, rl.trk, rl.fresh⟩ h1 h2 pv
    refine ⟨_, (h a so ds hds _ ⟨K, F0, H, as⟩ _ xo rfl cl er).nox, F0, ?_, ⟨fun ρ m σ H' F' ⟨s2, e1, e2⟩ h2 h3 => ?_, fun d ρ m v σ H' F' ⟨s2, e1, e2⟩ h2 h3 h4 => ?_, fun _ _ _ _ _ h => h.elim, fun _ _ _ _ _ h => h.elim, fun _ _ _ _ _ _ _ h => h.elim⟩⟩
    · refine ⟨sub, Same.refl _, fun b o h _ => h, fun b o h => .inl h, ⟨fun i => if i = 0 then as else [], fun i sl e => ?_⟩, by unfold startE L2.start; simp; omega, fun b o h => ⟨o, h⟩⟩
      have e1 := startE_get e
      cases i with
      | zero =>
        have e2 : sl = .src a so := by simpa using e1.symm
        subst e2
        refine ⟨.ref a, start_get rfl, hsl, fun b hb => .inl hb, fun j sl' hj e' b hb => ?_⟩
        have ne : j ≠ 0 := fun q => hj q.symm
        simp [ne]
      | succ i =>
        have e2 : (ds.map Sl.val)[i]? = some sl := by simpa using e1
        rw [List.getElem?_map] at e2
        cases e3 : ds[i]? with
        | none => rw [e3] at e2; cases e2
        | some d' =>
          rw [e3] at e2; cases e2
          obtain ⟨v, h1, h2⟩ := rd.at e3
          refine ⟨v, start_get (by simpa using h1), ⟨h2, by simp⟩, by simp, by simp⟩
    · rw [h2] at e2; cases e2
      exact fin h3 e1 .non
    · rw [h2] at e2; cases e2
      exact fin h3 e1 h4
end
end Z

set_option Elab.async false
set_option linter.all false
set_option maxRecDepth 100000
set_option autoImplicit false
/-! # ZD: dicts whose keys are nested tuples of whole numbers -/
namespace Z
open PySem L2

/-! ### keys -/
mutual
theorem nk_hash (w w' : World) : ∀ (d : D) (k : NestedKey), nk d = some k → k.hash w = k.hash w'
  | .int i, k, h => by simp only [nk, Option.some.injEq] at h; subst h; rfl
  | .tuple xs, k, h => by
    simp only [nk] at h
    obtain ⟨ks, e, rfl⟩ := Option.map_eq_some_iff.mp h
    simp only [NestedKey.hash]
    rw [nkAll_hash w w' xs ks e]
  | .none, k, h => by simp [nk] at h
  | .bool _, k, h => by simp [nk] at h
  | .str _, k, h => by simp [nk] at h
  | .list _, k, h => by simp [nk] at h
  | .dict _, k, h => by simp [nk] at h
theorem nkAll_hash (w w' : World) : ∀ (ds : List D) (ks : List NestedKey), nkAll ds = some ks → NestedKey.hashes w ks = NestedKey.hashes w' ks
  | [], ks, h => by simp only [nkAll, Option.some.injEq] at h; subst h; rfl
  | d :: ds, ks, h => by
    simp only [nkAll] at h
    obtain ⟨k, e1, h2⟩ := Option.bind_eq_some_iff.mp h
    obtain ⟨ks', e2, rfl⟩ := Option.map_eq_some_iff.mp h2
    simp only [NestedKey.hashes]
    rw [nk_hash w w' d k e1, nkAll_hash w w' ds ks' e2]
end
mutual
theorem nk_inj : ∀ (d e : D) (k : NestedKey), nk d = some k → nk e = some k → d = e
  | .int i, e, k, h, h' => by
    simp only [nk, Option.some.injEq] at h; subst h
    cases e with
    | int j => simp only [nk, Option.some.injEq, NestedKey.num.injEq] at h'; rw [h']
    | tuple ys =>
      simp only [nk] at h'
      obtain ⟨_, _, q⟩ := Option.map_eq_some_iff.mp h'
      cases q
    | _ => simp [nk] at h'
  | .tuple xs, e, k, h, h' => by
    simp only [nk] at h
    obtain ⟨ks, e1, rfl⟩ := Option.map_eq_some_iff.mp h
    cases e with
    | tuple ys =>
      simp only [nk] at h'
      obtain ⟨ks', e2, q⟩ := Option.map_eq_some_iff.mp h'
      cases q
      rw [nkAll_inj xs ys ks e1 e2]
    | int j => simp [nk] at h'
    | _ => simp [nk] at h'
  | .none, _, k, h, _ => by simp [nk] at h
  | .bool _, _, k, h, _ => by simp [nk] at h
  | .str _, _, k, h, _ => by simp [nk] at h
  | .list _, _, k, h, _ => by simp [nk] at h
  | .dict _, _, k, h, _ => by simp [nk] at h
theorem nkAll_inj : ∀ (ds es : List D) (ks : List NestedKey), nkAll ds = some ks → nkAll es = some ks → ds = es
  | [], es, ks, h, h' => by
    simp only [nkAll, Option.some.injEq] at h; subst h
    cases es with
    | nil => rfl
    | cons e es =>
      simp only [nkAll] at h'
      obtain ⟨_, _, h2⟩ := Option.bind_eq_some_iff.mp h'
      obtain ⟨_, _, q⟩ := Option.map_eq_some_iff.mp h2
      cases q
  | d :: ds, es, ks, h, h' => by
    simp only [nkAll] at h
    obtain ⟨k, e1, h2⟩ := Option.bind_eq_some_iff.mp h
    obtain ⟨ks', e2, rfl⟩ := Option.map_eq_some_iff.mp h2
    cases es with
    | nil => simp [nkAll] at h'
    | cons e es =>
      simp only [nkAll] at h'
      obtain ⟨_, f1, g2⟩ := Option.bind_eq_some_iff.mp h'
      obtain ⟨_, f2, q⟩ := Option.map_eq_some_iff.mp g2
      cases q
      rw [nk_inj d e k e1 f1, nkAll_inj ds es ks' e2 f2]
end
theorem keyN_nk {d : D} {k : NestedKey} (h : keyN d = some k) : nk d = some k ∧ k.depth ≤ 8 ∧ ∃ xs, d = .tuple xs := by
  unfold keyN at h
  split at h
  · obtain ⟨k', e1, h2⟩ := Option.bind_eq_some_iff.mp h
    split at h2
    · rename_i hz; cases h2
      exact ⟨e1, by simpa using hz, _, rfl⟩
    · cases h2
  · cases h

section
variable {X : Cx} {pins : List (Addr × Obj)} {σ : L2.St} {H F : Hp} {s : Shared}
mutual
theorem nkIs (I : Inv X pins σ H s) (e : Same F H) : ∀ {v : V} {d : D}, Rp X.K F v d → ∀ {u : Value} {k : NestedKey}, RelV v u → nk d = some k → NestedIs s.heap k u
  | _, _, .int i, u, k, r, h => by
    simp only [nk, Option.some.injEq] at h; subst h
    obtain ⟨t, rfl⟩ := r
    exact .int _ _
  | _, _, .tup ha ra, u, k, r, h => by
    simp only [nk] at h
    obtain ⟨ks, e1, rfl⟩ := Option.map_eq_some_iff.mp h
    cases r
    obtain ⟨its, rv, ⟨o, ho, hc, n, hd⟩, _⟩ := I.tuple (seqT e ha)
    exact .tup ho hc hd (by simpa using nkIsAll I e ra rv e1)
  | _, _, .non, u, k, r, h => by simp [nk] at h
  | _, _, .bl b, u, k, r, h => by simp [nk] at h
  | _, _, .str x, u, k, r, h => by simp [nk] at h
  | _, _, .lst _ _, u, k, r, h => by simp [nk] at h
  | _, _, .dct _ _ _ _, u, k, r, h => by simp [nk] at h
theorem nkIsAll (I : Inv X pins σ H s) (e : Same F H) : ∀ {vs : List V} {ds : List D}, RpAll X.K F vs ds → ∀ {us : List Value} {ks : List NestedKey}, Vals vs us → nkAll ds = some ks → NestedAll s.heap ks us
  | _, _, .nil, us, ks, r, h => by
    simp only [nkAll, Option.some.injEq] at h; subst h
    cases r; exact .nil
  | _, _, .cons ra rt, us, ks, r, h => by
    simp only [nkAll] at h
    obtain ⟨k, e1, h2⟩ := Option.bind_eq_some_iff.mp h
    obtain ⟨ks', e2, rfl⟩ := Option.map_eq_some_iff.mp h2
    cases r with
    | cons r1 r2 => exact .cons (nkIs I e ra r1 e1) (nkIsAll I e rt r2 e2)
end
theorem key_is (I : Inv X pins σ H s) (e : Same F H) {b : Addr} {d : D} {k : NestedKey} (h : Rp X.K F (.ref b) d) (hk : nk d = some k) (hd : k.depth ≤ 8) : (nestedKind X.prog X.w).is s.heap k b := ⟨nkIs I e h rfl hk, hd⟩
theorem key_ref {K : PySem.W.Frag} {v : V} {d : D} {k : NestedKey} (h : Rp K F v d) (hk : keyN d = some k) : ∃ b, v = .ref b := by
  obtain ⟨_, _, xs, rfl⟩ := keyN_nk hk
  cases h with | tup a b => exact ⟨_, rfl⟩
end

/-! ### entries -/
/-- an item (key, value) as data, an entry of the library's -/
def DR (K : PySem.W.Frag) (F : Hp) (p : D × D) (x : NestedKey × Addr × Value) : Prop := Rp K F (.ref x.2.1) p.1 ∧ nk p.1 = some x.1 ∧ ∃ v, RelV v x.2.2 ∧ Rp K F v p.2
theorem DR.mono {K : PySem.W.Frag} {F F' : Hp} (e : Same F F') {p : D × D} {x : NestedKey × Addr × Value} (h : DR K F p x) : DR K F' p x := by
  obtain ⟨a, b, v, c, d⟩ := h
  exact ⟨a.mono e, b, v, c, d.mono e⟩
theorem paired_imp {α β : Type} {R S : α → β → Prop} (f : ∀ a b, R a b → S a b) : ∀ {l : List α} {m : List β}, Paired R l m → Paired S l m
  | _, _, .nil => .nil
  | _, _, .cons h t => .cons (f _ _ h) (paired_imp f t)
theorem paired_len {α β : Type} {R : α → β → Prop} : ∀ {l : List α} {m : List β}, Paired R l m → l.length = m.length
  | _, _, .nil => rfl
  | _, _, .cons _ t => by simp [paired_len t]
theorem dget_rel {K : PySem.W.Frag} {F : Hp} {k : NestedKey} : ∀ {kvs : List (D × D)} {xs : List (NestedKey × Addr × Value)}, Paired (DR K F) kvs xs →
    (dGet kvs k = none ∧ atKey xs k = none) ∨ ∃ d b u v, dGet kvs k = some d ∧ atKey xs k = some (b, u) ∧ RelV v u ∧ Rp K F v d
  | _, _, .nil => .inl ⟨rfl, rfl⟩
  | _, _, .cons (a := p) (b := x) (l₁ := l1) (l₂ := l2) h t => by
    obtain ⟨h1, h2, v, h3, h4⟩ := h
    unfold dGet atKey
    rw [List.find?_cons, List.find?_cons]
    by_cases c : x.1 = k
    · subst c
      rw [decide_eq_true h2, decide_eq_true rfl]
      exact .inr ⟨p.2, x.2.1, x.2.2, v, rfl, rfl, h3, h4⟩
    · rw [decide_eq_false (show ¬ nk p.1 = some k from fun q => c (by rw [h2] at q; exact Option.some.inj q)), decide_eq_false c]
      exact dget_rel t
theorem dget_some {K : PySem.W.Frag} {F : Hp} {k : NestedKey} {kvs : List (D × D)} {xs : List (NestedKey × Addr × Value)} (r : Paired (DR K F) kvs xs) : (dGet kvs k).isSome = (atKey xs k).isSome := by
  rcases dget_rel (k := k) r with ⟨a, b⟩ | ⟨d, b, u, v, e1, e2, _, _⟩
  · rw [a, b]; rfl
  · rw [e1, e2]; rfl
theorem dset_rel {K : PySem.W.Frag} {F : Hp} {kvs : List (D × D)} {xs : List (NestedKey × Addr × Value)} {kd : D} {k : NestedKey} {b : Addr} {v : V} {u : Value} {d : D} (r : Paired (DR K F) kvs xs) (hb : Rp K F (.ref b) kd) (hk : nk kd = some k) (hv : RelV v u) (hd : Rp K F v d) :
    Paired (DR K F) (dSet kvs kd k d) (storedH xs k b u) := by
  unfold dSet storedH
  rw [dget_some r]
  split
  · have h0 : True := trivial
    clear hb hk h0
    rename_i hc; clear hc
    induction r with
    | nil => exact .nil
    | cons h t ih =>
      rename_i p x _ _
      obtain ⟨h1, h2, w, h3, h4⟩ := h
      rw [List.map_cons, List.map_cons]
      refine .cons ?_ ih
      unfold putAt
      by_cases c : x.1 = k
      · rw [if_pos c, if_pos (by rw [h2, c])]
        exact ⟨h1, h2, v, hv, hd⟩
      · rw [if_neg c, if_neg (fun q => c (by rw [h2] at q; exact Option.some.inj q))]
        exact ⟨h1, h2, w, h3, h4⟩
  · exact Paired.snoc r ⟨hb, hk, v, hv, hd⟩
theorem dset_length (kvs : List (D × D)) (kd : D) (k : NestedKey) (v : D) : (dSet kvs kd k v).length ≤ kvs.length + 1 := by
  unfold dSet; split <;> simp

section
variable {X : Cx} {pins : List (Addr × Obj)} {σ : L2.St} {H F : Hp} {s : Shared}
theorem ents (I : Inv X pins σ H s) (e : Same F H) (w : World) : ∀ {xs : List DEnt} {ks ds : List D} {es : List DictEntry}, RpAll X.K F (xs.map fun x => .ref x.2.1) ks → nkAll ks = some (xs.map (·.1)) → RpAll X.K F (xs.map fun x => x.2.2) ds → Paired (EntOk w) xs es → (∀ x ∈ xs, x.1.depth ≤ 8) →
    ∃ ys : List (NestedKey × Addr × Value), es = ys.map (entryOfKey (nestedKind X.prog X.w)) ∧ ys.map (·.1) = xs.map (·.1) ∧ Paired (DR X.K F) (ks.zip ds) ys ∧ ∀ x ∈ ys, (nestedKind X.prog X.w).is s.heap x.1 x.2.1
  | [], ks, ds, es, hk, hn, hd, hp, hz => by
    cases hk; cases hd; cases hp
    exact ⟨[], rfl, rfl, .nil, by simp⟩
  | x :: xs, ks, ds, es, hk, hn, hd, hp, hz => by
    simp only [List.map_cons] at hk hn hd
    cases hk with
    | cons k1 k2 =>
      rename_i kd ks
      cases hd with
      | cons d1 d2 =>
        rename_i dd ds
        cases hp with
        | cons p1 p2 =>
          rename_i en es
          simp only [nkAll] at hn
          obtain ⟨k, e1, h2⟩ := Option.bind_eq_some_iff.mp hn
          obtain ⟨ks', e2, q⟩ := Option.map_eq_some_iff.mp h2
          cases q
          obtain ⟨ys, y1, y2, y3, y4⟩ := ents I e w k2 e2 d2 p2 fun x hx => hz x (by simp [hx])
          obtain ⟨q1, q2, q3⟩ := p1
          have ki := key_is I e k1 e1 (hz x (by simp))
          refine ⟨(x.1, x.2.1, en.val) :: ys, ?_, by rw [List.map_cons, y2, List.map_cons], ?_, fun z hz' => ?_⟩
          · rw [List.map_cons, ← y1]
            congr 1
            cases en
            simp only at q1 q2
            subst q1 q2
            unfold entryOfKey nestedKind
            simp only
            rw [nk_hash w X.w _ _ e1]
          · rw [List.zip_cons_cons]
            exact .cons ⟨k1, e1, x.2.2, q3, d1⟩ y3
          · rcases List.mem_cons.mp hz' with rfl | hz'
            · exact ki
            · exact y4 z hz'
/-- a dict that is read -/
theorem dct_get (I : Inv X pins σ H s) (e : Same F H) {v : V} {kvs : List (D × D)} (h : Rp X.K F v (.dict kvs)) : ∃ a, v = .ref a ∧ (a == sysModules) = false ∧ kvs.length ≤ sizeLine ∧
    ∃ ys : List (NestedKey × Addr × Value), s.heap.DictOfH (nestedKind X.prog X.w) a ys ∧ Paired (DR X.K F) kvs ys ∧ ys.length = kvs.length := by
  generalize hd : PyData.dict kvs = d at h
  cases h with
  | non | bl | int | str | lst | tup => cases hd
  | dct hF hk hn hv =>
    rename_i a xs ks ds
    cases hd
    obtain ⟨⟨z1, z2, z3, z4, w, o, es, ep, ho, hx, hd, pr⟩, _⟩ := (show ObjOk X.prog X.w H s.heap a (dctO a xs) from I.hok a _ (e _ _ hF))
    obtain ⟨ys, y1, y2, y3, y4⟩ := ents I e w hk hn hv pr z4
    have l1 := paired_len y3
    have l2 : ys.length = xs.length := by rw [← List.length_map (f := (·.1)), y2, List.length_map]
    exact ⟨a, rfl, z1, by omega, ys, ⟨o, es, ep, ho, hx, hd, y1, y4, by rw [y2]; exact z3⟩, y3, l1.symm⟩
end
theorem zip_self (kvs : List (D × D)) : (kvs.map (·.1)).zip (kvs.map (·.2)) = kvs := by
  induction kvs with
  | nil => rfl
  | cons p kvs ih => simp [ih]
/-- what is told of a dict as it stands is what is tracked -/
theorem dct_put {P : Program} {w : World} {h : Heap} {K : PySem.W.Frag} {F : Hp} {a : Addr} {kvs : List (D × D)} {ys : List (NestedKey × Addr × Value)} (hs : (a == sysModules) = false) (hz : kvs.length ≤ sizeLine) (hd : h.DictOfH (nestedKind P w) a ys) (r : Paired (DR K F) kvs ys) :
    ∃ xs : List DEnt, dctP a xs h ∧ RpAll K F (xs.map fun x => .ref x.2.1) (kvs.map (·.1)) ∧ nkAll (kvs.map (·.1)) = some (xs.map (·.1)) ∧ RpAll K F (xs.map fun x => x.2.2) (kvs.map (·.2)) := by
  obtain ⟨o, es, ep, ho, hx, hdt, he, hi, hn⟩ := hd
  have l := paired_len r
  have key : ∀ {kvs : List (D × D)} {ys : List (NestedKey × Addr × Value)}, Paired (DR K F) kvs ys → ∃ xs : List DEnt, RpAll K F (xs.map fun x => .ref x.2.1) (kvs.map (·.1)) ∧ nkAll (kvs.map (·.1)) = some (xs.map (·.1)) ∧ RpAll K F (xs.map fun x => x.2.2) (kvs.map (·.2)) ∧
      xs.map (·.1) = ys.map (·.1) ∧ Paired (EntOk w) xs (ys.map (entryOfKey (nestedKind P w))) := by
    intro kvs ys r
    induction r with
    | nil => exact ⟨[], .nil, rfl, .nil, rfl, .nil⟩
    | cons h t ih =>
      rename_i p y _ _
      obtain ⟨xs, a1, a2, a3, a4, a5⟩ := ih
      obtain ⟨b1, b2, v, b3, b4⟩ := h
      refine ⟨(y.1, y.2.1, v) :: xs, .cons b1 a1, ?_, .cons b4 a3, by simp [a4], .cons ⟨rfl, rfl, b3⟩ a5⟩
      simp only [List.map_cons, nkAll, b2, a2]; rfl
  obtain ⟨xs, a1, a2, a3, a4, a5⟩ := key r
  have l2 : xs.length = ys.length := by rw [← List.length_map (f := (·.1)), a4, List.length_map]
  refine ⟨xs, ⟨hs, by omega, by rw [a4]; exact hn, fun x hx' => ?_, w, o, es, ep, ho, hx, hdt, by rw [he]; exact a5⟩, a1, a2, a3⟩
  have m : x.1 ∈ ys.map (·.1) := by rw [← a4]; exact List.mem_map_of_mem hx'
  obtain ⟨y, hy, e⟩ := List.mem_map.mp m
  rw [← e]; exact (hi y hy).2
theorem dctO_ok {P : Program} {w : World} {H : Hp} {h : Heap} {a : Addr} {xs : List DEnt} (d : dctP a xs h) : ObjOk P w H h a (dctO a xs) := by
  refine ⟨d, ?_, fun h1 h2 d1 k => ?_⟩
  · obtain ⟨_, _, _, _, _, o, _, _, ho, _⟩ := d
    exact ⟨o, ho⟩
  · obtain ⟨z1, z2, z3, z4, w', o, es, ep, ho, r⟩ := d1
    exact ⟨z1, z2, z3, z4, w', o, es, ep, k o ho, r⟩
/-- a new dict that nobody changes -/
theorem newD {X : Cx} {pins : List (Addr × Obj)} {σ : L2.St} {H F : Hp} {s : Shared} {Q : VK} {h' : Heap} {tk : Nat} {kvs : List (D × D)} {ys : List (NestedKey × Addr × Value)} (I : Inv X pins σ H s) (sub : Same F H) (kp : ∀ b o, s.heap.get? b = some o → h'.get? b = some o) (hz : kvs.length ≤ sizeLine)
    (hd : h'.DictOfH (nestedKind X.prog X.w) s.heap.objs.size ys) (r : Paired (DR X.K F) kvs ys) (q : ∀ v H' F', Fx F H F' H' → Rp X.K F' v (.dict kvs) → Q v H') : EP X pins σ Q (.ref s.heap.objs.size) { s with heap := h', toks := tk } := by
  have hs : (s.heap.objs.size == sysModules) = false := beq_eq_false_iff_ne.mpr (Nat.ne_of_gt I.big)
  obtain ⟨xs, d, a1, a2, a3⟩ := dct_put hs hz hd r
  have hp := I.hok.fresh (Nat.le_refl s.heap.objs.size)
  have fx : Fx F H _ _ := Fx.alloc (u := dctO s.heap.objs.size xs) sub hp
  have e : PyData.dict kvs = .dict ((kvs.map (·.1)).zip (kvs.map (·.2))) := by rw [zip_self]
  refine ⟨.ref s.heap.objs.size, _, I.laid (t' := tk) kp (Nat.le_refl _) (dctO_ok d), rfl, q _ _ _ fx ?_⟩
  rw [e]
  exact .dct upd_same (a1.mono fx.ff) a2 (a3.mono fx.ff)
end Z

set_option Elab.async false
set_option linter.all false
set_option maxRecDepth 100000
set_option autoImplicit false
/-! # Z8: the operations are the model's -/
namespace Z
open PySem L2

theorem szOk_line {n : Nat} (h : szOk n = true) : n ≤ sizeLine := by rw [sizeLine_eq]; simpa [szOk] using h
section
variable {K : PySem.W.Frag} {F H : Hp}
theorem Rp.toInt {v : V} {i : Int} (h : Rp K F v (.int i)) : v = .int i := by cases h; rfl
theorem Rp.toStr {v : V} {i : Str} (h : Rp K F v (.str i)) : v = .str i := by cases h; rfl
theorem Rp.toBool {v : V} {i : Bool} (h : Rp K F v (.bool i)) : v = .bl i := by cases h; rfl
theorem Rp.toList {v : V} {ds : List D} (h : Rp K F v (.list ds)) : ∃ a xs, v = .ref a ∧ F a = some (.lst xs) ∧ RpAll K F xs ds := by cases h with | lst a b => exact ⟨_, _, rfl, a, b⟩
theorem Rp.toTup {v : V} {ds : List D} (h : Rp K F v (.tuple ds)) : ∃ a xs, v = .ref a ∧ SqT K F a xs ∧ RpAll K F xs ds := by cases h with | tup a b => exact ⟨_, _, rfl, a, b⟩
theorem RpAll.one {vs : List V} {d : D} (h : RpAll K F vs [d]) : ∃ v, vs = [v] ∧ Rp K F v d := by
  cases h with | cons a b => cases b; exact ⟨_, rfl, a⟩
theorem RpAll.two {vs : List V} {d e : D} (h : RpAll K F vs [d, e]) : ∃ v u, vs = [v, u] ∧ Rp K F v d ∧ Rp K F u e := by
  cases h with | cons a b => cases b with | cons c d => cases d; exact ⟨_, _, rfl, a, c⟩
theorem RpAll.drop : ∀ {vs : List V} {ds : List D} (n : Nat), RpAll K F vs ds → RpAll K F (vs.drop n) (ds.drop n)
  | _, _, 0, r => r
  | _, _, _ + 1, .nil => .nil
  | _, _, n + 1, .cons _ t => RpAll.drop n t
theorem RpAll.take : ∀ {vs : List V} {ds : List D} (n : Nat), RpAll K F vs ds → RpAll K F (vs.take n) (ds.take n)
  | _, _, 0, _ => .nil
  | _, _, _ + 1, .nil => .nil
  | _, _, n + 1, .cons r t => .cons r (RpAll.take n t)
theorem RpAll.rep {vs : List V} {ds : List D} (r : RpAll K F vs ds) : ∀ n : Nat, RpAll K F (List.replicate n vs).flatten (List.replicate n ds).flatten
  | 0 => .nil
  | n + 1 => by rw [List.replicate_succ, List.replicate_succ, List.flatten_cons, List.flatten_cons]; exact r.append (RpAll.rep r n)
theorem RpAll.reverse : ∀ {vs : List V} {ds : List D}, RpAll K F vs ds → RpAll K F vs.reverse ds.reverse
  | _, _, .nil => .nil
  | _, _, .cons r t => by rw [List.reverse_cons, List.reverse_cons]; exact (RpAll.reverse t).append (.cons r .nil)
theorem RpAll.atI {vs : List V} {ds : List D} (r : RpAll K F vs ds) {i : Int} {d : D} (h : L2.atI ds i = some d) : ∃ v, L2.atI vs i = some v ∧ Rp K F v d := by
  unfold L2.atI at h ⊢
  rw [r.length]
  cases e : ixN ds.length i with
  | none => rw [e] at h; cases h
  | some j => rw [e] at h; exact r.at h
theorem RpAll.cut {vs : List V} {ds : List D} (r : RpAll K F vs ds) (lo hi : Option Int) : RpAll K F (cutV vs lo hi) (cut ds lo hi) := by
  unfold cutV Z.cut
  rw [r.length]
  exact (r.drop _).take _
/-- a new list, a new tuple -/
theorem newL {vs : List V} {ds : List D} {Q : VK} (sub : Same F H) (r : RpAll K F vs ds) (q : ∀ v H' F', Fx F H F' H' → Rp K F' v (.list ds) → Q v H') : ∀ p, H p = none → Q (.ref p) (upd H p (.lst vs)) := fun p hp => by
  have fx : Fx F H _ _ := Fx.alloc (u := .lst vs) sub hp
  exact q _ _ _ fx (.lst upd_same (r.mono fx.ff))
theorem newT {vs : List V} {ds : List D} {Q : VK} (sub : Same F H) (r : RpAll K F vs ds) (q : ∀ v H' F', Fx F H F' H' → Rp K F' v (.tuple ds) → Q v H') : ∀ p, H p = none → Q (.ref p) (upd H p (.tup vs)) := fun p hp => by
  have fx : Fx F H _ _ := Fx.alloc (u := .tup vs) sub hp
  exact q _ _ _ fx (.tup (.inl (.inl upd_same)) (r.mono fx.ff))
end

theorem bs_add : BinS .Add add := by
  intro X k hr pins s σ H x y v u Q I rx ry ⟨F, a, b, c, sub, ra, rb, e, q⟩
  unfold add at e
  split at e
  · cases e
    rw [ra.toInt] at rx; rw [rb.toInt] at ry
    exact op_add pins s σ H _ _ v u Q I rx ry ⟨_, _, rfl, rfl, q _ H F (Fx.refl sub) (.int _)⟩
  · split at e
    · rename_i hz; cases e
      rw [ra.toStr] at rx; rw [rb.toStr] at ry
      exact op_add_str pins s σ H _ _ v u Q I rx ry ⟨_, _, rfl, rfl, szOk_line hz, q _ H F (Fx.refl sub) (.str _)⟩
    · cases e
  · split at e
    · rename_i hz; cases e
      obtain ⟨p, xs, rfl, hp, rxs⟩ := ra.toList
      obtain ⟨p2, ys, rfl, hp2, rys⟩ := rb.toList
      refine op_cat pins s σ H _ _ v u Q I rx ry ⟨_, _, xs, ys, rfl, rfl, sub _ _ hp, sub _ _ hp2, ?_, newL sub (rxs.append rys) q⟩
      rw [rxs.length, rys.length]; exact szOk_line hz
    · cases e
  · split at e
    · rename_i hz; cases e
      obtain ⟨p, xs, rfl, hp, rxs⟩ := ra.toTup
      obtain ⟨p2, ys, rfl, hp2, rys⟩ := rb.toTup
      refine op_catA pins s σ H _ _ v u Q I rx ry ⟨_, _, xs, ys, rfl, rfl, seqT sub hp, seqT sub hp2, ?_, fun ex => ?_, fun _ ey => ?_, fun _ _ => newT sub (rxs.append rys) q⟩
      · rw [rxs.length, rys.length]; exact szOk_line hz
      · subst ex; cases rxs; exact q _ H F (Fx.refl sub) (.tup hp2 rys)
      · subst ey; cases rys; rw [List.append_nil] at q; exact q _ H F (Fx.refl sub) (.tup hp rxs)
    · cases e
  · cases e
theorem bs_sub : BinS .Sub sub := by
  intro X k hr pins s σ H x y v u Q I rx ry ⟨F, a, b, c, sub, ra, rb, e, q⟩
  unfold Z.sub at e
  split at e
  · cases e
    rw [ra.toInt] at rx; rw [rb.toInt] at ry
    exact op_sub pins s σ H _ _ v u Q I rx ry ⟨_, _, rfl, rfl, q _ H F (Fx.refl sub) (.int _)⟩
  · cases e
open PySem.Spec PyProof.Rows in
set_option maxHeartbeats 4000000 in
theorem tuple_mul1 (l : Addr) (items : Array Value) (n : Nat) (dd : Option Addr) (sl : Array (Option Value)) (u : Tok) :
    Meets (Builtin.«tuple.__mul__» ⟨[.ref l, .int 1 u], []⟩) (fun _ R s => s.heap.get? l = some { cls := .type "tuple", dict := dd, data := .seq items n, slots := sl } ∧
      R (.ok (.ret (Value.ref l))) s) :=
  .of_wp fun prog w A R s h => by
    obtain ⟨hp, g, d, tk, os⟩ := s
    obtain ⟨hl, h⟩ := h
    have f1 := AutoSeq1.idx_int
    wp_walk using wpAny_loadPart' hl
    exact ⟨_, rfl, h⟩
open PySem.Spec PyProof.Rows in
theorem op_repT1 {X : Cx} : OpR X (binaryOp .Mult) (fun x y H Q => ∃ l xs, x = .ref l ∧ y = .int 1 ∧ SqT X.K H l xs ∧ Q (.ref l) H) := by
  intro pins s σ H x y v u Q I rx ry h
  obtain ⟨l, xs, rfl, rfl, hT, q⟩ := h
  cases rx
  obtain ⟨t, rfl⟩ := ry
  obtain ⟨its, r, ⟨⟨cls, dd, data, sl⟩, ho, hc, n, hd⟩, hs⟩ := I.tuple hT
  simp only at hc hd
  subst hc hd
  exact wpAny_binaryOp_repeat_ref (T := "tuple") (U := "int") (by decide) ⟨_, ho, rfl⟩ (fun s' => typeIs_int s' 1 t) noFill_tuple_mul F.fills_int_mul F.slot_int_rmul repeat_tuple F.slot_int_index.lookup
    (call_meets F.slot_int_rmul (typeIs_int s 1 t) F.entry_int_rmul (F.args_int_rmul_2 _ _) (int_rmul_tuple 1 t l its.toArray n dd sl)
      ⟨ho, rfl, ⟨_, ho, rfl⟩, call_meets F.slot_tuple_mul ⟨_, ho, rfl⟩ F.entry_tuple_mul (F.args_tuple_mul_2 _ _) (tuple_mul1 l its.toArray n dd sl t) ⟨ho, .ref l, H, I, rfl, q⟩⟩)
open PySem.Spec PyProof.Rows in
theorem op_repT2 {X : Cx} : OpR X (binaryOp .Mult) (fun x y H Q => ∃ l k xs, x = .ref l ∧ y = .int k ∧ SqT X.K H l xs ∧ xs ≠ [] ∧ 2 ≤ k ∧ (xs.length : Int) * k ≤ 1000000 ∧ ∀ p, H p = none → Q (.ref p) (upd H p (.tup (List.replicate k.toNat xs).flatten))) := by
  intro pins s σ H x y v u Q I rx ry h
  obtain ⟨l, k, xs, rfl, rfl, hT, hne, h1, hm0, q⟩ := h
  cases rx
  obtain ⟨t, rfl⟩ := ry
  obtain ⟨its, r, ⟨⟨cls, dd, data, sl⟩, ho, hc, n, hd⟩, hs⟩ := I.tuple hT
  simp only at hc hd
  subst hc hd
  have hle : its.length = xs.length := r.length.symm
  have hn : its ≠ [] := fun e => hne (by
    rw [e] at hle
    exact List.eq_nil_of_length_eq_zero hle.symm)
  have hi : its.toArray.isEmpty = false := by
    cases its with
    | nil => exact absurd rfl hn
    | cons a b => rfl
  have hpos : 1 ≤ xs.length := by
    cases xs with
    | nil => exact absurd rfl hne
    | cons a b => simp
  have hsz0 : its.toArray.size = xs.length := by rw [List.size_toArray, hle]
  have hm : ((its.toArray.size : Nat) : Int) * k ≤ 1000000 := by rw [hsz0]; exact hm0
  have hk2 : k ≤ 1000000 := by
    have a1 : 1 * k ≤ ((xs.length : Nat) : Int) * k := Int.mul_le_mul_of_nonneg_right (by omega) (by omega)
    omega
  have hkn : k.toNat * xs.length ≤ 1000000 := by
    have e : ((k.toNat * xs.length : Nat) : Int) = ((xs.length : Nat) : Int) * k := by
      rw [Int.natCast_mul, Int.toNat_of_nonneg (by omega), Int.mul_comm]
    omega
  have flen : (List.replicate k.toNat its).flatten.length ≤ sizeLine := by
    rw [PyProof.Rows.lm_len_rep_flat, hle, sizeLine_eq]
    omega
  have c0 : (decide (k < -(2 ^ 63)) || decide (k ≥ 2 ^ 63)) = false := by
    rw [decide_eq_false (by omega), decide_eq_false (by omega)] <;> rfl
  have c1 : (its.toArray.isEmpty || k == 1) = false := by
    rw [hi, Bool.false_or]
    exact beq_eq_false_iff_ne.mpr (by omega)
  have c2 : (decide (k ≤ 0) || its.toArray.isEmpty) = false := by
    rw [hi, Bool.or_false]
    exact decide_eq_false (by omega)
  have c4 : Builtin.Tuple.tupleTooMany (((its.toArray.size : Nat) : Int) * k) = false := by
    unfold Builtin.Tuple.tupleTooMany
    rw [sizeLine_eq]
    exact decide_eq_false (by omega)
  refine wpAny_binaryOp_repeat_ref (T := "tuple") (U := "int") (by decide) ⟨_, ho, rfl⟩ (fun s' => typeIs_int s' k t) noFill_tuple_mul F.fills_int_mul F.slot_int_rmul repeat_tuple F.slot_int_index.lookup
    (call_meets F.slot_int_rmul (typeIs_int s k t) F.entry_int_rmul (F.args_int_rmul_2 _ _) (int_rmul_tuple k t l its.toArray n dd sl)
      ⟨ho, rfl, ⟨_, ho, rfl⟩, call_meets F.slot_tuple_mul ⟨_, ho, rfl⟩ F.entry_tuple_mul (F.args_tuple_mul_2 _ _) (tuple_mulW l its.toArray n dd sl k t c0 c1 c2 (by omega) c4 (by rw [size_rep, List.size_toArray]; exact flen)) ⟨ho, ?_⟩⟩)
  rw [size_rep]
  refine ⟨.ref s.heap.objs.size, _, I.laid (t' := s.toks) (o := .tup (List.replicate k.toNat xs).flatten) (fun b ob q => Heap.get?_push_of_some _ q) (Nat.le_refl _) ?_, rfl, q _ (I.hok.fresh (Nat.le_refl _))⟩
  exact ⟨by rw [PyProof.Rows.lm_len_rep_flat, sizeLine_eq]; omega, _, r.rep k.toNat, IsTup.new _ _⟩
theorem bs_mul : BinS .Mult mul := by
  intro X k hr pins s σ H x y v u Q I rx ry ⟨F, a, b, c, sub, ra, rb, e, q⟩
  unfold mul at e
  split at e
  · split at e
    · rename_i hz; cases e
      rw [ra.toInt] at rx; rw [rb.toInt] at ry
      have fin := q _ H F (Fx.refl sub) (.int _)
      simp only [bigM, Bool.or_eq_true, decide_eq_true_eq] at hz
      rcases hz with (hz | hz) | hz
      · exact op_mul pins s σ H _ _ v u Q I rx ry ⟨_, _, rfl, rfl, .inl ⟨by omega, by omega⟩, fin⟩
      · exact op_mul pins s σ H _ _ v u Q I rx ry ⟨_, _, rfl, rfl, .inr ⟨by omega, by omega⟩, fin⟩
      · exact op_mulW pins s σ H _ _ v u Q I rx ry ⟨_, _, rfl, rfl, hz, fin⟩
    · cases e
  · split at e
    · rename_i hz; cases e
      simp only [Bool.and_eq_true, decide_eq_true_eq] at hz
      obtain ⟨p, xs, rfl, hp, rxs⟩ := ra.toList
      rw [rb.toInt] at ry
      refine op_rep pins s σ H _ _ v u Q I rx ry ⟨_, _, xs, rfl, rfl, sub _ _ hp, hz.1.1, hz.1.2, ?_, newL sub (rxs.rep _) q⟩
      rw [rxs.length]; exact szOk_line hz.2
    · cases e
  · split at e
    · rename_i hk; cases e
      have hk' := of_decide_eq_true hk
      subst hk'
      obtain ⟨p, xs, rfl, hp, rxs⟩ := ra.toTup
      rw [rb.toInt] at ry
      exact op_repT1 pins s σ H _ _ v u Q I rx ry ⟨p, xs, rfl, rfl, seqT sub hp, q _ H F (Fx.refl sub) (.tup hp rxs)⟩
    split at e
    · rename_i hz; cases e
      simp only [Bool.and_eq_true, decide_eq_true_eq] at hz
      obtain ⟨p, xs, rfl, hp, rxs⟩ := ra.toTup
      rw [rb.toInt] at ry
      refine op_repT2 pins s σ H _ _ v u Q I rx ry ⟨_, _, xs, rfl, rfl, seqT sub hp, ?_, hz.1.1, by rw [rxs.length]; exact hz.2, newT sub (rxs.rep _) q⟩
      intro ex; subst ex; cases rxs; exact absurd hz.1.2 (by simp)
    · cases e
  · cases e
theorem bs_fdiv : BinS .FloorDiv fdiv := by
  intro X k hr pins s σ H x y v u Q I rx ry ⟨F, a, b, c, sub, ra, rb, e, q⟩
  unfold fdiv at e
  split at e
  · split at e
    · rename_i hz; cases e
      simp only [Bool.and_eq_true, decide_eq_true_eq, bigD] at hz
      rw [ra.toInt] at rx; rw [rb.toInt] at ry
      obtain ⟨t, rfl⟩ := rx
      obtain ⟨t', rfl⟩ := ry
      exact PyProof.Rows.floordiv_int hz.1 ⟨.int _, H, I.tok _, ⟨_, rfl⟩, q _ H F (Fx.refl sub) (.int _)⟩ (.inl (PyProof.noPylong_of_log2 hz.2))
    · cases e
  · cases e
theorem bs_fmod : BinS .Mod fmod := by
  intro X k hr pins s σ H x y v u Q I rx ry ⟨F, a, b, c, sub, ra, rb, e, q⟩
  unfold fmod at e
  split at e
  · split at e
    · rename_i hz; cases e
      simp only [decide_eq_true_eq] at hz
      rw [ra.toInt] at rx; rw [rb.toInt] at ry
      exact op_modN pins s σ H _ _ v u Q I rx ry ⟨_, _, rfl, rfl, hz, q _ H F (Fx.refl sub) (.int _)⟩
    · cases e
  · cases e
theorem bs_pow : BinS .Pow pow := by
  intro X k hr pins s σ H x y v u Q I rx ry ⟨F, a, b, c, sub, ra, rb, e, q⟩
  unfold pow at e
  split at e
  · split at e
    · rename_i hz; cases e
      simp only [Bool.and_eq_true, decide_eq_true_eq] at hz
      rw [ra.toInt] at rx; rw [rb.toInt] at ry
      exact op_pow pins s σ H _ _ v u Q I rx ry ⟨_, _, rfl, rfl, ⟨hz.1.1, hz.1.2, hz.2⟩, q _ H F (Fx.refl sub) (.int _)⟩
    · cases e
  · cases e
theorem us_neg : UnS .USub neg := by
  intro X k hr pins s σ H x v Q I rx ⟨F, a, c, sub, ra, e, q⟩
  unfold neg at e
  split at e
  · cases e
    rw [ra.toInt] at rx
    exact un_neg pins s σ H _ v Q I rx ⟨_, rfl, q _ H F (Fx.refl sub) (.int _)⟩
  · cases e

/-! ### comparisons -/
theorem room_ok {k : Nat} {A : Around} (hr : Room k A) {a b : D} (h : a.depth ≤ 40) : A.units + min a.depth b.depth < cLine := by
  have := hr.units
  have h2 : min a.depth b.depth ≤ a.depth := Nat.min_le_left _ _
  omega
theorem cs_eq : CmpS .Eq eqD := by
  intro X k hr pins s σ H x y v u Q I rx ry ⟨F, a, b, c, sub, ra, rb, e, q⟩
  unfold eqD at e
  split at e
  · rename_i h; cases e
    simp only [Bool.and_eq_true] at h
    obtain ⟨as, r1⟩ := ra.reads I sub rx (okD_plain h.1)
    obtain ⟨bs, r2⟩ := rb.reads I sub ry (okD_plain h.2)
    exact SeqAt.eq_plain r1 r2 (okD_plain h.1) (okD_plain h.2) (room_ok hr (okD_depth h.1)) ⟨.bl _, H, I, rfl, q⟩
  · cases e
theorem cs_ne : CmpS .NotEq neD := by
  intro X k hr pins s σ H x y v u Q I rx ry ⟨F, a, b, c, sub, ra, rb, e, q⟩
  unfold neD eqD at e
  split at e
  · rename_i h; cases e
    simp only [Bool.and_eq_true] at h
    obtain ⟨as, r1⟩ := ra.reads I sub rx (okD_plain h.1)
    obtain ⟨bs, r2⟩ := rb.reads I sub ry (okD_plain h.2)
    exact SeqAt.ne_plain r1 r2 (okD_plain h.1) (okD_plain h.2) (room_ok hr (okD_depth h.1)) ⟨.bl _, H, I, rfl, q⟩
  · cases e

theorem notNone {a : D} (h : isNone a = false) : a ≠ .none := fun e => by subst e; cases h
theorem lt_main {op : CmpOp} {X : Cx} {k : Nat} (hr : Room k X.A) {t : D → D → Bool} {pins : List (Addr × Obj)} {s : Shared} {σ : L2.St} {H F : Hp} {x y : V} {v u : Value} {Q : VK} {a b : D} {c : Bool} (I : Inv X pins σ H s) (rx : RelV x v) (ry : RelV y u)
    (sub : Same F H) (ra : Rp X.K F x a) (rb : Rp X.K F y b) (h : (W.alike a b && !isNone a && okD a && okD b) = true) (hq : Q (.bl (t a b)) H)
    (rule : ∀ {prog : Program} {w : World} {A : Around} {E : Value → Shared → Prop} {s : Shared} {v u : Value} {as bs : List Addr} {Q : Value → Shared → Prop}, Reads s.heap v a as → Reads s.heap u b bs → W.alike a b = true → a ≠ .none → A.units + min a.depth b.depth < cLine → Q (.bool (t a b)) s → wpAny (model prog w) A (compareOp op v u) Q E s) :
    wpAny (model X.prog X.w) X.A (compareOp op v u) (EP X pins σ Q) X.xe s := by
  simp only [Bool.and_eq_true, Bool.not_eq_true'] at h
  obtain ⟨as, r1⟩ := ra.reads I sub rx (okD_plain h.1.2)
  obtain ⟨bs, r2⟩ := rb.reads I sub ry (okD_plain h.2)
  exact rule r1 r2 h.1.1.1 (notNone h.1.1.2) (room_ok hr (okD_depth h.1.2)) ⟨.bl _, H, I, rfl, hq⟩
theorem cs_lt : CmpS .Lt ltD := by
  intro X k hr pins s σ H x y v u Q I rx ry ⟨F, a, b, c, sub, ra, rb, e, q⟩
  unfold ltD at e
  split at e
  · cases e
    rw [ra.toInt] at rx; rw [rb.toInt] at ry
    exact op_lt pins s σ H _ _ v u Q I rx ry ⟨_, _, rfl, rfl, q⟩
  · split at e
    · rename_i h; cases e
      exact lt_main (c := true) (t := W.dataLt) hr I rx ry sub ra rb h q fun r1 r2 h1 h2 h3 h4 => W.lt_data r1 r2 h1 h2 h3 h4
    · cases e
theorem cs_gt : CmpS .Gt gtD := by
  intro X k hr pins s σ H x y v u Q I rx ry ⟨F, a, b, c, sub, ra, rb, e, q⟩
  replace e : ltD b a = .ok c := e
  unfold ltD at e
  split at e
  · cases e
    rw [ra.toInt] at rx; rw [rb.toInt] at ry
    exact op_gt pins s σ H _ _ v u Q I rx ry ⟨_, _, rfl, rfl, q⟩
  · split at e
    · rename_i h; cases e
      have h' : (W.alike a b && !isNone a && okD a && okD b) = true := by
        simp only [Bool.and_eq_true, Bool.not_eq_true'] at h ⊢
        have h1 : W.alike a b = true := by rw [W.alike_comm]; exact h.1.1.1
        refine ⟨⟨⟨h1, ?_⟩, h.2⟩, h.1.2⟩
        have n1 := W.ne_none_both h.1.1.1 (notNone h.1.1.2)
        cases a <;> first | rfl | exact absurd rfl n1
      exact lt_main (c := true) (t := fun a b => W.dataLt b a) hr I rx ry sub ra rb h' q fun r1 r2 h1 h2 h3 h4 => W.gt_data r1 r2 h1 h2 h3 h4
    · cases e
theorem cs_le : CmpS .LtE leD := by
  intro X k hr pins s σ H x y v u Q I rx ry ⟨F, a, b, c, sub, ra, rb, e, q⟩
  unfold leD at e
  split at e
  · cases e
    rw [ra.toInt] at rx; rw [rb.toInt] at ry
    exact op_le pins s σ H _ _ v u Q I rx ry ⟨_, _, rfl, rfl, q⟩
  · split at e
    · rename_i h; cases e
      exact lt_main (c := true) (t := fun a b => !W.dataLt b a) hr I rx ry sub ra rb h q fun r1 r2 h1 h2 h3 h4 => W.le_data r1 r2 h1 h2 h3 h4
    · cases e
theorem cs_ge : CmpS .GtE geD := by
  intro X k hr pins s σ H x y v u Q I rx ry ⟨F, a, b, c, sub, ra, rb, e, q⟩
  replace e : leD b a = .ok c := e
  unfold leD at e
  split at e
  · cases e
    rw [ra.toInt] at rx; rw [rb.toInt] at ry
    exact op_ge pins s σ H _ _ v u Q I rx ry ⟨_, _, rfl, rfl, q⟩
  · split at e
    · rename_i h; cases e
      have h' : (W.alike a b && !isNone a && okD a && okD b) = true := by
        simp only [Bool.and_eq_true, Bool.not_eq_true'] at h ⊢
        have h1 : W.alike a b = true := by rw [W.alike_comm]; exact h.1.1.1
        refine ⟨⟨⟨h1, ?_⟩, h.2⟩, h.1.2⟩
        have n1 := W.ne_none_both h.1.1.1 (notNone h.1.1.2)
        cases a <;> first | rfl | exact absurd rfl n1
      exact lt_main (c := true) (t := fun a b => !W.dataLt a b) hr I rx ry sub ra rb h' q fun r1 r2 h1 h2 h3 h4 => W.ge_data r1 r2 h1 h2 h3 h4
    · cases e
theorem plain_list {xs : List D} (h : okD (.list xs) = true) : PyData.plainAll xs = true := by simpa [PyData.plain] using okD_plain h
theorem plain_tup {xs : List D} (h : okD (.tuple xs) = true) : PyData.plainAll xs = true := by simpa [PyData.plain] using okD_plain h
theorem depth_list {xs : List D} (h : okD (.list xs) = true) : PyData.depthAll xs ≤ 40 := by
  have := okD_depth h
  simp only [PyData.depth] at this
  omega
theorem depth_tup {xs : List D} (h : okD (.tuple xs) = true) : PyData.depthAll xs ≤ 40 := by
  have := okD_depth h
  simp only [PyData.depth] at this
  omega
theorem room_in {k : Nat} {A : Around} (hr : Room k A) {n d : Nat} (h : n ≤ 40) : A.units + 1 + min n d < cLine := by
  have := hr.units
  have h2 : min n d ≤ n := Nat.min_le_left _ _
  omega
theorem cs_in : CmpS .In inD := by
  intro X k hr pins s σ H x y v u Q I rx ry ⟨F, a, b, c, sub, ra, rb, e, q⟩
  unfold inD at e
  split at e
  · split at e
    · rename_i h; cases e
      simp only [Bool.and_eq_true] at h
      obtain ⟨as, r1⟩ := ra.reads I sub rx (okD_plain h.1)
      obtain ⟨bs, r2⟩ := rb.reads I sub ry (okD_plain h.2)
      exact SeqAt.in_list_data r2 r1 (plain_list h.2) (okD_plain h.1) (room_in hr (depth_list h.2)) ⟨.bl _, H, I, rfl, q⟩
    · cases e
  · split at e
    · rename_i h; cases e
      simp only [Bool.and_eq_true] at h
      obtain ⟨as, r1⟩ := ra.reads I sub rx (okD_plain h.1)
      obtain ⟨bs, r2⟩ := rb.reads I sub ry (okD_plain h.2)
      exact SeqAt.in_tuple_data r2 r1 (plain_tup h.2) (okD_plain h.1) (room_in hr (depth_tup h.2)) ⟨.bl _, H, I, rfl, q⟩
    · cases e
  · split at e
    · cases e
      rw [ra.toStr] at rx; rw [rb.toStr] at ry
      exact op_in_str pins s σ H _ _ v u Q I rx ry ⟨_, _, rfl, rfl, q⟩
    · cases e
  · split at e
    · rename_i k hk; cases e
      obtain ⟨b, rfl⟩ := key_ref ra hk
      obtain ⟨hk1, hk2, _⟩ := keyN_nk hk
      cases rx
      obtain ⟨a, rfl, hs, hz, ys, hd, r, _⟩ := dct_get I sub rb
      cases ry
      refine in_keyed (knd := nestedKind X.prog X.w) (by have := hr.units; show X.A.units + 1 + 8 < cLine; omega) (key_is I sub ra hk1 hk2) hs ⟨ys, hd, rfl⟩ ?_
      rw [valueAt_pairsH, Option.isSome_map, ← dget_some r]
      exact ⟨.bl _, H, I.tok _, rfl, q⟩
    · cases e
  · cases e
theorem cs_notIn : CmpS .NotIn notInD := by
  intro X k hr pins s σ H x y v u Q I rx ry ⟨F, a, b, c, sub, ra, rb, e, q⟩
  unfold notInD inD at e
  split at e
  · split at e
    · rename_i h; cases e
      simp only [Bool.and_eq_true] at h
      obtain ⟨as, r1⟩ := ra.reads I sub rx (okD_plain h.1)
      obtain ⟨bs, r2⟩ := rb.reads I sub ry (okD_plain h.2)
      exact SeqAt.notIn_list_data r2 r1 (plain_list h.2) (okD_plain h.1) (room_in hr (depth_list h.2)) ⟨.bl _, H, I, rfl, q⟩
    · cases e
  · split at e
    · rename_i h; cases e
      simp only [Bool.and_eq_true] at h
      obtain ⟨as, r1⟩ := ra.reads I sub rx (okD_plain h.1)
      obtain ⟨bs, r2⟩ := rb.reads I sub ry (okD_plain h.2)
      exact SeqAt.notIn_tuple_data r2 r1 (plain_tup h.2) (okD_plain h.1) (room_in hr (depth_tup h.2)) ⟨.bl _, H, I, rfl, q⟩
    · cases e
  · split at e
    · cases e
      rw [ra.toStr] at rx; rw [rb.toStr] at ry
      exact op_notin_str pins s σ H _ _ v u Q I rx ry ⟨_, _, rfl, rfl, q⟩
    · cases e
  · split at e
    · rename_i k hk; cases e
      obtain ⟨b, rfl⟩ := key_ref ra hk
      obtain ⟨hk1, hk2, _⟩ := keyN_nk hk
      cases rx
      obtain ⟨a, rfl, hs, hz, ys, hd, r, _⟩ := dct_get I sub rb
      cases ry
      refine notIn_keyed (knd := nestedKind X.prog X.w) (by have := hr.units; show X.A.units + 1 + 8 < cLine; omega) (key_is I sub ra hk1 hk2) hs ⟨ys, hd, rfl⟩ ?_
      rw [valueAt_pairsH, Option.isSome_map, ← dget_some r]
      exact ⟨.bl _, H, I.tok _, rfl, q⟩
    · cases e
  · cases e

/-! ### subscripts, slices -/
section
variable {α : Type} {C : Ct} {ρ : Env} {m : R α}
theorem ix_main {X : Cx} {kk : Nat} (hr : Room kk X.A) {a b : D} {c : D} {F : Hp} {pins : List (Addr × Obj)} {s : Shared} {σ : L2.St} {H : Hp} {x y : V} {v u : Value} {Q : VK} {value slice : Expr} (I : Inv X pins σ H s) (rx : RelV x v) (ry : RelV y u) (sub : Same F H) (ra : Rp X.K F x a) (rb : Rp X.K F y b)
    (e : item a b = .ok c) (q : ∀ v', Rp X.K F v' c → Q v' H) (hs : subscripted slice false v u = operate [v, u] (getItem v u)) : wpAny (model X.prog X.w) X.A (PyProof.Rows.subscriptTail value slice v u) (EP X pins σ Q) X.xe s := by
  unfold item at e
  split at e
  · unfold atD at e
    split at e
    · rename_i h; cases e
      obtain ⟨p, xs, rfl, hp, rxs⟩ := ra.toTup
      rw [rb.toInt] at ry
      obtain ⟨v', h1, h2⟩ := rxs.atI h
      exact ix_tup value slice pins s σ H _ _ v u Q I rx ry ⟨p, xs, _, v', rfl, rfl, seqT sub hp, h1, q v' h2⟩ hs
    · cases e
  · unfold atD at e
    split at e
    · rename_i h; cases e
      obtain ⟨p, xs, rfl, hp, rxs⟩ := ra.toList
      rw [rb.toInt] at ry
      obtain ⟨v', h1, h2⟩ := rxs.atI h
      exact ix_list value slice pins s σ H _ _ v u Q I rx ry ⟨p, xs, _, v', rfl, rfl, SqL.of (sub _ _ hp), h1, q v' h2⟩ hs
    · cases e
  · split at e
    · rename_i hz
      split at e
      · rename_i h; cases e
        rw [ra.toStr] at rx; rw [rb.toInt] at ry
        exact ix_str value slice pins s σ H _ _ v u Q I rx ry ⟨_, _, _, rfl, rfl, szOk_line hz, h, q _ (.str _)⟩ hs
      · cases e
    · cases e
  · split at e
    · rename_i k hk
      split at e
      · rename_i d hg; cases e
        obtain ⟨bb, rfl⟩ := key_ref rb hk
        obtain ⟨hk1, hk2, _⟩ := keyN_nk hk
        cases ry
        obtain ⟨aa, rfl, hsm, hz, ys, hd, r, _⟩ := dct_get I sub ra
        cases rx
        rcases dget_rel (k := k) r with ⟨n1, _⟩ | ⟨d', b', u', v', e1, e2, e3, e4⟩
        · rw [n1] at hg; cases hg
        · rw [e1] at hg; cases hg
          refine PyProof.Rows.tail_any (Heap.DictOfH.typeIs hd) slot_dict_getitem.lookup (getItem_keyed (knd := nestedKind X.prog X.w) (v := u') (by have := hr.units; show X.A.units + 1 + 8 < cLine; omega) (key_is I sub rb hk1 hk2) ⟨ys, hd, rfl⟩ ?_ ?_) hs
          · rw [valueAt_pairsH, e2]; rfl
          · exact ⟨v', H, I.tok _, e3, q v' e4⟩
      · cases e
    · cases e
  · cases e
theorem de_ix {κ : D → Env → R α → Prop} {a b : Expr} {pos : Pos} (h : DE C ρ a m fun x ρ1 m1 => DE C ρ1 b m1 fun y ρ2 m2 => ∃ g, m2 = (item x y).bind g ∧ ∀ z, κ z ρ2 (g z)) (hs : PlainIx b := by intro _ _; rfl) : DE C ρ (.Subscript a b pos) m κ := by
  intro X W Z x hK c z
  have x0 := x
  have hb : PE X b fun σ H Q => ∃ i : R α × Env × D, (DE C i.2.1 b i.1 (fun y ρ2 m2 => ∃ g, m2 = (item i.2.2 y).bind g ∧ ∀ z, κ z ρ2 (g z)) ∧ Z i.1) ∧ ∃ F, Rel W i.2.1 σ H F ∧ ∀ d ρ' m' v H' F', (∃ g, m' = (item i.2.2 d).bind g ∧ ∀ z, κ z ρ' (g z)) → Z m' → Rel W ρ' σ H' F' → Same F F' → Rp W.K F' v d → Q v H' :=
    ⟨fun p s σ H Q I ⟨i, pi, q⟩ => (pi.1 X W Z x hK c pi.2).run p s σ H Q I q⟩
  have hix : IxR X fun x y H Q => ∃ (F : Hp) (a b c : D), Same F H ∧ Rp X.K F x a ∧ Rp X.K F y b ∧ item a b = .ok c ∧ ∀ v', Rp X.K F v' c → Q v' H :=
    fun value slice pins s σ H x y v u Q I rx ry ⟨F, a, b, c, sub, ra, rb, e, q⟩ hs => ix_main x0.room I rx ry sub ra rb e q hs
  refine PE_imp (pe_ix hix (h X W Z x hK c z) hb hs) fun σ H Q ⟨F, r, q⟩ => ⟨F, r, fun dx ρ1 m1 vx H1 F1 h1 h2 h3 h4 h5 => ?_⟩
  refine ⟨(m1, ρ1, dx), ⟨h1, h2⟩, F1, h3, fun dy ρ2 m2 vy H2 F2 ⟨g, e, hg⟩ k2 k3 k4 k5 => ?_⟩
  subst e
  obtain ⟨w, ew, zw⟩ := c.bind k2
  refine ⟨F2, dx, dy, w, k3.sub, by rw [x.K, ← hK]; exact h5.mono k4, by rw [x.K, ← hK]; exact k5, ew, fun v' p' => ?_⟩
  exact q _ ρ2 _ v' H2 F2 (hg w) zw k3 (h4.trans k4) (by rw [hK, ← x.K]; exact p')
/-- an end of a slice: none, or a part -/
def DO {α : Type} (C : Ct) (ρ : Env) (e : Option Expr) (m : R α) (κ : Option Int → Env → R α → Prop) : Prop :=
  match e with
  | none => κ none ρ m
  | some e => DE C ρ e m fun d ρ1 m1 => (∃ i, d = .int i ∧ κ (some i) ρ1 m1) ∨ ∃ g, m1 = (toI d).bind g ∧ ∀ l, κ (some l) ρ1 (g l)
theorem po_of {X : Cx} {W : Wd} {Z : R α → Prop} (x : XOk C X) (hK : W.K = C.K) (c : Cl Z) {e : Option Expr} : PO X e fun σ H (Q : Option Int → Hp → Prop) => ∃ (i : R α × Env) (κ : Option Int → Env → R α → Prop), (DO C i.2 e i.1 κ ∧ Z i.1) ∧ ∃ F, Rel W i.2 σ H F ∧
    ∀ d ρ' m' H' F', κ d ρ' m' → Z m' → Rel W ρ' σ H' F' → Same F F' → Q d H' := by
  cases e with
  | none =>
    refine ⟨fun pins s σ H Q I ⟨i, κ, ⟨h, z⟩, F, r, q⟩ => ?_⟩
    exact po_none.run pins s σ H Q I (q none i.2 i.1 H F h z r (Same.refl _))
  | some e =>
    refine ⟨fun pins s σ H Q I ⟨i, κ, ⟨h, z⟩, F, r, q⟩ => ?_⟩
    refine (po_some (h X W Z x hK c z)).run pins s σ H Q I ⟨F, r, fun d ρ' m' v H' F' h1 h2 h3 h4 h5 => ?_⟩
    rcases h1 with ⟨i, e, h1⟩ | ⟨g, e, h1⟩
    · subst e; exact ⟨i, h5.toInt, q _ ρ' m' H' F' h1 h2 h3 h4⟩
    · subst e
      obtain ⟨l, el, zl⟩ := c.bind h2
      unfold toI at el
      split at el
      · cases el; exact ⟨_, h5.toInt, q _ ρ' _ H' F' (h1 _) zl h3 h4⟩
      · cases el
end
end Z

set_option Elab.async false
set_option linter.all false
set_option maxRecDepth 100000
set_option autoImplicit false
/-! # Z9: slices, built-in functions, isinstance, repr -/
namespace Z
open PySem L2
section
variable {α : Type} {C : Ct} {ρ : Env} {m : R α}

/-! ### slices -/
def rSlZ (K : PySem.W.Frag) : V → Option Int → Option Int → Hp → VK → Prop := fun x lo hi H Q => ∃ (F : Hp) (a c : D), Same F H ∧ Rp K F x a ∧ slice a lo hi = .ok c ∧ ∀ v H' F', Fx F H F' H' → Rp K F' v c → Q v H'
theorem cut_whole {α : Type} {xs : List α} {lo hi : Option Int} (h : HT.sIx xs.length 0 lo = 0 ∧ HT.sIx xs.length xs.length hi = xs.length) : cut xs lo hi = xs := by
  unfold Z.cut
  rw [h.1, h.2]
  simp
theorem sl_z {X : Cx} : L2.SlR X (rSlZ X.K) := by
  intro pins s σ H x v vl vu lo hi sl Q I rx hs pl pu ⟨F, a, c, sub, ra, e, q⟩
  unfold slice at e
  split at e
  · cases e
    obtain ⟨p, xs, rfl, hp, rxs⟩ := ra.toTup
    refine sl_tupA pins s σ H _ v vl vu lo hi sl Q I rx hs pl pu ⟨p, xs, rfl, seqT sub hp, fun hw => ?_, fun _ => newT sub (rxs.cut lo hi) q⟩
    rw [rxs.length] at hw
    rw [cut_whole hw] at q
    exact q _ H F (Fx.refl sub) (.tup hp rxs)
  · cases e
    obtain ⟨p, xs, rfl, hp, rxs⟩ := ra.toList
    exact sl_list pins s σ H _ v vl vu lo hi sl Q I rx hs pl pu ⟨p, xs, rfl, SqL.of (sub _ _ hp), newL sub (rxs.cut lo hi) q⟩
  · split at e
    · rename_i hz; cases e
      rw [ra.toStr] at rx
      exact sl_str pins s σ H _ v vl vu lo hi sl Q I rx hs pl pu ⟨_, rfl, szOk_line hz, q _ H F (Fx.refl sub) (.str _)⟩
    · cases e
  · cases e
theorem de_slice {κ : D → Env → R α → Prop} {a : Expr} {lo hi : Option Expr} {p pos : Pos} (h : DE C ρ a m fun x ρ1 m1 => DO C ρ1 lo m1 fun l ρ2 m2 => DO C ρ2 hi m2 fun u ρ3 m3 => ∃ g, m3 = (slice x l u).bind g ∧ ∀ z, κ z ρ3 (g z)) :
    DE C ρ (.Subscript a (.Slice lo hi none p) pos) m κ := by
  intro X W Z x hK c z
  refine PE_imp (pe_slice sl_z (h X W Z x hK c z) (po_of x hK c) (po_of x hK c)) fun σ H Q ⟨F, r, q⟩ => ⟨F, r, fun dx ρ1 m1 vx H1 F1 h1 h2 h3 h4 h5 => ?_⟩
  refine ⟨(m1, ρ1), _, ⟨h1, h2⟩, F1, h3, fun dl ρ2 m2 H2 F2 k1 k2 k3 k4 => ?_⟩
  refine ⟨(m2, ρ2), _, ⟨k1, k2⟩, F2, k3, fun du ρ3 m3 H3 F3 ⟨g, e, hg⟩ j2 j3 j4 => ?_⟩
  subst e
  obtain ⟨w, ew, zw⟩ := c.bind j2
  refine ⟨F3, dx, w, j3.sub, by rw [x.K, ← hK]; exact (h5.mono k4).mono j4, ew, fun v' H' F' fx p' => ?_⟩
  exact q _ ρ3 _ v' H' F' (hg w) zw (j3.step fx) (((h4.trans k4).trans j4).trans fx.ff) (by rw [hK, ← x.K]; exact p')
theorem de_negc {κ : D → Env → R α → Prop} {i : Int} {j : Nat} {p pos : Pos} (k : κ (.int (-i)) ρ m) : DE C ρ (.UnaryOp .USub (.Constant (.int i) j p) pos) m κ := by
  intro X W Z x hK c z
  refine PE_imp (pe_un un_neg pe_int) fun σ H Q ⟨F, r, q⟩ => ⟨_, rfl, q _ ρ m _ H F k z r (Same.refl _) (.int _)⟩

/-! ### built-in functions, by data -/
def rD (K : PySem.W.Frag) (f : List D → R D) : List V → Hp → VK → Prop := fun vs H Q => ∃ F ds c, Same F H ∧ RpAll K F vs ds ∧ f ds = .ok c ∧ ∀ v H' F', Fx F H F' H' → Rp K F' v c → Q v H'
def CallS (u : Value) (f : List D → R D) : Prop := ∀ (X : Cx) (k : Nat), X.calm = true → Room k X.A → X.A.guards = some [] → CallR X u (rD X.K f)
theorem da_call {κ : D → Env → R α → Prop} {X : Cx} {W : Wd} {Z : R α → Prop} {f : List D → R D} {es : List Expr} (x : XOk C X) (hK : W.K = C.K) (c : Cl Z) {σ : L2.St} {H : Hp} {Q : VK} {F : Hp} (r : Rel W ρ σ H F)
    (q : ∀ d ρ' m' v H' F', κ d ρ' m' → Z m' → Rel W ρ' σ H' F' → Same F F' → Rp W.K F' v d → Q v H') : ∀ ds ρ' m' vs H' F', (∃ (r0 : R D) (g : D → R α), f ds = r0 ∧ m' = r0.bind g ∧ ∀ z, κ z ρ' (g z)) → Z m' → Rel W ρ' σ H' F' → Same F F' → RpAll W.K F' vs ds → rD X.K f vs H' Q := by
  intro ds ρ' m' vs H' F' ⟨r0, g, e0, e, hg⟩ h2 h3 h4 h5
  subst e0 e
  obtain ⟨w, ew, zw⟩ := c.bind h2
  exact ⟨F', ds, w, h3.sub, by rw [x.K, ← hK]; exact h5, ew, fun v' H2 F2 fx p => q _ ρ' _ v' H2 F2 (hg w) zw (h3.step fx) (h4.trans fx.ff) (by rw [hK, ← x.K]; exact p)⟩
theorem de_blt {κ : D → Env → R α → Prop} {n : Str} {id : String} {f : List D → R D} {p pos : Pos} {e : Expr} {es : List Expr} (hc : CallS (.builtin id) f) (hm : C.mg n = none) (hv : bootBuiltins n = some (.builtin id))
    (h : DA C ρ (e :: es) m fun ds ρ1 m1 => ∃ (r0 : R D) (g : D → R α), f ds = r0 ∧ m1 = r0.bind g ∧ ∀ z, κ z ρ1 (g z)) (hg : C.sc.names.lookup n = some .globalImplicit := by rfl) (hn : n ≠ "__name__" := by decide) (hdb : (n == ("__debug__" : Str)) = false := by decide)
    (he : ∀ env : PySem.Env, starEach (e :: es) env = (false, eval e env) :: starEach es env := by intro _; rfl) (hpl : ∀ env : PySem.Env, (backTo pos (starEach es env)).any (·.1) = false := by intro _; rfl) : DE C ρ (.Call (.Name n p) (e :: es) [] pos) m κ := by
  intro X W Z x hK c z
  refine PE_imp (pe_callB (hc X _ x.calm x.room x.grd) (x.gl hg) (x.mg0 hm) hv (h X W Z x hK c z) hn hdb (he _) (hpl _)) fun σ H Q ⟨F, r, q⟩ => ⟨F, r, da_call (κ := κ) (es := es) x hK c r q⟩
theorem de_bty {κ : D → Env → R α → Prop} {n : Str} {T : String} {f : List D → R D} {p pos : Pos} {e : Expr} {es : List Expr} (hc : CallS (.type T) f) (hm : C.mg n = none) (hv : bootBuiltins n = some (.type T))
    (h : DA C ρ (e :: es) m fun ds ρ1 m1 => ∃ (r0 : R D) (g : D → R α), f ds = r0 ∧ m1 = r0.bind g ∧ ∀ z, κ z ρ1 (g z)) (hg : C.sc.names.lookup n = some .globalImplicit := by rfl) (hn : n ≠ "__name__" := by decide) (hdb : (n == ("__debug__" : Str)) = false := by decide)
    (he : ∀ env : PySem.Env, starEach (e :: es) env = (false, eval e env) :: starEach es env := by intro _; rfl) (hpl : ∀ env : PySem.Env, (backTo pos (starEach es env)).any (·.1) = false := by intro _; rfl) : DE C ρ (.Call (.Name n p) (e :: es) [] pos) m κ := by
  intro X W Z x hK c z
  refine PE_imp (pe_callTy (hc X _ x.calm x.room x.grd) (x.gl hg) (x.mg0 hm) hv (h X W Z x hK c z) hn hdb (he _) (hpl _)) fun σ H Q ⟨F, r, q⟩ => ⟨F, r, da_call (κ := κ) (es := es) x hK c r q⟩
/-- a module's name for a built-in function (gcd) -/
theorem de_bfn {κ : D → Env → R α → Prop} {n : Str} {id : String} {f : List D → R D} {p pos : Pos} {e : Expr} {es : List Expr} (hc : CallS (.builtin id) f) (hm : C.mg n = some (.builtin id))
    (h : DA C ρ (e :: es) m fun ds ρ1 m1 => ∃ (r0 : R D) (g : D → R α), f ds = r0 ∧ m1 = r0.bind g ∧ ∀ z, κ z ρ1 (g z)) (hg : C.sc.names.lookup n = some .globalImplicit := by rfl) (hdb : (n == ("__debug__" : Str)) = false := by decide)
    (he : ∀ env : PySem.Env, starEach (e :: es) env = (false, eval e env) :: starEach es env := by intro _; rfl) (hpl : ∀ env : PySem.Env, (backTo pos (starEach es env)).any (·.1) = false := by intro _; rfl) : DE C ρ (.Call (.Name n p) (e :: es) [] pos) m κ := by
  intro X W Z x hK c z
  refine PE_imp (pe_callBfun (hc X _ x.calm x.room x.grd) (x.gl hg) (by rw [x.mg]; exact hm) (h X W Z x hK c z) hdb (he _) (hpl _)) fun σ H Q ⟨F, r, q⟩ => ⟨F, r, da_call (κ := κ) (es := es) x hK c r q⟩
end

theorem fn1_ok {f : D → R D} {ds : List D} {c : D} (h : fn1 f ds = .ok c) : ∃ a, ds = [a] ∧ f a = .ok c := by
  match ds, h with
  | [a], h => exact ⟨a, rfl, h⟩
theorem fn2_ok {f : D → D → R D} {ds : List D} {c : D} (h : fn2 f ds = .ok c) : ∃ a b, ds = [a, b] ∧ f a b = .ok c := by
  match ds, h with
  | [a, b], h => exact ⟨a, b, rfl, h⟩
theorem bl_len : CallS (.builtin "len") (fn1 lenD) := by
  intro X k hc hr gd pins s σ H vs us Q I rv ⟨F, ds, c, sub, ra0, e0, q⟩
  obtain ⟨a, rfl, e⟩ := fn1_ok e0
  obtain ⟨v, rfl, ra⟩ := ra0.one
  unfold lenD at e
  split at e
  · cases e
    obtain ⟨p, xs, rfl, hp, rxs⟩ := ra.toTup
    exact call_len pins s σ H _ us Q I rv ⟨_, xs.length, rfl, .inr ⟨xs, seqT sub hp, rfl⟩, by rw [rxs.length]; exact q _ H F (Fx.refl sub) (.int _)⟩
  · cases e
    obtain ⟨p, xs, rfl, hp, rxs⟩ := ra.toList
    exact call_len pins s σ H _ us Q I rv ⟨_, xs.length, rfl, .inl ⟨xs, SqL.of (sub _ _ hp), rfl⟩, by rw [rxs.length]; exact q _ H F (Fx.refl sub) (.int _)⟩
  · split at e
    · rename_i hz; cases e
      rw [ra.toStr] at rv
      exact call_len pins s σ H _ us Q I rv ⟨_, _, rfl, ⟨szOk_line hz, rfl⟩, q _ H F (Fx.refl sub) (.int _)⟩
    · cases e
  · cases e
    obtain ⟨u, rfl, ru⟩ := Vals.one rv
    obtain ⟨a, rfl, hs, hz, ys, hd, r, hl⟩ := dct_get I sub ra
    cases ru
    have hz' := hz
    rw [sizeLine_eq] at hz'
    refine PyProof.Rows.call_len_slot (T := "dict") (n := ys.length) (Heap.DictOfH.typeIs hd) PySem.F.slot_dict_len (fun Q' hq => len_keyed (knd := nestedKind X.prog X.w) (kvs := pairsH ys) hs ⟨ys, hd, rfl⟩ (by rw [pairsH_length]; exact hq)) (by omega) (by omega) ?_
    rw [hl]
    exact ⟨.int _, H, I.tok _, ⟨_, rfl⟩, q _ H F (Fx.refl sub) (.int _)⟩
  · cases e
theorem bl_abs : CallS (.builtin "abs") (fn1 absD) := by
  intro X k hc hr gd pins s σ H vs us Q I rv ⟨F, ds, c, sub, ra0, e0, q⟩
  obtain ⟨a, rfl, e⟩ := fn1_ok e0
  obtain ⟨v, rfl, ra⟩ := ra0.one
  unfold absD at e
  split at e
  · cases e
    rw [ra.toInt] at rv
    exact call_abs pins s σ H _ us Q I rv ⟨_, rfl, q _ H F (Fx.refl sub) (.int _)⟩
  · cases e
theorem bl_max2 : CallS (.builtin "max") (fn2 maxD2) := by
  intro X k hc hr gd pins s σ H vs us Q I rv ⟨F, ds, c, sub, ra0, e0, q⟩
  obtain ⟨a, b, rfl, e⟩ := fn2_ok e0
  obtain ⟨v, u, rfl, ra, rb⟩ := ra0.two
  unfold maxD2 at e
  split at e
  · cases e
    rw [ra.toInt, rb.toInt] at rv
    exact call_max2 hc pins s σ H _ us Q I rv ⟨_, _, rfl, q _ H F (Fx.refl sub) (.int _)⟩
  · cases e
theorem bl_min2 : CallS (.builtin "min") (fn2 minD2) := by
  intro X k hc hr gd pins s σ H vs us Q I rv ⟨F, ds, c, sub, ra0, e0, q⟩
  obtain ⟨a, b, rfl, e⟩ := fn2_ok e0
  obtain ⟨v, u, rfl, ra, rb⟩ := ra0.two
  unfold minD2 at e
  split at e
  · cases e
    rw [ra.toInt, rb.toInt] at rv
    exact call_min2 hc pins s σ H _ us Q I rv ⟨_, _, rfl, q _ H F (Fx.refl sub) (.int _)⟩
  · cases e
theorem bl_int : CallS (.type "int") (fn1 intD) := by
  intro X k hc hr gd pins s σ H vs us Q I rv ⟨F, ds, c, sub, ra0, e0, q⟩
  obtain ⟨a, rfl, e⟩ := fn1_ok e0
  obtain ⟨v, rfl, ra⟩ := ra0.one
  unfold intD at e
  split at e
  · cases e
    rw [ra.toInt] at rv
    exact call_int1 pins s σ H _ us Q I rv (.inl ⟨_, rfl, q _ H F (Fx.refl sub) (.int _)⟩)
  · cases e
    rw [ra.toBool] at rv
    exact call_int1 pins s σ H _ us Q I rv (.inr ⟨_, rfl, q _ H F (Fx.refl sub) (.int _)⟩)
  · cases e
theorem bl_gcd : CallS (.builtin "math.gcd") (fn2 gcdD) := by
  intro X k hc hr gd pins s σ H vs us Q I rv ⟨F, ds, c, sub, ra0, e0, q⟩
  obtain ⟨a, b, rfl, e⟩ := fn2_ok e0
  obtain ⟨v, u, rfl, ra, rb⟩ := ra0.two
  unfold gcdD at e
  split at e
  · cases e
    rw [ra.toInt, rb.toInt] at rv
    exact cr_gcd pins s σ H _ us Q I rv ⟨_, _, rfl, q _ H F (Fx.refl sub) (.int _)⟩
  · cases e
theorem bl_tuple : CallS (.type "tuple") (fn1 tupleD) := by
  intro X k hc hr gd pins s σ H vs us Q I rv ⟨F, ds, c, sub, ra0, e0, q⟩
  obtain ⟨a, rfl, e⟩ := fn1_ok e0
  obtain ⟨v, rfl, ra⟩ := ra0.one
  unfold tupleD at e
  split at e
  · cases e
    obtain ⟨p, xs, rfl, hp, rxs⟩ := ra.toList
    exact call_tuple_of pins s σ H _ us Q I rv ⟨_, xs, rfl, .inl ⟨SqL.of (sub _ _ hp), newT sub rxs q⟩⟩
  · cases e
    obtain ⟨p, xs, rfl, hp, rxs⟩ := ra.toTup
    exact call_tuple_of pins s σ H _ us Q I rv ⟨_, xs, rfl, .inr ⟨seqT sub hp, q _ H F (Fx.refl sub) (.tup hp rxs)⟩⟩
  · cases e
theorem keys_rp {K : PySem.W.Frag} {F : Hp} : ∀ {kvs : List (D × D)} {ys : List (NestedKey × Addr × Value)}, Paired (DR K F) kvs ys → RpAll K F (ys.map fun y => .ref y.2.1) (kvs.map (·.1))
  | _, _, .nil => .nil
  | _, _, .cons h t => .cons h.1 (keys_rp t)
theorem keys_vals : ∀ ys : List (NestedKey × Addr × Value), Vals (ys.map fun y => V.ref y.2.1) (ys.map fun y => Value.ref y.2.1)
  | [] => .nil
  | _ :: r => .cons rfl (keys_vals r)
theorem items_keys {P : Program} {w : World} {h : Heap} {ys : List (NestedKey × Addr × Value)} {es : Array DictEntry} {acc : List Value} (hs : es.size = ys.length)
    (he : ∀ i (hi : i < es.size), ∃ y, ys[i]? = some y ∧ es[i].key = .ref y.2.1 ∧ es[i].val = y.2.2 ∧ (nestedKind P w).is h y.1 y.2.1) (hl : acc.length = es.size) (hv : ∀ j v, acc[j]? = some v → ∃ hi : j < es.size, v = es[j].key) :
    acc = ys.map fun y => .ref y.2.1 := by
  apply List.ext_getElem?
  intro j
  by_cases hj : j < es.size
  · obtain ⟨y, e1, e2, _⟩ := he j hj
    have hj' : j < acc.length := by omega
    obtain ⟨_, e3⟩ := hv j acc[j] (List.getElem?_eq_getElem hj')
    rw [List.getElem?_map, e1, List.getElem?_eq_getElem hj', e3, e2]; rfl
  · rw [List.getElem?_eq_none (by omega), List.getElem?_eq_none (by rw [List.length_map]; omega)]
theorem bl_list : CallS (.type "list") (fn1 listD) := by
  intro X k hc hr gd pins s σ H vs us Q I rv ⟨F, ds, c, sub, ra0, e0, q⟩
  obtain ⟨a, rfl, e⟩ := fn1_ok e0
  obtain ⟨v, rfl, ra⟩ := ra0.one
  unfold listD at e
  split at e
  · cases e
    obtain ⟨p, xs, rfl, hp, rxs⟩ := ra.toList
    exact call_list_of pins s σ H _ us Q I rv ⟨_, xs, rfl, .inl (SqL.of (sub _ _ hp)), newL sub rxs q⟩
  · cases e
    obtain ⟨p, xs, rfl, hp, rxs⟩ := ra.toTup
    exact call_list_of pins s σ H _ us Q I rv ⟨_, xs, rfl, .inr (seqT sub hp), newL sub rxs q⟩
  · cases e
    obtain ⟨u, rfl, ru⟩ := Vals.one rv
    obtain ⟨a, rfl, hs, hz, ys, hd, r, hl⟩ := dct_get I sub ra
    cases ru
    obtain ⟨es, ep, hr', hsz, he⟩ := hd.raw
    refine PySem.W.kdl_call (KdlSrc.rawDict (ep := ep) (es := es) hs) (I.ok.hd hc) hr' (by rw [hsz, hl]; exact hz) fun h' tk acc' c' kp hS hacc => ?_
    have ea := items_keys (acc := acc'.toList) hsz he (by rw [Array.length_toList]; exact hacc.1) fun j v e => hacc.2 j v (by rw [← Array.getElem?_toList]; exact e)
    have rp := keys_rp r
    have hp := I.hok.fresh (Nat.le_refl s.heap.objs.size)
    refine ⟨.ref s.heap.objs.size, _, I.laid (t' := tk) (o := .lst (ys.map fun y => V.ref y.2.1)) kp (Nat.le_refl _) ⟨?_, acc'.toList, c', ?_, ?_⟩, rfl, newL sub rp q _ hp⟩
    · rw [List.length_map, hl]; exact hz
    · rw [ea]; exact keys_vals ys
    · rw [Array.toArray_toList]; exact hS
  · cases e
theorem ints_of {K : PySem.W.Frag} {F : Hp} : ∀ {vs : List V} {ds : List D} {ns : List Int}, RpAll K F vs ds → intsD ds = some ns → vs = ns.map V.int
  | _, _, ns, .nil, e => by cases e; rfl
  | _, _, ns, .cons (d := .int i) h t, e => by
    simp only [intsD] at e
    obtain ⟨ms, e1, e2⟩ := Option.map_eq_some_iff.mp e
    subst e2
    rw [h.toInt, ints_of t e1]; rfl
  | _, _, ns, .cons (d := .none) h t, e => by cases e
  | _, _, ns, .cons (d := .bool _) h t, e => by cases e
  | _, _, ns, .cons (d := .str _) h t, e => by cases e
  | _, _, ns, .cons (d := .list _) h t, e => by cases e
  | _, _, ns, .cons (d := .tuple _) h t, e => by cases e
  | _, _, ns, .cons (d := .dict _) h t, e => by cases e
theorem bools_of {K : PySem.W.Frag} {F : Hp} : ∀ {vs : List V} {ds : List D} {ns : List Bool}, RpAll K F vs ds → boolsD ds = some ns → vs = ns.map V.bl
  | _, _, ns, .nil, e => by cases e; rfl
  | _, _, ns, .cons (d := .bool i) h t, e => by
    simp only [boolsD] at e
    obtain ⟨ms, e1, e2⟩ := Option.map_eq_some_iff.mp e
    subst e2
    rw [h.toBool, bools_of t e1]; rfl
  | _, _, ns, .cons (d := .none) h t, e => by cases e
  | _, _, ns, .cons (d := .int _) h t, e => by cases e
  | _, _, ns, .cons (d := .str _) h t, e => by cases e
  | _, _, ns, .cons (d := .list _) h t, e => by cases e
  | _, _, ns, .cons (d := .tuple _) h t, e => by cases e
  | _, _, ns, .cons (d := .dict _) h t, e => by cases e
theorem bl_sum : CallS (.builtin "sum") (fn1 sumL) := by
  intro X k hc hr gd pins s σ H vs us Q I rv ⟨F, ds, c, sub, ra0, e0, q⟩
  obtain ⟨a, rfl, e⟩ := fn1_ok e0
  obtain ⟨v, rfl, ra⟩ := ra0.one
  unfold sumL at e
  split at e
  · split at e
    · rename_i hn; cases e
      obtain ⟨p, xs, rfl, hp, rxs⟩ := ra.toList
      have ex := ints_of rxs hn
      subst ex
      exact cr_sum hc pins s σ H _ us Q I rv ⟨_, _, rfl, SqL.of (sub _ _ hp), q _ H F (Fx.refl sub) (.int _)⟩
    · cases e
  · cases e
theorem bl_all : CallS (.builtin "all") (fn1 allL) := by
  intro X k hc hr gd pins s σ H vs us Q I rv ⟨F, ds, c, sub, ra0, e0, q⟩
  obtain ⟨a, rfl, e⟩ := fn1_ok e0
  obtain ⟨v, rfl, ra⟩ := ra0.one
  unfold allL at e
  split at e
  · split at e
    · rename_i hn; cases e
      obtain ⟨p, xs, rfl, hp, rxs⟩ := ra.toList
      have ex := bools_of rxs hn
      subst ex
      exact cr_all hc pins s σ H _ us Q I rv ⟨_, _, rfl, SqL.of (sub _ _ hp), q _ H F (Fx.refl sub) (.bl _)⟩
    · cases e
  · cases e

/-! ### dict(pairs), sorted -/
section
variable {X : Cx} {pins : List (Addr × Obj)} {σ : L2.St} {H F : Hp} {s : Shared}
theorem pairs_get (I : Inv X pins σ H s) (e : Same F H) : ∀ {vs : List V} {ds : List D} {us : List Value} {qs : List (D × NestedKey × D)}, RpAll X.K F vs ds → Vals vs us → pairsK ds = some qs →
    ∃ ts : List (Addr × NestedKey × Addr × Value), us = ts.map (fun t => .ref t.1) ∧ (∀ t ∈ ts, PyProof.Rows.IsTup s.heap t.1 #[.ref t.2.2.1, t.2.2.2] ∧ (nestedKind X.prog X.w).is s.heap t.2.1 t.2.2.1) ∧
      Paired (fun (q : D × NestedKey × D) (t : Addr × NestedKey × Addr × Value) => q.2.1 = t.2.1 ∧ nk q.1 = some q.2.1 ∧ Rp X.K F (.ref t.2.2.1) q.1 ∧ ∃ v, RelV v t.2.2.2 ∧ Rp X.K F v q.2.2) qs ts
  | _, _, us, qs, .nil, r, h => by
    cases r
    simp only [pairsK, Option.some.injEq] at h; subst h
    exact ⟨[], rfl, by simp, .nil⟩
  | _, _, us, qs, .cons (d := d) ra rt, r, h => by
    cases r with
    | cons r1 r2 =>
      unfold pairsK at h
      split at h
      · rename_i heq; cases heq
      · rename_i kd v rr heq
        cases heq
        obtain ⟨k, e1, h2⟩ := Option.bind_eq_some_iff.mp h
        obtain ⟨qs', e2, rfl⟩ := Option.map_eq_some_iff.mp h2
        obtain ⟨T, xs, rfl, hT, rx⟩ := ra.toTup
        obtain ⟨kv, vv, rfl, rk, rvv⟩ := rx.two
        cases r1
        obtain ⟨b, rfl⟩ := key_ref rk e1
        obtain ⟨k1, k2, _⟩ := keyN_nk e1
        obtain ⟨its, ri, ti, _⟩ := I.tuple (seqT e hT)
        obtain ⟨u1, u2, rfl, q1, q2⟩ := vals2 ri
        cases q1
        obtain ⟨ts, t1, t2, t3⟩ := pairs_get I e rt r2 e2
        refine ⟨(T, k, b, u2) :: ts, by rw [t1]; rfl, fun t ht => ?_, .cons ⟨rfl, k1, rk, vv, q2, rvv⟩ t3⟩
        rcases List.mem_cons.mp ht with rfl | ht
        · exact ⟨ti, key_is I e rk k1 k2⟩
        · exact t2 t ht
      · cases h
end
theorem dmerge_rel {K : PySem.W.Frag} {F : Hp} : ∀ {qs : List (D × NestedKey × D)} {ts : List (Addr × NestedKey × Addr × Value)} {kvs : List (D × D)} {ys : List (NestedKey × Addr × Value)},
    Paired (fun (q : D × NestedKey × D) (t : Addr × NestedKey × Addr × Value) => q.2.1 = t.2.1 ∧ nk q.1 = some q.2.1 ∧ Rp K F (.ref t.2.2.1) q.1 ∧ ∃ v, RelV v t.2.2.2 ∧ Rp K F v q.2.2) qs ts → Paired (DR K F) kvs ys →
    Paired (DR K F) (dMerge kvs qs) (storedAllH ys (ts.map fun t => t.2))
  | _, _, kvs, ys, .nil, r => r
  | _, _, kvs, ys, .cons (a := q) (b := t) (l₁ := qs) (l₂ := ts) ⟨a1, a2, a3, v, a4, a5⟩ tl, r => by
    show Paired _ (dMerge (dSet kvs q.1 q.2.1 q.2.2) qs) (storedAllH (storedH ys t.2.1 t.2.2.1 t.2.2.2) (ts.map fun t => t.2))
    refine dmerge_rel tl ?_
    rw [a1] at a2 ⊢
    exact dset_rel r a3 a2 a4 a5
theorem dmerge_length : ∀ (qs : List (D × NestedKey × D)) (kvs : List (D × D)), (dMerge kvs qs).length ≤ kvs.length + qs.length
  | [], kvs => Nat.le_refl _
  | (kd, k, v) :: qs, kvs => by
    have h1 := dmerge_length qs (dSet kvs kd k v)
    have h2 := dset_length kvs kd k v
    show (dMerge (dSet kvs kd k v) qs).length ≤ _
    rw [List.length_cons]; omega
theorem bl_dict : CallS (.type "dict") (fn1 dictL) := by
  intro X k hc hr gd pins s σ H vs us Q I rv ⟨F, ds, c, sub, ra0, e0, q⟩
  obtain ⟨a, rfl, e⟩ := fn1_ok e0
  obtain ⟨v, rfl, ra⟩ := ra0.one
  unfold dictL at e
  split at e
  · split at e
    · rename_i qs hq
      split at e
      · rename_i hz; cases e
        obtain ⟨p, xs, rfl, hp, rxs⟩ := ra.toList
        obtain ⟨u, rfl, ru⟩ := Vals.one rv
        cases ru
        obtain ⟨its, ri, ⟨o, n, ho, h1, h2, h3⟩, hsz⟩ := I.list (SqL.of (sub _ _ hp))
        obtain ⟨ts, t1, t2, t3⟩ := pairs_get I sub rxs ri hq
        have lts : ts.length = its.length := by rw [t1, List.length_map]
        have lq : qs.length = ts.length := paired_len t3
        have lx : xs.length = its.length := ri.length
        have P := PairArg.list (prog := X.prog) (w := X.w) p its.toArray (fun j => ((ts[j]?).map (·.1)).getD 0) (ts.map fun t => (.ref t.2.2.1, t.2.2.2))
        refine call_dict_pairsH (knd := nestedKind X.prog X.w) (ps := ts.map fun t => t.2) P (I.ok.hd hc) (by have := hr.units; show X.A.units + 1 + 1 + 8 < cLine; omega) ⟨⟨o, n, ho, h1, h2, h3⟩, by simp [lts], fun j kk vv hj => ?_⟩ ⟨by simp, fun i key vv hi => ?_⟩ ?_ (by simp only [List.length_map]; omega) fun h' tk hd hk => ?_
        · rw [List.getElem?_map] at hj
          cases ht : ts[j]? with
          | none => rw [ht] at hj; cases hj
          | some t =>
            rw [ht] at hj
            cases hj
            refine ⟨by rw [t1]; simp [ht], .inl ?_⟩
            have := (t2 t (List.mem_of_getElem? ht)).1
            simp only [ht, Option.map_some, Option.getD_some]
            obtain ⟨oo, g1, g2, nn, g3⟩ := this
            exact ⟨oo, g1, g2, nn, g3⟩
        · have hi' : (ts.map fun t => ((.ref t.2.2.1, t.2.2.2) : Value × Value))[i]? = some (key, vv) := hi
          rw [List.getElem?_map] at hi'
          cases ht : ts[i]? with
          | none => rw [ht] at hi'; cases hi'
          | some t =>
            rw [ht] at hi'; cases hi'
            exact ⟨t.2.1, t.2.2.1, by rw [List.getElem?_map, ht]; rfl, rfl⟩
        · intro h' hk x hx
          obtain ⟨t, ht, rfl⟩ := List.mem_map.mp hx
          exact nestedKind_stays.stays (fun b o vs n e _ => hk b o (Nat.ne_of_lt (Heap.lt_size e)) (by simp) e) (t2 t ht).2
        · refine newD (tk := tk) I sub (fun b o e => hk b o (by simp) e) ?_ hd (dmerge_rel t3 .nil) q
          have := dmerge_length qs []
          rw [List.length_nil] at this
          omega
      · cases e
    · cases e
  · cases e

theorem each_of {X : Cx} {F : Hp} : ∀ {xs : List V} {ds : List D} {us : List Value}, RpAll X.K F xs ds → Vals xs us → W.EachIs (fun v d => ∃ x, RelV x v ∧ Rp X.K F x d) us ds
  | _, _, us, .nil, r => by cases r; exact .nil
  | _, _, us, .cons h t, r => by
    cases r with
    | cons r1 r2 => exact .cons ⟨_, r1, h⟩ (each_of t r2)
theorem each_back {X : Cx} {F : Hp} : ∀ {us : List Value} {ds : List D}, W.EachIs (fun v d => ∃ x, RelV x v ∧ Rp X.K F x d) us ds → ∃ xs, Vals xs us ∧ RpAll X.K F xs ds
  | _, _, .nil => ⟨[], .nil, .nil⟩
  | _, _, .cons ⟨x, h1, h2⟩ t => by
    obtain ⟨xs, a, b⟩ := each_back t
    exact ⟨x :: xs, .cons h1 a, .cons h2 b⟩
theorem each_reads {X : Cx} {F H : Hp} {pins : List (Addr × Obj)} {σ : L2.St} {s : Shared} (I : Inv X pins σ H s) (e : Same F H) : ∀ {us : List Value} {ds : List D}, W.EachIs (fun v d => ∃ x, RelV x v ∧ Rp X.K F x d) us ds → PyData.plainAll ds = true → W.EachIs (fun v d => ∃ as, Reads s.heap v (id d) as) us ds
  | _, _, .nil, _ => .nil
  | _, _, .cons ⟨x, h1, h2⟩ t, p => by
    simp only [PyData.plainAll, Bool.and_eq_true] at p
    exact .cons (h2.reads I e h1 p.1) (each_reads I e t p.2)
mutual
theorem reads_lt {h : Heap} : ∀ {v : Value} {d : D} {as : List Addr}, Reads h v d as → ∀ a ∈ as, a < h.objs.size
  | _, _, _, .none, _, m => nomatch m
  | _, _, _, .bool _, _, m => nomatch m
  | _, _, _, .int _ _, _, m => nomatch m
  | _, _, _, .str _ _, _, m => nomatch m
  | _, _, _, .list ho _ _ r, a, m => by
    rcases List.mem_cons.mp m with rfl | m
    · exact Heap.lt_size ho
    · exact readsAll_lt r a m
  | _, _, _, .tuple ho _ _ r, a, m => readsAll_lt r a m
  | _, _, _, .dict ho _ _ r r', a, m => by
    rcases List.mem_append.mp m with m | m
    · rcases List.mem_cons.mp m with rfl | m
      · exact Heap.lt_size ho
      · exact readsAll_lt r a m
    · exact readsAll_lt r' a m
theorem readsAll_lt {h : Heap} : ∀ {vs : List Value} {ds : List D} {as : List Addr}, ReadsAll h vs ds as → ∀ a ∈ as, a < h.objs.size
  | _, _, _, .nil, _, m => nomatch m
  | _, _, _, .cons r r', a, m => by
    rcases List.mem_append.mp m with m | m
    · exact reads_lt r a m
    · exact readsAll_lt r' a m
end
theorem sort_facts {xs : List D} {c : D} (h : sortL xs = .ok c) : okD (.list xs) = true ∧ W.AllAlike (xs.map id) ∧ W.Sortable (xs.map id) ∧ xs.length ≤ sizeLine ∧ c = .list (xs.mergeSort (W.dataLe false id)) := by
  unfold sortL at h
  split at h
  · rename_i hz
    simp only [Bool.and_eq_true, Bool.or_eq_true] at hz
    obtain ⟨⟨⟨h1, h2⟩, h3⟩, h4⟩ := hz
    cases h
    refine ⟨h1, ?_, ?_, szOk_line h4, rfl⟩
    · intro d hd d' hd'
      rw [List.map_id] at hd hd'
      exact List.all_eq_true.mp (List.all_eq_true.mp h2 d hd) d' hd'
    · rcases h3 with h3 | h3
      · refine .inl fun d hd => ?_
        rw [List.map_id] at hd
        have := List.all_eq_true.mp h3 d hd
        cases d with
        | tuple xs => cases xs with
          | nil => simp [isTup1] at this
          | cons x r => exact ⟨x, r, rfl⟩
        | _ => simp [isTup1] at this
      · refine .inr fun d hd => ?_
        rw [List.map_id] at hd
        have := List.all_eq_true.mp h3 d hd
        simp only [Bool.and_eq_true, Bool.not_eq_true'] at this
        exact ⟨fun e => by rw [e] at this; simp [isNone] at this, fun xs e => by rw [e] at this; simp [isTup] at this⟩
  · cases h
theorem depth_mem {d : D} : ∀ {ds : List D}, d ∈ ds → d.depth ≤ PyData.depthAll ds
  | e :: ds, h => by
    simp only [PyData.depthAll]
    rcases List.mem_cons.mp h with rfl | h
    · exact Nat.le_max_left _ _
    · exact Nat.le_trans (depth_mem h) (Nat.le_max_right _ _)
theorem bl_sorted : CallS (.builtin "sorted") (fn1 sortedL) := by
  intro X k hc hr gd pins s σ H vs us Q I rv ⟨F, ds, c, sub, ra0, e0, q⟩
  obtain ⟨a, rfl, e⟩ := fn1_ok e0
  obtain ⟨v, rfl, ra⟩ := ra0.one
  have un := hr.units
  unfold sortedL at e
  split at e
  · rename_i xs
    obtain ⟨h1, h2, h3, h4, rfl⟩ := sort_facts e
    obtain ⟨p, vs, rfl, hp, rxs⟩ := ra.toList
    obtain ⟨u, rfl, ru⟩ := Vals.one rv
    cases ru
    obtain ⟨its, ri, pl, hsz⟩ := I.list (SqL.of (sub _ _ hp))
    have ee := each_of rxs ri
    refine W.sorted_data (enc := id) pl.isList ee (each_reads I sub ee (plain_list h1)) h2 h3 h4 (fun b hb => ?_) fun out ho eo => ?_
    · have := depth_mem hb
      have := depth_list h1
      show X.A.units + 2 + b.depth < cLine
      omega
    · obtain ⟨xs', a1, a2⟩ := each_back eo
      obtain ⟨cc, hcc⟩ := PyProof.Rows.sortedAll_at s.heap its out.toArray
      have hfr := I.hok.fresh (Nat.le_succ s.heap.objs.size)
      refine ⟨.ref (s.heap.objs.size + 1), _, I.laid (t' := s.toks) (o := .lst xs') (fun _ _ => PyProof.Rows.sortedAll_old) (Nat.le_succ _) ⟨?_, out, cc, a1, hcc⟩, rfl, newL sub a2 q _ hfr⟩
      rw [a1.length, ho]; exact h4
  · rename_i kvs
    obtain ⟨h1, h2, h3, h4, rfl⟩ := sort_facts e
    obtain ⟨u, rfl, ru⟩ := Vals.one rv
    obtain ⟨a, rfl, hs, hz, ys, hd, r, hl⟩ := dct_get I sub ra
    cases ru
    obtain ⟨es, ep, hr', hsz, he⟩ := hd.raw
    refine Calls.call_function_entry PyProof.Rows.kind_sorted PyProof.Rows.plain_sorted PyProof.Rows.entry_sorted (PyProof.Rows.args_sorted1 _) ?_
    unfold Builtin.«sorted»
    refine wpAny_bind (m := checkCount "sorted" 1 1 _) (wpAny_pure ?_)
    refine wpAny_bind (W.kdu_collect (A := X.A.in1) (KdlSrc.rawDict (ep := ep) (es := es) hs) (I.ok.hd hc) hr' (by rw [hsz, hl]; exact hz) fun h' tk acc hk hacc => ?_)
    have ea := items_keys (acc := acc.toList) hsz he (by rw [Array.length_toList]; exact hacc.1) fun j v e => hacc.2 j v (by rw [← Array.getElem?_toList]; exact e)
    have la : acc.toList.length = ys.length := by rw [ea, List.length_map]
    refine wpAny_bind (wpAny_newList ?_ (by rw [la, hl]; exact hz))
    have hD : (h'.push { cls := .type "list", data := .seq acc.toList.toArray }).get? h'.objs.size = some (PyProof.Rows.seqObj "list" acc.toList.toArray 0) := Heap.get?_push_size _ rfl
    have ee := each_of (X := X) (keys_rp r) (keys_vals ys)
    rw [← ea] at ee
    have I1 : Inv X pins σ H { s with heap := h', toks := tk } := I.kept (t' := tk) hk
    have I2 : Inv X pins σ H { s with heap := h'.push { cls := .type "list", data := .seq acc.toList.toArray }, toks := tk } := I1.kept (t' := tk) fun b o e => Heap.get?_push_of_some _ e
    have er : W.EachIs (fun v b => ∃ as, Reads (h'.push { cls := .type "list", data := .seq acc.toList.toArray }) v (id b) as ∧ h'.objs.size ∉ as) acc.toList (kvs.map (·.1)) :=
      (each_reads I1 sub ee (plain_list h1)).mono fun v b ⟨as, rd⟩ => ⟨as, PyProof.Rows.Reads.keeps (fun b o e => Heap.get?_push_of_some _ e) rd, fun hm => absurd (reads_lt rd _ hm) (Nat.lt_irrefl _)⟩
    have go := W.list_sort_data (prog := X.prog) (w := X.w) (A := X.A.in1) (E := X.xe) (s := { s with heap := h'.push { cls := .type "list", data := .seq acc.toList.toArray }, toks := tk }) (enc := id) (Q := fun _ s' => EP X pins σ Q (.ref h'.objs.size) s') hD ee er h2 h3 h4 (fun b hb => by
      have h5 : b.depth ≤ 40 := Nat.le_trans (depth_mem hb) (depth_list h1)
      show X.A.units + 1 + 1 + b.depth < cLine
      omega) fun out ho eo => ?_
    · refine wpAny_bind (wpAny_holding (wpAny_mono go (fun _ s' x => ?_) fun _ _ e => e))
      exact wpAny_pure ⟨_, rfl, x⟩
    · obtain ⟨xs', a1, a2⟩ := each_back eo
      obtain ⟨cc, hcc⟩ := PyProof.Rows.sortedHeap_at (vs := acc.toList) (out := out.toArray) hD
      have hfr : H h'.objs.size = none := I1.hok.fresh (Nat.le_refl _)
      refine ⟨.ref h'.objs.size, _, I1.laid (t' := tk) (o := .lst xs') (fun b o e => (PyProof.Rows.sortedHeap_old (Nat.ne_of_lt (Heap.lt_size e)) (by show b < (h'.push _).objs.size; rw [Heap.size_push]; exact Nat.lt_succ_of_lt (Heap.lt_size e))).trans (Heap.get?_push_of_some _ e)) (Nat.le_refl _) ⟨?_, out, cc, a1, hcc⟩, rfl, newL sub a2 q _ hfr⟩
      rw [a1.length, ho]; exact h4
  · cases e
end Z

set_option Elab.async false
set_option linter.all false
set_option maxRecDepth 100000
set_option autoImplicit false
/-! # Z10: lists of their own -/
namespace Z
open PySem L2

theorem Rel.base {W : Wd} {ρ : Env} {σ : L2.St} {H F : Hp} (r : Rel W ρ σ H F) {b : Addr} (h : H b = none) : W.H0 b = none := by
  cases e : W.H0 b with
  | none => rfl
  | some u => obtain ⟨o, q⟩ := r.trk b u e; rw [h] at q; cases q
/-- a new list of its own at a slot -/
theorem Rel.own {W : Wd} {ρ : Env} {σ : L2.St} {H F : Hp} (r : Rel W ρ σ H F) (i : Nat) {p : Addr} {vs : List V} {ds : List D} (hp : H p = none) (rd : RpAll W.K F vs ds) :
    Rel W (ρ.set i (some (.own ds))) (σ.set i (some (.ref p))) (upd H p (.lst vs)) F := by
  obtain ⟨ad, k⟩ := r.env
  have hF := r.sub.free hp
  have h0 := r.base hp
  have hx : ∀ b o, H b = some o → upd H p (.lst vs) b = some o := fun b o h => by rw [upd_ne (ne_of_none h hp)]; exact h
  have fx : Fx F H F (upd H p (.lst vs)) := ⟨Same.refl _, fun b o h => hx b o (r.sub b o h), hx, fun _ _ h => .inl h⟩
  have r' := r.step fx
  refine ⟨r'.sub, r'.sub0, r'.keep, r'.fresh, ⟨fun j => if j = i then [p] else ad j, fun j sl e => ?_⟩, by rw [List.length_set, List.length_set]; exact r.len, r'.trk⟩
  rcases get_set e with ⟨e1, e2, e3⟩ | ⟨e1, e2⟩
  · subst e1; cases e3
    refine ⟨.ref p, by rw [List.getElem?_set_self (Nat.lt_of_lt_of_le e2 r.len)], ⟨p, vs, rfl, by simp, upd_same, hF, rd⟩, by simp [h0], fun l sl' hl e' b hb => ?_⟩
    have hb' : b = p := by simpa using hb
    subst hb'
    have ne : l ≠ i := fun q => hl q.symm
    simp only [if_neg ne]
    rcases get_set e' with ⟨z1, _, _⟩ | ⟨z1, z2⟩
    · exact absurd z1 hl
    · intro hbl
      obtain ⟨v', k1, k2, _, _⟩ := k l sl' z2
      obtain ⟨_, o, q⟩ := k2.there b hbl
      rw [hp] at q; cases q
  · have ne : j ≠ i := fun q => e1 q.symm
    simp only [if_neg ne]
    obtain ⟨v', k1, k2, k3, k4⟩ := k j sl e2
    refine ⟨v', by rw [List.getElem?_set_ne e1]; exact k1, k2.step fx, k3, fun l sl'' hl e' b hb => ?_⟩
    rcases get_set e' with ⟨z1, z2, z3⟩ | ⟨z1, z2⟩
    · subst z1; cases z3
      simp only [if_true]
      intro hbl
      have hb' : b = p := by simpa using hbl
      subst hb'
      obtain ⟨_, o, q⟩ := k2.there b hb
      rw [hp] at q; cases q
    · have ne' : l ≠ i := fun q => z1 q.symm
      simp only [if_neg ne']
      exact k4 l sl'' hl z2 b hb
/-- from now on nobody changes it -/
theorem Rel.freeze {W : Wd} {ρ : Env} {σ : L2.St} {H F : Hp} (r : Rel W ρ σ H F) {i : Nat} {xs : List D} (e : ρ[i]? = some (some (.own xs))) :
    ∃ p F', σ[i]? = some (some (.ref p)) ∧ Rel W (ρ.set i (some (.val (.list xs)))) σ H F' ∧ Same F F' ∧ Rp W.K F' (.ref p) (.list xs) := by
  obtain ⟨v, as, h1, h2, h3, up⟩ := r.slot e
  obtain ⟨p, vs, rfl, e2, hp, hf, rd⟩ := h2
  subst e2
  have ss : Same F (upd F p (.lst vs)) := fun b o h => by rw [upd_ne (ne_of_none h hf)]; exact h
  have rp : Rp W.K (upd F p (.lst vs)) (.ref p) (.list xs) := .lst upd_same (rd.mono ss)
  refine ⟨p, upd F p (.lst vs), h1, up (as' := []) ⟨ss, fun b o h => ?_, fun b o h _ => h, fun b o h => ⟨o, h⟩, fun b o h => ?_⟩ ⟨rp, rfl⟩ (by simp), ss, rp⟩
  · by_cases hb : b = p
    · subst hb; rw [upd_same] at h; cases h; exact hp
    · rw [upd_ne hb] at h; exact r.sub b o h
  · by_cases hb : b = p
    · subst hb; exact .inr (.inr (by simp))
    · rw [upd_ne hb] at h; exact .inl h
/-- other content -/
theorem Rel.ownAt {W : Wd} {ρ : Env} {σ : L2.St} {H F : Hp} (r : Rel W ρ σ H F) {i : Nat} {xs : List D} (e : ρ[i]? = some (some (.own xs))) :
    ∃ p vs, σ[i]? = some (some (.ref p)) ∧ H p = some (.lst vs) ∧ F p = none ∧ RpAll W.K F vs xs ∧ ∀ vs' xs', RpAll W.K F vs' xs' → Rel W (ρ.set i (some (.own xs'))) σ (upd H p (.lst vs')) F := by
  obtain ⟨v, as, h1, h2, h3, up⟩ := r.slot e
  obtain ⟨p, vs, rfl, e2, hp, hf, rd⟩ := h2
  subst e2
  refine ⟨p, vs, h1, hp, hf, rd, fun vs' xs' rd' => up (as' := [p]) ⟨Same.refl _, fun b o h => ?_, fun b o h hn => ?_, fun b o h => ?_, fun b o h => .inl h⟩ ⟨p, vs', rfl, rfl, upd_same, hf, rd'⟩ (by simp)⟩
  · rw [upd_ne (ne_of_none h hf)]; exact r.sub b o h
  · have : b ≠ p := by simpa using hn
    rw [upd_ne this]; exact h
  · by_cases hb : b = p
    · subst hb; exact ⟨_, upd_same⟩
    · exact ⟨o, by rw [upd_ne hb]; exact h⟩

theorem Rel.dctAt {W : Wd} {ρ : Env} {σ : L2.St} {H F : Hp} (r : Rel W ρ σ H F) {i : Nat} {kvs : List (D × D)} (e : ρ[i]? = some (some (.dct kvs))) :
    ∃ p xs, σ[i]? = some (some (.ref p)) ∧ H p = some (dctO p xs) ∧ F p = none ∧ DcR W.K F xs kvs ∧ ∀ xs' kvs', DcR W.K F xs' kvs' → Rel W (ρ.set i (some (.dct kvs'))) σ (upd H p (dctO p xs')) F := by
  obtain ⟨v, as, h1, h2, h3, up⟩ := r.slot e
  obtain ⟨p, xs, rfl, e2, hp, hf, rd⟩ := h2
  subst e2
  refine ⟨p, xs, h1, hp, hf, rd, fun xs' kvs' rd' => up (as' := [p]) ⟨Same.refl _, fun b o h => ?_, fun b o h hn => ?_, fun b o h => ?_, fun b o h => .inl h⟩ ⟨p, xs', rfl, rfl, upd_same, hf, rd'⟩ (by simp)⟩
  · rw [upd_ne (ne_of_none h hf)]; exact r.sub b o h
  · have : b ≠ p := by simpa using hn
    rw [upd_ne this]; exact h
  · by_cases hb : b = p
    · subst hb; exact ⟨_, upd_same⟩
    · exact ⟨o, by rw [upd_ne hb]; exact h⟩
/-- from now on nobody changes it -/
theorem Rel.freezeD {W : Wd} {ρ : Env} {σ : L2.St} {H F : Hp} (r : Rel W ρ σ H F) {i : Nat} {kvs : List (D × D)} (e : ρ[i]? = some (some (.dct kvs))) :
    ∃ p F', σ[i]? = some (some (.ref p)) ∧ Rel W (ρ.set i (some (.val (.dict kvs)))) σ H F' ∧ Same F F' ∧ Rp W.K F' (.ref p) (.dict kvs) := by
  obtain ⟨v, as, h1, h2, h3, up⟩ := r.slot e
  obtain ⟨p, xs, rfl, e2, hp, hf, rd⟩ := h2
  subst e2
  have ss : Same F (upd F p (dctO p xs)) := fun b o h => by rw [upd_ne (ne_of_none h hf)]; exact h
  have rp : Rp W.K (upd F p (dctO p xs)) (.ref p) (.dict kvs) := by
    rw [show PyData.dict kvs = .dict ((kvs.map (·.1)).zip (kvs.map (·.2))) by rw [zip_self]]
    exact .dct upd_same (rd.ks.mono ss) rd.nk (rd.vs.mono ss)
  refine ⟨p, upd F p (dctO p xs), h1, up (as' := []) ⟨ss, fun b o h => ?_, fun b o h _ => h, fun b o h => ⟨o, h⟩, fun b o h => ?_⟩ ⟨rp, rfl⟩ (by simp), ss, rp⟩
  · by_cases hb : b = p
    · subst hb; rw [upd_same] at h; cases h; exact hp
    · rw [upd_ne hb] at h; exact r.sub b o h
  · by_cases hb : b = p
    · subst hb; exact .inr (.inr (by simp))
    · rw [upd_ne hb] at h; exact .inl h

section
variable {α : Type} {C : Ct} {ρ : Env} {m : R α}

/-- an expression that makes a new list -/
def DN {α : Type} (C : Ct) (ρ : Env) (e : Expr) (m : R α) (κ : List D → Env → R α → Prop) : Prop :=
  ∀ (X : Cx) (W : Wd) (Z : R α → Prop), XOk C X → W.K = C.K → Cl Z → Z m →
    PE X e fun σ H Q => ∃ F, Rel W ρ σ H F ∧ ∀ ds ρ' m' vs p H' F', κ ds ρ' m' → Z m' → Rel W ρ' σ H' F' → Same F F' → H' p = none → RpAll W.K F' vs ds → Q (.ref p) (upd H' p (.lst vs))
theorem dn_lst {κ : List D → Env → R α → Prop} {es : List Expr} {pos : Pos} (h : DA C ρ es m fun ds ρ1 m1 => ds.length ≤ 16777216 ∧ κ ds ρ1 m1) : DN C ρ (.List es pos) m κ := by
  intro X W Z x hK c z
  refine PE_imp (pe_lst (h X W Z x hK c z)) fun σ H Q ⟨F, r, q⟩ => ⟨F, r, fun ds ρ' m' vs H' F' ⟨hz, h1⟩ h2 h3 h4 h5 => ⟨by rw [h5.length, sizeLine_eq]; exact hz, fun p hp => ?_⟩⟩
  exact q ds ρ' m' vs p H' F' h1 h2 h3 h4 hp h5
/-- list(e) -/
theorem dn_list {κ : List D → Env → R α → Prop} {e : Expr} {p pos : Pos} (hm : C.mg ("list" : Str) = none) (h : DE C ρ e m fun d ρ1 m1 => ∃ g, m1 = (iterL d).bind g ∧ ∀ xs, κ xs ρ1 (g xs))
    (hg : C.sc.names.lookup ("list" : Str) = some .globalImplicit := by rfl) (he : ∀ env : PySem.Env, starEach [e] env = (false, eval e env) :: starEach [] env := by intro _; rfl) (hpl : ∀ env : PySem.Env, (backTo pos (starEach [] env)).any (·.1) = false := by intro _; rfl) : DN C ρ (.Call (.Name "list" p) [e] [] pos) m κ := by
  intro X W Z x hK c z
  have ha : DA C ρ [e] m fun ds ρ1 m1 => ∃ d, ds = [d] ∧ ∃ g, m1 = (iterL d).bind g ∧ ∀ xs, κ xs ρ1 (g xs) :=
    da_cons (fun X W Z x hK c z => PE_imp (h X W Z x hK c z) fun σ H Q ⟨F, r, q⟩ => ⟨F, r, fun d ρ' m' v H' F' k1 => q d ρ' m' v H' F' (da_nil ⟨d, rfl, k1⟩)⟩) he
  refine PE_imp (pe_callTy call_list_of (x.gl hg) (x.mg0 hm) rfl (ha X W Z x hK c z) (by decide) (by decide) (he _) (hpl _)) fun σ H Q ⟨F, r, q⟩ => ⟨F, r, fun ds ρ' m' vs H' F' ⟨d, e1, g, e2, hgg⟩ h2 h3 h4 h5 => ?_⟩
  subst e1 e2
  obtain ⟨xs, ex, zx⟩ := c.bind h2
  obtain ⟨v, rfl, rd⟩ := h5.one
  have sub := h3.sub
  unfold iterL at ex
  split at ex
  · cases ex
    obtain ⟨p, ys, rfl, hp, rys⟩ := rd.toTup
    exact ⟨p, ys, rfl, .inr (by rw [x.K, ← hK]; exact seqT sub hp), fun l hl => q _ ρ' _ ys l H' F' (hgg _) zx h3 h4 hl rys⟩
  · cases ex
    obtain ⟨p, ys, rfl, hp, rys⟩ := rd.toList
    exact ⟨p, ys, rfl, .inl (SqL.of (sub _ _ hp)), fun l hl => q _ ρ' _ ys l H' F' (hgg _) zx h3 h4 hl rys⟩
  · cases ex
theorem ds_own {J : Jd α} {n : Str} {e : Expr} {p pos : Pos} {rest : List Stmt} (i : Nat) (h : DN C ρ e m fun ds ρ1 m1 => DSs C (ρ1.set i (some (.own ds))) rest m1 J) (hN : C.N[i]? = some n := by rfl)
    (hx : Loc C.sc n := by first | exact Or.inl rfl | exact Or.inr rfl) (hfn : C.fn n = true ∨ C.sc.names.lookup n = some .local := by first | exact Or.inl rfl | exact Or.inr rfl) (hs : ∀ env : PySem.Env, env.scope = C.sc → swapsWith e (some (.Name n p)) pos.line env = pure false := by intro env he; rfl) : DSs C ρ (.Assign [.Name n p] e pos :: rest) m J := by
  intro X W Z x hK c z
  have hf : X.fn n = true ∨ X.env.scope.names.lookup n = some .local := hfn.elim (fun h => .inl (x.fnl n h)) fun h => .inr (by rw [x.sc]; exact h)
  refine PSs_imp (pss_cons (ps_set (i := i) (by rw [x.N]; exact x.nd) (by rw [x.N]; exact hN) (by rw [x.sc]; exact hx) (h X W Z x hK c z) (hs _ x.sc) hf) (rest_run (J := J) x hK c)) fun D σ H ⟨F, r, l⟩ => ?_
  exact ⟨F, r, fun d ρ' m' vs p H' F' h1 h2 h3 _ h4 h5 => ⟨(m', _), ⟨h1, h2⟩, F', h3.own i h4 h5, l⟩⟩
/-- it is read, and from now on a value -/
theorem de_take {κ : D → Env → R α → Prop} {n : Str} {pos : Pos} (i : Nat) {xs : List D} (hρ : ρ[i]? = some (some (.own xs))) (k : κ (.list xs) (ρ.set i (some (.val (.list xs)))) m) (hN : C.N[i]? = some n := by rfl)
    (hv : Vis C.sc n := by first | exact Or.inl rfl | exact Or.inr (Or.inl rfl) | exact Or.inr (Or.inr rfl)) (hd : (n == ("__debug__" : Str)) = false := by decide) (hcd : (n == ("__classdict__" : Str)) = false := by decide) : DE C ρ (.Name n pos) m κ := by
  intro X W Z x hK c z
  refine PE_imp (pe_var (i := i) (by rw [x.N]; exact hN) (x.vis hv) hd hcd) fun σ H Q ⟨F, r, q⟩ => ?_
  obtain ⟨p, F', h1, h2, h3, h4⟩ := r.freeze hρ
  exact ⟨_, h1, q _ _ m _ H F' k z h2 h3 h4⟩
/-- its name, alone, as a part of another reading -/
theorem own_name {X : Cx} (x : XOk C X) {n : Str} {pos : Pos} {i : Nat} (hN : C.N[i]? = some n) (hv : Vis C.sc n) (hd : (n == ("__debug__" : Str)) = false) (hcd : (n == ("__classdict__" : Str)) = false) : PE X (.Name n pos) fun σ H Q => ∃ v, σ[i]? = some (some v) ∧ Q v H :=
  pe_var (i := i) (by rw [x.N]; exact hN) (x.vis hv) hd hcd

/-! ### methods that change it -/
def rOwn (K : PySem.W.Frag) (f : List D → List D → R (D × List D)) : V → List V → Hp → VK → Prop := fun x ws H Q => ∃ F p vs xs ds r ys, x = .ref p ∧ H p = some (.lst vs) ∧ Same F H ∧ RpAll K F vs xs ∧ RpAll K F ws ds ∧ f xs ds = .ok (r, ys) ∧
  ∀ v vs', Rp K F v r → RpAll K F vs' ys → Q v (upd H p (.lst vs'))
def OwnM (id : String) (f : List D → List D → R (D × List D)) : Prop := ∀ X : Cx, MtR X id (rOwn X.K f)
theorem om_append : OwnM "list.append" pushM := by
  intro X pins s σ H x ws v us Q I rx rv ⟨F, p, vs, xs, ds, r, ys, e1, hp, sub, rd, ra, e, q⟩
  subst e1
  unfold pushM at e
  split at e
  · split at e
    · rename_i hz; cases e
      obtain ⟨w, rfl, rw'⟩ := ra.one
      refine mt_append pins s σ H _ _ v us Q I rx rv ⟨p, vs, w, rfl, rfl, hp, by rw [rd.length, sizeLine_eq]; simpa using hz, q .non _ .non (rd.snoc rw')⟩
    · cases e
  · cases e
theorem om_extend : OwnM "list.extend" extendM := by
  intro X pins s σ H x ws v us Q I rx rv ⟨F, p, vs, xs, ds, r, ys, e1, hp, sub, rd, ra, e, q⟩
  subst e1
  unfold extendM at e
  split at e
  · split at e
    · rename_i hz; cases e
      obtain ⟨w, rfl, rw'⟩ := ra.one
      obtain ⟨b, zs, rfl, hb, rz⟩ := rw'.toList
      refine mt_extend pins s σ H _ _ v us Q I rx rv ⟨p, b, vs, zs, rfl, rfl, hp, sub _ _ hb, by rw [rd.length, rz.length]; exact szOk_line hz, q .non _ .non (rd.append rz)⟩
    · cases e
  · cases e
theorem RpAll.eraseIdx {K : PySem.W.Frag} {F : Hp} : ∀ {vs : List V} {ds : List D} (n : Nat), RpAll K F vs ds → RpAll K F (vs.eraseIdx n) (ds.eraseIdx n)
  | _, _, _, .nil => .nil
  | _, _, 0, .cons _ t => t
  | _, _, n + 1, .cons r t => .cons r (RpAll.eraseIdx n t)
theorem RpAll.set {K : PySem.W.Frag} {F : Hp} {v : V} {d : D} (h : Rp K F v d) : ∀ {vs : List V} {ds : List D} (n : Nat), RpAll K F vs ds → RpAll K F (vs.set n v) (ds.set n d)
  | _, _, _, .nil => .nil
  | _, _, 0, .cons _ t => .cons h t
  | _, _, n + 1, .cons r t => .cons r (RpAll.set h n t)
theorem RpAll.dropLast {K : PySem.W.Frag} {F : Hp} {vs : List V} {ds : List D} (r : RpAll K F vs ds) : RpAll K F vs.dropLast ds.dropLast := by
  rw [List.dropLast_eq_take, List.dropLast_eq_take, r.length]; exact r.take _
theorem om_pop0 : OwnM "list.pop" pop0M := by
  intro X pins s σ H x ws v us Q I rx rv ⟨F, p, vs, xs, ds, r, ys, e1, hp, sub, rd, ra, e, q⟩
  subst e1
  unfold pop0M at e
  split at e
  · split at e
    · rename_i hz; cases e
      cases ra
      rw [List.getLast?_eq_getElem?, ← rd.length] at hz
      obtain ⟨w, h1, h2⟩ := rd.at hz
      refine mt_pop pins s σ H _ _ v us Q I rx rv ⟨p, vs, w, rfl, rfl, hp, h1, q w _ h2 rd.dropLast⟩
    · cases e
  · cases e
theorem om_pop1 : OwnM "list.pop" pop1M := by
  intro X pins s σ H x ws v us Q I rx rv ⟨F, p, vs, xs, ds, r, ys, e1, hp, sub, rd, ra, e, q⟩
  subst e1
  unfold pop1M at e
  split at e
  · split at e
    · rename_i j hj
      split at e
      · rename_i hz; cases e
        obtain ⟨w, rfl, rw'⟩ := ra.one
        rw [rw'.toInt] at rv
        obtain ⟨w', h1, h2⟩ := rd.at hz
        rw [← rd.length] at hj
        obtain ⟨k1, k2, k3, k4⟩ := ixN_seq hj
        obtain ⟨its, n, r, ho, hsz⟩ := I.lst hp
        have hn := line63
        refine mt_popAt pins s σ H _ _ v us Q I rx rv ⟨p, vs, _, j, w', rfl, rfl, hp, ?_, ?_, k1, h1, q w' _ h2 (rd.eraseIdx j)⟩ <;> omega
      · cases e
    · cases e
  · cases e
theorem de_om {κ : D → Env → R α → Prop} {name : Str} {id : String} {f : List D → List D → R (D × List D)} {n : Str} {np ap cp : Pos} {e : Expr} {es : List Expr} {xs0 : List D} (slot : Slot "list" name id) (hty : typeOf (.builtin id) = pure (.type "method_descriptor")) (hm : OwnM id f) (i : Nat) (hρ : ρ[i]? = some (some (.own xs0)))
    (h : DA C ρ (e :: es) m fun ds ρ1 m1 => ∃ xs g, ρ1[i]? = some (some (.own xs)) ∧ m1 = (f xs ds).bind g ∧ ∀ r ys, κ r (ρ1.set i (some (.own ys))) (g (r, ys))) (hN : C.N[i]? = some n := by rfl)
    (hv : Vis C.sc n := by first | exact Or.inl rfl | exact Or.inr (Or.inl rfl) | exact Or.inr (Or.inr rfl)) (hd : (n == ("__debug__" : Str)) = false := by decide) (hcd : (n == ("__classdict__" : Str)) = false := by decide)
    (hbase : ∀ env : PySem.Env, env.scope = C.sc → attributeBase (.Name n np) name env (eval (.Name n np) env) = eval (.Name n np) env := by intro env he; rfl)
    (hfew : ∀ env : PySem.Env, ((backTo cp (starEach (e :: es) env)).all (fun x => !x.1) && (backToKw cp (keywordEach [] env)).all (fun x => x.1.isSome)
      && decide ((e :: es).length + ([] : List Keyword).length + (if ([] : List Keyword).isEmpty then 0 else 1) < 30)) = true := by intro _; rfl)
    (hline : (ap.endLine == cp.line) = true := by rfl) (he : ∀ env : PySem.Env, starEach (e :: es) env = (false, eval e env) :: starEach es env := by intro _; rfl) (hpl : ∀ env : PySem.Env, (backTo cp (starEach es env)).any (·.1) = false := by intro _; rfl) :
    DE C ρ (.Call (.Attribute (.Name n np) name ap) (e :: es) [] cp) m κ := by
  intro X W Z x hK c z
  refine PE_imp (pe_bm F.plainAttrs_list slot hty (hm X) (own_name x hN hv hd hcd) (h X W Z x hK c z) (hbase _ x.sc) (hfew _) hline (he _) (hpl _)) fun σ H Q ⟨F, r, q⟩ => ?_
  obtain ⟨p, vs, h1, h2, _, _, _⟩ := r.ownAt hρ
  refine ⟨_, h1, .inl ⟨rfl, _, SqL.of h2⟩, F, r, fun ds ρ' m' ws H' F' ⟨xs, g, e1, e2, hg⟩ k2 k3 k4 k5 => ?_⟩
  subst e2
  obtain ⟨p', vs', j1, j2, j3, j4, j5⟩ := k3.ownAt e1
  rw [h1] at j1; cases j1
  obtain ⟨⟨rr, ys⟩, er, zr⟩ := c.bind k2
  refine ⟨F', p, vs', xs, ds, rr, ys, rfl, j2, k3.sub, by rw [x.K, ← hK]; exact j4, by rw [x.K, ← hK]; exact k5, er, fun v vs2 rp rd => ?_⟩
  rw [x.K, ← hK] at rp rd
  exact q _ _ _ v _ F' (hg rr ys) zr (j5 vs2 ys rd) k4 rp
theorem de_om0 {κ : D → Env → R α → Prop} {name : Str} {id : String} {f : List D → List D → R (D × List D)} {n : Str} {np ap cp : Pos} {xs : List D} {g : D × List D → R α} (slot : Slot "list" name id) (hty : typeOf (.builtin id) = pure (.type "method_descriptor")) (hm : OwnM id f) (i : Nat) (hρ : ρ[i]? = some (some (.own xs)))
    (e : m = (f xs []).bind g) (k : ∀ r ys, κ r (ρ.set i (some (.own ys))) (g (r, ys))) (hN : C.N[i]? = some n := by rfl)
    (hv : Vis C.sc n := by first | exact Or.inl rfl | exact Or.inr (Or.inl rfl) | exact Or.inr (Or.inr rfl)) (hd : (n == ("__debug__" : Str)) = false := by decide) (hcd : (n == ("__classdict__" : Str)) = false := by decide)
    (hbase : ∀ env : PySem.Env, env.scope = C.sc → attributeBase (.Name n np) name env (eval (.Name n np) env) = eval (.Name n np) env := by intro env he; rfl)
    (hline : (ap.endLine == cp.line) = true := by rfl) :
    DE C ρ (.Call (.Attribute (.Name n np) name ap) [] [] cp) m κ := by
  intro X W Z x hK c z
  refine PE_imp (pe_bm0 F.plainAttrs_list slot hty (hm X) (own_name x hN hv hd hcd) (hbase _ x.sc) hline) fun σ H Q ⟨F, r, q⟩ => ?_
  subst e
  obtain ⟨p, vs, h1, h2, h3, h4, h5⟩ := r.ownAt hρ
  obtain ⟨⟨rr, ys⟩, er, zr⟩ := c.bind z
  refine ⟨_, h1, .inl ⟨rfl, _, SqL.of h2⟩, F, p, vs, xs, [], rr, ys, rfl, h2, r.sub, by rw [x.K, ← hK]; exact h4, .nil, er, fun v vs2 rp rd => ?_⟩
  rw [x.K, ← hK] at rp rd
  exact q _ _ _ v _ F (k rr ys) zr (h5 vs2 ys rd) (Same.refl _) rp
/-- an expression for what it does -/
theorem ds_expr {J : Jd α} {e : Expr} {pos : Pos} {rest : List Stmt} (h : DE C ρ e m fun _ ρ1 m1 => DSs C ρ1 rest m1 J) (hs : ∀ env : PySem.Env, env.scope = C.sc → swapsWith e none pos.line env = pure false := by intro env he; rfl) : DSs C ρ (.Expr e pos :: rest) m J := by
  intro X W Z x hK c z
  refine PSs_imp (pss_cons (ps_expr (h X W Z x hK c z) (hs _ x.sc)) (rest_run (J := J) x hK c)) fun D σ H ⟨F, r, l⟩ => ?_
  exact ⟨F, r, fun d ρ' m' v H' F' h1 h2 h3 h4 h5 => ⟨(m', ρ'), ⟨h1, h2⟩, F', h3, l⟩⟩
/-- x[e1] = e2 -/
theorem ds_setIx {J : Jd α} {n : Str} {e1 e2 : Expr} {np sp pos : Pos} {rest : List Stmt} (i : Nat) (h : DE C ρ e2 m fun d ρ1 m1 => (∃ xs0, ρ1[i]? = some (some (.own xs0))) ∧ DE C ρ1 e1 m1 fun j ρ2 m2 => ∃ xs g, ρ2[i]? = some (some (.own xs)) ∧ m2 = (setM xs j d).bind g ∧ ∀ ys, DSs C (ρ2.set i (some (.own ys))) rest (g ys) J) (hN : C.N[i]? = some n := by rfl)
    (hv : Vis C.sc n := by first | exact Or.inl rfl | exact Or.inr (Or.inl rfl) | exact Or.inr (Or.inr rfl)) (hd : (n == ("__debug__" : Str)) = false := by decide) (hcd : (n == ("__classdict__" : Str)) = false := by decide)
    (ha : ∀ (env : PySem.Env) v, assign (.Subscript (.Name n np) e1 sp) env v = (do
      let ov ← holding [v] (eval (.Name n np) env)
      let iv ← holding [v, ov] (eval e1 env)
      standAt sp
      holding [v, ov, iv] (setItem ov iv v)
      release [v, ov, iv] []) := by intro _ _; rfl)
    (hs : ∀ env : PySem.Env, env.scope = C.sc → swapsWithSole [.Subscript (.Name n np) e1 sp] e2 pos.line env = pure false := by intro env he; rfl) (hw : ∀ env : PySem.Env, env.scope = C.sc → swappedStores [.Subscript (.Name n np) e1 sp] e2 env = pure none := by intro env he; rfl)
    (h1 : ∀ env : PySem.Env, (assignEach [.Subscript (.Name n np) e1 sp] env).map (·.2) = [assign (.Subscript (.Name n np) e1 sp) env] := by intro _; rfl) : DSs C ρ (.Assign [.Subscript (.Name n np) e1 sp] e2 pos :: rest) m J := by
  intro X W Z x hK c z
  have hi : PE X e1 fun σ H Q => ∃ (q : R α × Env) (κ : D → Env → R α → Prop), (DE C q.2 e1 q.1 κ ∧ Z q.1) ∧ ∃ F, Rel W q.2 σ H F ∧ ∀ d ρ' m' v H' F', κ d ρ' m' → Z m' → Rel W ρ' σ H' F' → Same F F' → Rp W.K F' v d → Q v H' :=
    ⟨fun p s σ H Q I ⟨i, κ, pi, q⟩ => (pi.1 X W Z x hK c pi.2).run p s σ H Q I q⟩
  refine PSs_imp (pss_cons (ps_asg (h X W Z x hK c z) (pg_sub (own_name x hN hv hd hcd) hi set_list (ha _)) (hs _ x.sc) (hw _ x.sc) (h1 _)) (rest_run (J := J) x hK c)) fun Dn σ H ⟨F, r, l⟩ => ?_
  refine ⟨F, r, fun d ρ1 m1 v H1 F1 ⟨⟨xs0, e0⟩, k1⟩ k2 k3 k4 k5 => ?_⟩
  obtain ⟨p, vs, a1, a2, _, _, _⟩ := k3.ownAt e0
  refine ⟨_, a1, (m1, ρ1), _, ⟨k1, k2⟩, F1, k3, fun j ρ2 m2 w H2 F2 ⟨xs, g, b1, b2, b3⟩ j2 j3 j4 j5 => ?_⟩
  subst b2
  obtain ⟨p', vs', c1, c2, _, c4, c5⟩ := j3.ownAt b1
  rw [a1] at c1; cases c1
  obtain ⟨ys, ey, zy⟩ := c.bind j2
  unfold setM at ey
  split at ey
  · split at ey
    · rename_i jj hj; cases ey
      rw [← c4.length] at hj
      refine ⟨p, vs', _, jj, rfl, j5.toInt, c2, hj, (_, _), ⟨b3 _, zy⟩, F2, c5 _ _ (c4.set (k5.mono j4) jj), l⟩
    · cases ey
  · cases ey
/-- x[e] -/
theorem de_ixOwn {κ : D → Env → R α → Prop} {n : Str} {b : Expr} {np pos : Pos} {xs0 : List D} (i : Nat) (hρ : ρ[i]? = some (some (.own xs0))) (h : DE C ρ b m fun y ρ2 m2 => ∃ xs g, ρ2[i]? = some (some (.own xs)) ∧ m2 = (item (.list xs) y).bind g ∧ ∀ z, κ z ρ2 (g z)) (hN : C.N[i]? = some n := by rfl)
    (hv : Vis C.sc n := by first | exact Or.inl rfl | exact Or.inr (Or.inl rfl) | exact Or.inr (Or.inr rfl)) (hd : (n == ("__debug__" : Str)) = false := by decide) (hcd : (n == ("__classdict__" : Str)) = false := by decide) (hs : PlainIx b := by intro _ _; rfl) : DE C ρ (.Subscript (.Name n np) b pos) m κ := by
  intro X W Z x hK c z
  refine PE_imp (pe_ix (r := rIxL X.K) ix_list (own_name x hN hv hd hcd) (h X W Z x hK c z) hs) fun σ H Q ⟨F, r, q⟩ => ?_
  obtain ⟨p, vs, a1, a2, _, _, _⟩ := r.ownAt hρ
  refine ⟨_, a1, F, r, fun y ρ2 m2 w H2 F2 ⟨xs, g, b1, b2, b3⟩ j2 j3 j4 j5 => ?_⟩
  subst b2
  obtain ⟨p', vs', c1, c2, _, c4, _⟩ := j3.ownAt b1
  rw [a1] at c1; cases c1
  obtain ⟨ys, ey, zy⟩ := c.bind j2
  cases y <;> first | (exact absurd ey (by intro q; cases q)) | skip
  simp only [item] at ey
  unfold atD at ey
  split at ey
  · rename_i hj; cases ey
    obtain ⟨v', d1, d2⟩ := c4.atI hj
    exact ⟨p, vs', _, v', rfl, j5.toInt, SqL.of c2, d1, q _ ρ2 _ v' H2 F2 (b3 _) zy j3 j4 d2⟩
  · cases ey

/-! ### a look at what is one's own -/
def viewS : Option Sl → Option Sl
  | some (.val d) => some (.val d)
  | some (.own xs) => some (.val (.list xs))
  | some (.dct kvs) => some (.val (.dict kvs))
  | _ => none
def viewE (ρ : Env) : Env := ρ.map viewS
def viewable : Sl → Bool
  | .own _ => true
  | .dct _ => true
  | _ => false
theorem Rel.view {W : Wd} {ρ : Env} {σ : L2.St} {H F : Hp} (r : Rel W ρ σ H F) : ∃ F2, Rel ⟨W.K, F2, H, []⟩ (viewE ρ) σ H F2 ∧ Same F F2 := by
  classical
  let F2 : Hp := fun b => match F b with
    | some o => some o
    | none => if ∃ (i : Nat) (sl : Sl), ρ[i]? = some (some sl) ∧ viewable sl = true ∧ σ[i]? = some (some (V.ref b)) then H b else none
  have ss : Same F F2 := fun b o h => by simp only [F2, h]
  have sh : Same F2 H := fun b o h => by
    simp only [F2] at h
    cases e : F b with
    | some u => rw [e] at h; cases h; exact r.sub b _ e
    | none =>
      rw [e] at h
      simp only at h
      split at h
      · exact h
      · cases h
  refine ⟨F2, VRel.rel (K := W.K) ⟨fun i d e => ?_, ?_⟩ (fun i sl e => ?_) sh, ss⟩
  · unfold viewE at e
    rw [List.getElem?_map] at e
    cases e1 : ρ[i]? with
    | none => rw [e1] at e; cases e
    | some q =>
      rw [e1] at e
      cases q with
      | none => cases e
      | some sl =>
        cases sl with
        | val d' =>
          cases e
          obtain ⟨v, h1, h2⟩ := r.val e1
          exact ⟨v, h1, h2.mono ss⟩
        | own xs =>
          cases e
          obtain ⟨p, vs, h1, h2, h3, h4, _⟩ := r.ownAt e1
          refine ⟨_, h1, .lst ?_ (h4.mono ss)⟩
          simp only [F2, h3]
          rw [if_pos ⟨i, _, e1, rfl, h1⟩]; exact h2
        | src _ _ => cases e
        | scr _ => cases e
        | dct kvs =>
          cases e
          obtain ⟨p, xs, h1, h2, h3, h4, _⟩ := r.dctAt e1
          refine ⟨_, h1, ?_⟩
          rw [show PyData.dict kvs = .dict ((kvs.map (·.1)).zip (kvs.map (·.2))) by rw [zip_self]]
          refine .dct ?_ (h4.ks.mono ss) h4.nk (h4.vs.mono ss)
          simp only [F2, h3]
          rw [if_pos ⟨i, _, e1, rfl, h1⟩]; exact h2
  · unfold viewE; rw [List.length_map]; exact r.len
  · unfold viewE at e
    rw [List.getElem?_map] at e
    cases e1 : ρ[i]? with
    | none => rw [e1] at e; cases e
    | some q =>
      rw [e1] at e
      cases q with
      | none => cases e
      | some sl => cases sl <;> cases e <;> exact ⟨_, rfl⟩
theorem Rel.unview {W : Wd} {ρ ρ' : Env} {σ σ' : L2.St} {H F F2 H' F' : Hp} {K : PySem.W.Frag} (r : Rel W ρ σ H F) (ss : Same F F2) (r' : Rel ⟨K, F2, H, []⟩ ρ' σ' H' F') : Rel W ρ σ H' F :=
  r.step ⟨Same.refl _, fun b o h => r'.sub b o (r'.sub0 b o (ss b o h)), fun b o h => r'.keep b o h (by simp), fun b o h => .inl h⟩
theorem dt_peek {κ : Bool → Env → R α → Prop} {e : Expr} {r : R Bool} {g : Bool → R α} (h : DT C (viewE ρ) e r fun b ρ' m' => m' = .ok b) (k : ∀ b, κ b ρ (g b)) : DT C ρ e (r.bind g) κ := by
  intro X W Z x hK c z
  obtain ⟨b, e1, z1⟩ := c.bind z
  have hv : PT X e fun σ H Q => ∃ (W' : Wd), W'.K = C.K ∧ ∃ F, Rel W' (viewE ρ) σ H F ∧ ∀ (b : Bool) (ρ' : Env) (m' : R Bool) (H' F' : Hp), m' = .ok b → (∃ p, m' = .ok p ∧ Z (g p)) → Rel W' ρ' σ H' F' → Same F F' → Q b H' :=
    ⟨fun p s σ H Q I ⟨W', hK', q⟩ => (h X W' _ x hK' (c.at g) ⟨b, e1, z1⟩).run p s σ H Q I q⟩
  refine PT_imp hv fun σ H Q ⟨F, rl, q⟩ => ?_
  obtain ⟨F2, r2, ss⟩ := rl.view
  refine ⟨⟨W.K, F2, H, []⟩, hK, F2, r2, fun b ρ' m' H' F' e2 ⟨p, e3, z3⟩ h3 h4 => ?_⟩
  subst e2; cases e3
  exact q _ ρ _ H' F (k _) z3 (rl.unview ss h3) (Same.refl _)
theorem de_peek {κ : D → Env → R α → Prop} {e : Expr} {r : R D} {g : D → R α} (h : DE C (viewE ρ) e r fun d ρ' m' => m' = .ok d) (k : ∀ d, κ d ρ (g d)) : DE C ρ e ((flatR r).bind g) κ := by
  intro X W Z x hK c z
  obtain ⟨b, e1, z1⟩ := c.bind z
  unfold flatR at e1
  obtain ⟨b', e0, e1⟩ := R.bind_eq_ok e1
  split at e1
  · rename_i hfl; cases e1
    have hv : PE X e fun σ H Q => ∃ (W' : Wd), W'.K = C.K ∧ ∃ F, Rel W' (viewE ρ) σ H F ∧ ∀ (d : D) (ρ' : Env) (m' : R D) (v : V) (H' F' : Hp), m' = .ok d → m' = .ok b → Rel W' ρ' σ H' F' → Same F F' → Rp W'.K F' v d → Q v H' :=
      ⟨fun p s σ H Q I ⟨W', hK', q⟩ => (h X W' (fun m' => m' = .ok b) x hK' ⟨(fun e => nomatch e), (fun _ _ e => nomatch e)⟩ e0).run p s σ H Q I q⟩
    refine PE_imp hv fun σ H Q ⟨F, rl, q⟩ => ?_
    obtain ⟨F2, r2, ss⟩ := rl.view
    refine ⟨⟨W.K, F2, H, []⟩, hK, F2, r2, fun d ρ' m' v H' F' e2 e3 h3 h4 h5 => ?_⟩
    subst e2; cases e3
    have rp : Rp W.K F v b := by
      cases h5 <;> first | exact .non | exact .bl _ | exact .int _ | exact .str _ | (simp [flatB] at hfl)
    exact q _ ρ _ v H' F (k _) z1 (rl.unview ss h3) (Same.refl _) rp
  · cases e1
end
end Z

set_option Elab.async false
set_option linter.all false
set_option maxRecDepth 100000
set_option autoImplicit false
/-! # Z11: comprehensions whose element changes something -/
namespace Z
open PySem L2

theorem upd_upd {H : Hp} {p : Addr} {u u' : HO} : upd (upd H p u) p u' = upd H p u' := by
  funext b
  by_cases h : b = p
  · subst h; rw [upd_same, upd_same]
  · rw [upd_ne h, upd_ne h, upd_ne h]
section
variable {K : PySem.W.Frag} {F0 H0 H F : Hp} {io : List Addr} {ρ : Env} {σ : L2.St} {D' : Addr}
theorem Rel.newAt (r : Rel ⟨K, F0, H0, io⟩ ρ σ H F) (h0 : H0 D' = none) (hD : H D' = none) (u : HO) : Rel ⟨K, F0, upd H0 D' u, io⟩ ρ σ (upd H D' u) F := by
  have hx : ∀ b o, H b = some o → upd H D' u b = some o := fun b o h => by rw [upd_ne (ne_of_none h hD)]; exact h
  have fx : Fx F H F (upd H D' u) := ⟨Same.refl _, fun b o h => hx b o (r.sub b o h), hx, fun _ _ h => .inl h⟩
  have no : ∀ b o, H b = some o → H0 b = none → upd H0 D' u b = none := fun b o h q => by rw [upd_ne (ne_of_none h hD)]; exact q
  refine ⟨fx.fh, r.sub0, fun b o h n => ?_, fun b o h => ?_, ?_, r.len, fun b o h => ?_⟩
  · by_cases hb : b = D'
    · subst hb
      replace h : upd H0 b u b = some o := h
      rw [upd_same] at h ⊢; exact h
    · replace h : upd H0 D' u b = some o := h
      rw [upd_ne hb] at h; exact hx b o (r.keep b o h n)
  · rcases r.fresh b o h with q | q | q
    · exact .inl q
    · exact .inr (.inl (no b o (r.sub b o h) q))
    · exact .inr (.inr q)
  · obtain ⟨ad, k⟩ := r.env
    refine ⟨ad, fun i sl e => ?_⟩
    obtain ⟨v, h1, h2, h3, h4⟩ := k i sl e
    refine ⟨v, h1, h2.step fx, fun b hb => (h3 b hb).elim .inl fun q => ?_, h4⟩
    obtain ⟨_, o, q'⟩ := h2.there b hb
    exact .inr (no b o q' q)
  · by_cases hb : b = D'
    · subst hb; exact ⟨u, upd_same⟩
    · replace h : upd H0 D' u b = some o := h
      rw [upd_ne hb] at h
      obtain ⟨o', q⟩ := r.trk b o h
      exact ⟨o', hx b o' q⟩
theorem Rel.free0 (r : Rel ⟨K, F0, H0, io⟩ ρ σ H F) {u : HO} (h0 : H0 D' = some u) (hio : D' ∉ io) (hF : F0 D' = none) : F D' = none := by
  cases e : F D' with
  | none => rfl
  | some o =>
    rcases r.fresh D' o e with q | q | q
    · replace q : F0 D' = some o := q
      rw [hF] at q; cases q
    · replace q : H0 D' = none := q
      rw [h0] at q; cases q
    · exact absurd q hio
theorem Rel.poke (r : Rel ⟨K, F0, H0, io⟩ ρ σ H F) {u0 : HO} (h0 : H0 D' = some u0) (hio : D' ∉ io) (hF : F0 D' = none) (u : HO) : Rel ⟨K, F0, upd H0 D' u, io⟩ ρ σ (upd H D' u) F := by
  have hFD := r.free0 h0 hio hF
  have gx : Gx F H F (upd H D' u) [D'] := ⟨Same.refl _, fun b o h => by rw [upd_ne (ne_of_none h hFD)]; exact r.sub b o h, fun b o h n => by
    have : b ≠ D' := by simpa using n
    rw [upd_ne this]; exact h, fun b o h => by
    by_cases hb : b = D'
    · subst hb; exact ⟨u, upd_same⟩
    · exact ⟨o, by rw [upd_ne hb]; exact h⟩, fun _ _ h => .inl h⟩
  have no : ∀ b, H0 b = none → upd H0 D' u b = none := fun b q => by
    have : b ≠ D' := fun e => by subst e; rw [h0] at q; cases q
    rw [upd_ne this]; exact q
  refine ⟨gx.fh, r.sub0, fun b o h n => ?_, fun b o h => ?_, ?_, r.len, fun b o h => ?_⟩
  · by_cases hb : b = D'
    · subst hb
      replace h : upd H0 b u b = some o := h
      rw [upd_same] at h ⊢; exact h
    · replace h : upd H0 D' u b = some o := h
      rw [upd_ne hb] at h ⊢; exact r.keep b o h n
  · exact (r.fresh b o h).elim .inl fun q => .inr (q.elim (fun z => .inl (no b z)) .inr)
  · obtain ⟨ad, k⟩ := r.env
    refine ⟨ad, fun i sl e => ?_⟩
    obtain ⟨v, h1, h2, h3, h4⟩ := k i sl e
    have nd : ∀ b ∈ ad i, b ∉ [D'] := fun b hb q => by
      have : b = D' := by simpa using q
      subst this
      rcases h3 b hb with z | z
      · exact hio z
      · replace z : H0 b = none := z
        rw [h0] at z; cases z
    exact ⟨v, h1, h2.gstep gx nd, fun b hb => (h3 b hb).elim .inl fun q => .inr (no b q), h4⟩
  · by_cases hb : b = D'
    · subst hb; exact ⟨u, upd_same⟩
    · replace h : upd H0 D' u b = some o := h
      rw [upd_ne hb] at h
      obtain ⟨o', q⟩ := r.trk b o h
      exact gx.trk b o' q
/-- what was made for itself is read from now on -/
theorem Rel.fin {W : Wd} {ρ1 : Env} {σ1 : L2.St} {H1 F1 : Hp} {u : HO} (r : Rel ⟨W.K, F1, upd H1 D' u, io⟩ ρ σ H F) (r1 : Rel W ρ1 σ1 H1 F1) (hio : ∀ b ∈ io, b ∈ W.io ∨ W.H0 b = none) (hn : D' ∉ io) (hD : H1 D' = none) :
    Rel W ρ σ H (upd F D' u) ∧ Same F (upd F D' u) := by
  have h0 : upd H1 D' u D' = some u := upd_same
  have hFD : F D' = none := r.free0 h0 hn (r1.sub.free hD)
  have hHD : H D' = some u := r.keep D' u h0 hn
  have ss : Same F (upd F D' u) := fun b o h => by rw [upd_ne (ne_of_none h hFD)]; exact h
  have gx : Gx F H (upd F D' u) H [D'] := ⟨ss, fun b o h => by
    by_cases hb : b = D'
    · subst hb; rw [upd_same] at h; cases h; exact hHD
    · rw [upd_ne hb] at h; exact r.sub b o h, fun b o h _ => h, fun b o h => ⟨o, h⟩, fun b o h => by
    by_cases hb : b = D'
    · subst hb; exact .inr (.inr (by simp))
    · rw [upd_ne hb] at h; exact .inl h⟩
  have no : ∀ b, upd H1 D' u b = none → W.H0 b = none := fun b q => by
    by_cases hb : b = D'
    · subst hb; rw [upd_same] at q; cases q
    · rw [upd_ne hb] at q; exact r1.base q
  refine ⟨⟨gx.fh, (r1.sub0.trans r.sub0).trans ss, fun b o h n => ?_, fun b o h => ?_, ?_, r.len, fun b o h => ?_⟩, ss⟩
  · have h1 := r1.keep b o h n
    refine r.keep b o ?_ fun hb => ?_
    · show upd H1 D' u b = some o
      rw [upd_ne (ne_of_none h1 hD)]; exact h1
    · rcases hio b hb with q | q
      · exact n q
      · rw [h] at q; cases q
  · by_cases hb : b = D'
    · subst hb; exact .inr (.inl (r1.base hD))
    · rw [upd_ne hb] at h
      rcases r.fresh b o h with q | q | q
      · exact r1.fresh b o q
      · exact .inr (.inl (no b q))
      · exact .inr ((hio b q).elim .inr .inl)
  · obtain ⟨ad, k⟩ := r.env
    refine ⟨ad, fun i sl e => ?_⟩
    obtain ⟨v, h1, h2, h3, h4⟩ := k i sl e
    have nd : ∀ b ∈ ad i, b ∉ [D'] := fun b hb q => by
      have : b = D' := by simpa using q
      subst this
      rcases h3 b hb with z | z
      · exact hn z
      · replace z : upd H1 b u b = none := z
        rw [upd_same] at z; cases z
    exact ⟨v, h1, h2.gstep gx nd, fun b hb => (h3 b hb).elim (hio b) fun q => .inr (no b q), h4⟩
  · obtain ⟨o', q⟩ := r1.trk b o h
    refine r.trk b o' ?_
    show upd H1 D' u b = some o'
    rw [upd_ne (ne_of_none q hD)]; exact q
end
theorem wipe_get {σ : L2.St} {vs : List Nat} {i : Nat} {v : V} (h : (wipe σ vs)[i]? = some (some v)) : σ[i]? = some (some v) := by
  induction vs with
  | nil => exact h
  | cons u us ih =>
    unfold wipe at h
    rcases get_set h with ⟨_, _, e⟩ | ⟨_, e⟩
    · cases e
    · exact ih e
theorem Rel.unwipe {W : Wd} {ρ : Env} {σ : L2.St} {H F : Hp} {vs : List Nat} (r : Rel W ρ (L2.wipe σ vs) H F) : Rel W ρ σ H F := by
  refine ⟨r.sub, r.sub0, r.keep, r.fresh, ?_, by have := r.len; rwa [wipe_length] at this, r.trk⟩
  obtain ⟨ad, k⟩ := r.env
  refine ⟨ad, fun i sl e => ?_⟩
  obtain ⟨v, h1, h2, h3, h4⟩ := k i sl e
  exact ⟨v, wipe_get h1, h2, h3, h4⟩

section
variable {α : Type} {C : Ct} {ρ : Env} {m : R α}
theorem lcT_main {κ : D → Env → R α → Prop} {tg it elt : Expr} {ifs : List Expr} {scope : Scope} {vs : List Nat} {X : Cx} {W : Wd} {Z : R α → Prop} (x : XOk C X) (hK : W.K = C.K) (c : Cl Z) (z : Z m) {τ : Type} (pack : τ → Env)
    (h : DI C ρ tg it m fun items ρ1 m1 => ∃ st0 f g, Le (pack st0) (wipeE ρ1 vs) ∧ m1 = (compS items st0 f).bind g ∧
      (∀ y st, DG (C.blk scope) (fun i => i ∈ vs) (pack st) tg y (f y st) fun ρ2 m2 => DTs (C.blk scope) ρ2 ifs m2 fun t ρ3 m3 =>
        (t = true → DE (C.blk scope) ρ3 elt m3 fun d ρ4 m4 => ∃ st', Le (pack st') (wipeE ρ4 vs) ∧ m4 = .ok (some d, st')) ∧ (t = false → ∃ st', Le (pack st') (wipeE ρ3 vs) ∧ m3 = .ok (none, st'))) ∧
      ∀ ys st, κ (.list ys) (pack st) (g (ys, st))) :
    ∃ wi g tt te, PI X tg it wi ∧ (∀ (s : Shared) (H : Hp) (Ca : Addr) (cl : List (Str × Addr)) (fp : List Addr), PG (X.blk s H scope (compEnvC scope cl Ca X.env) fp) tg g) ∧
      (∀ (s : Shared) (H : Hp) (Ca : Addr) (cl : List (Str × Addr)) (fp : List Addr), PTs (X.blk s H scope (compEnvC scope cl Ca X.env) fp) ifs tt) ∧
      (∀ (s : Shared) (H : Hp) (Ca : Addr) (cl : List (Str × Addr)) (fp : List Addr), PE (X.blk s H scope (compEnvC scope cl Ca X.env) fp) elt te) ∧
      ∀ σ H Q, (∃ F, Rel W ρ σ H F ∧ ∀ d ρ' m' v H' F', κ d ρ' m' → Z m' → Rel W ρ' σ H' F' → Same F F' → Rp W.K F' v d → Q v H') → tLc wi g tt te vs σ H Q := by
  refine ⟨_, fun v σ H Q => ∃ (W' : Wd) (τ' : Type) (Z' : R τ' → Prop) (i : R τ' × Env × D) (κ : Env → R τ' → Prop), (DG (C.blk scope) (fun i => i ∈ vs) i.2.1 tg i.2.2 i.1 κ ∧ W'.K = C.K ∧ Cl Z' ∧ Z' i.1) ∧ ∃ F, Rel W' i.2.1 σ H F ∧ Rp W'.K F v i.2.2 ∧ ∀ ρ' m' σ' H' F', κ ρ' m' → Z' m' → Rel W' ρ' σ' H' F' → Same F F' → (∀ us, (∀ i, i ∈ vs → i ∈ us) → wipe σ' us = wipe σ us) → Q σ' H',
    fun σ H Q => ∃ (W' : Wd) (τ' : Type) (Z' : R τ' → Prop) (i : R τ' × Env) (κ : Bool → Env → R τ' → Prop), (DTs (C.blk scope) i.2 ifs i.1 κ ∧ W'.K = C.K ∧ Cl Z' ∧ Z' i.1) ∧ ∃ F, Rel W' i.2 σ H F ∧ ∀ b ρ' m' H' F', κ b ρ' m' → Z' m' → Rel W' ρ' σ H' F' → Same F F' → Q b H',
    fun σ H Q => ∃ (W' : Wd) (τ' : Type) (Z' : R τ' → Prop) (i : R τ' × Env) (κ : D → Env → R τ' → Prop), (DE (C.blk scope) i.2 elt i.1 κ ∧ W'.K = C.K ∧ Cl Z' ∧ Z' i.1) ∧ ∃ F, Rel W' i.2 σ H F ∧ ∀ d ρ' m' v H' F', κ d ρ' m' → Z' m' → Rel W' ρ' σ H' F' → Same F F' → Rp W'.K F' v d → Q v H', h X W Z x hK c z, ?_, ?_, ?_, ?_⟩
  · exact fun s H Ca cl fp => ⟨fun p s' σ H v u Q I r ⟨W', _, Z', i, κ, ⟨pi, hK', c', z'⟩, q⟩ => (pi _ W' Z' (x.blk s _ Ca cl fp) hK' c' z').run p s' σ H v u Q I r q⟩
  · exact fun s H Ca cl fp => ⟨fun p s' σ H Q I ⟨W', _, Z', i, κ, ⟨pi, hK', c', z'⟩, q⟩ => (pi _ W' Z' (x.blk s _ Ca cl fp) hK' c' z').run p s' σ H Q I q⟩
  · exact fun s H Ca cl fp => ⟨fun p s' σ H Q I ⟨W', _, Z', i, κ, ⟨pi, hK', c', z'⟩, q⟩ => (pi _ W' Z' (x.blk s _ Ca cl fp) hK' c' z').run p s' σ H Q I q⟩
  rintro σ H Q ⟨F, rl, q⟩
  refine ⟨F, rl, fun items ρ1 m1 J H1 F1 ⟨st0, f, g, hle, em, hf, hk⟩ zm rel1 ss itd Da hDa => ?_⟩
  subst em
  obtain ⟨qs0, eq0, zq0⟩ := c.bind zm
  obtain ⟨hlen, eq0⟩ := compS_ok eq0
  have hF1D : F1 Da = none := rel1.sub.free hDa
  obtain ⟨io, relt, hio, hth⟩ := rel1.turn
  have hnio : Da ∉ io := fun hb => by obtain ⟨o, e⟩ := hth Da hb; rw [hDa] at e; cases e
  have relw : Rel ⟨W.K, F1, upd H1 Da (.lst []), io⟩ (pack st0) (wipe σ vs) (upd H1 Da (.lst [])) F1 := ((relt.wipe vs).le hle).newAt hDa hDa _
  refine ⟨fun i n H => n = items.length - i ∧ i ≤ items.length ∧ ∃ st Fi acc ds qs, Rel ⟨W.K, F1, upd H1 Da (.lst acc), io⟩ (pack st) (wipe σ vs) H Fi ∧ RpAll W.K Fi acc ds ∧ acc.length ≤ i ∧ compT (items.drop i) st f = .ok qs ∧ Z (g (ds ++ qs.1, qs.2)),
    ⟨items.length, by simp, Nat.zero_le _, st0, F1, [], [], qs0, relw, .nil, Nat.le_refl _, by simpa using eq0, by simpa using zq0⟩, ?_⟩
  rintro i n H2 ⟨rfl, hi, st, Fi, acc, ds, qs, rel2, racc, hal, eqs, zqs⟩
  have at0 : ∀ {acc : List V}, upd H1 Da (.lst acc) Da = some (.lst acc) := upd_same
  by_cases hlt : i < items.length
  · refine .inr ⟨itd.goes i Fi H2 hlt rel2.sub0 rel2.sub, fun H => ∃ st Fi acc ds qs, Rel ⟨W.K, F1, upd H1 Da (.lst acc), io⟩ (pack st) (wipe σ vs) H Fi ∧ RpAll W.K Fi acc ds ∧ acc.length ≤ i + 1 ∧ compT (items.drop (i + 1)) st f = .ok qs ∧ Z (g (ds ++ qs.1, qs.2)),
      fun H' hh => ⟨_, by omega, rfl, hlt, hh⟩, fun v H3 y => ?_⟩
    obtain ⟨F3, d, hd, fx, pd⟩ := itd.yields i Fi H2 v H3 hlt rel2.sub0 rel2.sub y
    rw [compT_step hd] at eqs
    obtain ⟨p, ep, eqs⟩ := R.bind_eq_ok eqs
    obtain ⟨q2, eq2, eqs⟩ := R.bind_eq_ok eqs
    have clp : Cl fun r : R (Option D × τ) => r = .ok p := ⟨(fun e => nomatch e), (fun _ _ e => nomatch e)⟩
    refine ⟨⟨W.K, F1, upd H1 Da (.lst acc), io⟩, Option D × τ, fun r => r = .ok p, (f d st, pack st, d), _, ⟨hf d st, hK, clp, ep⟩, F3, rel2.step fx, pd, fun ρ2 m2 σ4 H4 F4 h1 h2 h3 h4 hw => ⟨(hw vs fun _ h => h).trans wipe_wipe, ?_⟩⟩
    have hws : wipe σ4 vs = wipe σ vs := (hw vs fun _ h => h).trans wipe_wipe
    refine ⟨⟨W.K, F1, upd H1 Da (.lst acc), io⟩, Option D × τ, fun r => r = .ok p, (m2, ρ2), _, ⟨h1, hK, clp, h2⟩, F4, h3, fun b ρ3 m3 H5 F5 k1 k2 k3 k4 => ?_⟩
    cases b with
    | false =>
      show (if false = true then _ else _)
      rw [if_neg Bool.false_ne_true]
      obtain ⟨st', hl', e3⟩ := k1.2 rfl
      rw [k2] at e3
      cases e3
      cases eqs
      refine ⟨st', F5, acc, ds, _, ?_, racc.mono ((fx.ff.trans h4).trans k4), Nat.le_succ_of_le hal, eq2, zqs⟩
      rw [← hws]; exact (k3.wipe vs).le hl'
    | true =>
      show (if true = true then _ else _)
      rw [if_pos rfl]
      refine ⟨⟨W.K, F1, upd H1 Da (.lst acc), io⟩, Option D × τ, fun r => r = .ok p, (m3, ρ3), _, ⟨k1.1 rfl, hK, clp, k2⟩, F5, k3, fun dd ρ4 m4 vv H6 F6 ⟨st', hl', e4⟩ j2 j3 j4 j5 => ?_⟩
      rw [j2] at e4
      cases e4
      cases eqs
      have hz : acc.length < 16777216 := by omega
      have pk := j3.poke at0 hnio hF1D (.lst (acc ++ [vv]))
      rw [upd_upd] at pk
      refine ⟨acc, j3.keep Da _ at0 hnio, by rw [sizeLine_eq]; exact hz, st', F6, acc ++ [vv], ds ++ [dd], q2, ?_, (racc.mono (((fx.ff.trans h4).trans k4).trans j4)).snoc j5, by simp; omega, eq2, by simpa using zqs⟩
      rw [← hws]; exact (pk.wipe vs).le hl'
  · have e : i = items.length := by omega
    subst e
    rw [List.drop_length] at eqs
    cases eqs
    rw [List.append_nil] at zqs
    refine .inl ⟨itd.stops Fi H2 rel2.sub0 rel2.sub, ?_⟩
    obtain ⟨fin, sf⟩ := rel2.fin rel1 hio hnio hDa
    exact q _ _ _ _ H2 _ (hk ds st) zqs fin.unwipe ((ss.trans rel2.sub0).trans sf) (.lst upd_same (racc.mono sf))
/-- [e for tg in it if ..] -/
theorem de_lcT {κ : D → Env → R α → Prop} {tg it elt : Expr} {ifs : List Expr} {scope : Scope} {pos : Pos} {τ : Type} (pack : τ → Env) (own : List (Str × Nat)) (ok : blkC C.N C.sc scope own = true)
    (h : DI C ρ tg it m fun items ρ1 m1 => ∃ st0 f g, Le (pack st0) (wipeE ρ1 (own.map (·.2))) ∧ m1 = (compS items st0 f).bind g ∧
      (∀ y st, DG (C.blk scope) (fun i => i ∈ own.map (·.2)) (pack st) tg y (f y st) fun ρ2 m2 => DTs (C.blk scope) ρ2 ifs m2 fun t ρ3 m3 =>
        (t = true → DE (C.blk scope) ρ3 elt m3 fun d ρ4 m4 => ∃ st', Le (pack st') (wipeE ρ4 (own.map (·.2))) ∧ m4 = .ok (some d, st')) ∧ (t = false → ∃ st', Le (pack st') (wipeE ρ3 (own.map (·.2))) ∧ m3 = .ok (none, st'))) ∧
      ∀ ys st, κ (.list ys) (pack st) (g (ys, st))) (hs : ∀ (env : PySem.Env) (x : Value), foldedSetIterable it env x = pure x := by intro _ _; rfl) : DE C ρ (.ListComp elt [⟨tg, it, ifs, 0⟩] scope pos) m κ := by
  intro X W Z x hK c z
  obtain ⟨wi, g, tt, te, h1, h2, h3, h4, h5⟩ := lcT_main (vs := own.map (·.2)) x hK c z pack h
  exact PE_imp (pe_lc x.calm (by rw [x.N]; exact x.nd) h1 (blkOk_by (by rw [x.N, x.sc]; exact ok)) h2 h3 h4 (hs _)) h5
theorem ds_setLcT {J : Jd α} {n : Str} {tg it elt : Expr} {ifs : List Expr} {scope : Scope} {p pos cpos : Pos} {rest : List Stmt} {τ : Type} (pack : τ → Env) (i : Nat) (own : List (Str × Nat)) (ok : blkC C.N C.sc scope own = true)
    (h : DI C ρ tg it m fun items ρ1 m1 => ∃ st0 f g, Le (pack st0) (wipeE ρ1 (own.map (·.2))) ∧ m1 = (compS items st0 f).bind g ∧
      (∀ y st, DG (C.blk scope) (fun i => i ∈ own.map (·.2)) (pack st) tg y (f y st) fun ρ2 m2 => DTs (C.blk scope) ρ2 ifs m2 fun t ρ3 m3 =>
        (t = true → DE (C.blk scope) ρ3 elt m3 fun d ρ4 m4 => ∃ st', Le (pack st') (wipeE ρ4 (own.map (·.2))) ∧ m4 = .ok (some d, st')) ∧ (t = false → ∃ st', Le (pack st') (wipeE ρ3 (own.map (·.2))) ∧ m3 = .ok (none, st'))) ∧
      ∀ ys st, DSs C ((pack st).set i (some (.val (.list ys)))) rest (g (ys, st)) J) (hN : C.N[i]? = some n := by rfl) (hy : C.sc.names.lookup n = some .local := by rfl)
    (hsw : ∀ env : PySem.Env, env.scope = C.sc → swapsWith (.ListComp elt [⟨tg, it, ifs, 0⟩] scope cpos) (some (.Name n p)) pos.line env = pure true)
    (hs : ∀ (env : PySem.Env) (x : Value), foldedSetIterable it env x = pure x := by intro _ _; rfl) : DSs C ρ (.Assign [.Name n p] (.ListComp elt [⟨tg, it, ifs, 0⟩] scope cpos) pos :: rest) m J := by
  intro X W Z x hK c z
  obtain ⟨wi, g, tt, te, h1, h2, h3, h4, h5⟩ := lcT_main (κ := fun d ρ1 m1 => DSs C (ρ1.set i (some (.val d))) rest m1 J) (vs := own.map (·.2)) x hK c z pack h
  refine PSs_imp (pss_cons (ps_setLc (i := i) x.calm (by rw [x.N]; exact x.nd) (by rw [x.N]; exact hN) (by rw [x.sc]; exact hy) (hsw _ x.sc) h1 (blkOk_by (by rw [x.N, x.sc]; exact ok)) h2 h3 h4 (hs _)) (rest_run (J := J) x hK c)) fun Dn σ H ⟨F, r, l⟩ => ?_
  exact h5 σ H (fun y H1 => ∃ j : R α × Env, (DSs C j.2 rest j.1 J ∧ Z j.1) ∧ ∃ F, Rel W j.2 (σ.set i (some y)) H1 F ∧ Lk W J Z Dn) ⟨F, r, fun d ρ' m' v H' F' k1 k2 k3 k4 k5 => ⟨(m', _), ⟨k1, k2⟩, F', k3.set i k5, l⟩⟩
end
end Z

set_option Elab.async false
set_option linter.all false
set_option maxRecDepth 100000
set_option autoImplicit false
/-! # Z12: the source of choices, the law's end -/
namespace Z
open PySem L2

/-- a new owner -/
theorem Rel.give {W : Wd} {ρ : Env} {σ : L2.St} {H F F' H' : Hp} (r : Rel W ρ σ H F) (fx : Fx F H F' H') (i : Nat) {sl : Sl} {v : V} {as : List Addr} (hs : SlR W.K F' H' sl v as) (hn : ∀ b ∈ as, H b = none) : Rel W (ρ.set i (some sl)) (σ.set i (some v)) H' F' := by
  obtain ⟨ad, k⟩ := r.env
  have r' := r.step fx
  refine ⟨r'.sub, r'.sub0, r'.keep, r'.fresh, ⟨fun j => if j = i then as else ad j, fun j sl e => ?_⟩, by rw [List.length_set, List.length_set]; exact r.len, r'.trk⟩
  rcases get_set e with ⟨e1, e2, e3⟩ | ⟨e1, e2⟩
  · subst e1; cases e3
    refine ⟨v, by rw [List.getElem?_set_self (Nat.lt_of_lt_of_le e2 r.len)], by simpa using hs, fun b hb => .inr (r.base (hn b (by simpa using hb))), fun l sl' hl e' b hb => ?_⟩
    have hb' : b ∈ as := by simpa using hb
    have ne : l ≠ i := fun q => hl q.symm
    simp only [if_neg ne]
    rcases get_set e' with ⟨z1, _, _⟩ | ⟨z1, z2⟩
    · exact absurd z1 hl
    · intro hbl
      obtain ⟨v', k1, k2, _, _⟩ := k l sl' z2
      obtain ⟨_, o, q⟩ := k2.there b hbl
      rw [hn b hb'] at q; cases q
  · have ne : j ≠ i := fun q => e1 q.symm
    simp only [if_neg ne]
    obtain ⟨v', k1, k2, k3, k4⟩ := k j sl e2
    refine ⟨v', by rw [List.getElem?_set_ne e1]; exact k1, k2.step fx, k3, fun l sl'' hl e' b hb => ?_⟩
    rcases get_set e' with ⟨z1, z2, z3⟩ | ⟨z1, z2⟩
    · subst z1; cases z3
      simp only [if_true]
      intro hbl
      obtain ⟨_, o, q⟩ := k2.there b hb
      rw [hn b hbl] at q; cases q
    · have ne' : l ≠ i := fun q => z1 q.symm
      simp only [if_neg ne']
      exact k4 l sl'' hl z2 b hb

def srcKvs (c : Addr) (s : Src) : List (Key × V) := [(.inr "cells", .ref c), (.inr "left", .int s.left), (.inr "mixed", .int s.mixed), (.inr "turn", .int s.turn)]
/-- a key of the source, what stands there -/
structure KeyF (k : Str) (f : Src → Int) (u : Src → Int → Src) : Prop where
  get : ∀ c s, valV (srcKvs c s) (.inr k) = some (.int (f s))
  put : ∀ c s n, putK (srcKvs c s) (.inr k) (.int n) = srcKvs c (u s n)
  cells : ∀ s n, (u s n).cells = s.cells
theorem k_cl : ¬ (("cells" : Str) = "left") := by decide +kernel
theorem k_cm : ¬ (("cells" : Str) = "mixed") := by decide +kernel
theorem k_ct : ¬ (("cells" : Str) = "turn") := by decide +kernel
theorem k_lm : ¬ (("left" : Str) = "mixed") := by decide +kernel
theorem k_lt : ¬ (("left" : Str) = "turn") := by decide +kernel
theorem k_mt : ¬ (("mixed" : Str) = "turn") := by decide +kernel
theorem kf_left : KeyF "left" Src.left fun s n => { s with left := n } := by
  refine ⟨fun c s => ?_, fun c s n => ?_, fun _ _ => rfl⟩
  · simp [valV, srcKvs, k_cl, List.find?]
  · simp [putK, srcKvs, k_cl, k_lm, k_lt, Ne.symm k_lm, Ne.symm k_lt]
theorem kf_mixed : KeyF "mixed" Src.mixed fun s n => { s with mixed := n } := by
  refine ⟨fun c s => ?_, fun c s n => ?_, fun _ _ => rfl⟩
  · simp [valV, srcKvs, k_cm, k_lm, List.find?]
  · simp [putK, srcKvs, k_cm, k_lm, k_mt, Ne.symm k_mt]
theorem kf_turn : KeyF "turn" Src.turn fun s n => { s with turn := n } := by
  refine ⟨fun c s => ?_, fun c s n => ?_, fun _ _ => rfl⟩
  · simp [valV, srcKvs, k_ct, k_lt, k_mt, List.find?]
  · simp [putK, srcKvs, k_ct, k_lt, k_mt]
theorem k_cells (c : Addr) (s : Src) : valV (srcKvs c s) (.inr "cells") = some (.ref c) := by simp [valV, srcKvs, List.find?]

section
variable {α : Type} {C : Ct} {ρ : Env} {m : R α}
theorem Rel.srcAt {W : Wd} {ρ : Env} {σ : L2.St} {H F : Hp} (r : Rel W ρ σ H F) {i : Nat} {a : Addr} {s : Src} (e : ρ[i]? = some (some (.src a s))) :
    ∃ c, a ≠ c ∧ σ[i]? = some (some (.ref a)) ∧ H a = some (.dK (srcKvs c s)) ∧ H c = some (.lst (s.cells.map V.int)) ∧ s.cells.length ≤ 63 ∧
      (∀ s', s'.cells = s.cells → Rel W (ρ.set i (some (.src a s'))) σ (upd H a (.dK (srcKvs c s'))) F) ∧
      ∀ cs, cs.length ≤ 63 → Rel W (ρ.set i (some (.src a { s with cells := cs }))) σ (upd H c (.lst (cs.map V.int))) F := by
  obtain ⟨v, as, h1, h2, h3, up⟩ := r.slot e
  obtain ⟨c, rfl, e2, ne, ha, hc, h4, h5, h6⟩ := h2
  subst e2
  have gx : ∀ (b : Addr) (u : HO), b = a ∨ b = c → F b = none → Gx F H F (upd H b u) [a, c] := fun b u hb hf => ⟨Same.refl _, fun b' o h => by rw [upd_ne (ne_of_none h hf)]; exact r.sub b' o h, fun b' o h n => by
    have : b' ≠ b := fun q => n (by subst q; simpa using hb)
    rw [upd_ne this]; exact h, fun b' o h => by
    by_cases q : b' = b
    · subst q; exact ⟨u, upd_same⟩
    · exact ⟨o, by rw [upd_ne q]; exact h⟩, fun _ _ h => .inl h⟩
  refine ⟨c, ne, h1, h4, h5, h6, fun s' es => up (as' := [a, c]) (gx a _ (.inl rfl) ha) ⟨c, rfl, rfl, ne, ha, hc, upd_same, ?_, by rw [es]; exact h6⟩ (fun b hb => .inl hb), fun cs hl => up (as' := [a, c]) (gx c _ (.inr rfl) hc) ⟨c, rfl, rfl, ne, ha, hc, ?_, upd_same, hl⟩ (fun b hb => .inl hb)⟩
  · rw [upd_ne (Ne.symm ne), es]; exact h5
  · rw [upd_ne ne]; exact h4

/-- source['left'] -/
theorem de_srcGet {κ : D → Env → R α → Prop} {k : Str} {f : Src → Int} {u : Src → Int → Src} (KF : KeyF k f u) {n : Str} {np kp pos : Pos} {j : Nat} {a : Addr} {s : Src} (i : Nat) (hρ : ρ[i]? = some (some (.src a s))) (h : κ (.int (f s)) ρ m) (hN : C.N[i]? = some n := by rfl)
    (hv : Vis C.sc n := by first | exact Or.inl rfl | exact Or.inr (Or.inl rfl) | exact Or.inr (Or.inr rfl)) (hd : (n == ("__debug__" : Str)) = false := by decide) (hcd : (n == ("__classdict__" : Str)) = false := by decide) : DE C ρ (.Subscript (.Name n np) (.Constant (.str k) j kp) pos) m κ := by
  intro X W Z x hK c z
  refine PE_imp (pe_dget (hu_of x.room) (own_name x hN hv hd hcd) pe_str (fun _ _ => rfl)) fun σ H Q ⟨F, r, q⟩ => ?_
  obtain ⟨cc, ne, h1, h2, _⟩ := r.srcAt hρ
  refine ⟨_, h1, a, .int (f s), rfl, ?_, q _ ρ m _ H F h z r (Same.refl _) (.int _)⟩
  have := DGet.k (k := .inr k) h2
  rw [KF.get] at this
  exact this
/-- source['left'] = e -/
theorem ds_srcPut {J : Jd α} {k : Str} {f : Src → Int} {u : Src → Int → Src} (KF : KeyF k f u) {n : Str} {np kp sp pos : Pos} {j : Nat} {e : Expr} {rest : List Stmt} (i : Nat)
    (h : DE C ρ e m fun d ρ1 m1 => ∃ a s g, ρ1[i]? = some (some (.src a s)) ∧ m1 = (toI d).bind g ∧ ∀ t, DSs C (ρ1.set i (some (.src a (u s t)))) rest (g t) J) (hN : C.N[i]? = some n := by rfl)
    (hv : Vis C.sc n := by first | exact Or.inl rfl | exact Or.inr (Or.inl rfl) | exact Or.inr (Or.inr rfl)) (hd : (n == ("__debug__" : Str)) = false := by decide) (hcd : (n == ("__classdict__" : Str)) = false := by decide)
    (hs : ∀ env : PySem.Env, env.scope = C.sc → swapsWith e (some (.Subscript (.Name n np) (.Constant (.str k) j kp) sp)) pos.line env = pure false := by intro env he; rfl) : DSs C ρ (.Assign [.Subscript (.Name n np) (.Constant (.str k) j kp) sp] e pos :: rest) m J := by
  intro X W Z x hK c z
  refine PSs_imp (pss_cons (ps_dput (hu_of x.room) (own_name x hN hv hd hcd) pe_str (h X W Z x hK c z) (hs _ x.sc)) (rest_run (J := J) x hK c)) fun Dn σ H ⟨F, r, l⟩ => ?_
  refine ⟨F, r, fun d ρ1 m1 v H1 F1 ⟨a, s, g, e1, e2, hg⟩ k2 k3 k4 k5 => ?_⟩
  subst e2
  obtain ⟨t, et, zt⟩ := c.bind k2
  unfold toI at et
  split at et
  · cases et
    obtain ⟨cc, ne, h1, h2, _, _, h5, _⟩ := k3.srcAt e1
    have hv' := k5.toInt
    subst hv'
    refine ⟨_, h1, a, _, rfl, DPut.k (k := .inr k) h2 ?_, (_, _), ⟨hg _, zt⟩, F1, ?_, l⟩
    · rw [sizeLine_eq]; show (4 : Nat) < 16777216; decide
    · rw [KF.put]; exact h5 _ (KF.cells _ _)
  · cases et
/-- len(source['cells']) -/
theorem de_srcLen {κ : D → Env → R α → Prop} {n : Str} {lp np kp sp pos : Pos} {j : Nat} {a : Addr} {s : Src} (hm : C.mg ("len" : Str) = none) (i : Nat) (hρ : ρ[i]? = some (some (.src a s))) (h : κ (.int s.cells.length) ρ m) (hN : C.N[i]? = some n := by rfl)
    (hv : Vis C.sc n := by first | exact Or.inl rfl | exact Or.inr (Or.inl rfl) | exact Or.inr (Or.inr rfl)) (hd : (n == ("__debug__" : Str)) = false := by decide) (hcd : (n == ("__classdict__" : Str)) = false := by decide) (hg : C.sc.names.lookup ("len" : Str) = some .globalImplicit := by rfl)
    (he : ∀ env : PySem.Env, starEach [.Subscript (.Name n np) (.Constant (.str "cells") j kp) sp] env = (false, eval (.Subscript (.Name n np) (.Constant (.str "cells") j kp) sp) env) :: starEach [] env := by intro _; rfl) (hpl : ∀ env : PySem.Env, (backTo pos (starEach [] env)).any (·.1) = false := by intro _; rfl) :
    DE C ρ (.Call (.Name "len" lp) [.Subscript (.Name n np) (.Constant (.str "cells") j kp) sp] [] pos) m κ := by
  intro X W Z x hK c z
  refine PE_imp (pe_callB call_len (x.gl hg) (x.mg0 hm) boot_len (pa_cons (pe_dget (hu_of x.room) (own_name x hN hv hd hcd) pe_str (fun _ _ => rfl)) pa_nil (he _)) (by decide) (by decide) (he _) (hpl _)) fun σ H Q ⟨F, r, q⟩ => ?_
  obtain ⟨cc, ne, h1, h2, h3, _⟩ := r.srcAt hρ
  refine ⟨_, h1, a, .ref cc, rfl, ?_, ?_⟩
  · have := DGet.k (k := .inr "cells") h2
    rw [k_cells] at this
    exact this
  · refine ⟨_, (s.cells.map V.int).length, rfl, .inl ⟨_, SqL.of h3, rfl⟩, ?_⟩
    rw [List.length_map]
    exact q _ ρ m _ H F h z r (Same.refl _) (.int _)
/-- source['cells'].pop() -/
theorem de_srcPop {κ : D → Env → R α → Prop} {n : Str} {np kp sp ap cp : Pos} {j : Nat} {a : Addr} {s : Src} {g : Int × List Int → R α} (i : Nat) (hρ : ρ[i]? = some (some (.src a s))) (e : m = (popC s.cells).bind g) (h : ∀ t cs, κ (.int t) (ρ.set i (some (.src a { s with cells := cs }))) (g (t, cs))) (hN : C.N[i]? = some n := by rfl)
    (hv : Vis C.sc n := by first | exact Or.inl rfl | exact Or.inr (Or.inl rfl) | exact Or.inr (Or.inr rfl)) (hd : (n == ("__debug__" : Str)) = false := by decide) (hcd : (n == ("__classdict__" : Str)) = false := by decide)
    (hbase : ∀ env : PySem.Env, env.scope = C.sc → attributeBase (.Subscript (.Name n np) (.Constant (.str "cells") j kp) sp) "pop" env (eval (.Subscript (.Name n np) (.Constant (.str "cells") j kp) sp) env) = eval (.Subscript (.Name n np) (.Constant (.str "cells") j kp) sp) env := by intro env he; rfl)
    (hline : (ap.endLine == cp.line) = true := by rfl) :
    DE C ρ (.Call (.Attribute (.Subscript (.Name n np) (.Constant (.str "cells") j kp) sp) "pop" ap) [] [] cp) m κ := by
  intro X W Z x hK c z
  refine PE_imp (pe_bm0 F.plainAttrs_list F.slot_list_pop F.type_list_pop mt_pop (pe_dget (hu_of x.room) (own_name x hN hv hd hcd) pe_str (fun _ _ => rfl)) (hbase _ x.sc) hline) fun σ H Q ⟨F, r, q⟩ => ?_
  subst e
  obtain ⟨⟨t, cs⟩, ec, zc⟩ := c.bind z
  unfold popC at ec
  split at ec
  · rename_i hl; cases ec
    obtain ⟨cc, ne, h1, h2, h3, h6, _, h5⟩ := r.srcAt hρ
    refine ⟨_, h1, a, .ref cc, rfl, ?_, .inl ⟨rfl, _, SqL.of h3⟩, cc, _, .int t, rfl, rfl, h3, ?_, ?_⟩
    · have := DGet.k (k := .inr "cells") h2
      rw [k_cells] at this
      exact this
    · rw [List.length_map, List.getElem?_map, ← List.getLast?_eq_getElem?, hl]; rfl
    · rw [← List.map_dropLast]
      exact q _ _ _ _ _ F (h t _) zc (h5 _ (by rw [List.length_dropLast]; omega)) (Same.refl _) (.int _)
  · cases ec
/-- the script is walked -/
theorem di_scr {tg : Expr} {κ : List D → Env → R α → Prop} {n : Str} {pos : Pos} {ns : List Int} (i : Nat) (hρ : ρ[i]? = some (some (.scr ns))) (h : κ (ns.map .int) ρ m) (hN : C.N[i]? = some n := by rfl)
    (hv : Vis C.sc n := by first | exact Or.inl rfl | exact Or.inr (Or.inl rfl) | exact Or.inr (Or.inr rfl)) (hd : (n == ("__debug__" : Str)) = false := by decide) (hcd : (n == ("__classdict__" : Str)) = false := by decide) : DI C ρ tg (.Name n pos) m κ := by
  intro X W Z x hK c z
  refine PI_imp (pi_list (own_name x hN hv hd hcd)) fun σ H Rr ⟨F, r, q⟩ => ?_
  obtain ⟨v, as, h1, h2, _, _⟩ := r.slot hρ
  obtain ⟨a, rfl, hs, hl, _⟩ := h2
  have hs' : SqL X.K F a (ns.map V.int) := by rw [x.K, ← hK]; exact hs
  have rp : RpAll W.K F (ns.map V.int) (ns.map .int) := by
    clear h hs hs' hl hρ
    induction ns with
    | nil => exact .nil
    | cons n ns ih => exact .cons (.int _) ih
  exact ⟨_, h1, a, rfl, ⟨_, r.sub.seq hs'⟩, q _ ρ m _ H F h z r (Same.refl _) (by rw [x.K, ← hK]; exact itd_list hs rp)⟩
/-- xs[::-1] -/
theorem dn_rev {κ : List D → Env → R α → Prop} {e : Expr} {k : Nat} {p1 p2 p3 pos : Pos} (h : DE C ρ e m fun d ρ1 m1 => ∃ g, m1 = (revL d).bind g ∧ ∀ xs, κ xs ρ1 (g xs)) : DN C ρ (.Subscript e (.Slice none none (some (.UnaryOp .USub (.Constant (.int 1) k p1) p2)) p3) pos) m κ := by
  intro X W Z x hK c z
  refine PE_imp (pe_revL (h X W Z x hK c z)) fun σ H Q ⟨F, r, q⟩ => ⟨F, r, fun d ρ' m' v H' F' ⟨g, e1, hg⟩ h2 h3 h4 h5 => ?_⟩
  subst e1
  obtain ⟨xs, ex, zx⟩ := c.bind h2
  unfold revL at ex
  split at ex
  · cases ex
    obtain ⟨p, ys, rfl, hp, rys⟩ := h5.toList
    exact ⟨p, ys, rfl, SqL.of (h3.sub _ _ hp), fun l hl => q _ ρ' _ _ l H' F' (hg _) zx h3 h4 hl rys.reverse⟩
  · cases ex
/-- what makes a new list is a value, too -/
theorem de_dn {κ : D → Env → R α → Prop} {e : Expr} (h : DN C ρ e m fun ds ρ1 m1 => κ (.list ds) ρ1 m1) : DE C ρ e m κ := by
  intro X W Z x hK c z
  refine PE_imp (h X W Z x hK c z) fun σ H Q ⟨F, r, q⟩ => ⟨F, r, fun ds ρ' m' vs p H' F' k1 k2 k3 k4 k5 k6 => ?_⟩
  have fx : Fx F' H' _ _ := Fx.alloc (u := .lst vs) k3.sub k5
  exact q _ ρ' m' _ _ _ k1 k2 (k3.step fx) (k4.trans fx.ff) (.lst upd_same (k6.mono fx.ff))

/-! ### what is handed out -/
/-- a part that is an int, read without a change -/
def IE (C : Ct) (ρ : Env) (e : Expr) (d : D) : Prop := ∀ X : Cx, XOk C X → PE X e fun σ H Q => (∃ W H' F', Rel W ρ σ H' F') ∧ ∀ v, (∀ n, d = .int n → v = .int n) → Q v H
theorem ie_int {i : Int} {j : Nat} {pos : Pos} : IE C ρ (.Constant (.int i) j pos) (.int i) := fun X x => PE_imp pe_int fun σ H Q ⟨_, q⟩ => q _ fun n e => by cases e; rfl
theorem ie_var {n : Str} {pos : Pos} {d : D} (i : Nat) (hρ : ρ[i]? = some (some (.val d))) (hN : C.N[i]? = some n := by rfl)
    (hv : Vis C.sc n := by first | exact Or.inl rfl | exact Or.inr (Or.inl rfl) | exact Or.inr (Or.inr rfl)) (hd : (n == ("__debug__" : Str)) = false := by decide) (hcd : (n == ("__classdict__" : Str)) = false := by decide) : IE C ρ (.Name n pos) d := fun X x =>
  PE_imp (own_name x hN hv hd hcd) fun σ H Q ⟨⟨W, H', F', r⟩, q⟩ => by
    obtain ⟨v, h1, h2⟩ := r.val hρ
    exact ⟨v, h1, q v fun n e => by subst e; exact h2.toInt⟩
/-- return {'cells': e1, 'left': e2, 'mixed': e3, 'turn': e4} -/
theorem ds_retSrc {J : Jd α} {e1 e2 e3 e4 : Expr} {j1 j2 j3 j4 : Nat} {p1 p2 p3 p4 dp pos : Pos} {rest : List Stmt}
    (h : DN C ρ e1 m fun ds ρ1 m1 => ∃ d2 d3 d4 g, IE C ρ1 e2 d2 ∧ IE C ρ1 e3 d3 ∧ IE C ρ1 e4 d4 ∧ m1 = (mkSrc ds d2 d3 d4).bind g ∧ ∀ s, J.rn (.src s) ρ1 (g s)) :
    DSs C ρ (.Return (some (.Dict [some (.Constant (.str "cells") j1 p1), some (.Constant (.str "left") j2 p2), some (.Constant (.str "mixed") j3 p3), some (.Constant (.str "turn") j4 p4)] [e1, e2, e3, e4] dp)) pos :: rest) m J := by
  intro X W Z x hK c z
  have ie : ∀ e : Expr, PE X e fun σ H Q => ∃ q : Env × D, IE C q.1 e q.2 ∧ (∃ W H' F', Rel W q.1 σ H' F') ∧ ∀ v, (∀ n, q.2 = .int n → v = .int n) → Q v H := fun e =>
    ⟨fun p s σ H Q I ⟨i, hi, q⟩ => (hi X x).run p s σ H Q I q⟩
  have hd : PE X e1 fun σ H Q => ∃ W' : Wd, W'.K = C.K ∧ ∃ F, Rel W' ρ σ H F ∧ ∀ ds ρ' m' vs p H' F', (∃ d2 d3 d4 g, IE C ρ' e2 d2 ∧ IE C ρ' e3 d3 ∧ IE C ρ' e4 d4 ∧ m' = (mkSrc ds d2 d3 d4).bind g ∧ ∀ s, J.rn (.src s) ρ' (g s)) → Z m' → Rel W' ρ' σ H' F' → Same F F' → H' p = none → RpAll W'.K F' vs ds → Q (.ref p) (upd H' p (.lst vs)) :=
    ⟨fun p s σ H Q I ⟨W', hK', q⟩ => (h X W' Z x hK' c z).run p s σ H Q I q⟩
  refine PSs_imp (pss_cons (ps_ret (pe_disp (pps_cons pe_str hd (pps_cons pe_str (ie e2) (pps_cons pe_str (ie e3) (pps_cons pe_str (ie e4) pps_nil)))) rfl rfl (by simp) (by show (4 : Nat) ≤ 15; decide))) pss_never) fun Dn σ H ⟨F, r, l⟩ => ?_
  intro p hp
  obtain ⟨io, rt, hio, hth⟩ := r.turn
  have hnio : p ∉ io := fun hb => by obtain ⟨o, e⟩ := hth p hb; rw [hp] at e; cases e
  have hFp : F p = none := r.sub.free hp
  have rn := rt.newAt hp hp (.dK [])
  refine ⟨⟨W.K, F, upd H p (.dK []), io⟩, hK, F, rn, fun ds ρ1 m1 vs q H1 F1 ⟨d2, d3, d4, g, i2, i3, i4, em, hg⟩ z1 r1 _ hq rd => ?_⟩
  subst em
  obtain ⟨s, es, zs⟩ := c.bind z1
  refine ⟨(ρ1, d2), i2, ⟨_, _, _, r1⟩, fun v2 hv2 => ⟨(ρ1, d3), i3, ⟨_, _, _, r1⟩, fun v3 hv3 => ⟨(ρ1, d4), i4, ⟨_, _, _, r1⟩, fun v4 hv4 => ?_⟩⟩⟩
  have hpp : H1 p = some (.dK []) := r1.keep p _ upd_same hnio
  have npq : p ≠ q := ne_of_none hpp hq
  unfold mkSrc at es
  split at es
  · rename_i ns hns
    split at es
    · rename_i hlen
      obtain ⟨l', el, es⟩ := R.bind_eq_ok es
      obtain ⟨mx, emx, es⟩ := R.bind_eq_ok es
      obtain ⟨t, et, es⟩ := R.bind_eq_ok es
      cases es
      have toI' : ∀ {d : D} {n : Int}, toI d = .ok n → d = .int n := fun {d n} h => by
        unfold toI at h
        split at h
        · cases h; rfl
        · cases h
      have h2' := hv2 _ (toI' el); have h3' := hv3 _ (toI' emx); have h4' := hv4 _ (toI' et)
      subst h2' h3' h4'
      have ev := ints_of rd hns
      subst ev
      refine ⟨by rw [upd_ne npq]; exact hpp, [(.inr "cells", .ref q), (.inr "left", .int l'), (.inr "mixed", .int mx), (.inr "turn", .int t)], rfl, by show (4 : Nat) ≤ 15; decide, ?_⟩
      have hmk : mergeK [] [((.inr "cells" : Key), V.ref q), (.inr "left", .int l'), (.inr "mixed", .int mx), (.inr "turn", .int t)] = srcKvs q ⟨ns, l', mx, t⟩ := by
        simp [mergeK, putK, srcKvs, k_cl, k_cm, k_ct, k_lm, k_lt, k_mt, Ne.symm k_cl, Ne.symm k_cm, Ne.symm k_ct, Ne.symm k_lm, Ne.symm k_lt, Ne.symm k_mt]
      rw [hmk]
      have hF1p : F1 p = none := r1.free0 (D' := p) upd_same hnio hFp
      have hF1q : F1 q = none := r1.sub.free hq
      have hx : ∀ b o, H1 b = some o → b ≠ p → upd (upd H1 q (.lst (ns.map V.int))) p (.dK (srcKvs q ⟨ns, l', mx, t⟩)) b = some o := fun b o h n => by rw [upd_ne n, upd_ne (ne_of_none h hq)]; exact h
      have hx2 : ∀ b o, H b = some o → b ≠ p ∧ (upd H p (.dK []) b = some o) := fun b o h => ⟨ne_of_none h hp, by rw [upd_ne (ne_of_none h hp)]; exact h⟩
      have hq0 : H q = none := by
        cases e : H q with
        | none => rfl
        | some o => obtain ⟨o', q'⟩ := r1.trk q o (hx2 q o e).2; rw [hq] at q'; cases q'
      refine l.rn (.src ⟨ns, l', mx, t⟩) ρ1 (g ⟨ns, l', mx, t⟩) (.ref p) [p, q] _ F1 (hg _) zs ⟨fun b o h => hx b o (r1.sub b o h) (ne_of_none h hF1p), r.sub0.trans r1.sub0, fun b o h n => ?_, fun b o h => ?_, ⟨fun _ => [], fun i sl e => by simp at e⟩, Nat.le_refl _, fun b o h => ?_⟩ ⟨p, q, rfl, rfl, npq, hF1p, hF1q, upd_same, by rw [upd_ne (Ne.symm npq), upd_same], of_decide_eq_true hlen⟩ ?_
      · have h1 := r.keep b o h n
        obtain ⟨nb, h2⟩ := hx2 b o h1
        refine hx b o (r1.keep b o h2 fun hb => ?_) nb
        rcases hio b hb with z | z
        · exact n z
        · rw [h] at z; cases z
      · rcases r1.fresh b o h with z | z | z
        · exact r.fresh b o z
        · refine .inr (.inl (r.base ?_))
          have nb : b ≠ p := ne_of_none h hF1p
          replace z : upd H p (.dK []) b = none := z
          rw [upd_ne nb] at z; exact z
        · exact .inr ((hio b z).elim .inr .inl)
      · obtain ⟨o1, h1⟩ := r.trk b o h
        obtain ⟨nb, h2⟩ := hx2 b o1 h1
        obtain ⟨o2, h3⟩ := r1.trk b o1 h2
        exact ⟨o2, hx b o2 h3 nb⟩
      · intro b hb
        have : b = p ∨ b = q := by simpa using hb
        rcases this with rfl | rfl
        · exact r.base hp
        · exact r.base hq0
    · cases es
  · cases es
/-- the promise of a def that makes a source of the script -/
def spQ (K : PySem.W.Frag) (fm : List Int → R Src) : Sp := fun vs H Q _ => ∃ F a ns s, vs = [.ref a] ∧ Same F H ∧ SqL K F a (ns.map V.int) ∧ ns.length ≤ 63 ∧ fm ns = .ok s ∧
  ∀ v as H' F', Fx F H F' H' → (∃ b, SlR K F' H' (.src b s) v as) → (∀ b ∈ as, H b = none) → Q v H'
structure FnQ (C : Ct) (n : Str) (fm : List Int → R Src) : Prop where
  ex : ∃ f fd ps j, j ≤ C.k ∧ FnG C.P C.w C.K C.mg C.base CX0 j f fd ps (spQ C.K fm) ∧ C.mg n = some (.ref f) ∧ PySem.W.keepIn C.K (.ref f) = true ∧ Binds C.K fd ps []
/-- source = f(script) -/
theorem ds_source {J : Jd α} {n x0 fn : Str} {p fp xp cp pos : Pos} {fm : List Int → R Src} {g : Src → R α} {ns : List Int} {rest : List Stmt} (i j : Nat) (G : FnQ C fn fm) (hρ : ρ[j]? = some (some (.scr ns))) (hm : m = (fm ns).bind g)
    (k : ∀ a s, DSs C (ρ.set i (some (.src a s))) rest (g s) J) (hN : C.N[i]? = some n := by rfl) (hNj : C.N[j]? = some x0 := by rfl)
    (hx : Loc C.sc n := by first | exact Or.inl rfl | exact Or.inr rfl) (hfn : C.fn n = true ∨ C.sc.names.lookup n = some .local := by first | exact Or.inl rfl | exact Or.inr rfl)
    (hv : Vis C.sc x0 := by first | exact Or.inl rfl | exact Or.inr (Or.inl rfl) | exact Or.inr (Or.inr rfl)) (hg : C.sc.names.lookup fn = some .globalImplicit := by rfl) (hdb : (fn == ("__debug__" : Str)) = false := by decide) (hd : (x0 == ("__debug__" : Str)) = false := by decide) (hcd : (x0 == ("__classdict__" : Str)) = false := by decide)
    (he : ∀ env : PySem.Env, starEach [.Name x0 xp] env = (false, eval (.Name x0 xp) env) :: starEach [] env := by intro _; rfl) (hpl : ∀ env : PySem.Env, (backTo cp (starEach [] env)).any (·.1) = false := by intro _; rfl)
    (hs : ∀ env : PySem.Env, env.scope = C.sc → swapsWith (.Call (.Name fn fp) [.Name x0 xp] [] cp) (some (.Name n p)) pos.line env = pure false := by intro env he; rfl) : DSs C ρ (.Assign [.Name n p] (.Call (.Name fn fp) [.Name x0 xp] [] cp) pos :: rest) m J := by
  intro X W Z x hK c z
  subst hm
  have hf : X.fn n = true ∨ X.env.scope.names.lookup n = some .local := hfn.elim (fun h => .inl (x.fnl n h)) fun h => .inr (by rw [x.sc]; exact h)
  obtain ⟨f, fd, ps, jj, hj, ok, hmg, kp, b⟩ := G.ex
  refine PSs_imp (pss_cons (ps_set (i := i) (by rw [x.N]; exact x.nd) (by rw [x.N]; exact hN) (by rw [x.sc]; exact hx) (pe_callG (fnAt x ok hj) x.grd x.room (x.gl hg) (by rw [x.mg]; exact hmg) (by rw [x.K]; exact kp) (by rw [x.K]; exact b) pass0 (pa_cons (own_name x hNj hv hd hcd) pa_nil (he _)) hdb (he _) (hpl _)) (hs _ x.sc) hf) (rest_run (J := J) x hK c)) fun D σ H ⟨F, r, l⟩ => ?_
  obtain ⟨s, es, zs⟩ := c.bind z
  obtain ⟨v, as, h1, h2, _, _⟩ := r.slot hρ
  obtain ⟨a, rfl, hsq, hl, _⟩ := h2
  refine ⟨_, h1, F, a, ns, s, rfl, r.sub, by rw [← hK]; exact hsq, hl, es, fun v as' H' F' fx ⟨b', hsl⟩ hn => ⟨(g s, _), ⟨k b' s, zs⟩, F', ?_, l⟩⟩
  have hsl' : SlR W.K F' H' (.src b' s) v as' := by rw [hK]; exact hsl
  exact r.give fx i hsl' hn
def JfQ : Jd Src := { nx := fun _ _ => False, rt := fun _ _ _ => False, bk := fun _ _ => False, ct := fun _ _ => False, rn := fun ow _ m => ∃ s, ow = .src s ∧ m = .ok s }
theorem scr_rel {K : PySem.W.Frag} {N : List Str} {F H : Hp} {a : Addr} {ns : List Int} (sub : Same F H) (hs : SqL K F a (ns.map V.int)) (hl : ns.length ≤ 63) : Rel ⟨K, F, H, []⟩ (startE N [.scr ns]) (L2.start N [.ref a]) H F := by
  refine ⟨sub, Same.refl _, fun b o h _ => h, fun b o h => .inl h, ⟨fun _ => [], fun i sl e => ?_⟩, by unfold startE L2.start; simp, fun b o h => ⟨o, h⟩⟩
  have e1 := startE_get e
  cases i with
  | zero =>
    have e2 : sl = .scr ns := by simpa using e1.symm
    subst e2
    exact ⟨.ref a, start_get rfl, ⟨a, rfl, hs, hl, rfl⟩, by simp, by simp⟩
  | succ i => simp at e1
theorem fnQ_of {P : Program} {w : World} {K : PySem.W.Frag} {mg : Str → Option Value} {base : Heap} {x qual : Str} {st : Stmt} {f : Addr} {fd : FuncData} {N ps : List Str} {k : Nat} {fm : List Int → R Src} (F : Fun K x qual st f fd) (S : FnScope N ps (defScope st)) (hn : ps.length = 1)
    (h : ∀ ns : List Int, DSs ⟨P, w, K, mg, base, k, N, defScope st, fun _ => true⟩ (startE N [.scr ns]) (defBody st) (fm ns) JfQ) : FnG P w K mg base CX0 (k + 1) f fd ps (spQ K fm) := by
  refine okG F S (fun vs H Q E h => ?_) (fun cdv A outer s H vs Q E gd hr hsp => ?_)
  · obtain ⟨_, _, _, _, e, _⟩ := h
    rw [e, hn, List.length_singleton]
  · obtain ⟨F0, a, ns, r, e, sub, hs, hl, er, q⟩ := hsp
    subst e
    have xo : XOk ⟨P, w, K, mg, base, k, N, defScope st, fun _ => true⟩ (cxOf CX0 P w K mg base N qual (defScope st) f cdv A outer s H E).nox :=
      ⟨rfl, rfl, rfl, rfl, rfl, rfl, S.nd, rfl, rfl, hr, gd, PassesOwn.never, fun _ _ => rfl⟩
    have cl : Cl fun r' : R Src => r' = .ok r := ⟨(fun e => nomatch e), (fun _ _ e => nomatch e)⟩
    refine ⟨_, (h ns _ ⟨K, F0, H, []⟩ _ xo rfl cl er).nox, F0, scr_rel sub hs hl, ⟨fun _ _ _ _ _ h => h.elim, fun _ _ _ _ _ _ _ h => h.elim, fun _ _ _ _ _ h => h.elim, fun _ _ _ _ _ h => h.elim, fun ow ρ m v as H' F' ⟨s', e1, e2⟩ h2 h3 h4 h5 => ?_⟩⟩
    subst e1
    rw [h2] at e2; cases e2
    exact q v as H' F' h3.fx h4 h5
/-- the law's own promise -/
def spLaw (K : PySem.W.Frag) : Sp := fun vs H Q _ => ∃ (a : Addr) (ns : List Int), vs = [.ref a] ∧ SqL K H a (ns.map V.int) ∧ ns.length ≤ 63 ∧ ∀ H', Q (.bl true) H'
theorem fnLaw_of {P : Program} {w : World} {K : PySem.W.Frag} {mg : Str → Option Value} {base : Heap} {x qual : Str} {st : Stmt} {f : Addr} {fd : FuncData} {N ps : List Str} {k : Nat} {fm : List Int → R D} (F : Fun K x qual st f fd) (S : FnScope N ps (defScope st)) (hn : ps.length = 1)
    (h : ∀ ns : List Int, DSs ⟨P, w, K, mg, base, k, N, defScope st, fun _ => true⟩ (startE N [.scr ns]) (defBody st) (fm ns) Jf) (hm : ∀ ns : List Int, ns.length ≤ 63 → fm ns = .ok (.bool true)) : FnG P w K mg base CX0 (k + 1) f fd ps (spLaw K) := by
  refine okG F S (fun vs H Q E h => ?_) (fun cdv A outer s H vs Q E gd hr hsp => ?_)
  · obtain ⟨_, _, e, _⟩ := h
    rw [e, hn, List.length_singleton]
  · obtain ⟨a, ns, e, hs, hl, q⟩ := hsp
    subst e
    have xo : XOk ⟨P, w, K, mg, base, k, N, defScope st, fun _ => true⟩ (cxOf CX0 P w K mg base N qual (defScope st) f cdv A outer s H E).nox :=
      ⟨rfl, rfl, rfl, rfl, rfl, rfl, S.nd, rfl, rfl, hr, gd, PassesOwn.never, fun _ _ => rfl⟩
    have cl : Cl fun r' : R D => r' = .ok (.bool true) := ⟨(fun e => nomatch e), (fun _ _ e => nomatch e)⟩
    refine ⟨_, (h ns _ ⟨K, H, H, []⟩ _ xo rfl cl (hm ns hl)).nox, H, scr_rel (Same.refl _) hs hl, ⟨fun ρ m σ H' F' h1 h2 h3 => ?_, fun d ρ m v σ H' F' h1 h2 h3 h4 => ?_, fun _ _ _ _ _ h => h.elim, fun _ _ _ _ _ h => h.elim, fun _ _ _ _ _ _ _ h => h.elim⟩⟩
    · rw [h2] at h1; cases h1
    · rw [h2] at h1; cases h1
      rw [h4.toBool]
      exact q H'
end
end Z

set_option Elab.async false
set_option linter.all false
set_option maxRecDepth 100000
set_option autoImplicit false
/-! # Z13: enumerate, zip, repr, .. -/
namespace Z
open PySem L2

/-! ### enumerate(t), t a tuple -/
set_option maxHeartbeats 1000000 in
theorem meets_enumT {v : Value} {o : Obj} {G : Heap → Prop} (B : PySem.Begins v o G) :
    Meets (Builtin.«enumerate.__new__» ⟨[.type "enumerate", v], []⟩) (fun _ R s => G s.heap ∧
      R (.ok (.ret (.ref (s.heap.push o).objs.size))) { s with heap := (s.heap.push o).push { cls := .type "enumerate", data := .fields #[.none, .bool false, .ref s.heap.objs.size, rawInt 0, .none, .none] } }) :=
  .of_wp fun prog w A R s hh => by
    obtain ⟨hp, ge, de, tk, os⟩ := s
    obtain ⟨g1, h⟩ := hh
    have hsub := sub_enumerate
    have start : ∀ {A2 : Around} {E Q : Value → Shared → Prop}, Q (.ref hp.objs.size) ⟨hp.push o, ge, de, tk, os⟩ → wpAny (model prog w) A2 (pyIter v) Q E ⟨hp, ge, de, tk, os⟩ := fun q => B.iter prog w _ _ ⟨hp, ge, de, tk, os⟩ _ g1 q
    wp_walk using start
    refine wpAny_stack_any fun st => wpAny_pure ?_
    split
    · rename_i c _ _ _ _ _
      cases (c == Value.type "enumerate") <;> (wp_walk using start; exact ⟨_, rfl, h⟩)
    · wp_walk using start
      exact ⟨_, rfl, h⟩
theorem call_enumT {prog : Program} {w : World} {A : Around} {E Q : Value → Shared → Prop} {s : Shared} {v : Value} {o : Obj} {G : Heap → Prop} (B : PySem.Begins v o G) (g : G s.heap)
    (h : ∀ h', IsEnum h' (s.heap.objs.size + 1) s.heap.objs.size 0 .none → h'.get? s.heap.objs.size = some o → (∀ b o', s.heap.get? b = some o' → h'.get? b = some o') → Q (.ref (s.heap.objs.size + 1)) { s with heap := h' }) :
    wpAny (model prog w) A (call (.type "enumerate") [v]) Q E s := by
  refine callType_new F.called_enumerate (by decide) (F.typeCall_enumerate_1 _) (F.newCall_enumerate_1 _) (fun obj => F.args_object_init_2 obj _) F.entry_enumerate_new (meets_enumT B) ⟨g, ?_⟩
  have sz : (s.heap.push o).objs.size = s.heap.objs.size + 1 := Heap.size_push ..
  show _ ∧ _
  rw [sz]
  have at1 : IsEnum ((s.heap.push o).push { cls := .type "enumerate", data := .fields #[.none, .bool false, .ref s.heap.objs.size, rawInt 0, .none, .none] }) (s.heap.objs.size + 1) s.heap.objs.size 0 .none := by
    have q := Heap.get?_push_size (s.heap.push o) (o := { cls := .type "enumerate", data := .fields #[.none, .bool false, .ref s.heap.objs.size, rawInt 0, .none, .none] }) rfl
    rw [sz] at q; exact q
  exact ⟨⟨_, at1, rfl⟩, h _ at1 (Heap.get?_push_of_some _ (Heap.get?_push_size _ B.free)) fun b o' q => Heap.get?_push_of_some _ (Heap.get?_push_of_some _ q)⟩
/-- the tuple at a, each item in a new pair -/
def IteT (K : PySem.W.Frag) (a : Addr) : It where
  go := fun i H => ∃ (xs : List V) (x : V), SqT K H a xs ∧ xs[i]? = some x
  yld := fun i H v H' => ∃ T x, v = .ref T ∧ H T = none ∧ H' = upd H T (.tup [.int (i : Nat), x]) ∧ ∀ xs, SqT K H a xs → xs[i]? = some x
  stop := fun i H => ∃ xs : List V, SqT K H a xs ∧ xs.length = i
theorem turn_enumT {P : Program} {w : World} {K : PySem.W.Frag} {es : List Expr} {kk : Nat} {tp : Pos} (a e it : Addr) :
    Turn P w K (.Tuple es kk tp) (IteT K a) [e, it] e (fun i h => (∃ old, IsEnum h e it ((i : Nat) : Int) old) ∧ h.IsTupleIter it a i ∧ e ≠ it ∧ a ≠ it ∧ e ≠ a) where
  mem := List.mem_cons_self
  obj := fun i h ⟨⟨old, he⟩, ⟨o, ho, _, hd⟩, _⟩ b hb => by
    have : b = e ∨ b = it := by simpa using hb
    rcases this with z | z
    · subst z; exact ⟨_, he, fun v q => nomatch q⟩
    · subst z; exact ⟨o, ho, fun v q => by rw [hd] at q; cases q⟩
  keep := fun i h h' ⟨⟨old, he⟩, hi, r⟩ k => ⟨⟨old, k e (by simp) _ he⟩, hi.at fun o q => k it (by simp) o q, r⟩
  item := by
    intro X hP hw hK hc i pins s σ H E I hf ⟨⟨old, he⟩, hit, hne, hai, hea⟩ ⟨xs, x, hq, hx⟩
    subst hP hw hK
    obtain ⟨its, rv, tup, _⟩ := I.tuple hq
    obtain ⟨u, hu, ru⟩ := rv.get hx
    have le : e < s.heap.objs.size := Heap.lt_size he
    have li : it < s.heap.objs.size := by obtain ⟨_, q, _⟩ := hit; exact Heap.lt_size q
    have lt : i < its.toArray.size := by
      have := (List.getElem?_eq_some_iff.mp hu).1
      simpa using this
    refine wpAny_pyNext_enum_itemD (PySem.Draws.tuple (A := X.A.in1) (I.ok.hd hc) it a hai its.toArray) he ⟨hit, tup⟩ lt hne (by simp [hne, hea]) fun y h' tk hy ho st hT _ hk => ?_
    have ey : y = u := by
      have h1 : its.toArray[i]? = some u := by simpa using hu
      rw [h1] at hy; cases hy; rfl
    subst ey
    refine ⟨_, rfl, wpAny_letOwnedTupleGo_enum (s := { s with heap := h', toks := tk + 1 }) ho fun h'' he' sb => ?_⟩
    have hT2 : h''.get? s.heap.objs.size = some { cls := .type "tuple", data := .seq #[.int i tk, y] } := (sb.2 _ (Nat.ne_of_gt le)).trans hT
    have new : ObjOk X.prog X.w (upd H s.heap.objs.size (.tup [.int (i : Nat), x])) h'' s.heap.objs.size (.tup [.int (i : Nat), x]) := ⟨by show 2 ≤ sizeLine; decide, [.int i tk, y], .cons ⟨_, rfl⟩ (.cons ru .nil), _, hT2, rfl, _, rfl⟩
    have I2 : Inv X pins σ (upd H s.heap.objs.size (.tup [.int (i : Nat), x])) { s with heap := h'', toks := tk + 1 } :=
      I.turnedNew (ch := [e, it]) (fun b ob hb q => (sb.2 b fun z => hb (by simp [z])).trans (hk b ob (fun z => hb (by simp [z])) (fun z => hb (by simp [z])) q)) hf (Nat.le_refl _) new
    have fresh : ∀ b ∈ [e, it], b ≠ s.heap.objs.size := fun b hb => by
      have : b = e ∨ b = it := by simpa using hb
      rcases this with z | z <;> subst z
      · exact Nat.ne_of_lt le
      · exact Nat.ne_of_lt li
    refine ⟨.ref s.heap.objs.size, _, I2, rfl, ⟨_, x, rfl, I.hok.fresh (Nat.le_refl _), rfl, fun ys hy => ?_⟩, ⟨⟨y, ?_⟩, st.1.at fun o q => (sb.2 it (Ne.symm hne)).trans q, hne, hai, hea⟩, fun b hb => by rw [upd_ne (fresh b hb)]; exact (hf b hb).1⟩
    · rw [I.tuple_inj hy hq]; exact hx
    · have e1 : ((i + 1 : Nat) : Int) = (i : Int) + 1 := by omega
      rw [e1]; exact he'
  done := by
    intro X hP hw hK hc i pins s σ H E I hf ⟨⟨old, he⟩, hit, hne, hai, hea⟩ ⟨xs, hq, hx⟩
    subst hP hw hK
    obtain ⟨its, rv, tup, _⟩ := I.tuple hq
    obtain ⟨f0, f1, f2, f3, f4, f5⟩ := hf it (by simp)
    have hl : i = its.toArray.size := by rw [List.size_toArray, ← rv.length]; exact hx.symm
    subst hl
    exact wpAny_pyNext_enum_endD (PySem.Draws.tuple (A := X.A.in1) (I.ok.hd hc) it a hai its.toArray) he ⟨hit, tup⟩ fun h' eb => ⟨rfl, I.turned (t' := s.toks) (fun b o hb q => eb b o hb q) f0 f1 f3 f4 f5⟩
  self := fun A i s Q E ⟨⟨_, he⟩, _⟩ h => wpAny_pyIter_enum he h

theorem enumD_at {items : List D} {i : Nat} : (enumD items)[i]? = (items[i]?).map fun d => .tuple [.int (i : Nat), d] := by
  unfold enumD
  rw [List.getElem?_map, List.getElem?_zipIdx]
  cases items[i]? with
  | none => rfl
  | some d => simp
theorem enumD_length {items : List D} : (enumD items).length = items.length := by unfold enumD; simp
theorem itd_enumL {K : PySem.W.Frag} {a : Addr} {xs : List V} {items : List D} {F : Hp} (h : SqL K F a xs) (r : RpAll K F xs items) : ItD K (Ite K a) (enumD items) F where
  goes := fun i F1 H hi e1 e2 => by
    rw [enumD_length, ← r.length] at hi
    exact ⟨xs, xs[i], e2.seq (e1.seq h), List.getElem?_eq_getElem hi⟩
  stops := fun F1 H e1 e2 => ⟨xs, e2.seq (e1.seq h), by rw [enumD_length, r.length]; exact Nat.le_refl _⟩
  yields := fun i F1 H x H' hi e1 e2 ⟨T, y, e3, hT, e4, hy⟩ => by
    subst e3 e4
    obtain ⟨d, h1, h2⟩ := r.at' (hy xs (e2.seq (e1.seq h)))
    have fx : Fx F1 H _ _ := Fx.alloc (u := .tup [.int (i : Nat), y]) e2 hT
    exact ⟨_, .tuple [.int (i : Nat), d], by rw [enumD_at, h1]; rfl, fx, .tup (.inl (.inl upd_same)) (.cons (.int _) (.cons ((h2.mono e1).mono fx.ff) .nil))⟩
theorem itd_enumT {K : PySem.W.Frag} {a : Addr} {xs : List V} {items : List D} {F : Hp} (h : SqT K F a xs) (r : RpAll K F xs items) : ItD K (IteT K a) (enumD items) F where
  goes := fun i F1 H hi e1 e2 => by
    rw [enumD_length, ← r.length] at hi
    exact ⟨xs, xs[i], seqT e2 (seqT e1 h), List.getElem?_eq_getElem hi⟩
  stops := fun F1 H e1 e2 => ⟨xs, seqT e2 (seqT e1 h), by rw [enumD_length, r.length]⟩
  yields := fun i F1 H x H' hi e1 e2 ⟨T, y, e3, hT, e4, hy⟩ => by
    subst e3 e4
    obtain ⟨d, h1, h2⟩ := r.at' (hy xs (seqT e2 (seqT e1 h)))
    have fx : Fx F1 H _ _ := Fx.alloc (u := .tup [.int (i : Nat), y]) e2 hT
    exact ⟨_, .tuple [.int (i : Nat), d], by rw [enumD_at, h1]; rfl, fx, .tup (.inl (.inl upd_same)) (.cons (.int _) (.cons ((h2.mono e1).mono fx.ff) .nil))⟩
section
variable {α : Type} {C : Ct} {ρ : Env} {m : R α}
theorem di_enum {κ : List D → Env → R α → Prop} {a : Expr} {p pos tp : Pos} {es : List Expr} {kk : Nat} (hm : C.mg ("enumerate" : Str) = none) (h : DE C ρ a m fun d ρ1 m1 => ∃ g, m1 = (iterL d).bind g ∧ ∀ items, κ (enumD items) ρ1 (g items))
    (hg : C.sc.names.lookup ("enumerate" : Str) = some .globalImplicit := by rfl) (hs : ∀ env : PySem.Env, starEach [a] env = [(false, eval a env)] := by intro _; rfl) : DI C ρ (.Tuple es kk tp) (.Call (.Name "enumerate" p) [a] [] pos) m κ := by
  intro X W Z x hK c z
  have ha : DA C ρ [a] m fun ds ρ1 m1 => ∃ d, ds = [d] ∧ ∃ g, m1 = (iterL d).bind g ∧ ∀ items, κ (enumD items) ρ1 (g items) :=
    da_cons (fun X W Z x hK c z => PE_imp (h X W Z x hK c z) fun σ H Q ⟨F, r, q⟩ => ⟨F, r, fun d ρ' m' v H' F' k1 => q d ρ' m' v H' F' (da_nil ⟨d, rfl, k1⟩)⟩) hs
  refine ⟨fun pins s σ H Rr I ⟨F, r, q⟩ => ?_⟩
  refine PyProof.Rows.Call_ (ld_blt I (x.gl hg) (x.mg0 hm) PyProof.Rows.boot_enumerate (PyProof.Rows.callWith_type1 (thn ((ha X W Z x hK c z).run pos pins s σ H (fun vs H1 => ∃ F1 v d ρ1 m1, vs = [v] ∧ (∃ g, m1 = (iterL d).bind g ∧ ∀ items, κ (enumD items) ρ1 (g items)) ∧ Z m1 ∧ Rel W ρ1 σ H1 F1 ∧ Same F F1 ∧ Rp W.K F1 v d) I
    ⟨F, r, fun ds ρ' m' vs H' F' ⟨d, e1, k1⟩ k2 k3 k4 k5 => by
      subst e1
      obtain ⟨v, e2, rd⟩ := k5.one
      exact ⟨F', v, d, ρ', m', e2, k1, k2, k3, k4, rd⟩⟩) fun us s1 ⟨vs, H1, I1, r1, F1, v, d, ρ1, m1, e1, ⟨g, e2, hgg⟩, z1, rel1, ss, rd⟩ => ?_) (hs _) rfl))
  subst e1 e2
  obtain ⟨xs, ex, zx⟩ := c.bind z1
  obtain ⟨u, rfl, ru⟩ := Vals.one r1
  unfold iterL at ex
  split at ex
  · cases ex
    obtain ⟨a', ys, rfl, ha', rys⟩ := rd.toTup
    cases ru
    have aX : SqT X.K H1 a' ys := by rw [x.K, ← hK]; exact seqT rel1.sub ha'
    obtain ⟨its, rv, tup, _⟩ := I1.tuple aX
    refine call_enumT (begins_tuple a' its.toArray) tup fun h' he hit hk => wpAny_pyIter_enum he ?_
    have I2 : Inv X pins σ H1 { s1 with heap := h' } := I1.kept (t' := s1.toks) hk
    have lt : a' < s1.heap.objs.size := by obtain ⟨o, ho, _⟩ := tup; exact Heap.lt_size ho
    refine ⟨s1.heap.objs.size + 1, [s1.heap.objs.size + 1, s1.heap.objs.size], _, _, H1, rfl, I2, turn_enumT a' (s1.heap.objs.size + 1) s1.heap.objs.size, ⟨⟨.none, he⟩, ⟨_, hit, rfl, rfl⟩, Nat.succ_ne_self _, Nat.ne_of_lt lt, Nat.ne_of_gt (Nat.lt_succ_of_lt lt)⟩, fun b hb => ?_, ?_⟩
    · have e' : b = s1.heap.objs.size + 1 ∨ b = s1.heap.objs.size := by simpa using hb
      have hle : s1.heap.objs.size ≤ b := by
        rcases e' with z | z <;> subst z
        · exact Nat.le_add_right _ _
        · exact Nat.le_refl _
      exact I1.fpOk hle (I1.hok.fresh hle)
    · refine q _ ρ1 _ _ H1 F1 (hgg _) zx rel1 ss ?_
      rw [x.K, ← hK]; exact itd_enumT ha' rys
  · cases ex
    obtain ⟨a', ys, rfl, ha', rys⟩ := rd.toList
    cases ru
    have aX : SqL X.K H1 a' ys := SqL.of (rel1.sub _ _ ha')
    obtain ⟨its, rv, lst, _⟩ := I1.list aX
    refine call_enumerate_list lst.isList fun h' he hit hsz hk => wpAny_pyIter_enum he ?_
    have I2 : Inv X pins σ H1 { s1 with heap := h' } := I1.kept (t' := s1.toks) hk
    refine ⟨s1.heap.objs.size + 1, [s1.heap.objs.size + 1, s1.heap.objs.size], _, _, H1, rfl, I2, turn_enum a' (s1.heap.objs.size + 1) s1.heap.objs.size, ⟨⟨.none, he⟩, hit, Nat.succ_ne_self _⟩, fun b hb => ?_, ?_⟩
    · have e' : b = s1.heap.objs.size + 1 ∨ b = s1.heap.objs.size := by simpa using hb
      have hle : s1.heap.objs.size ≤ b := by
        rcases e' with z | z <;> subst z
        · exact Nat.le_add_right _ _
        · exact Nat.le_refl _
      exact I1.fpOk hle (I1.hok.fresh hle)
    · refine q _ ρ1 _ _ H1 F1 (hgg _) zx rel1 ss ?_
      rw [x.K, ← hK]; exact itd_enumL (SqL.of ha') rys
  · cases ex
end

/-! ### repr -/
theorem reprOk_facts {d : D} (h : reprOk d = true) : okD d = true ∧ d.showable = true ∧ d.hasDict = false ∧ d.shown.length ≤ sizeLine := by
  unfold reprOk at h
  simp only [Bool.and_eq_true, Bool.not_eq_true', decide_eq_true_eq] at h
  exact ⟨h.1.1.1, h.1.1.2, h.1.2, by rw [sizeLine_eq]; exact h.2⟩
theorem bl_repr : CallS (.builtin "repr") (fn1 reprD) := by
  intro X k hc hr gd pins s σ H vs us Q I rv ⟨F, ds, c, sub, ra0, e0, q⟩
  obtain ⟨a, rfl, e⟩ := fn1_ok e0
  obtain ⟨v, rfl, ra⟩ := ra0.one
  have main : ∀ {p : Addr}, v = .ref p → reprOk a = true → c = .str a.shown → wpAny (model X.prog X.w) X.A (call (.builtin "repr") us) (EP X pins σ Q) X.xe s := by
    intro p e1 ok ec
    subst e1 ec
    obtain ⟨h1, h2, h3, h4⟩ := reprOk_facts ok
    obtain ⟨u, rfl, ru⟩ := Vals.one rv
    cases ru
    obtain ⟨as, rd⟩ := ra.reads I sub rfl (okD_plain h1)
    refine repr_of_reads' rd h2 (PyData.noDict_hsm h3) gd ?_ (fun _ _ z => z) (fun h' u tk hk => ?_) h4
    · have := hr.units
      have := okD_depth h1
      omega
    · exact ⟨.str a.shown, H, I.kept (t' := tk) hk, ⟨_, rfl⟩, q _ H F (Fx.refl sub) (.str _)⟩
  unfold reprD at e
  split at e
  · split at e
    · rename_i ok; cases e
      obtain ⟨p, xs, e1, _⟩ := ra.toList
      exact main e1 ok rfl
    · cases e
  · split at e
    · rename_i ok; cases e
      obtain ⟨p, xs, e1, _⟩ := ra.toTup
      exact main e1 ok rfl
    · cases e
  · cases e
end Z

set_option Elab.async false
set_option linter.all false
set_option maxRecDepth 100000
set_option autoImplicit false
/-! # Z14: little helps for the printed derivations -/
namespace Z
open PySem L2

theorem Le.z : Le [] [] := trivial
theorem Le.s {a : Sl} {r r' : Env} (h : Le r r') : Le (some a :: r) (some a :: r') := ⟨rfl, h⟩
theorem Le.n {a : Option Sl} {r r' : Env} (h : Le r r') : Le (none :: r) (a :: r') := h
theorem Le.trans : ∀ {a b c : Env}, Le a b → Le b c → Le a c
  | [], [], [], _, _ => trivial
  | none :: r, _ :: r', _ :: r'', h, k => by
    have k' : Le r' r'' := by
      rename_i x y
      cases x with
      | none => exact k
      | some x => cases y with
        | none => exact k.elim
        | some y => exact k.2
    exact Le.trans (a := r) (b := r') (c := r'') h k'
  | some a :: r, some b :: r', some c :: r'', h, k => ⟨h.1.trans k.1, Le.trans (a := r) (b := r') (c := r'') h.2 k.2⟩
  | [], [], _ :: _, _, k => k.elim
  | [], _ :: _, _, h, _ => h.elim
  | none :: _, [], _, h, _ => h.elim
  | some _ :: _, [], _, h, _ => h.elim
  | some _ :: _, none :: _, _, h, _ => h.elim
  | none :: _, none :: _, [], _, k => k.elim
  | none :: _, some _ :: _, [], _, k => k.elim
  | some _ :: _, some _ :: _, [], _, k => k.elim
  | some _ :: _, some _ :: _, none :: _, _, k => k.elim

section
variable {α : Type} {C : Ct} {ρ : Env} {m : R α}
/-- the row of slots, written out -/
theorem ds_at {α : Type} {C : Ct} {ρ : Env} {m : R α} {J : Jd α} {sts : List Stmt} (ρ' : Env) (h : DSs C ρ' sts m J) (e : ρ = ρ' := by rfl) : DSs C ρ sts m J := e ▸ h
/-- the end of a comprehension's turn behind its if -/
theorem lsplitP {β : Type} {C : Ct} {ρ : Env} {elt : Expr} {κ : D → Env → R (Option β) → Prop} {t : Bool} {m1 A B : R (Option β)} (h : m1 = (if t = true then A else B)) (hA : DE C ρ elt A κ) (hB : B = .ok none) : (t = true → DE C ρ elt m1 κ) ∧ (t = false → m1 = .ok none) := by
  subst h hB
  cases t with
  | true => exact ⟨(fun _ => hA), (fun e => nomatch e)⟩
  | false => exact ⟨(fun e => nomatch e), (fun _ => rfl)⟩
theorem lsplitT {τ : Type} {C : Ct} {ρ : Env} {vs : List Nat} {pack : τ → Env} {elt : Expr} {κ : D → Env → R (Option D × τ) → Prop} {t : Bool} {m1 A B : R (Option D × τ)} (st : τ) (h : m1 = (if t = true then A else B)) (hA : DE C ρ elt A κ) (hl : Le (pack st) (wipeE ρ vs)) (hB : B = .ok (none, st)) :
    (t = true → DE C ρ elt m1 κ) ∧ (t = false → ∃ st', Le (pack st') (wipeE ρ vs) ∧ m1 = .ok (none, st')) := by
  subst h hB
  cases t with
  | true => exact ⟨(fun _ => hA), (fun e => nomatch e)⟩
  | false => exact ⟨(fun e => nomatch e), (fun _ => ⟨st, hl, rfl⟩)⟩
/-- not e, as a value -/
theorem de_not {κ : D → Env → R α → Prop} {e : Expr} {pos : Pos} (h : DE C ρ e m fun d ρ1 m1 => ∃ t, d = .bool t ∧ κ (.bool !t) ρ1 m1) : DE C ρ (.UnaryOp .Not e pos) m κ := by
  intro X W Z x hK c z
  refine PE_imp (pe_not (h X W Z x hK c z)) fun σ H Q ⟨F, r, q⟩ => ⟨F, r, fun d ρ' m' v H' F' ⟨t, e1, k1⟩ k2 k3 k4 k5 => ?_⟩
  subst e1
  exact ⟨t, k5.toBool, q _ ρ' m' _ H' F' k1 k2 k3 k4 (.bl _)⟩
/-- a, b, c = e1, e2, e3, all plain locals -/
theorem ds_par3 {J : Jd α} {n1 n2 n3 : Str} {e1 e2 e3 : Expr} {px py pz pt pt2 pos : Pos} {kt k2 : Nat} {rest : List Stmt} (i j l : Nat)
    (h : DE C ρ e1 m fun d1 ρ1 m1 => DE C ρ1 e2 m1 fun d2 ρ2 m2 => DE C ρ2 e3 m2 fun d3 ρ3 m3 => DSs C (((ρ3.set i (some (.val d1))).set j (some (.val d2))).set l (some (.val d3))) rest m3 J) (hN : C.N[i]? = some n1 := by rfl) (hN2 : C.N[j]? = some n2 := by rfl) (hN3 : C.N[l]? = some n3 := by rfl) (hij : i ≠ j := by decide) (hil : i ≠ l := by decide) (hjl : j ≠ l := by decide)
    (hx : C.sc.names.lookup n1 = some .local := by rfl) (hy : C.sc.names.lookup n2 = some .local := by rfl) (hz : C.sc.names.lookup n3 = some .local := by rfl)
    (hst : ∀ env : PySem.Env, starEach [e1, e2, e3] env = (false, eval e1 env) :: starEach [e2, e3] env := by intro _; rfl) (hst2 : ∀ env : PySem.Env, starEach [e2, e3] env = (false, eval e2 env) :: starEach [e3] env := by intro _; rfl) (hst3 : ∀ env : PySem.Env, starEach [e3] env = (false, eval e3 env) :: starEach [] env := by intro _; rfl)
    (hw : ∀ env : PySem.Env, env.scope = C.sc → swappedStores [.Tuple [.Name n1 px, .Name n2 py, .Name n3 pz] kt pt] (.Tuple [e1, e2, e3] k2 pt2) env = pure (some [n1, n2, n3]) := by intro env he; cases env; cases he; rfl)
    (hsw : ∀ env : PySem.Env, env.scope = C.sc → swapsWithSole [.Tuple [.Name n1 px, .Name n2 py, .Name n3 pz] kt pt] (.Tuple [e1, e2, e3] k2 pt2) pos.line env = pure false := by intro env he; rfl) : DSs C ρ (.Assign [.Tuple [.Name n1 px, .Name n2 py, .Name n3 pz] kt pt] (.Tuple [e1, e2, e3] k2 pt2) pos :: rest) m J := by
  intro X W Z x hK c z
  have ha : DA C ρ [e1, e2, e3] m fun ds ρ3 m3 => ∃ d1 d2 d3, ds = [d1, d2, d3] ∧ DSs C (((ρ3.set i (some (.val d1))).set j (some (.val d2))).set l (some (.val d3))) rest m3 J := by
    refine da_cons (fun X W Z x hK c z => PE_imp (h X W Z x hK c z) fun σ H Q ⟨F, r, q⟩ => ⟨F, r, fun d ρ' m' v H' F' k1 => q d ρ' m' v H' F' (da_cons (fun X W Z x hK c z => PE_imp (k1 X W Z x hK c z) fun σ H Q ⟨F, r, q⟩ => ⟨F, r, fun d' ρ2 m2 v H' F' k2 => q d' ρ2 m2 v H' F' (da_cons (fun X W Z x hK c z => PE_imp (k2 X W Z x hK c z) fun σ H Q ⟨F, r, q⟩ => ⟨F, r, fun d'' ρ3 m3 v H' F' k3 => q d'' ρ3 m3 v H' F' (da_nil ⟨d, d', d'', rfl, k3⟩)⟩) hst3)⟩) hst2)⟩) hst
  refine PSs_imp (pss_cons (L2.ps_par3 (i := i) (j := j) (l := l) x.calm (by rw [x.N]; exact x.nd) (by rw [x.N]; exact hN) (by rw [x.N]; exact hN2) (by rw [x.N]; exact hN3) hij hil hjl (by rw [x.sc]; exact hx) (by rw [x.sc]; exact hy) (by rw [x.sc]; exact hz) (ha X W Z x hK c z) (hw _ x.sc) (hsw _ x.sc)) (rest_run (J := J) x hK c)) fun D σ H ⟨F, r, l'⟩ => ?_
  refine ⟨F, r, fun ds ρ' m' vs H' F' ⟨d1, d2, d3, e, h1⟩ h2 h3 h4 h5 => ?_⟩
  subst e
  cases h5 with
  | cons p1 t => cases t with
    | cons p2 t => cases t with
      | cons p3 t => cases t; exact ⟨_, _, _, rfl, (m', _), ⟨h1, h2⟩, F', ((h3.set i p1).set j p2).set l p3, l'⟩
end
/-- a def of the law's text, at hand for calls -/
def HasP (P : Program) (w : World) (K : PySem.W.Frag) (mg : Str → Option Value) (base : Heap) (k : Nat) (n : Str) (ar : Nat) (fm : List D → R D) : Prop := ∀ N sc fn, FnP ⟨P, w, K, mg, base, k, N, sc, fn⟩ n ar fm
def HasS (P : Program) (w : World) (K : PySem.W.Frag) (mg : Str → Option Value) (base : Heap) (k : Nat) (n : Str) (ar : Nat) (fm : Src → List D → R (D × Src)) : Prop := ∀ N sc fn, FnS ⟨P, w, K, mg, base, k, N, sc, fn⟩ n ar fm
def HasQ (P : Program) (w : World) (K : PySem.W.Frag) (mg : Str → Option Value) (base : Heap) (k : Nat) (n : Str) (fm : List Int → R Src) : Prop := ∀ N sc fn, FnQ ⟨P, w, K, mg, base, k, N, sc, fn⟩ n fm
/-- a def as it stands behind the top -/
def At (K : PySem.W.Frag) (mg : Str → Option Value) (n : Str) (st : Stmt) (ps : List Str) : Prop := ∃ f fd, Fun K n n st f fd ∧ mg n = some (.ref f) ∧ Binds K fd ps []
theorem At.mk {K : PySem.W.Frag} {h : Heap} {mg : Str → Option Value} {n : Str} {st : Stmt} {ps : List Str} (X : K.In h) (G : h.Ns mainGlobals mg) {f : Addr} {od an : Option Addr} {sl : Array (Option Value)} {oc kV dc pm cd ct : Value}
    (a : PySem.W.nsIn K mainGlobals n = some (some (.ref f))) (l : K.lookup f = some ⟨oc, od, .func (PySem.W.fnOf n n (defArgs st) (defBody st) (defScope st) .none kV dc pm an cd ct), sl⟩) (c : PySem.W.codeIn K cd n = true) (k : PySem.W.keepIn K (.ref f) = true)
    (b : ∀ (kV doc pm : Value) (an : Option Addr) (cdv ct : Value) (us : List Value), us.length = ps.length → bindArgs (PySem.W.fnOf n n (defArgs st) (defBody st) (defScope st) .none kV doc pm an cdv ct) ⟨us, []⟩ = pure (ps.zip us)) : At K mg n st ps :=
  have F := fun_mk (st := st) l c k
  ⟨f, _, F, PySem.W.mg_of X G a, F.binds b⟩
theorem At.p {P : Program} {w : World} {K : PySem.W.Frag} {mg : Str → Option Value} {base : Heap} {n : Str} {st : Stmt} {ps N : List Str} {fm : List D → R D} {lv ar : Nat} (A : At K mg n st ps) (S : FnScope N ps (defScope st)) (hn : ps.length = ar)
    (h : ∀ ds : List D, ds.length = ar → DSs ⟨P, w, K, mg, base, lv, N, defScope st, fun _ => true⟩ (startE N (ds.map .val)) (defBody st) (fm ds) Jf) (k : Nat) (hk : lv + 1 ≤ k) : HasP P w K mg base k n ar fm := fun _ _ _ =>
  let ⟨f, fd, F, hm, b⟩ := A
  ⟨⟨f, fd, ps, lv + 1, hk, fnP_of F S hn h, hm, F.kp, b⟩⟩
theorem At.s {P : Program} {w : World} {K : PySem.W.Frag} {mg : Str → Option Value} {base : Heap} {n : Str} {st : Stmt} {ps N : List Str} {fm : Src → List D → R (D × Src)} {lv ar : Nat} (A : At K mg n st ps) (S : FnScope N ps (defScope st)) (hn : ps.length = ar + 1)
    (h : ∀ (a : Addr) (s : Src) (ds : List D), ds.length = ar → DSs ⟨P, w, K, mg, base, lv, N, defScope st, fun _ => true⟩ (startE N (.src a s :: ds.map .val)) (defBody st) (fm s ds) (JfS a)) (k : Nat) (hk : lv + 1 ≤ k) : HasS P w K mg base k n ar fm := fun _ _ _ =>
  let ⟨f, fd, F, hm, b⟩ := A
  ⟨⟨f, fd, ps, lv + 1, hk, fnS_of F S hn h, hm, F.kp, b⟩⟩
theorem At.q {P : Program} {w : World} {K : PySem.W.Frag} {mg : Str → Option Value} {base : Heap} {n : Str} {st : Stmt} {ps N : List Str} {fm : List Int → R Src} {lv : Nat} (A : At K mg n st ps) (S : FnScope N ps (defScope st)) (hn : ps.length = 1)
    (h : ∀ ns : List Int, DSs ⟨P, w, K, mg, base, lv, N, defScope st, fun _ => true⟩ (startE N [.scr ns]) (defBody st) (fm ns) JfQ) (k : Nat) (hk : lv + 1 ≤ k) : HasQ P w K mg base k n fm := fun _ _ _ =>
  let ⟨f, fd, F, hm, b⟩ := A
  ⟨⟨f, fd, ps, lv + 1, hk, fnQ_of F S hn h, hm, F.kp, b⟩⟩
/-- a source's def, its arguments behind the source -/
def sn0 (f : Src → R (D × Src)) : Src → List D → R (D × Src)
  | s, [] => f s
  | _, _ => .stuck
def sn1 (f : Src → D → R (D × Src)) : Src → List D → R (D × Src)
  | s, [a] => f s a
  | _, _ => .stuck
def sn2 (f : Src → D → D → R (D × Src)) : Src → List D → R (D × Src)
  | s, [a, b] => f s a b
  | _, _ => .stuck
def sn3 (f : Src → D → D → D → R (D × Src)) : Src → List D → R (D × Src)
  | s, [a, b, c] => f s a b c
  | _, _ => .stuck
def sn4 (f : Src → D → D → D → D → R (D × Src)) : Src → List D → R (D × Src)
  | s, [a, b, c, d] => f s a b c d
  | _, _ => .stuck
def fn5 (f : D → D → D → D → D → R D) : List D → R D
  | [a, b, c, d, e] => f a b c d e
  | _ => .stuck
def fn6 (f : D → D → D → D → D → D → R D) : List D → R D
  | [a, b, c, d, e, g] => f a b c d e g
  | _ => .stuck
theorem fn1_eq (f : D → R D) (a : D) : fn1 f [a] = f a := rfl
theorem fn2_eq (f : D → D → R D) (a b : D) : fn2 f [a, b] = f a b := rfl
theorem fn3_eq (f : D → D → D → R D) (a b c : D) : fn3 f [a, b, c] = f a b c := rfl
theorem fn4_eq (f : D → D → D → D → R D) (a b c d : D) : fn4 f [a, b, c, d] = f a b c d := rfl
theorem fn5_eq (f : D → D → D → D → D → R D) (a b c d e : D) : fn5 f [a, b, c, d, e] = f a b c d e := rfl
theorem fn6_eq (f : D → D → D → D → D → D → R D) (a b c d e g : D) : fn6 f [a, b, c, d, e, g] = f a b c d e g := rfl
theorem sn0_eq (f : Src → R (D × Src)) (s : Src)  : sn0 f s [] = f s  := rfl
theorem sn1_eq (f : Src → D → R (D × Src)) (s : Src) (a : D) : sn1 f s [a] = f s a := rfl
theorem sn2_eq (f : Src → D → D → R (D × Src)) (s : Src) (a b : D) : sn2 f s [a, b] = f s a b := rfl
theorem sn3_eq (f : Src → D → D → D → R (D × Src)) (s : Src) (a b c : D) : sn3 f s [a, b, c] = f s a b c := rfl
theorem sn4_eq (f : Src → D → D → D → D → R (D × Src)) (s : Src) (a b c d : D) : sn4 f s [a, b, c, d] = f s a b c d := rfl
end Z

set_option Elab.async false
set_option linter.all false
set_option maxRecDepth 100000
set_option autoImplicit false
/-! # Z15: several targets, lists of their own among the values -/
namespace Z
open PySem L2

/-- what was made ahead gets its slot later -/
theorem Rel.later {W : Wd} {ρ ρ1 : Env} {σ σ1 : L2.St} {H F H1 F1 : Hp} {io : List Addr} {p : Addr} {vs : List V} {ds : List D} (r : Rel ⟨W.K, F1, upd H1 p (.lst vs), io⟩ ρ σ H F) (r1 : Rel W ρ1 σ1 H1 F1) (hio : ∀ b ∈ io, b ∈ W.io ∨ W.H0 b = none) (hn : p ∉ io) (hp : H1 p = none)
    (rd : RpAll W.K F1 vs ds) (i : Nat) : Rel W (ρ.set i (some (.own ds))) (σ.set i (some (.ref p))) H F := by
  have h0 : upd H1 p (.lst vs) p = some (.lst vs) := upd_same
  have hF : F p = none := r.free0 h0 hn (r1.sub.free hp)
  have hH : H p = some (.lst vs) := r.keep p _ h0 hn
  have no : ∀ b, upd H1 p (.lst vs) b = none → W.H0 b = none := fun b q => by
    by_cases hb : b = p
    · subst hb; rw [upd_same] at q; cases q
    · rw [upd_ne hb] at q; exact r1.base q
  have up : ∀ b o, H1 b = some o → upd H1 p (.lst vs) b = some o := fun b o h => by rw [upd_ne (ne_of_none h hp)]; exact h
  refine ⟨r.sub, r1.sub0.trans r.sub0, fun b o h n => ?_, fun b o h => ?_, ?_, by rw [List.length_set, List.length_set]; exact r.len, fun b o h => ?_⟩
  · refine r.keep b o (up b o (r1.keep b o h n)) fun hb => ?_
    rcases hio b hb with q | q
    · exact n q
    · rw [h] at q; cases q
  · rcases r.fresh b o h with q | q | q
    · exact r1.fresh b o q
    · exact .inr (.inl (no b q))
    · exact .inr ((hio b q).elim .inr .inl)
  · obtain ⟨ad, k⟩ := r.env
    have nad : ∀ j sl, ρ[j]? = some (some sl) → p ∉ ad j := fun j sl e hb => by
      obtain ⟨v, _, _, h3, _⟩ := k j sl e
      rcases h3 p hb with z | z
      · exact hn z
      · replace z : upd H1 p (.lst vs) p = none := z
        rw [upd_same] at z; cases z
    refine ⟨fun j => if j = i then [p] else ad j, fun j sl e => ?_⟩
    rcases get_set e with ⟨e1, e2, e3⟩ | ⟨e1, e2⟩
    · subst e1; cases e3
      refine ⟨.ref p, by rw [List.getElem?_set_self (Nat.lt_of_lt_of_le e2 r.len)], ⟨p, vs, rfl, by simp, hH, hF, rd.mono r.sub0⟩, by simp [r1.base hp], fun l sl' hl e' b hb => ?_⟩
      have hb' : b = p := by simpa using hb
      subst hb'
      have ne : l ≠ i := fun q => hl q.symm
      simp only [if_neg ne]
      rcases get_set e' with ⟨z1, _, _⟩ | ⟨z1, z2⟩
      · exact absurd z1 hl
      · exact nad l sl' z2
    · have ne : j ≠ i := fun q => e1 q.symm
      simp only [if_neg ne]
      obtain ⟨v', k1, k2, k3, k4⟩ := k j sl e2
      refine ⟨v', by rw [List.getElem?_set_ne e1]; exact k1, k2, fun b hb => (k3 b hb).elim (hio b) fun q => .inr (no b q), fun l sl'' hl e' b hb => ?_⟩
      rcases get_set e' with ⟨z1, z2, z3⟩ | ⟨z1, z2⟩
      · subst z1; cases z3
        simp only [if_true]
        intro hbl
        have hb' : b = p := by simpa using hbl
        subst hb'
        exact nad j sl e2 hb
      · have ne' : l ≠ i := fun q => z1 q.symm
        simp only [if_neg ne']
        exact k4 l sl'' hl z2 b hb
  · obtain ⟨o1, h1⟩ := r1.trk b o h
    exact r.trk b o1 (up b o1 h1)

def setAll (σ : L2.St) : List Nat → List V → L2.St
  | i :: is, v :: vs => setAll (σ.set i (some v)) is vs
  | _, _ => σ
theorem setAll_set {i : Nat} {x : Option V} : ∀ {is : List Nat} {vs : List V} {σ : L2.St}, i ∉ is → (setAll σ is vs).set i x = setAll (σ.set i x) is vs
  | [], _, _, _ => rfl
  | _ :: _, [], _, _ => rfl
  | j :: is, v :: vs, σ, h => by
    have hj : i ≠ j := fun e => h (by simp [e])
    unfold setAll
    rw [setAll_set (fun q => h (by simp [q]))]
    exact congrArg (fun τ => setAll τ is vs) (List.set_comm _ _ (fun e => hj e.symm))

section
variable {α : Type} {C : Ct} {ρ : Env} {m : R α}
/-- values for the slots is, one by one, stored at the end -/
def DPs {α : Type} (C : Ct) (ρ : Env) (es : List Expr) (is : List Nat) (m : R α) (κ : Env → R α → Prop) : Prop :=
  ∀ (X : Cx) (W : Wd) (Z : R α → Prop), XOk C X → W.K = C.K → Cl Z → Z m →
    PA X es fun σ H Q => ∃ F, Rel W ρ σ H F ∧ ∀ vs ρ' m' H' F', κ ρ' m' → Z m' → vs.length = is.length → Rel W ρ' (setAll σ is vs) H' F' → Same F F' → Q vs H'
theorem dps_nil {κ : Env → R α → Prop} (k : κ ρ m) : DPs C ρ [] [] m κ := fun X W Z x hK c z =>
  PA_imp pa_nil fun σ H Q ⟨F, r, q⟩ => q [] ρ m H F k z rfl r (Same.refl _)
theorem dps_val {κ : Env → R α → Prop} {e : Expr} {es : List Expr} {is : List Nat} (i : Nat) (h : DE C ρ e m fun d ρ1 m1 => DPs C ρ1 es is m1 fun ρ2 m2 => κ (ρ2.set i (some (.val d))) m2) (hi : i ∉ is := by decide)
    (hs : ∀ env : PySem.Env, starEach (e :: es) env = (false, eval e env) :: starEach es env := by intro _; rfl) : DPs C ρ (e :: es) (i :: is) m κ := by
  intro X W Z x hK c z
  have rest : PA X es fun σ H Q => ∃ j : R α × Env × D, (DPs C j.2.1 es is j.1 (fun ρ2 m2 => κ (ρ2.set i (some (.val j.2.2))) m2) ∧ Z j.1) ∧ ∃ F, Rel W j.2.1 σ H F ∧ ∀ vs ρ' m' H' F', κ (ρ'.set i (some (.val j.2.2))) m' → Z m' → vs.length = is.length → Rel W ρ' (setAll σ is vs) H' F' → Same F F' → Q vs H' :=
    ⟨fun po p s σ H Q I ⟨j, pj, q⟩ => (pj.1 X W Z x hK c pj.2).run po p s σ H Q I q⟩
  refine PA_imp (pa_cons (h X W Z x hK c z) rest (hs _)) fun σ H Q ⟨F, r, q⟩ => ⟨F, r, fun d ρ1 m1 v H1 F1 h1 h2 h3 h4 h5 => ?_⟩
  refine ⟨(m1, ρ1, d), ⟨h1, h2⟩, F1, h3, fun vs ρ2 m2 H2 F2 k1 k2 k3 k4 k5 => q (v :: vs) _ m2 H2 F2 k1 k2 (by simp [k3]) ?_ (h4.trans k5)⟩
  show Rel W _ (setAll (σ.set i (some v)) is vs) H2 F2
  rw [← setAll_set hi]
  exact k4.set i (h5.mono k5)
theorem dps_own {κ : Env → R α → Prop} {e : Expr} {es : List Expr} {is : List Nat} (i : Nat) (h : DN C ρ e m fun ds ρ1 m1 => DPs C ρ1 es is m1 fun ρ2 m2 => κ (ρ2.set i (some (.own ds))) m2) (hi : i ∉ is := by decide)
    (hs : ∀ env : PySem.Env, starEach (e :: es) env = (false, eval e env) :: starEach es env := by intro _; rfl) : DPs C ρ (e :: es) (i :: is) m κ := by
  intro X W Z x hK c z
  have rest : PA X es fun σ H Q => ∃ (W' : Wd) (j : R α × Env × List D), W'.K = C.K ∧ (DPs C j.2.1 es is j.1 (fun ρ2 m2 => κ (ρ2.set i (some (.own j.2.2))) m2) ∧ Z j.1) ∧ ∃ F, Rel W' j.2.1 σ H F ∧ ∀ vs ρ' m' H' F', κ (ρ'.set i (some (.own j.2.2))) m' → Z m' → vs.length = is.length → Rel W' ρ' (setAll σ is vs) H' F' → Same F F' → Q vs H' :=
    ⟨fun po p s σ H Q I ⟨W', j, hK', pj, q⟩ => (pj.1 X W' Z x hK' c pj.2).run po p s σ H Q I q⟩
  refine PA_imp (pa_cons (h X W Z x hK c z) rest (hs _)) fun σ H Q ⟨F, r, q⟩ => ⟨F, r, fun ds ρ1 m1 vs0 p H1 F1 h1 h2 h3 h4 hp h5 => ?_⟩
  obtain ⟨io, rt, hio, hth⟩ := h3.turn
  have hnio : p ∉ io := fun hb => by obtain ⟨o, e⟩ := hth p hb; rw [hp] at e; cases e
  refine ⟨⟨W.K, F1, upd H1 p (.lst vs0), io⟩, (m1, ρ1, ds), hK, ⟨h1, h2⟩, F1, rt.newAt hp hp _, fun vs ρ2 m2 H2 F2 k1 k2 k3 k4 k5 => q (.ref p :: vs) _ m2 H2 F2 k1 k2 (by simp [k3]) ?_ (h4.trans k5)⟩
  show Rel W _ (setAll (σ.set i (some (.ref p))) is vs) H2 F2
  rw [← setAll_set hi]
  exact k4.later h3 hio hnio hp h5 i
theorem len2 {vs : List V} (h : vs.length = 2) : ∃ u v, vs = [u, v] := by match vs, h with | [u, v], _ => exact ⟨u, v, rfl⟩
theorem len3 {vs : List V} (h : vs.length = 3) : ∃ u v w, vs = [u, v, w] := by match vs, h with | [u, v, w], _ => exact ⟨u, v, w, rfl⟩
/-- a, b = e1, e2, both plain locals -/
theorem ds_parN {J : Jd α} {n1 n2 : Str} {e1 e2 : Expr} {px py pt pt2 pos : Pos} {kt k2 : Nat} {rest : List Stmt} (i j : Nat) (h : DPs C ρ [e1, e2] [i, j] m fun ρ' m' => DSs C ρ' rest m' J)
    (hN : C.N[i]? = some n1 := by rfl) (hN2 : C.N[j]? = some n2 := by rfl) (hij : i ≠ j := by decide) (hx : C.sc.names.lookup n1 = some .local := by rfl) (hy : C.sc.names.lookup n2 = some .local := by rfl)
    (hw : ∀ env : PySem.Env, env.scope = C.sc → swappedStores [.Tuple [.Name n1 px, .Name n2 py] kt pt] (.Tuple [e1, e2] k2 pt2) env = pure (some [n1, n2]) := by intro env he; cases env; cases he; rfl) : DSs C ρ (.Assign [.Tuple [.Name n1 px, .Name n2 py] kt pt] (.Tuple [e1, e2] k2 pt2) pos :: rest) m J := by
  intro X W Z x hK c z
  refine PSs_imp (pss_cons (ps_par (i := i) (j := j) x.calm (by rw [x.N]; exact x.nd) (by rw [x.N]; exact hN) (by rw [x.N]; exact hN2) hij (by rw [x.sc]; exact hx) (by rw [x.sc]; exact hy) (h X W Z x hK c z) (hw _ x.sc)) (rest_run (J := J) x hK c)) fun Dn σ H ⟨F, r, l⟩ => ?_
  refine ⟨F, r, fun vs ρ' m' H' F' k1 k2 k3 k4 k5 => ?_⟩
  obtain ⟨u, v, rfl⟩ := len2 k3
  exact ⟨u, v, rfl, (m', ρ'), ⟨k1, k2⟩, F', k4, l⟩
theorem ds_parN3 {J : Jd α} {n1 n2 n3 : Str} {e1 e2 e3 : Expr} {px py pz pt pt2 pos : Pos} {kt k2 : Nat} {rest : List Stmt} (i j l : Nat) (h : DPs C ρ [e1, e2, e3] [i, j, l] m fun ρ' m' => DSs C ρ' rest m' J)
    (hN : C.N[i]? = some n1 := by rfl) (hN2 : C.N[j]? = some n2 := by rfl) (hN3 : C.N[l]? = some n3 := by rfl) (hij : i ≠ j := by decide) (hil : i ≠ l := by decide) (hjl : j ≠ l := by decide)
    (hx : C.sc.names.lookup n1 = some .local := by rfl) (hy : C.sc.names.lookup n2 = some .local := by rfl) (hz : C.sc.names.lookup n3 = some .local := by rfl)
    (hw : ∀ env : PySem.Env, env.scope = C.sc → swappedStores [.Tuple [.Name n1 px, .Name n2 py, .Name n3 pz] kt pt] (.Tuple [e1, e2, e3] k2 pt2) env = pure (some [n1, n2, n3]) := by intro env he; cases env; cases he; rfl)
    (hsw : ∀ env : PySem.Env, env.scope = C.sc → swapsWithSole [.Tuple [.Name n1 px, .Name n2 py, .Name n3 pz] kt pt] (.Tuple [e1, e2, e3] k2 pt2) pos.line env = pure false := by intro env he; rfl) : DSs C ρ (.Assign [.Tuple [.Name n1 px, .Name n2 py, .Name n3 pz] kt pt] (.Tuple [e1, e2, e3] k2 pt2) pos :: rest) m J := by
  intro X W Z x hK c z
  refine PSs_imp (pss_cons (L2.ps_par3 (i := i) (j := j) (l := l) x.calm (by rw [x.N]; exact x.nd) (by rw [x.N]; exact hN) (by rw [x.N]; exact hN2) (by rw [x.N]; exact hN3) hij hil hjl (by rw [x.sc]; exact hx) (by rw [x.sc]; exact hy) (by rw [x.sc]; exact hz) (h X W Z x hK c z) (hw _ x.sc) (hsw _ x.sc)) (rest_run (J := J) x hK c)) fun Dn σ H ⟨F, r, l'⟩ => ?_
  refine ⟨F, r, fun vs ρ' m' H' F' k1 k2 k3 k4 k5 => ?_⟩
  obtain ⟨u, v, w, rfl⟩ := len3 k3
  exact ⟨u, v, w, rfl, (m', ρ'), ⟨k1, k2⟩, F', k4, l'⟩
/-- a tuple's parts to names, some of them no plain locals -/
theorem ds_asgN2 {J : Jd α} {n1 n2 : Str} {e1 e2 : Expr} {px py pt pt2 pos : Pos} {kt k2 : Nat} {rest : List Stmt} (i j : Nat) (h : DPs C ρ [e1, e2] [i, j] m fun ρ' m' => DSs C ρ' rest m' J)
    (hNi : C.N[i]? = some n1 := by rfl) (hNj : C.N[j]? = some n2 := by rfl) (hxi : Loc C.sc n1 := by first | exact Or.inl rfl | exact Or.inr rfl) (hfi : C.fn n1 = true ∨ C.sc.names.lookup n1 = some .local := by first | exact Or.inl rfl | exact Or.inr rfl) (hxj : Loc C.sc n2 := by first | exact Or.inl rfl | exact Or.inr rfl) (hfj : C.fn n2 = true ∨ C.sc.names.lookup n2 = some .local := by first | exact Or.inl rfl | exact Or.inr rfl)
    (as0 : ∀ env : PySem.Env, (assignEach [.Name n1 px, .Name n2 py] env).map (·.2) = assign (.Name n1 px) env :: (assignEach [.Name n2 py] env).map (·.2) := by intro _; rfl) (as1 : ∀ env : PySem.Env, (assignEach [.Name n2 py] env).map (·.2) = assign (.Name n2 py) env :: (assignEach [] env).map (·.2) := by intro _; rfl)
    (hn : ∀ env : PySem.Env, (assignEach [.Name n1 px, .Name n2 py] env).length = 2 := by intro _; rfl) (hst : ∀ env : PySem.Env, (assignEach [.Name n1 px, .Name n2 py] env).findIdx? (·.1) = none := by intro _; rfl)
    (hw : ∀ env : PySem.Env, env.scope = C.sc → swappedStores [.Tuple [.Name n1 px, .Name n2 py] kt pt] (.Tuple [e1, e2] k2 pt2) env = pure none := by intro env he; cases env; cases he; rfl)
    (hsw : ∀ env : PySem.Env, env.scope = C.sc → swapsWithSole [.Tuple [.Name n1 px, .Name n2 py] kt pt] (.Tuple [e1, e2] k2 pt2) pos.line env = pure false := by intro env he; rfl) (h1 : ∀ env : PySem.Env, (assignEach [.Tuple [.Name n1 px, .Name n2 py] kt pt] env).map (·.2) = [assign (.Tuple [.Name n1 px, .Name n2 py] kt pt) env] := by intro _; rfl) :
    DSs C ρ (.Assign [.Tuple [.Name n1 px, .Name n2 py] kt pt] (.Tuple [e1, e2] k2 pt2) pos :: rest) m J := by
  intro X W Z x hK c z
  have hfni : X.fn n1 = true ∨ X.env.scope.names.lookup n1 = some .local := hfi.elim (fun h => .inl (x.fnl n1 h)) fun h => .inr (by rw [x.sc]; exact h)
  have hfnj : X.fn n2 = true ∨ X.env.scope.names.lookup n2 = some .local := hfj.elim (fun h => .inl (x.fnl n2 h)) fun h => .inr (by rw [x.sc]; exact h)
  refine PSs_imp (pss_cons (ps_asg (pe_tup (h X W Z x hK c z)) (pg_tup (n := 2) x.calm (pgs_cons (pg_name (i := i) (by rw [x.N]; exact x.nd) (by rw [x.N]; exact hNi) (by rw [x.sc]; exact hxi) hfni) (pgs_cons (pg_name (i := j) (by rw [x.N]; exact x.nd) (by rw [x.N]; exact hNj) (by rw [x.sc]; exact hxj) hfnj) pgs_nil (as1 _)) (as0 _)) (hn _) (hst _)) (hsw _ x.sc) (hw _ x.sc) (h1 _)) (rest_run (J := J) x hK c)) fun Dn σ H ⟨F, r, l⟩ => ?_
  refine ⟨F, r, fun vs ρ' m' H' F' k1 k2 k3 k4 k5 => ⟨by rw [k3, sizeLine_eq]; show (2 : Nat) ≤ 16777216; decide, fun p hp => ?_⟩⟩
  obtain ⟨u, v, rfl⟩ := len2 k3
  have k6 := k4.step (F' := F') (H' := upd H' p (.tup [u, v])) ⟨Same.refl _, fun b o q => by rw [upd_ne (ne_of_none (k4.sub b o q) hp)]; exact k4.sub b o q, fun b o q => by rw [upd_ne (ne_of_none q hp)]; exact q, fun _ _ q => .inl q⟩
  exact ⟨p, _, rfl, .inl (.inl upd_same), rfl, ⟨_, _, rfl, ⟨_, _, rfl, ⟨rfl, (m', ρ'), ⟨k1, k2⟩, F', k6, l⟩⟩⟩⟩
/-- a tuple's parts to names, some of them no plain locals -/
theorem ds_asgN3 {J : Jd α} {n1 n2 n3 : Str} {e1 e2 e3 : Expr} {px py pz pt pt2 pos : Pos} {kt k2 : Nat} {rest : List Stmt} (i j l : Nat) (h : DPs C ρ [e1, e2, e3] [i, j, l] m fun ρ' m' => DSs C ρ' rest m' J)
    (hNi : C.N[i]? = some n1 := by rfl) (hNj : C.N[j]? = some n2 := by rfl) (hNl : C.N[l]? = some n3 := by rfl) (hxi : Loc C.sc n1 := by first | exact Or.inl rfl | exact Or.inr rfl) (hfi : C.fn n1 = true ∨ C.sc.names.lookup n1 = some .local := by first | exact Or.inl rfl | exact Or.inr rfl) (hxj : Loc C.sc n2 := by first | exact Or.inl rfl | exact Or.inr rfl) (hfj : C.fn n2 = true ∨ C.sc.names.lookup n2 = some .local := by first | exact Or.inl rfl | exact Or.inr rfl) (hxl : Loc C.sc n3 := by first | exact Or.inl rfl | exact Or.inr rfl) (hfl : C.fn n3 = true ∨ C.sc.names.lookup n3 = some .local := by first | exact Or.inl rfl | exact Or.inr rfl)
    (as0 : ∀ env : PySem.Env, (assignEach [.Name n1 px, .Name n2 py, .Name n3 pz] env).map (·.2) = assign (.Name n1 px) env :: (assignEach [.Name n2 py, .Name n3 pz] env).map (·.2) := by intro _; rfl) (as1 : ∀ env : PySem.Env, (assignEach [.Name n2 py, .Name n3 pz] env).map (·.2) = assign (.Name n2 py) env :: (assignEach [.Name n3 pz] env).map (·.2) := by intro _; rfl) (as2 : ∀ env : PySem.Env, (assignEach [.Name n3 pz] env).map (·.2) = assign (.Name n3 pz) env :: (assignEach [] env).map (·.2) := by intro _; rfl)
    (hn : ∀ env : PySem.Env, (assignEach [.Name n1 px, .Name n2 py, .Name n3 pz] env).length = 3 := by intro _; rfl) (hst : ∀ env : PySem.Env, (assignEach [.Name n1 px, .Name n2 py, .Name n3 pz] env).findIdx? (·.1) = none := by intro _; rfl)
    (hw : ∀ env : PySem.Env, env.scope = C.sc → swappedStores [.Tuple [.Name n1 px, .Name n2 py, .Name n3 pz] kt pt] (.Tuple [e1, e2, e3] k2 pt2) env = pure none := by intro env he; cases env; cases he; rfl)
    (hsw : ∀ env : PySem.Env, env.scope = C.sc → swapsWithSole [.Tuple [.Name n1 px, .Name n2 py, .Name n3 pz] kt pt] (.Tuple [e1, e2, e3] k2 pt2) pos.line env = pure false := by intro env he; rfl) (h1 : ∀ env : PySem.Env, (assignEach [.Tuple [.Name n1 px, .Name n2 py, .Name n3 pz] kt pt] env).map (·.2) = [assign (.Tuple [.Name n1 px, .Name n2 py, .Name n3 pz] kt pt) env] := by intro _; rfl) :
    DSs C ρ (.Assign [.Tuple [.Name n1 px, .Name n2 py, .Name n3 pz] kt pt] (.Tuple [e1, e2, e3] k2 pt2) pos :: rest) m J := by
  intro X W Z x hK c z
  have hfni : X.fn n1 = true ∨ X.env.scope.names.lookup n1 = some .local := hfi.elim (fun h => .inl (x.fnl n1 h)) fun h => .inr (by rw [x.sc]; exact h)
  have hfnj : X.fn n2 = true ∨ X.env.scope.names.lookup n2 = some .local := hfj.elim (fun h => .inl (x.fnl n2 h)) fun h => .inr (by rw [x.sc]; exact h)
  have hfnl : X.fn n3 = true ∨ X.env.scope.names.lookup n3 = some .local := hfl.elim (fun h => .inl (x.fnl n3 h)) fun h => .inr (by rw [x.sc]; exact h)
  refine PSs_imp (pss_cons (ps_asg (pe_tup (h X W Z x hK c z)) (pg_tup (n := 3) x.calm (pgs_cons (pg_name (i := i) (by rw [x.N]; exact x.nd) (by rw [x.N]; exact hNi) (by rw [x.sc]; exact hxi) hfni) (pgs_cons (pg_name (i := j) (by rw [x.N]; exact x.nd) (by rw [x.N]; exact hNj) (by rw [x.sc]; exact hxj) hfnj) (pgs_cons (pg_name (i := l) (by rw [x.N]; exact x.nd) (by rw [x.N]; exact hNl) (by rw [x.sc]; exact hxl) hfnl) pgs_nil (as2 _)) (as1 _)) (as0 _)) (hn _) (hst _)) (hsw _ x.sc) (hw _ x.sc) (h1 _)) (rest_run (J := J) x hK c)) fun Dn σ H ⟨F, r, l⟩ => ?_
  refine ⟨F, r, fun vs ρ' m' H' F' k1 k2 k3 k4 k5 => ⟨by rw [k3, sizeLine_eq]; show (3 : Nat) ≤ 16777216; decide, fun p hp => ?_⟩⟩
  obtain ⟨u, v, w, rfl⟩ := len3 k3
  have k6 := k4.step (F' := F') (H' := upd H' p (.tup [u, v, w])) ⟨Same.refl _, fun b o q => by rw [upd_ne (ne_of_none (k4.sub b o q) hp)]; exact k4.sub b o q, fun b o q => by rw [upd_ne (ne_of_none q hp)]; exact q, fun _ _ q => .inl q⟩
  exact ⟨p, _, rfl, .inl (.inl upd_same), rfl, ⟨_, _, rfl, ⟨_, _, rfl, ⟨_, _, rfl, ⟨rfl, (m', ρ'), ⟨k1, k2⟩, F', k6, l⟩⟩⟩⟩⟩
end
end Z

set_option Elab.async false
set_option linter.all false
set_option maxRecDepth 100000
set_option autoImplicit false
/-! # Z16: how the operations answer, numbers of bounded size -/
namespace Z
open PySem

/-- small enough for a product -/
def Sz (i : Int) : Prop := i.natAbs.log2 < 400000
theorem Sz.of {i : Int} {k : Nat} (h : i.natAbs < 2 ^ k) (hk : k ≤ 400000) : Sz i := by
  unfold Sz
  by_cases h0 : i.natAbs = 0
  · rw [h0]; decide
  · exact Nat.lt_of_lt_of_le ((Nat.log2_lt h0).mpr h) hk
theorem add_i (i j : Int) : add (.int i) (.int j) = .ok (.int (i + j)) := rfl
theorem sub_i (i j : Int) : sub (.int i) (.int j) = .ok (.int (i - j)) := rfl
theorem neg_i (i : Int) : neg (.int i) = .ok (.int (-i)) := rfl
theorem mul_i {i j : Int} (hi : Sz i) (hj : Sz j) : mul (.int i) (.int j) = .ok (.int (i * j)) := by
  unfold Sz at hi hj
  have : bigM i j = true := by unfold bigM; simp only [Bool.or_eq_true, decide_eq_true_eq]; exact .inr (by omega)
  simp [mul, this]
theorem mul_l {i j : Int} (hi : i.natAbs < 2 ^ 64) : mul (.int i) (.int j) = .ok (.int (i * j)) := by
  have : bigM i j = true := by unfold bigM; rw [decide_eq_true hi]; rfl
  simp [mul, this]
theorem mul_r {i j : Int} (hj : j.natAbs < 2 ^ 64) : mul (.int i) (.int j) = .ok (.int (i * j)) := by
  have : bigM i j = true := by unfold bigM; rw [decide_eq_true hj]; simp
  simp [mul, this]
theorem fdiv_i {i j : Int} (hj : j ≠ 0) (hs : bigD j = true) : fdiv (.int i) (.int j) = .ok (.int (i.fdiv j)) := by simp [fdiv, hj, hs]
theorem fmod_i {i j : Int} (hj : j ≠ 0) : fmod (.int i) (.int j) = .ok (.int (i.fmod j)) := by simp [fmod, hj]
theorem lt_i (i j : Int) : ltD (.int i) (.int j) = .ok (decide (i < j)) := rfl
theorem gt_i (i j : Int) : gtD (.int i) (.int j) = .ok (decide (j < i)) := rfl
theorem le_i (i j : Int) : leD (.int i) (.int j) = .ok (decide (i ≤ j)) := rfl
theorem ge_i (i j : Int) : geD (.int i) (.int j) = .ok (decide (j ≤ i)) := rfl
theorem ok_i (i : Int) : okD (.int i) = true := by simp [okD, PyData.plain, PyData.depth]
theorem eqv_i (i j : Int) : PyData.eqv (.int i) (.int j) = decide (i = j) := by
  unfold PyData.eqv
  first | rfl | (by_cases h : i = j <;> simp [h])
theorem eq_i (i j : Int) : eqD (.int i) (.int j) = .ok (decide (i = j)) := by simp [eqD, ok_i, eqv_i]
theorem ne_i (i j : Int) : neD (.int i) (.int j) = .ok (!decide (i = j)) := by simp [neD, eq_i]
theorem abs_i (i : Int) : absD (.int i) = .ok (.int (i.natAbs : Int)) := by
  unfold absD
  split
  · rename_i h; cases h
    congr 2
    split <;> omega
  · rename_i h; exact absurd rfl (h i)
theorem int_i (i : Int) : intD (.int i) = .ok (.int i) := rfl
theorem toI_i (i : Int) : toI (.int i) = .ok i := rfl
theorem max2_i (i j : Int) : maxD2 (.int i) (.int j) = .ok (.int (max i j)) := by
  show R.ok (PyData.int (if j > i then j else i)) = _
  have : (if j > i then j else i) = max i j := by split <;> omega
  rw [this]
theorem item0 (a : D) (l : List D) : item (.tuple (a :: l)) (.int 0) = .ok a := by simp [item, atD, L2.atI, L2.ixN]
theorem item_n {l : List D} {n : Nat} {d : D} (h : l[n]? = some d) : item (.tuple l) (.int (n : Nat)) = .ok d := by
  have hl := (List.getElem?_eq_some_iff.mp h).1
  have : L2.ixN l.length (n : Int) = some n := by unfold L2.ixN; rw [if_pos (by omega), if_pos (by omega)]; simp
  simp [item, atD, L2.atI, this, h]
theorem item1 (a b : D) (l : List D) : item (.tuple (a :: b :: l)) (.int 1) = .ok b := item_n (n := 1) (by simp)
theorem item_ln {l : List D} {n : Nat} {d : D} (h : l[n]? = some d) : item (.list l) (.int (n : Nat)) = .ok d := by
  have hl := (List.getElem?_eq_some_iff.mp h).1
  have : L2.ixN l.length (n : Int) = some n := by unfold L2.ixN; rw [if_pos (by omega), if_pos (by omega)]; simp
  simp [item, atD, L2.atI, this, h]
theorem item_l0 (a : D) (l : List D) : item (.list (a :: l)) (.int 0) = .ok a := item_ln (n := 0) (by simp)
theorem item_l1 (a b : D) (l : List D) : item (.list (a :: b :: l)) (.int 1) = .ok b := item_ln (n := 1) (by simp)
theorem un2_t (a b : D) : un2 (.tuple [a, b]) = .ok (a, b) := rfl
theorem un3_t (a b c : D) : un3 (.tuple [a, b, c]) = .ok (a, b, c) := rfl
theorem gcd_i (i j : Int) : gcdD (.int i) (.int j) = .ok (.int (Nat.gcd i.natAbs j.natAbs : Nat)) := rfl
theorem iter_l (xs : List D) : iter (.list xs) = .ok xs := rfl
theorem iter_t (xs : List D) : iter (.tuple xs) = .ok xs := rfl
theorem iterL_l (xs : List D) : iterL (.list xs) = .ok xs := rfl
theorem iterL_t (xs : List D) : iterL (.tuple xs) = .ok xs := rfl
theorem len_l (xs : List D) : lenD (.list xs) = .ok (.int xs.length) := rfl
theorem len_t (xs : List D) : lenD (.tuple xs) = .ok (.int xs.length) := rfl
theorem tuple_l (xs : List D) : tupleD (.list xs) = .ok (.tuple xs) := rfl
theorem flat_i (i : Int) : flatR (.ok (.int i)) = .ok (.int i) := rfl
theorem range_i {n : Nat} (h : n < 2 ^ 62) : range1 (.int (n : Int)) = .ok (rangeD 0 n) := by
  unfold range1 range2
  have h1 : (-(2 ^ 62) : Int) ≤ 0 := by decide
  have h2 : (0 : Int) < 2 ^ 62 := by decide
  have h3 : (-(2 ^ 62) : Int) ≤ (n : Int) := by omega
  have h4 : (n : Int) < 2 ^ 62 := by omega
  show (if (decide ((-(2 ^ 62) : Int) ≤ 0) && decide ((0 : Int) < 2 ^ 62) && decide ((-(2 ^ 62) : Int) ≤ (n : Int)) && decide ((n : Int) < 2 ^ 62)) = true then R.ok (rangeD 0 n) else R.stuck) = _
  rw [decide_eq_true h1, decide_eq_true h2, decide_eq_true h3, decide_eq_true h4]
  rfl
theorem rangeD_eq (n : Nat) : rangeD 0 n = (List.range n).map fun (k : Nat) => PyData.int (k : Int) := by simp [rangeD]
theorem bigD_of {j : Int} {k : Nat} (h : j.natAbs < 2 ^ k) (hk : k ≤ 9000) : bigD j = true := by
  unfold bigD
  by_cases h0 : j.natAbs = 0
  · rw [h0]; decide
  · exact decide_eq_true (Nat.lt_of_lt_of_le ((Nat.log2_lt h0).mpr h) hk)

/-! ### loops -/
theorem forS_nil {τ : Type} (st : τ) (f : D → τ → R τ) : forS [] st f = .ok st := rfl
theorem forS_cons {τ : Type} (x : D) (xs : List D) (st : τ) (f : D → τ → R τ) : forS (x :: xs) st f = (f x st).bind fun s => forS xs s f := rfl
/-- a loop by an invariant over what has been walked -/
theorem forS_inv {τ : Type} {f : D → τ → R τ} (I : List D → τ → Prop) {xs : List D} {st : τ} (h0 : I [] st) (hs : ∀ ys x s, (∃ zs, xs = ys ++ x :: zs) → I ys s → ∃ s', f x s = .ok s' ∧ I (ys ++ [x]) s') : ∃ s, forS xs st f = .ok s ∧ I xs s := by
  have key : ∀ (zs ys : List D) (s : τ), xs = ys ++ zs → I ys s → ∃ s', forS zs s f = .ok s' ∧ I xs s' := by
    intro zs
    induction zs with
    | nil => intro ys s e hi; rw [List.append_nil] at e; subst e; exact ⟨s, rfl, hi⟩
    | cons x zs ih =>
      intro ys s e hi
      obtain ⟨s', e1, h1⟩ := hs ys x s ⟨zs, e⟩ hi
      obtain ⟨s2, e2, h2⟩ := ih (ys ++ [x]) s' (by simp [e]) h1
      exact ⟨s2, by rw [forS_cons, e1]; exact e2, h2⟩
  exact key xs [] st rfl h0
/-- a comprehension with a state, by an invariant over what it has made -/
theorem compT_inv {τ : Type} {f : D → τ → R (Option D × τ)} (I : List D → List D → τ → Prop) {xs : List D} {st : τ} (h0 : I [] [] st)
    (hs : ∀ ys x s out, (∃ zs, xs = ys ++ x :: zs) → I ys out s → ∃ o s', f x s = .ok (o, s') ∧ I (ys ++ [x]) (out ++ o.toList) s') : ∃ out s, compT xs st f = .ok (out, s) ∧ I xs out s := by
  have key : ∀ (zs ys out : List D) (s : τ), xs = ys ++ zs → I ys out s → ∃ o2 s', compT zs s f = .ok (o2, s') ∧ I xs (out ++ o2) s' := by
    intro zs
    induction zs with
    | nil => intro ys out s e hi; rw [List.append_nil] at e; subst e; exact ⟨[], s, rfl, by simpa using hi⟩
    | cons x zs ih =>
      intro ys out s e hi
      obtain ⟨o, s', e1, h1⟩ := hs ys x s out ⟨zs, e⟩ hi
      obtain ⟨o2, s2, e2, h2⟩ := ih (ys ++ [x]) (out ++ o.toList) s' (by simp [e]) h1
      refine ⟨o.toList ++ o2, s2, ?_, by simpa using h2⟩
      simp only [compT, e1, R.bind_ok, e2]
      cases o <;> rfl
  obtain ⟨o, s, e, h⟩ := key xs [] [] st rfl h0
  exact ⟨o, s, e, by simpa using h⟩
theorem compS_of {τ : Type} {f : D → τ → R (Option D × τ)} {xs : List D} {st : τ} (h : xs.length < 16777216) : compS xs st f = compT xs st f := by unfold compS; rw [decide_eq_true h]; rfl
theorem compL_of {f : D → R (Option D)} {xs : List D} (h : xs.length < 16777216) : compL xs f = compP xs f := by unfold compL; rw [decide_eq_true h]; rfl
/-- each item to some answer or none -/
theorem compP_map {f : D → R (Option D)} {g : D → Option D} : ∀ {xs : List D}, (∀ x ∈ xs, f x = .ok (g x)) → compP xs f = .ok (xs.filterMap g)
  | [], _ => rfl
  | x :: xs, h => by
    simp only [compP, h x (by simp), R.bind_ok, compP_map (xs := xs) (fun y hy => h y (by simp [hy]))]
    cases hg : g x <;> simp [hg]

theorem compP_all {ι : Type} {f : D → R (Option D)} {g h : ι → D} : ∀ {xs : List ι}, (∀ x ∈ xs, f (g x) = .ok (some (h x))) → compP (xs.map g) f = .ok (xs.map h)
  | [], _ => rfl
  | x :: xs, k => by
    simp only [List.map_cons, compP, k x (by simp), R.bind_ok, compP_all (xs := xs) (fun y hy => k y (by simp [hy]))]
theorem compL_all {ι : Type} {f : D → R (Option D)} {g h : ι → D} {xs : List ι} (hl : xs.length < 16777216) (k : ∀ x ∈ xs, f (g x) = .ok (some (h x))) : compL (xs.map g) f = .ok (xs.map h) := by
  rw [compL_of (by rw [List.length_map]; exact hl), compP_all k]
theorem intsD_map : ∀ ns : List Int, intsD (ns.map .int) = some ns
  | [] => rfl
  | n :: ns => by simp [intsD, intsD_map ns]
/-! ### the source's budget -/
/-- n choices may be asked yet -/
def Ok (n : Nat) (s : Src) : Prop := 0 ≤ s.turn ∧ s.turn + (n : Int) ≤ 1000000000000
theorem Ok.le {n m : Nat} {s : Src} (h : Ok n s) (hm : m ≤ n) : Ok m s := ⟨h.1, by have := h.2; omega⟩
end Z

set_option Elab.async false
set_option linter.all false
set_option maxRecDepth 100000
set_option autoImplicit false
/-! # Z17: the plane: tables, lots, rows, fractions -/
namespace Z
open PySem

abbrev Vc := Int × Int
structure Tb where
  a : Int
  b : Int
  c : Int
  d : Int
deriving DecidableEq
def Tb.led (M : Tb) (v : Vc) : Vc := (M.a * v.1 + M.b * v.2, M.c * v.1 + M.d * v.2)
def Tb.det (M : Tb) : Int := M.a * M.d - M.b * M.c
def Tb.adj (M : Tb) : Tb := ⟨M.d, -M.b, -M.c, M.a⟩
def Tb.mul (M N : Tb) : Tb := ⟨M.a * N.a + M.b * N.c, M.a * N.b + M.b * N.d, M.c * N.a + M.d * N.c, M.c * N.b + M.d * N.d⟩
def Tb.one : Tb := ⟨1, 0, 0, 1⟩
def Tb.pw (M : Tb) : Nat → Tb
  | 0 => Tb.one
  | n + 1 => M.mul (M.pw n)
def Tb.less1 (M : Tb) : Tb := ⟨M.a - 1, M.b, M.c, M.d - 1⟩
def vadd (u v : Vc) : Vc := (u.1 + v.1, u.2 + v.2)
def vsub (u v : Vc) : Vc := (u.1 - v.1, u.2 - v.2)
def vmul (k : Int) (v : Vc) : Vc := (k * v.1, k * v.2)
def Tb.it (M : Tb) : Nat → Vc → Vc
  | 0, v => v
  | n + 1, v => M.led (M.it n v)
/-- a row of digits on a lot -/
def Tb.row (M : Tb) (v : Vc) : List Vc → Vc
  | [] => v
  | d :: r => M.row (vadd (M.led v) d) r
def lotD (v : Vc) : D := .tuple [.int v.1, .int v.2]
def tabD (M : Tb) : D := .tuple [.tuple [.int M.a, .int M.b], .tuple [.int M.c, .int M.d]]
def pointD (p : Vc × Int) : D := .tuple [lotD p.1, .int p.2]

theorem vext {u v : Vc} (h1 : u.1 = v.1) (h2 : u.2 = v.2) : u = v := Prod.ext h1 h2
section
variable (M N : Tb) (u v w : Vc) (k : Int)
theorem led_add : M.led (vadd u v) = vadd (M.led u) (M.led v) := by apply vext <;> simp only [Tb.led, vadd] <;> grind
theorem led_sub : M.led (vsub u v) = vsub (M.led u) (M.led v) := by apply vext <;> simp only [Tb.led, vsub] <;> grind
theorem led_mul : M.led (vmul k v) = vmul k (M.led v) := by apply vext <;> simp only [Tb.led, vmul] <;> grind
theorem led_adj : M.led (M.adj.led v) = vmul M.det v := by apply vext <;> simp only [Tb.led, vmul, Tb.adj, Tb.det] <;> grind
theorem adj_led : M.adj.led (M.led v) = vmul M.det v := by apply vext <;> simp only [Tb.led, vmul, Tb.adj, Tb.det] <;> grind
theorem mul_led : (M.mul N).led v = M.led (N.led v) := by apply vext <;> simp only [Tb.led, Tb.mul] <;> grind
theorem one_led : Tb.one.led v = v := by apply vext <;> simp [Tb.led, Tb.one]
theorem less1_led : M.less1.led v = vsub (M.led v) v := by apply vext <;> simp only [Tb.led, Tb.less1, vsub] <;> grind
theorem it_add : ∀ n, M.it n (vadd u v) = vadd (M.it n u) (M.it n v)
  | 0 => rfl
  | n + 1 => by rw [Tb.it, it_add n, led_add]; rfl
theorem it_sub : ∀ n, M.it n (vsub u v) = vsub (M.it n u) (M.it n v)
  | 0 => rfl
  | n + 1 => by rw [Tb.it, it_sub n, led_sub]; rfl
theorem it_mul : ∀ n, M.it n (vmul k v) = vmul k (M.it n v)
  | 0 => rfl
  | n + 1 => by rw [Tb.it, it_mul n, led_mul]; rfl
theorem it_led : ∀ n, M.it n (M.led v) = M.led (M.it n v)
  | 0 => rfl
  | n + 1 => by rw [Tb.it, it_led n]; rfl
theorem it_it : ∀ m n, M.it m (M.it n v) = M.it (m + n) v
  | 0, n => by rw [Nat.zero_add]; rfl
  | m + 1, n => by rw [Tb.it, it_it m n, Nat.add_right_comm]; rfl
theorem pw_led : ∀ n, (M.pw n).led v = M.it n v
  | 0 => one_led v
  | n + 1 => by rw [Tb.pw, mul_led, pw_led n]; rfl
theorem row_add : ∀ (r : List Vc) (u v : Vc), M.row (vadd u v) r = vadd (M.row u r) (M.it r.length v)
  | [], u, v => rfl
  | d :: r, u, v => by
    have e : vadd (M.led (vadd u v)) d = vadd (vadd (M.led u) d) (M.led v) := by rw [led_add]; apply vext <;> simp only [vadd] <;> omega
    rw [Tb.row, e, row_add r, it_led]; rfl
theorem row_append : ∀ (r q : List Vc) (v : Vc), M.row v (r ++ q) = M.row (M.row v r) q
  | [], q, v => rfl
  | d :: r, q, v => by rw [List.cons_append, Tb.row, row_append r]; rfl
theorem row_zero (r : List Vc) : M.row v r = vadd (M.row (0, 0) r) (M.it r.length v) := by
  rw [← row_add]
  congr 1
  apply vext <;> simp [vadd]
end
/-! ### least terms -/
/-- (X, Y)/C is the fraction (x, y)/c in least terms -/
structure IsLow (x y c X Y C : Int) : Prop where
  pos : 0 < C
  co : Nat.gcd (Nat.gcd X.natAbs Y.natAbs) C.natAbs = 1
  ex : X * c = x * C
  ey : Y * c = y * C
theorem IsLow.uniq {x y c X Y C x' y' c' X' Y' C' : Int} (h : IsLow x y c X Y C) (h' : IsLow x' y' c' X' Y' C') (hc : c ≠ 0) (hc' : c' ≠ 0) (ex : x * c' = x' * c) (ey : y * c' = y' * c) : X = X' ∧ Y = Y' ∧ C = C' := by
  have cross : ∀ {a A a' A' : Int}, A * c = a * C → A' * c' = a' * C' → a * c' = a' * c → A * C' = A' * C := fun {a A a' A'} e1 e2 e3 => by
    have : (A * C') * (c * c') = (A' * C) * (c * c') := by
      have h1 : (A * C') * (c * c') = (A * c) * (C' * c') := by grind
      have h2 : (A' * C) * (c * c') = (A' * c') * (C * c) := by grind
      rw [h1, h2, e1, e2]
      have h3 : a * C * (C' * c') = (a * c') * (C * C') := by grind
      have h4 : a' * C' * (C * c) = (a' * c) * (C * C') := by grind
      rw [h3, h4, e3]
    exact Int.eq_of_mul_eq_mul_right (Int.mul_ne_zero hc hc') this
  have qx := cross h.ex h'.ex ex
  have qy := cross h.ey h'.ey ey
  have dv : ∀ {X Y C X' Y' C' : Int}, 0 < C → 0 < C' → Nat.gcd (Nat.gcd X.natAbs Y.natAbs) C.natAbs = 1 → X * C' = X' * C → Y * C' = Y' * C → C.natAbs ∣ C'.natAbs := fun {X Y C X' Y' C'} p p' g a b => by
    have d1 : C.natAbs ∣ X.natAbs * C'.natAbs := by rw [← Int.natAbs_mul, a, Int.natAbs_mul]; exact Nat.dvd_mul_left _ _
    have d2 : C.natAbs ∣ Y.natAbs * C'.natAbs := by rw [← Int.natAbs_mul, b, Int.natAbs_mul]; exact Nat.dvd_mul_left _ _
    have d3 : C.natAbs ∣ C.natAbs * C'.natAbs := Nat.dvd_mul_right _ _
    have d4 := Nat.dvd_gcd (Nat.dvd_gcd d1 d2) d3
    rw [Nat.gcd_mul_right, Nat.gcd_mul_right, g, Nat.one_mul] at d4
    exact d4
  have e1 := dv h.pos h'.pos h.co qx qy
  have e2 := dv h'.pos h.pos h'.co qx.symm qy.symm
  have e3 := Nat.dvd_antisymm e1 e2
  have e4 : C = C' := by have := h.pos; have := h'.pos; omega
  subst e4
  have n0 : C ≠ 0 := by have := h.pos; omega
  exact ⟨Int.eq_of_mul_eq_mul_right n0 qx, Int.eq_of_mul_eq_mul_right n0 qy, rfl⟩
/-- by a common part -/
theorem IsLow.of {x y c : Int} (hc : c ≠ 0) (g : Int) (hg : g.natAbs = Nat.gcd (Nat.gcd x.natAbs y.natAbs) c.natAbs) (hs : 0 < g * c) : IsLow x y c (x / g) (y / g) (c / g) ∧ x.fdiv g = x / g ∧ y.fdiv g = y / g ∧ c.fdiv g = c / g := by
  have dx : g ∣ x := Int.natAbs_dvd_natAbs.mp (by rw [hg]; exact Nat.dvd_trans (Nat.gcd_dvd_left _ _) (Nat.gcd_dvd_left _ _))
  have dy : g ∣ y := Int.natAbs_dvd_natAbs.mp (by rw [hg]; exact Nat.dvd_trans (Nat.gcd_dvd_left _ _) (Nat.gcd_dvd_right _ _))
  have dc : g ∣ c := Int.natAbs_dvd_natAbs.mp (by rw [hg]; exact Nat.gcd_dvd_right _ _)
  have g0 : g ≠ 0 := fun e => by rw [e] at hs; simp at hs
  obtain ⟨X, rfl⟩ := dx
  obtain ⟨Y, rfl⟩ := dy
  obtain ⟨C, rfl⟩ := dc
  have f : ∀ z : Int, (g * z).fdiv g = g * z / g := fun z => by rw [Int.mul_fdiv_cancel_left _ g0, Int.mul_ediv_cancel_left _ g0]
  refine ⟨?_, f _, f _, f _⟩
  rw [Int.mul_ediv_cancel_left _ g0, Int.mul_ediv_cancel_left _ g0, Int.mul_ediv_cancel_left _ g0]
  have gp : 0 < g.natAbs := by omega
  refine ⟨?_, ?_, by grind, by grind⟩
  · have : g * (g * C) = (g * g) * C := by grind
    rw [this] at hs
    have sq : 0 < g * g := by
      rcases Int.lt_or_gt_of_ne g0 with q | q
      · exact Int.mul_pos_of_neg_of_neg q q
      · exact Int.mul_pos q q
    by_cases hC : 0 < C
    · exact hC
    · have : g * g * C ≤ 0 := Int.mul_nonpos_of_nonneg_of_nonpos (Int.le_of_lt sq) (by omega)
      omega
  · rw [Int.natAbs_mul, Int.natAbs_mul, Int.natAbs_mul, Nat.gcd_mul_left, Nat.gcd_mul_left] at hg
    have := Nat.eq_of_mul_eq_mul_left gp (hg.symm.trans (Nat.mul_one _).symm)
    exact this

/-! ### the common part by laps -/
def lap (p : Nat × Nat) : Nat × Nat := if p.2 ≠ 0 then (p.2, p.1 % p.2) else p
def laps : Nat → Nat × Nat → Nat × Nat
  | 0, p => p
  | n + 1, p => laps n (lap p)
theorem laps_zero (n a : Nat) : laps n (a, 0) = (a, 0) := by
  induction n with
  | zero => rfl
  | succ n ih => rw [laps]; simpa [lap] using ih
theorem laps_gcd : ∀ (k a b : Nat), b < 2 ^ k → laps (2 * k) (a, b) = (Nat.gcd a b, 0)
  | 0, a, b, h => by
    have : b = 0 := by simpa using h
    subst this; simp [laps]
  | k + 1, a, b, h => by
    show laps (2 * k + 1 + 1) (a, b) = _
    by_cases hb : b = 0
    · subst hb; rw [laps_zero]; simp
    · rw [laps, laps]
      have e1 : lap (a, b) = (b, a % b) := by simp [lap, hb]
      rw [e1]
      by_cases hr : a % b = 0
      · have e2 : lap (b, a % b) = (b, 0) := by simp [lap, hr]
        rw [e2, laps_zero, Nat.gcd_comm, Nat.gcd_rec, hr, Nat.gcd_zero_left]
      · have e2 : lap (b, a % b) = (a % b, b % (a % b)) := by simp [lap, hr]
        have l1 : a % b < b := Nat.mod_lt _ (by omega)
        have l2 : b % (a % b) < 2 ^ k := by
          have h3 : b % (a % b) < a % b := Nat.mod_lt _ (by omega)
          have h4 := Nat.div_add_mod b (a % b)
          have h5 : 1 ≤ b / (a % b) := (Nat.one_le_div_iff (by omega)).mpr (by omega)
          have h6 : a % b ≤ a % b * (b / (a % b)) := Nat.le_mul_of_pos_right _ h5
          have : 2 ^ (k + 1) = 2 * 2 ^ k := by rw [Nat.pow_succ]; omega
          omega
        rw [e2, laps_gcd k _ _ l2]
        congr 1
        have g1 : Nat.gcd a b = Nat.gcd (a % b) b := by rw [Nat.gcd_comm a b]; exact Nat.gcd_rec b a
        have g2 : Nat.gcd (a % b) b = Nat.gcd (b % (a % b)) (a % b) := Nat.gcd_rec _ _
        rw [g1, g2, Nat.gcd_comm]
end Z

set_option Elab.async false
set_option linter.all false
set_option maxRecDepth 100000
set_option autoImplicit false
set_option exponentiation.threshold 5000
/-! # Z18: what is small is shown; turns of a loop that goes on; slices at one -/
namespace Z
open PySem L2

structure Small (dp w : Nat) (d : D) : Prop where
  plain : d.plain = true
  depth : d.depth ≤ dp
  show' : d.showable = true
  nodict : d.hasDict = false
  leaf : d.leavesShort 202 = true
  weight : d.weight ≤ w
structure SmallAll (dp w : Nat) (ds : List D) : Prop where
  plain : PyData.plainAll ds = true
  depth : PyData.depthAll ds ≤ dp
  show' : PyData.showableAll ds = true
  nodict : PyData.hasDictAll ds = false
  leaf : PyData.leavesShortAll 202 ds = true
  weight : PyData.weightAll ds ≤ w
theorem Small.mono {dp w dp' w' : Nat} {d : D} (h : Small dp w d) (h1 : dp ≤ dp') (h2 : w ≤ w') : Small dp' w' d := ⟨h.plain, Nat.le_trans h.depth h1, h.show', h.nodict, h.leaf, Nat.le_trans h.weight h2⟩
theorem Small.int {i : Int} (h : i.natAbs < 2 ^ 200) : Small 0 200 (.int i) := by
  have l : i.natAbs.log2 < 200 := by
    by_cases z : i.natAbs = 0
    · rw [z]; decide
    · exact (Nat.log2_lt z).mpr h
  refine ⟨by simp [PyData.plain], by simp [PyData.depth], by simp only [PyData.showable]; exact decide_eq_true (by omega), by simp [PyData.hasDict], ?_, ?_⟩
  · simp only [PyData.leavesShort, PyData.shown]
    refine decide_eq_true ?_
    have q := int_text_length_le (by decide : 0 < 200) l
    have e : (Str.ofString (toString i)).length = (toString i).length := ofString_length _
    exact Nat.le_trans (Nat.le_of_eq e) (by omega)
  · simp only [PyData.weight]
    split <;> omega
theorem SmallAll.nil : SmallAll 0 0 [] := ⟨rfl, by simp [PyData.depthAll], rfl, rfl, rfl, by simp [PyData.weightAll]⟩
theorem SmallAll.cons {dp dp' w w' : Nat} {d : D} {ds : List D} (h : Small dp w d) (k : SmallAll dp' w' ds) : SmallAll (max dp dp') (w + 1 + w') (d :: ds) := by
  obtain ⟨a1, a2, a3, a4, a5, a6⟩ := h
  obtain ⟨b1, b2, b3, b4, b5, b6⟩ := k
  refine ⟨by simp [PyData.plainAll, a1, b1], ?_, by simp [PyData.showableAll, a3, b3], by simp [PyData.hasDictAll, a4, b4], by simp [PyData.leavesShortAll, a5, b5], ?_⟩
  · simp only [PyData.depthAll]; omega
  · simp only [PyData.weightAll]; omega
theorem SmallAll.mono {dp w dp' w' : Nat} {ds : List D} (h : SmallAll dp w ds) (h1 : dp ≤ dp') (h2 : w ≤ w') : SmallAll dp' w' ds := ⟨h.plain, Nat.le_trans h.depth h1, h.show', h.nodict, h.leaf, Nat.le_trans h.weight h2⟩
theorem SmallAll.all {dp w : Nat} : ∀ {ds : List D}, (∀ d ∈ ds, Small dp w d) → SmallAll dp (ds.length * (w + 1)) ds
  | [], _ => SmallAll.nil.mono (Nat.zero_le _) (Nat.zero_le _)
  | d :: ds, h => by
    have q := SmallAll.cons (h d (by simp)) (SmallAll.all (ds := ds) fun x hx => h x (by simp [hx]))
    refine q.mono (by omega) ?_
    rw [List.length_cons, Nat.add_mul]
    omega
theorem SmallAll.tuple {dp w : Nat} {ds : List D} (h : SmallAll dp w ds) : Small (dp + 1) w (.tuple ds) := by
  obtain ⟨b1, b2, b3, b4, b5, b6⟩ := h
  exact ⟨by simpa only [PyData.plain] using b1, by simp only [PyData.depth]; omega, by simpa only [PyData.showable] using b3, by simpa only [PyData.hasDict] using b4, by simpa only [PyData.leavesShort] using b5, by simpa only [PyData.weight] using b6⟩
theorem SmallAll.list {dp w : Nat} {ds : List D} (h : SmallAll dp w ds) : Small (dp + 1) w (.list ds) := by
  obtain ⟨b1, b2, b3, b4, b5, b6⟩ := h
  exact ⟨by simpa only [PyData.plain] using b1, by simp only [PyData.depth]; omega, by simpa only [PyData.showable] using b3, by simpa only [PyData.hasDict] using b4, by simpa only [PyData.leavesShort] using b5, by simpa only [PyData.weight] using b6⟩
theorem Small.repr {dp w : Nat} {d : D} (h : Small dp w d) (h1 : dp ≤ 40) (h2 : w ≤ 80000) : reprOk d = true := by
  have q := PyData.shown_le 202 (by decide) d h.leaf
  have hw := h.weight
  have h4 : (202 + 2) * d.weight ≤ (202 + 2) * 80000 := Nat.mul_le_mul (Nat.le_refl _) (by omega)
  have o : okD d = true := by
    unfold okD
    rw [h.plain, decide_eq_true (Nat.le_trans h.depth h1)]; rfl
  unfold reprOk
  rw [o, h.show', h.nodict, decide_eq_true (by omega)]; rfl
theorem repr_t {dp w : Nat} {ds : List D} (h : Small dp w (.tuple ds)) (h1 : dp ≤ 40 := by decide) (h2 : w ≤ 80000 := by decide) : reprD (.tuple ds) = .ok (.str (PyData.tuple ds).shown) := by
  show (if _ = true then _ else _) = _
  rw [if_pos (h.repr h1 h2)]
theorem repr_l {dp w : Nat} {ds : List D} (h : Small dp w (.list ds)) (h1 : dp ≤ 40 := by decide) (h2 : w ≤ 80000 := by decide) : reprD (.list ds) = .ok (.str (PyData.list ds).shown) := by
  show (if _ = true then _ else _) = _
  rw [if_pos (h.repr h1 h2)]
theorem okS (s : Str) : okD (.str s) = true := by simp [okD, PyData.plain, PyData.depth]
theorem eq_s (s : Str) : eqD (.str s) (.str s) = .ok true := by
  unfold eqD; rw [okS]; simp [PyData.eqv]
theorem ne_s (s : Str) : neD (.str s) (.str s) = .ok false := by unfold neD; rw [eq_s]; rfl
theorem forT_bind {τ β : Type} {f : D → τ → R (Fl τ)} {k : Fl τ → R β} {r : R β} (I : Nat → τ → Prop) (h : ∀ n x st, I (n + 1) st → ∃ st', f x st = .ok (.nx st') ∧ I n st') : ∀ {xs : List D} {st : τ}, I xs.length st → (∀ st', k (.nx st') = r) → (forT xs st f).bind k = r
  | [], st, _, hk => hk st
  | x :: xs, st, i, hk => by
    obtain ⟨s1, e1, i1⟩ := h xs.length x st i
    show ((f x st).bind _).bind k = r
    rw [e1]
    exact forT_bind I h i1 hk
theorem slice_1 (a : D) (l : List D) : slice (.tuple (a :: l)) none (some 1) = .ok (.tuple [a]) := by
  have e : HT.sIx (a :: l).length (a :: l).length (some 1) = 1 := by
    rw [show (some (1 : Int)) = some ((1 : Nat) : Int) from rfl, HT.sIx_nat]; simp
  simp only [slice, cut, HT.sIx_none, e]; rfl
theorem slice_2 (a : D) (l : List D) : slice (.tuple (a :: l)) (some 1) none = .ok (.tuple l) := by
  have e : HT.sIx (a :: l).length 0 (some 1) = 1 := by
    rw [show (some (1 : Int)) = some ((1 : Nat) : Int) from rfl, HT.sIx_nat]; simp
  simp only [slice, cut, HT.sIx_none, e]
  simp
theorem add_t {xs ys : List D} (h : xs.length + ys.length < 16777216) : add (.tuple xs) (.tuple ys) = .ok (.tuple (xs ++ ys)) := by
  have c1 : szOk (xs.length + ys.length) = true := by unfold szOk; exact decide_eq_true (by omega)
  simp only [add, c1, if_true]
theorem push1 (xs : List D) (d : D) (h : xs.length < 16777216) : pushM xs [d] = .ok (.none, xs ++ [d]) := by
  show (if _ = true then _ else _) = _
  rw [if_pos (decide_eq_true h)]
end Z

set_option Elab.async false
set_option linter.all false
set_option maxRecDepth 100000
set_option autoImplicit false
/-! # Z19: and, or, not as values; isinstance; zip; a list of one's own that is changed no more -/
namespace Z
open PySem L2
section
variable {α : Type} {C : Ct} {ρ : Env} {m : R α}

theorem truV_of {K : PySem.W.Frag} {F H : Hp} (e : Same F H) {v : V} {d : D} {t : Bool} (h : Rp K F v d) (et : truth d = .ok t) : TruV K v H t := by
  cases h with
  | non => cases et; rfl
  | bl b => cases et; rfl
  | int i => cases et; rfl
  | str y =>
    simp only [truth] at et
    split at et
    · rename_i hz
      cases et
      exact ⟨by rw [sizeLine_eq]; simpa [szOk] using hz, by cases hh : y.length <;> simp <;> omega⟩
    · cases et
  | lst a b =>
    have e0 := b.isEmpty
    cases et
    exact .inl ⟨_, .inl (.inl (e _ _ a)), by rw [e0]⟩
  | tup a b =>
    have e0 := b.isEmpty
    cases et
    exact .inr (.inl ⟨_, seqT e a, by rw [e0]⟩)
  | dct _ _ _ _ => cases et
theorem de_and1 {κ : D → Env → R α → Prop} {e : Expr} {pos : Pos} {op : BoolOp} (h : DE C ρ e m κ) : DE C ρ (.BoolOp op [e] pos) m κ := fun X W Z x hK c z => pe_one (h X W Z x hK c z)
theorem de_and {κ : D → Env → R α → Prop} {a b : Expr} {rest : List Expr} {pos : Pos}
    (h : DE C ρ a m fun d ρ1 m1 => ∃ A B, m1 = ((truth d).bind fun t => if t = true then A else B) ∧ DE C ρ1 (.BoolOp .And (b :: rest) pos) A κ ∧ κ d ρ1 B) : DE C ρ (.BoolOp .And (a :: b :: rest) pos) m κ := by
  intro X W Z x hK c z
  have hb : PE X (.BoolOp .And (b :: rest) pos) fun σ H Q => ∃ i : R α × Env, (DE C i.2 (.BoolOp .And (b :: rest) pos) i.1 κ ∧ Z i.1) ∧ ∃ F, Rel W i.2 σ H F ∧ ∀ d ρ' m' v H' F', κ d ρ' m' → Z m' → Rel W ρ' σ H' F' → Same F F' → Rp W.K F' v d → Q v H' :=
    ⟨fun p s σ H Q I ⟨i, pi, q⟩ => (pi.1 X W Z x hK c pi.2).run p s σ H Q I q⟩
  refine PE_imp (pe_andT (h X W Z x hK c z) hb) fun σ H Q ⟨F, r, q⟩ => ⟨F, r, fun d ρ' m' v H' F' ⟨A, B, e, hA, hB⟩ h2 h3 h4 h5 => ?_⟩
  subst e
  obtain ⟨t, et, zt⟩ := c.bind h2
  refine ⟨t, by rw [x.K, ← hK]; exact truV_of h3.sub h5 et, ?_⟩
  cases t with
  | true => exact ⟨(A, ρ'), ⟨hA, zt⟩, F', h3, fun d ρ2 m2 v H2 F2 k1 k2 k3 k4 k5 => q d ρ2 m2 v H2 F2 k1 k2 k3 (h4.trans k4) k5⟩
  | false => exact q _ ρ' _ v H' F' hB zt h3 h4 h5
theorem de_or {κ : D → Env → R α → Prop} {a b : Expr} {rest : List Expr} {pos : Pos}
    (h : DE C ρ a m fun d ρ1 m1 => ∃ A B, m1 = ((truth d).bind fun t => if t = true then A else B) ∧ κ d ρ1 A ∧ DE C ρ1 (.BoolOp .Or (b :: rest) pos) B κ) : DE C ρ (.BoolOp .Or (a :: b :: rest) pos) m κ := by
  intro X W Z x hK c z
  have hb : PE X (.BoolOp .Or (b :: rest) pos) fun σ H Q => ∃ i : R α × Env, (DE C i.2 (.BoolOp .Or (b :: rest) pos) i.1 κ ∧ Z i.1) ∧ ∃ F, Rel W i.2 σ H F ∧ ∀ d ρ' m' v H' F', κ d ρ' m' → Z m' → Rel W ρ' σ H' F' → Same F F' → Rp W.K F' v d → Q v H' :=
    ⟨fun p s σ H Q I ⟨i, pi, q⟩ => (pi.1 X W Z x hK c pi.2).run p s σ H Q I q⟩
  refine PE_imp (pe_orT (h X W Z x hK c z) hb) fun σ H Q ⟨F, r, q⟩ => ⟨F, r, fun d ρ' m' v H' F' ⟨A, B, e, hA, hB⟩ h2 h3 h4 h5 => ?_⟩
  subst e
  obtain ⟨t, et, zt⟩ := c.bind h2
  refine ⟨t, by rw [x.K, ← hK]; exact truV_of h3.sub h5 et, ?_⟩
  cases t with
  | true => exact q _ ρ' _ v H' F' hA zt h3 h4 h5
  | false => exact ⟨(B, ρ'), ⟨hB, zt⟩, F', h3, fun d ρ2 m2 v H2 F2 k1 k2 k3 k4 k5 => q d ρ2 m2 v H2 F2 k1 k2 k3 (h4.trans k4) k5⟩
theorem de_notV {κ : D → Env → R α → Prop} {a : Expr} {pos : Pos} (h : DE C ρ a m fun d ρ1 m1 => ∃ g, m1 = (truth d).bind g ∧ ∀ t, κ (.bool (!t)) ρ1 (g t)) : DE C ρ (.UnaryOp .Not a pos) m κ := by
  intro X W Z x hK c z
  refine PE_imp (pe_notT (h X W Z x hK c z)) fun σ H Q ⟨F, r, q⟩ => ⟨F, r, fun d ρ' m' v H' F' ⟨g, e, hg⟩ h2 h3 h4 h5 => ?_⟩
  subst e
  obtain ⟨t, et, zt⟩ := c.bind h2
  exact ⟨t, by rw [x.K, ← hK]; exact truV_of h3.sub h5 et, q _ ρ' _ _ H' F' (hg t) zt h3 h4 (.bl _)⟩

/-! ### isinstance(e, T) -/
def tyN : D → String
  | .none => "NoneType"
  | .bool _ => "bool"
  | .int _ => "int"
  | .str _ => "str"
  | .list _ => "list"
  | .tuple _ => "tuple"
  | .dict _ => "dict"
def isTupD : D → Bool
  | .none => false
  | .bool _ => false
  | .int _ => false
  | .str _ => false
  | .list _ => false
  | .tuple _ => true
  | .dict _ => false
theorem isa_tuple : ∀ d : D, kitB (tyN d) "tuple" = some (isTupD d)
  | .none => (by decide +kernel : kitB "NoneType" "tuple" = some false)
  | .bool _ => (by decide +kernel : kitB "bool" "tuple" = some false)
  | .int _ => (by decide +kernel : kitB "int" "tuple" = some false)
  | .str _ => (by decide +kernel : kitB "str" "tuple" = some false)
  | .list _ => (by decide +kernel : kitB "list" "tuple" = some false)
  | .tuple _ => (by decide +kernel : kitB "tuple" "tuple" = some true)
  | .dict _ => (by decide +kernel : kitB "dict" "tuple" = some false)
def isIntD : D → Bool
  | .none => false
  | .bool _ => true
  | .int _ => true
  | .str _ => false
  | .list _ => false
  | .tuple _ => false
  | .dict _ => false
theorem isa_int : ∀ d : D, kitB (tyN d) "int" = some (isIntD d)
  | .none => (by decide +kernel : kitB "NoneType" "int" = some false)
  | .bool _ => (by decide +kernel : kitB "bool" "int" = some true)
  | .int _ => (by decide +kernel : kitB "int" "int" = some true)
  | .str _ => (by decide +kernel : kitB "str" "int" = some false)
  | .list _ => (by decide +kernel : kitB "list" "int" = some false)
  | .tuple _ => (by decide +kernel : kitB "tuple" "int" = some false)
  | .dict _ => (by decide +kernel : kitB "dict" "int" = some false)
def isBoolD : D → Bool
  | .none => false
  | .bool _ => true
  | .int _ => false
  | .str _ => false
  | .list _ => false
  | .tuple _ => false
  | .dict _ => false
theorem isa_bool : ∀ d : D, kitB (tyN d) "bool" = some (isBoolD d)
  | .none => (by decide +kernel : kitB "NoneType" "bool" = some false)
  | .bool _ => (by decide +kernel : kitB "bool" "bool" = some true)
  | .int _ => (by decide +kernel : kitB "int" "bool" = some false)
  | .str _ => (by decide +kernel : kitB "str" "bool" = some false)
  | .list _ => (by decide +kernel : kitB "list" "bool" = some false)
  | .tuple _ => (by decide +kernel : kitB "tuple" "bool" = some false)
  | .dict _ => (by decide +kernel : kitB "dict" "bool" = some false)
def isStrD : D → Bool
  | .none => false
  | .bool _ => false
  | .int _ => false
  | .str _ => true
  | .list _ => false
  | .tuple _ => false
  | .dict _ => false
theorem isa_str : ∀ d : D, kitB (tyN d) "str" = some (isStrD d)
  | .none => (by decide +kernel : kitB "NoneType" "str" = some false)
  | .bool _ => (by decide +kernel : kitB "bool" "str" = some false)
  | .int _ => (by decide +kernel : kitB "int" "str" = some false)
  | .str _ => (by decide +kernel : kitB "str" "str" = some true)
  | .list _ => (by decide +kernel : kitB "list" "str" = some false)
  | .tuple _ => (by decide +kernel : kitB "tuple" "str" = some false)
  | .dict _ => (by decide +kernel : kitB "dict" "str" = some false)
def isLstD : D → Bool
  | .none => false
  | .bool _ => false
  | .int _ => false
  | .str _ => false
  | .list _ => true
  | .tuple _ => false
  | .dict _ => false
theorem isa_list : ∀ d : D, kitB (tyN d) "list" = some (isLstD d)
  | .none => (by decide +kernel : kitB "NoneType" "list" = some false)
  | .bool _ => (by decide +kernel : kitB "bool" "list" = some false)
  | .int _ => (by decide +kernel : kitB "int" "list" = some false)
  | .str _ => (by decide +kernel : kitB "str" "list" = some false)
  | .list _ => (by decide +kernel : kitB "list" "list" = some true)
  | .tuple _ => (by decide +kernel : kitB "tuple" "list" = some false)
  | .dict _ => (by decide +kernel : kitB "dict" "list" = some false)
def isDctD : D → Bool
  | .none => false
  | .bool _ => false
  | .int _ => false
  | .str _ => false
  | .list _ => false
  | .tuple _ => false
  | .dict _ => true
theorem isa_dict : ∀ d : D, kitB (tyN d) "dict" = some (isDctD d)
  | .none => (by decide +kernel : kitB "NoneType" "dict" = some false)
  | .bool _ => (by decide +kernel : kitB "bool" "dict" = some false)
  | .int _ => (by decide +kernel : kitB "int" "dict" = some false)
  | .str _ => (by decide +kernel : kitB "str" "dict" = some false)
  | .list _ => (by decide +kernel : kitB "list" "dict" = some false)
  | .tuple _ => (by decide +kernel : kitB "tuple" "dict" = some false)
  | .dict _ => (by decide +kernel : kitB "dict" "dict" = some true)
def isaD (f : D → Bool) (d : D) : R Bool := if isDctD d then .stuck else .ok (f d)
theorem tyX {X : Cx} {pins : List (Addr × Obj)} {σ : L2.St} {H F : Hp} {s : Shared} (I : Inv X pins σ H s) (e : Same F H) {v : V} {d : D} (h : Rp X.K F v d) (hn : isDctD d = false) : TyX X.K H v (.type (tyN d)) := by
  cases h with
  | non => exact .base .non
  | bl b => exact .base (.bl b)
  | int i => exact .base (.int i)
  | str y => exact .base (.str y)
  | lst a b => exact .base (.lst (e _ _ a))
  | tup a b =>
    rcases seqT e a with (q | ⟨o, q⟩) | q
    · exact .base (.tup q)
    · exact .fTuple q
    · obtain ⟨o, its, n, h1, h2, _⟩ := q
      exact .kTuple h1 h2
  | dct _ _ _ _ => cases hn
/-- isinstance(e, T), T a built-in type -/
theorem de_isa {κ : D → Env → R α → Prop} {a : Expr} {n : Str} {T : String} {f : D → Bool} {p p2 pos : Pos} (hT : ∀ d : D, kitB (tyN d) T = some (f d)) (hm : C.mg ("isinstance" : Str) = none) (hm2 : C.mg n = none) (hb : bootBuiltins n = some (.type T))
    (h : DE C ρ a m fun d ρ1 m1 => ∃ g, m1 = (isaD f d).bind g ∧ ∀ t, κ (.bool t) ρ1 (g t)) (hg : C.sc.names.lookup ("isinstance" : Str) = some .globalImplicit := by rfl) (hg2 : C.sc.names.lookup n = some .globalImplicit := by rfl)
    (hn : n ≠ "__name__" := by decide) (hdb : (n == ("__debug__" : Str)) = false := by decide) (he : ∀ env : PySem.Env, starEach [a, .Name n p2] env = (false, eval a env) :: starEach [.Name n p2] env := by intro _; rfl)
    (he2 : ∀ env : PySem.Env, starEach [.Name n p2] env = (false, eval (.Name n p2) env) :: starEach [] env := by intro _; rfl) (hpl : ∀ env : PySem.Env, (backTo pos (starEach [.Name n p2] env)).any (·.1) = false := by intro _; rfl) :
    DE C ρ (.Call (.Name "isinstance" p) [a, .Name n p2] [] pos) m κ := by
  intro X W Z x hK c z
  have pa := pa_cons (h X W Z x hK c z) (pa_cons (pe_bltn (v := .ty T) (pos := p2) (x.gl hg2) (x.mg0 hm2) hb rfl hn hdb) pa_nil (he2 _)) (he _)
  have hc : CallR X (.builtin "isinstance") fun vs H Q => ∃ F v d, vs = [v, .ty T] ∧ Same F H ∧ Rp X.K F v d ∧ isDctD d = false ∧ Q (.bl (f d)) H := by
    intro pins s σ H vs us Q I rv ⟨F, v, d, e, sub, rd, hd, q⟩
    exact call_isi pins s σ H vs us Q I rv ⟨v, .ty T, _, _, f d, e, .ty T, tyX I sub rd hd, kit_ty (hT d), q⟩
  refine PE_imp (pe_callB hc (x.gl hg) (x.mg0 hm) (by decide +kernel) pa (by decide) (by decide) (he _) (hpl _)) fun σ H Q ⟨F, r, q⟩ => ⟨F, r, fun d ρ' m' v H' F' ⟨g, e, hgg⟩ h2 h3 h4 h5 => ?_⟩
  subst e
  obtain ⟨t, et, zt⟩ := c.bind h2
  unfold isaD at et
  by_cases hd : isDctD d = true
  · rw [if_pos hd] at et; cases et
  · rw [if_neg hd] at et; cases et
    show ∃ F0 v0 d0, [v, V.ty T] = [v0, .ty T] ∧ _
    exact ⟨F', v, d, rfl, h3.sub, by rw [x.K, ← hK]; exact h5, by simpa using hd, q _ ρ' _ _ H' F' (hgg _) zt h3 h4 (.bl _)⟩

/-! ### is True, is not True -/
def isBD : D → D → R Bool
  | .bool a, .bool b => .ok (decide (a = b))
  | _, _ => .stuck
def isNotBD : D → D → R Bool
  | .bool a, .bool b => .ok (!decide (a = b))
  | _, _ => .stuck
theorem cs_isB : CmpS .Is isBD := by
  intro X k hr pins s σ H x y v u Q I rx ry ⟨F, a, b, c, sub, ra, rb, e, q⟩
  unfold isBD at e
  split at e
  · cases e
    rw [ra.toBool] at rx; rw [rb.toBool] at ry
    exact op_isBl pins s σ H _ _ v u Q I rx ry ⟨_, _, rfl, rfl, q⟩
  · cases e
theorem cs_isNotB : CmpS .IsNot isNotBD := by
  intro X k hr pins s σ H x y v u Q I rx ry ⟨F, a, b, c, sub, ra, rb, e, q⟩
  unfold isNotBD at e
  split at e
  · cases e
    rw [ra.toBool] at rx; rw [rb.toBool] at ry
    exact op_notBl pins s σ H _ _ v u Q I rx ry ⟨_, _, rfl, rfl, q⟩
  · cases e

/-! ### zip -/
def zipI : D → D → R (List D)
  | .list xs, .list ys => .ok (zipD xs ys)
  | .tuple xs, .tuple ys => .ok (zipD xs ys)
  | _, _ => .stuck
theorem zipD_at {xs ys : List D} {i : Nat} {x y : D} (hx : xs[i]? = some x) (hy : ys[i]? = some y) : (zipD xs ys)[i]? = some (.tuple [x, y]) := by
  unfold zipD
  rw [List.getElem?_map, (List.getElem?_zip_eq_some (z := (x, y))).mpr ⟨hx, hy⟩]; rfl
theorem zipD_length {xs ys : List D} : (zipD xs ys).length = min xs.length ys.length := by unfold zipD; simp
theorem itd_zip {K : PySem.W.Frag} {a b : Addr} {us vs : List V} {xs ys : List D} {F : Hp} (ha : SqL K F a us) (hb : SqL K F b vs) (rx : RpAll K F us xs) (ry : RpAll K F vs ys) : ItD K (Itz K a b) (zipD xs ys) F where
  goes := fun i F1 H hi e1 e2 => by
    rw [zipD_length, ← rx.length, ← ry.length] at hi
    have h1 : i < us.length := by omega
    have h2 : i < vs.length := by omega
    exact ⟨us, vs, us[i], vs[i], e2.seq (e1.seq ha), e2.seq (e1.seq hb), List.getElem?_eq_getElem h1, List.getElem?_eq_getElem h2⟩
  stops := fun F1 H e1 e2 => ⟨us, vs, e2.seq (e1.seq ha), e2.seq (e1.seq hb), by rw [zipD_length, ← rx.length, ← ry.length]; omega⟩
  yields := fun i F1 H x H' hi e1 e2 ⟨T, u, v, e3, hT, e4, hu, hv⟩ => by
    subst e3 e4
    obtain ⟨d1, h1, h2⟩ := rx.at' (hu us (e2.seq (e1.seq ha)))
    obtain ⟨d2, h3, h4⟩ := ry.at' (hv vs (e2.seq (e1.seq hb)))
    have fx : Fx F1 H _ _ := Fx.alloc (u := .tup [u, v]) e2 hT
    exact ⟨_, .tuple [d1, d2], zipD_at h1 h3, fx, .tup (.inl (.inl upd_same)) (.cons ((h2.mono e1).mono fx.ff) (.cons ((h4.mono e1).mono fx.ff) .nil))⟩
theorem itd_zipT {K : PySem.W.Frag} {a b : Addr} {us vs : List V} {xs ys : List D} {F : Hp} (ha : SqT K F a us) (hb : SqT K F b vs) (rx : RpAll K F us xs) (ry : RpAll K F vs ys) : ItD K (RZ.ItzT K a b) (zipD xs ys) F where
  goes := fun i F1 H hi e1 e2 => by
    rw [zipD_length, ← rx.length, ← ry.length] at hi
    have h1 : i < us.length := by omega
    have h2 : i < vs.length := by omega
    exact ⟨us, vs, us[i], vs[i], seqT e2 (seqT e1 ha), seqT e2 (seqT e1 hb), List.getElem?_eq_getElem h1, List.getElem?_eq_getElem h2⟩
  stops := fun F1 H e1 e2 => ⟨us, vs, seqT e2 (seqT e1 ha), seqT e2 (seqT e1 hb), by rw [zipD_length, ← rx.length, ← ry.length]; omega⟩
  yields := fun i F1 H x H' hi e1 e2 ⟨T, u, v, e3, hT, e4, hu, hv⟩ => by
    subst e3 e4
    obtain ⟨d1, h1, h2⟩ := rx.at' (hu us (seqT e2 (seqT e1 ha)))
    obtain ⟨d2, h3, h4⟩ := ry.at' (hv vs (seqT e2 (seqT e1 hb)))
    have fx : Fx F1 H _ _ := Fx.alloc (u := .tup [u, v]) e2 hT
    exact ⟨_, .tuple [d1, d2], zipD_at h1 h3, fx, .tup (.inl (.inl upd_same)) (.cons ((h2.mono e1).mono fx.ff) (.cons ((h4.mono e1).mono fx.ff) .nil))⟩
theorem di_zip {κ : List D → Env → R α → Prop} {a b : Expr} {p pos tp : Pos} {es : List Expr} {kk : Nat} (hm : C.mg ("zip" : Str) = none)
    (h : DE C ρ a m fun x ρ1 m1 => DE C ρ1 b m1 fun y ρ2 m2 => ∃ g, m2 = (zipI x y).bind g ∧ ∀ items, κ items ρ2 (g items)) (hg : C.sc.names.lookup ("zip" : Str) = some .globalImplicit := by rfl)
    (hs : ∀ env : PySem.Env, starEach [a, b] env = (false, eval a env) :: starEach [b] env := by intro _; rfl) (hs2 : ∀ env : PySem.Env, starEach [b] env = (false, eval b env) :: starEach [] env := by intro _; rfl)
    (hpl : ∀ env : PySem.Env, (backTo pos (starEach [b] env)).any (·.1) = false := by intro _; rfl) : DI C ρ (.Tuple es kk tp) (.Call (.Name "zip" p) [a, b] [] pos) m κ := by
  intro X W Z x hK c z
  have ha : DA C ρ [a, b] m fun ds ρ2 m2 => ∃ d1 d2, ds = [d1, d2] ∧ ∃ g, m2 = (zipI d1 d2).bind g ∧ ∀ items, κ items ρ2 (g items) :=
    da_cons (fun X W Z x hK c z => PE_imp (h X W Z x hK c z) fun σ H Q ⟨F, r, q⟩ => ⟨F, r, fun d ρ' m' v H' F' k1 => q d ρ' m' v H' F'
      (da_cons (fun X W Z x hK c z => PE_imp (k1 X W Z x hK c z) fun σ H Q ⟨F, r, q⟩ => ⟨F, r, fun d ρ' m' v H' F' k2 => q d ρ' m' v H' F' (da_nil ⟨_, _, rfl, k2⟩)⟩) hs2)⟩) hs
  refine PI_imp (RZ.pi_zipA (x.gl hg) (x.mg0 hm) (ha X W Z x hK c z) (hs _) (hpl _)) fun σ H Rr ⟨F, r, q⟩ => ⟨F, r, fun ds ρ' m' vs H' F' ⟨d1, d2, ed, g, e, hgg⟩ h2 h3 h4 h5 => ?_⟩
  subst ed e
  obtain ⟨items, ei, zi⟩ := c.bind h2
  obtain ⟨v, u, rfl, r1, r2⟩ := h5.two
  unfold zipI at ei
  split at ei
  · cases ei
    obtain ⟨p1, us, rfl, hp1, ru⟩ := r1.toList
    obtain ⟨p2, vs, rfl, hp2, rv⟩ := r2.toList
    refine ⟨p1, p2, us, vs, rfl, .inl ⟨SqL.of (h3.sub _ _ hp1), SqL.of (h3.sub _ _ hp2), q _ ρ' _ _ H' F' (hgg _) zi h3 h4 ?_⟩⟩
    rw [x.K, ← hK]
    exact itd_zip (SqL.of hp1) (SqL.of hp2) ru rv
  · cases ei
    obtain ⟨p1, us, rfl, hp1, ru⟩ := r1.toTup
    obtain ⟨p2, vs, rfl, hp2, rv⟩ := r2.toTup
    refine ⟨p1, p2, us, vs, rfl, .inr ⟨by rw [x.K, ← hK]; exact seqT h3.sub hp1, by rw [x.K, ← hK]; exact seqT h3.sub hp2, q _ ρ' _ _ H' F' (hgg _) zi h3 h4 ?_⟩⟩
    rw [x.K, ← hK]
    exact itd_zipT hp1 hp2 ru rv
  · cases ei
/-! ### a list of one's own that nobody changes any more -/
theorem ds_keep {J : Jd α} {sts : List Stmt} (i : Nat) {xs : List D} (hρ : ρ[i]? = some (some (.own xs))) (k : DSs C (ρ.set i (some (.val (.list xs)))) sts m J) : DSs C ρ sts m J := by
  intro X W Z x hK c z
  refine PSs_imp (k X W Z x hK c z) fun D σ H ⟨F, r, l⟩ => ?_
  obtain ⟨p, F', h1, r', ss, rp⟩ := r.freeze hρ
  exact ⟨F', r', l⟩
end
end Z

set_option Elab.async false
set_option linter.all false
set_option maxRecDepth 100000
set_option autoImplicit false
/-! # Z20: what is shown of points tells them apart -/
namespace Z
open PySem L2 TL

def intL (i : Int) : List Nat := if 0 ≤ i then numL i.toNat else 45 :: numL i.natAbs
theorem tl_int (i : Int) : tl (PyData.int i).shown = intL i := by
  show tl (Str.ofString (toString i)) = _
  unfold intL
  by_cases h : 0 ≤ i
  · rw [if_pos h]
    obtain ⟨n, rfl⟩ := Int.eq_ofNat_of_zero_le h
    exact tl_num n
  · rw [if_neg h]
    obtain ⟨n, rfl⟩ : ∃ n : Nat, i = Int.negSucc n := by
      cases i with
      | ofNat n => exact absurd (Int.natCast_nonneg n) h
      | negSucc n => exact ⟨n, rfl⟩
    rw [tl_ofString]
    have e : toString (Int.negSucc n) = "-" ++ Nat.repr (n + 1) := rfl
    rw [e, String.toList_append, List.map_append]
    have e2 := tl_num (n + 1)
    rw [tl_ofString] at e2
    have e3 : toString ((n + 1 : Nat) : Int) = Nat.repr (n + 1) := rfl
    rw [e3] at e2
    rw [e2]; rfl
theorem intL_free {i : Int} {s : Nat} (h : s = 44 ∨ s = 41) : s ∉ intL i := by
  unfold intL
  split
  · exact numL_free (by omega)
  · intro hm
    rcases List.mem_cons.mp hm with q | q
    · omega
    · exact numL_free (by omega) q
theorem intL_inj {i j : Int} (h : intL i = intL j) : i = j := by
  unfold intL at h
  have no : ∀ {n : Nat} {l : List Nat}, numL n = 45 :: l → False := fun {n l} e => numL_free (n := n) (s := 45) (by omega) (by rw [e]; simp)
  split at h <;> split at h
  · have := numL_inj h; omega
  · exact (no h).elim
  · exact (no h.symm).elim
  · have := numL_inj (List.cons.inj h).2; omega
theorem split_at {s : Nat} : ∀ {a b c d : List Nat}, s ∉ a → s ∉ b → a ++ s :: c = b ++ s :: d → a = b ∧ c = d
  | [], [], c, d, _, _, h => ⟨rfl, (List.cons.inj h).2⟩
  | [], y :: b, c, d, _, hb, h => absurd (List.cons.inj h).1 (fun q => hb (by rw [q]; simp))
  | x :: a, [], c, d, ha, _, h => absurd (List.cons.inj h).1 (fun q => ha (by rw [← q]; simp))
  | x :: a, y :: b, c, d, ha, hb, h => by
    obtain ⟨h1, h2⟩ := List.cons.inj h
    obtain ⟨e1, e2⟩ := split_at (fun q => ha (by simp [q])) (fun q => hb (by simp [q])) h2
    exact ⟨by rw [h1, e1], e2⟩
theorem tl_pair (a b : D) : tl (PyData.tuple [a, b]).shown = 40 :: (tl a.shown ++ 44 :: 32 :: (tl b.shown ++ [41])) := by
  have e : (PyData.tuple [a, b]).shown = ("(" : Str) ++ (a.shown ++ (", " : Str) ++ b.shown) ++ (")" : Str) := by
    simp only [PyData.shown, PyData.shownAll]; rfl
  rw [e, tl_append, tl_append, tl_append, tl_append]
  have e1 : tl ("(" : Str) = [40] := by decide +kernel
  have e2 : tl (", " : Str) = [44, 32] := by decide +kernel
  have e3 : tl (")" : Str) = [41] := by decide +kernel
  rw [e1, e2, e3]; simp
theorem lot_inj {u v : Vc} (h : (lotD u).shown = (lotD v).shown) : u = v := by
  have e := congrArg tl h
  unfold lotD at e
  rw [tl_pair, tl_pair, tl_int, tl_int, tl_int, tl_int] at e
  obtain ⟨_, e⟩ := List.cons.inj e
  obtain ⟨e1, e2⟩ := split_at (intL_free (.inl rfl)) (intL_free (.inl rfl)) e
  obtain ⟨_, e2⟩ := List.cons.inj e2
  obtain ⟨e3, _⟩ := split_at (intL_free (.inr rfl)) (intL_free (.inr rfl)) e2
  exact Prod.ext (intL_inj e1) (intL_inj e3)
theorem point_inj {p q : Vc × Int} (h : (pointD p).shown = (pointD q).shown) : p = q := by
  have e := congrArg tl h
  unfold pointD lotD at e
  rw [tl_pair, tl_pair, tl_pair, tl_pair, tl_int, tl_int, tl_int, tl_int, tl_int, tl_int] at e
  simp only [List.cons_append, List.append_assoc] at e
  obtain ⟨_, e⟩ := List.cons.inj e
  obtain ⟨_, e⟩ := List.cons.inj e
  obtain ⟨e1, e⟩ := split_at (intL_free (.inl rfl)) (intL_free (.inl rfl)) e
  obtain ⟨_, e⟩ := List.cons.inj e
  obtain ⟨e2, e⟩ := split_at (intL_free (.inr rfl)) (intL_free (.inr rfl)) e
  simp only [List.nil_append, List.cons_append] at e
  obtain ⟨_, e⟩ := List.cons.inj e
  obtain ⟨_, e⟩ := List.cons.inj e
  obtain ⟨e3, _⟩ := split_at (intL_free (.inr rfl)) (intL_free (.inr rfl)) e
  exact Prod.ext (Prod.ext (intL_inj e1) (intL_inj e2)) (intL_inj e3)
end Z

set_option Elab.async false
set_option linter.all false
set_option maxRecDepth 100000
set_option autoImplicit false
/-! # Z21: comparisons in a chain; a def that calls itself; the greatest of numbers -/
namespace Z
open PySem L2
section
variable {α : Type} {C : Ct} {ρ : Env} {m : R α}
theorem dt_chain {κ : Bool → Env → R α → Prop} {op op' : CmpOp} {f f' : D → D → R Bool} {a b e : Expr} {pos : Pos} (ho : CmpS op f) (ho' : CmpS op' f')
    (h : DE C ρ a m fun x ρ1 m1 => DE C ρ1 b m1 fun y ρ2 m2 => ∃ A B, m2 = ((f x y).bind fun t => if t = true then A else B) ∧ (DE C ρ2 e A fun z ρ3 m3 => ∃ g, m3 = (f' y z).bind g ∧ ∀ t, κ t ρ3 (g t)) ∧ κ false ρ2 B)
    (hm : lastMarks [op, op'] [b, e] = false := by with_unfolding_all rfl) : DT C ρ (.Compare a [op, op'] [b, e] pos) m κ := by
  intro X W Z x hK c0 z
  have hb : PE X b fun σ H Q => ∃ i : R α × Env × D, (DE C i.2.1 b i.1 (fun y ρ2 m2 => ∃ A B, m2 = ((f i.2.2 y).bind fun t => if t = true then A else B) ∧ (DE C ρ2 e A fun z ρ3 m3 => ∃ g, m3 = (f' y z).bind g ∧ ∀ t, κ t ρ3 (g t)) ∧ κ false ρ2 B) ∧ Z i.1) ∧
      ∃ F, Rel W i.2.1 σ H F ∧ ∀ d ρ' m' v H' F', (∃ A B, m' = ((f i.2.2 d).bind fun t => if t = true then A else B) ∧ (DE C ρ' e A fun z ρ3 m3 => ∃ g, m3 = (f' d z).bind g ∧ ∀ t, κ t ρ3 (g t)) ∧ κ false ρ' B) → Z m' → Rel W ρ' σ H' F' → Same F F' → Rp W.K F' v d → Q v H' :=
    ⟨fun p s σ H Q I ⟨i, pi, q⟩ => (pi.1 X W Z x hK c0 pi.2).run p s σ H Q I q⟩
  have he : PE X e fun σ H Q => ∃ i : R α × Env × D, (DE C i.2.1 e i.1 (fun z ρ3 m3 => ∃ g, m3 = (f' i.2.2 z).bind g ∧ ∀ t, κ t ρ3 (g t)) ∧ Z i.1) ∧
      ∃ F, Rel W i.2.1 σ H F ∧ ∀ d ρ' m' v H' F', (∃ g, m' = (f' i.2.2 d).bind g ∧ ∀ t, κ t ρ' (g t)) → Z m' → Rel W ρ' σ H' F' → Same F F' → Rp W.K F' v d → Q v H' :=
    ⟨fun p s σ H Q I ⟨i, pi, q⟩ => (pi.1 X W Z x hK c0 pi.2).run p s σ H Q I q⟩
  refine PT_imp (pt_chain (ho X _ x.room) (ho' X _ x.room) (h X W Z x hK c0 z) hb he hm) fun σ H Q ⟨F, r, q⟩ => ⟨F, r, fun dx ρ1 m1 vx H1 F1 h1 h2 h3 h4 h5 => ?_⟩
  refine ⟨(m1, ρ1, dx), ⟨h1, h2⟩, F1, h3, fun dy ρ2 m2 vy H2 F2 ⟨A, B, e2, hA, hB⟩ k2 k3 k4 k5 => ?_⟩
  subst e2
  obtain ⟨t, et, zt⟩ := c0.bind k2
  refine ⟨F2, dx, dy, t, k3.sub, by rw [x.K, ← hK]; exact h5.mono k4, by rw [x.K, ← hK]; exact k5, et, t, rfl, ?_⟩
  cases t with
  | true =>
    rw [if_pos rfl] at zt ⊢
    refine ⟨(A, ρ2, dy), ⟨hA, zt⟩, F2, k3, fun dz ρ3 m3 vz H3 F3 ⟨g, e3, hg⟩ j2 j3 j4 j5 => ?_⟩
    subst e3
    obtain ⟨t2, et2, zt2⟩ := c0.bind j2
    exact ⟨F3, dy, dz, t2, j3.sub, by rw [x.K, ← hK]; exact k5.mono j4, by rw [x.K, ← hK]; exact j5, et2, t2, rfl, q t2 ρ3 _ H3 F3 (hg t2) zt2 j3 ((h4.trans k4).trans j4)⟩
  | false =>
    rw [if_neg Bool.false_ne_true] at zt ⊢
    exact ⟨false, rfl, q false ρ2 _ H2 F2 hB zt k3 (h4.trans k4)⟩
/-- nothing is said -/
theorem dss_stuck {J : Jd α} {sts : List Stmt} : DSs C ρ sts (.stuck : R α) J := fun X W Z x hK c z => (c.st z).elim
end
def maxI : D → R D
  | .list xs => match intsD xs with
    | some (n :: ns) => .ok (.int (ns.foldl max n))
    | _ => .stuck
  | _ => .stuck
theorem foldl_max (ns : List Int) : ∀ n : Int, (ns.foldl max n ∈ n :: ns) ∧ ∀ y ∈ n :: ns, y ≤ ns.foldl max n := by
  induction ns with
  | nil => intro n; simp
  | cons a ns ih =>
    intro n
    obtain ⟨h1, h2⟩ := ih (max n a)
    rw [List.foldl_cons]
    refine ⟨?_, fun y hy => ?_⟩
    · rcases List.mem_cons.mp h1 with h | h
      · rw [h]
        rcases Int.le_total n a with q | q
        · rw [Int.max_eq_right q]; simp
        · rw [Int.max_eq_left q]; simp
      · simp [h]
    · have h0 := h2 (max n a) (by simp)
      rcases List.mem_cons.mp hy with rfl | hy
      · exact Int.le_trans (Int.le_max_left _ _) h0
      · rcases List.mem_cons.mp hy with rfl | hy
        · exact Int.le_trans (Int.le_max_right _ _) h0
        · exact h2 y (by simp [hy])
theorem bl_maxI : CallS (.builtin "max") (fn1 maxI) := by
  intro X k hc hr gd pins s σ H vs us Q I rv ⟨F, ds, c, sub, ra0, e0, q⟩
  obtain ⟨a, rfl, e⟩ := fn1_ok e0
  obtain ⟨v, rfl, ra⟩ := ra0.one
  unfold maxI at e
  split at e
  · split at e
    · rename_i n ns hn; cases e
      obtain ⟨p, xs, rfl, hp, rxs⟩ := ra.toList
      have ex := ints_of rxs hn
      subst ex
      refine cr_max hc pins s σ H _ us Q I rv ⟨_, n :: ns, rfl, SqL.of (sub _ _ hp), by simp, fun m hm hm2 => ?_⟩
      obtain ⟨h1, h2⟩ := foldl_max ns n
      have : m = ns.foldl max n := Int.le_antisymm (h2 m hm) (hm2 _ h1)
      rw [this]
      exact q _ H F (Fx.refl sub) (.int _)
    · cases e
  · cases e
end Z

set_option Elab.async false
set_option linter.all false
set_option maxRecDepth 100000
set_option autoImplicit false
/-! # Z22: dicts of their own (keys: nested tuples of whole numbers), constants that are whole numbers -/
namespace Z
open PySem L2

def setDM (kvs : List (D × D)) (k d : D) : R (List (D × D)) := match keyN k with
  | some n => if decide (kvs.length < 16777216) then .ok (dSet kvs k n d) else .stuck
  | none => .stuck

/-- what was made ahead gets its slot later -/
theorem Rel.laterG {W : Wd} {ρ ρ1 : Env} {σ σ1 : L2.St} {H F H1 F1 : Hp} {io : List Addr} {p : Addr} {u : HO} {sl : Sl} (r : Rel ⟨W.K, F1, upd H1 p u, io⟩ ρ σ H F) (r1 : Rel W ρ1 σ1 H1 F1) (hio : ∀ b ∈ io, b ∈ W.io ∨ W.H0 b = none) (hn : p ∉ io) (hp : H1 p = none)
    (mk : Same F1 F → H p = some u → F p = none → SlR W.K F H sl (.ref p) [p]) (i : Nat) : Rel W (ρ.set i (some sl)) (σ.set i (some (.ref p))) H F := by
  have h0 : upd H1 p u p = some u := upd_same
  have hF : F p = none := r.free0 h0 hn (r1.sub.free hp)
  have hH : H p = some u := r.keep p _ h0 hn
  have no : ∀ b, upd H1 p u b = none → W.H0 b = none := fun b q => by
    by_cases hb : b = p
    · subst hb; rw [upd_same] at q; cases q
    · rw [upd_ne hb] at q; exact r1.base q
  have up : ∀ b o, H1 b = some o → upd H1 p u b = some o := fun b o h => by rw [upd_ne (ne_of_none h hp)]; exact h
  refine ⟨r.sub, r1.sub0.trans r.sub0, fun b o h n => ?_, fun b o h => ?_, ?_, by rw [List.length_set, List.length_set]; exact r.len, fun b o h => ?_⟩
  · refine r.keep b o (up b o (r1.keep b o h n)) fun hb => ?_
    rcases hio b hb with q | q
    · exact n q
    · rw [h] at q; cases q
  · rcases r.fresh b o h with q | q | q
    · exact r1.fresh b o q
    · exact .inr (.inl (no b q))
    · exact .inr ((hio b q).elim .inr .inl)
  · obtain ⟨ad, k⟩ := r.env
    have nad : ∀ j sl, ρ[j]? = some (some sl) → p ∉ ad j := fun j sl e hb => by
      obtain ⟨v, _, _, h3, _⟩ := k j sl e
      rcases h3 p hb with z | z
      · exact hn z
      · replace z : upd H1 p u p = none := z
        rw [upd_same] at z; cases z
    refine ⟨fun j => if j = i then [p] else ad j, fun j sl e => ?_⟩
    rcases get_set e with ⟨e1, e2, e3⟩ | ⟨e1, e2⟩
    · subst e1; cases e3
      refine ⟨.ref p, by rw [List.getElem?_set_self (Nat.lt_of_lt_of_le e2 r.len)], by simpa using mk r.sub0 hH hF, by simp [r1.base hp], fun l sl' hl e' b hb => ?_⟩
      have hb' : b = p := by simpa using hb
      subst hb'
      have ne : l ≠ i := fun q => hl q.symm
      simp only [if_neg ne]
      rcases get_set e' with ⟨z1, _, _⟩ | ⟨z1, z2⟩
      · exact absurd z1 hl
      · exact nad l sl' z2
    · have ne : j ≠ i := fun q => e1 q.symm
      simp only [if_neg ne]
      obtain ⟨v', k1, k2, k3, k4⟩ := k j sl e2
      refine ⟨v', by rw [List.getElem?_set_ne e1]; exact k1, k2, fun b hb => (k3 b hb).elim (hio b) fun q => .inr (no b q), fun l sl'' hl e' b hb => ?_⟩
      rcases get_set e' with ⟨z1, z2, z3⟩ | ⟨z1, z2⟩
      · subst z1; cases z3
        simp only [if_true]
        intro hbl
        have hb' : b = p := by simpa using hbl
        subst hb'
        exact nad j sl e2 hb
      · have ne' : l ≠ i := fun q => z1 q.symm
        simp only [if_neg ne']
        exact k4 l sl'' hl z2 b hb
  · obtain ⟨o1, h1⟩ := r1.trk b o h
    exact r.trk b o1 (up b o1 h1)

/-- {}, a dict of one's own -/
def tDNewX : TE := fun _ H Q => ∀ p, H p = none → Q (.ref p) (upd H p (dctO p []))
theorem pe_dnewX {X : Cx} {pos : Pos} : PE X (.Dict [] [] pos) tDNewX := ⟨fun pins s σ H Q I h =>
  wpAny_Dict_empty ⟨.ref s.heap.objs.size, _, I.laid (a := s.heap.objs.size) (o := dctO s.heap.objs.size []) (t' := s.toks) (fun _ _ q => Heap.get?_push_of_some _ q) (Nat.le_refl _)
    (dctO_ok ⟨beq_eq_false_iff_ne.mpr (Ne.symm (Nat.ne_of_lt I.big)), Nat.zero_le _, List.nodup_nil, by simp, X.w, _, #[], 0, Heap.get?_push_size _ rfl, ⟨rfl, rfl, rfl⟩, rfl, .nil⟩), rfl, h _ (I.hok.fresh (Nat.le_refl _))⟩⟩

section
variable {X : Cx} {pins : List (Addr × Obj)} {σ : L2.St} {H F : Hp} {s : Shared}
theorem dctO_get (I : Inv X pins σ H s) (e : Same F H) {a : Addr} {xs : List DEnt} {kvs : List (D × D)} (hH : H a = some (dctO a xs)) (r : DcR X.K F xs kvs) : (a == sysModules) = false ∧ kvs.length ≤ sizeLine ∧
    ∃ ys : List (NestedKey × Addr × Value), s.heap.DictOfH (nestedKind X.prog X.w) a ys ∧ Paired (DR X.K F) kvs ys ∧ ys.length = kvs.length := by
  obtain ⟨⟨z1, z2, z3, z4, w, o, es, ep, ho, hx, hd, pr⟩, _⟩ := (show ObjOk X.prog X.w H s.heap a (dctO a xs) from I.hok a _ hH)
  obtain ⟨ys, y1, y2, y3, y4⟩ := ents I e w r.ks r.nk r.vs pr z4
  rw [zip_self] at y3
  have l1 := paired_len y3
  have l2 : ys.length = xs.length := by rw [← List.length_map (f := (·.1)), y2, List.length_map]
  exact ⟨z1, by omega, ys, ⟨o, es, ep, ho, hx, hd, y1, y4, by rw [y2]; exact z3⟩, y3, l1.symm⟩
end
def rSetX (K : PySem.W.Frag) : V → V → V → Hp → (Hp → Prop) → Prop := fun o i v H Q => ∃ F p b xs kvs kd n d, o = .ref p ∧ i = .ref b ∧ H p = some (dctO p xs) ∧ Same F H ∧ DcR K F xs kvs ∧ Rp K F (.ref b) kd ∧ keyN kd = some n ∧ Rp K F v d ∧ kvs.length < 16777216 ∧
  ∀ xs', DcR K F xs' (dSet kvs kd n d) → Q (upd H p (dctO p xs'))
theorem set_dictX {X : Cx} {k : Nat} (hr : Room k X.A) : PSet X (rSetX X.K) := by
  intro pins s σ H o i v ov iv u Q I ro ri rv ⟨F, p, b, xs, kvs, kd, n, d, e1, e2, hH, sub, r, rk, hk, rd, hz, q⟩
  subst e1 e2
  cases ro
  cases ri
  obtain ⟨z1, z2, ys, hd, pr, hl⟩ := dctO_get I sub hH r
  obtain ⟨hk1, hk2, _⟩ := keyN_nk hk
  refine wpAny_setItem_heap (knd := nestedKind X.prog X.w) (k := n) (by have := hr.units; show X.A.units + 1 + 8 < cLine; omega) (key_is I sub rk hk1 hk2) hd (fun h' hd' hs => ?_) (by rw [sizeLine_eq] at z2 ⊢; omega)
  have pr' := dset_rel pr rk hk1 rv rd
  have hz' : (dSet kvs kd n d).length ≤ sizeLine := by
    have := dset_length kvs kd n d
    rw [sizeLine_eq]; omega
  obtain ⟨xs', d1, d2, d3, d4⟩ := dct_put z1 hz' hd' pr'
  exact ⟨_, d_write I (by rw [hH]; exact True.intro) hs (let ⟨q, _, _, hq, _⟩ := hd'; ⟨q, hq⟩) (dctO_ok d1), q xs' ⟨d2, d3, d4⟩⟩

section
variable {α : Type} {C : Ct} {ρ : Env} {m : R α}
/-- an expression that makes a new dict -/
def DND {α : Type} (C : Ct) (ρ : Env) (e : Expr) (m : R α) (κ : List (D × D) → Env → R α → Prop) : Prop :=
  ∀ (X : Cx) (W : Wd) (Z : R α → Prop), XOk C X → W.K = C.K → Cl Z → Z m →
    PE X e fun σ H Q => ∃ F, Rel W ρ σ H F ∧ ∀ kvs ρ' m' xs p H' F', κ kvs ρ' m' → Z m' → Rel W ρ' σ H' F' → Same F F' → H' p = none → DcR W.K F' xs kvs → Q (.ref p) (upd H' p (dctO p xs))
theorem dnd_empty {κ : List (D × D) → Env → R α → Prop} {pos : Pos} (k : κ [] ρ m) : DND C ρ (.Dict [] [] pos) m κ := by
  intro X W Z x hK c z
  refine PE_imp pe_dnewX fun σ H Q ⟨F, r, q⟩ => fun p hp => ?_
  exact q [] ρ m [] p H F k z r (Same.refl _) hp ⟨.nil, rfl, .nil⟩
theorem ds_dct {J : Jd α} {n : Str} {e : Expr} {p pos : Pos} {rest : List Stmt} (i : Nat) (h : DND C ρ e m fun kvs ρ1 m1 => DSs C (ρ1.set i (some (.dct kvs))) rest m1 J) (hN : C.N[i]? = some n := by rfl)
    (hx : Loc C.sc n := by first | exact Or.inl rfl | exact Or.inr rfl) (hfn : C.fn n = true ∨ C.sc.names.lookup n = some .local := by first | exact Or.inl rfl | exact Or.inr rfl) (hs : ∀ env : PySem.Env, env.scope = C.sc → swapsWith e (some (.Name n p)) pos.line env = pure false := by intro env he; rfl) : DSs C ρ (.Assign [.Name n p] e pos :: rest) m J := by
  intro X W Z x hK c z
  have hf : X.fn n = true ∨ X.env.scope.names.lookup n = some .local := hfn.elim (fun h => .inl (x.fnl n h)) fun h => .inr (by rw [x.sc]; exact h)
  refine PSs_imp (pss_cons (ps_set (i := i) (by rw [x.N]; exact x.nd) (by rw [x.N]; exact hN) (by rw [x.sc]; exact hx) (h X W Z x hK c z) (hs _ x.sc) hf) (rest_run (J := J) x hK c)) fun D σ H ⟨F, r, l⟩ => ?_
  refine ⟨F, r, fun kvs ρ' m' xs p H' F' h1 h2 h3 h4 h5 h6 => ⟨(m', _), ⟨h1, h2⟩, F', ?_, l⟩⟩
  refine h3.give (F' := F') (H' := upd H' p (dctO p xs)) ⟨Same.refl _, fun b o q => by rw [upd_ne (ne_of_none (h3.sub b o q) h5)]; exact h3.sub b o q, fun b o q => by rw [upd_ne (ne_of_none q h5)]; exact q, fun _ _ q => .inl q⟩ i (as := [p]) ⟨p, xs, rfl, rfl, upd_same, h3.sub.free h5, h6⟩ (by simpa using h5)
theorem dps_dct {κ : Env → R α → Prop} {e : Expr} {es : List Expr} {is : List Nat} (i : Nat) (h : DND C ρ e m fun kvs ρ1 m1 => DPs C ρ1 es is m1 fun ρ2 m2 => κ (ρ2.set i (some (.dct kvs))) m2) (hi : i ∉ is := by decide)
    (hs : ∀ env : PySem.Env, starEach (e :: es) env = (false, eval e env) :: starEach es env := by intro _; rfl) : DPs C ρ (e :: es) (i :: is) m κ := by
  intro X W Z x hK c z
  have rest : PA X es fun σ H Q => ∃ (W' : Wd) (j : R α × Env × List (D × D)), W'.K = C.K ∧ (DPs C j.2.1 es is j.1 (fun ρ2 m2 => κ (ρ2.set i (some (.dct j.2.2))) m2) ∧ Z j.1) ∧ ∃ F, Rel W' j.2.1 σ H F ∧ ∀ vs ρ' m' H' F', κ (ρ'.set i (some (.dct j.2.2))) m' → Z m' → vs.length = is.length → Rel W' ρ' (setAll σ is vs) H' F' → Same F F' → Q vs H' :=
    ⟨fun po p s σ H Q I ⟨W', j, hK', pj, q⟩ => (pj.1 X W' Z x hK' c pj.2).run po p s σ H Q I q⟩
  refine PA_imp (pa_cons (h X W Z x hK c z) rest (hs _)) fun σ H Q ⟨F, r, q⟩ => ⟨F, r, fun kvs ρ1 m1 xs p H1 F1 h1 h2 h3 h4 hp h5 => ?_⟩
  obtain ⟨io, rt, hio, hth⟩ := h3.turn
  have hnio : p ∉ io := fun hb => by obtain ⟨o, e⟩ := hth p hb; rw [hp] at e; cases e
  refine ⟨⟨W.K, F1, upd H1 p (dctO p xs), io⟩, (m1, ρ1, kvs), hK, ⟨h1, h2⟩, F1, rt.newAt hp hp _, fun vs ρ2 m2 H2 F2 k1 k2 k3 k4 k5 => q (.ref p :: vs) _ m2 H2 F2 k1 k2 (by simp [k3]) ?_ (h4.trans k5)⟩
  show Rel W _ (setAll (σ.set i (some (.ref p))) is vs) H2 F2
  rw [← setAll_set hi]
  exact k4.laterG (sl := .dct kvs) h3 hio hnio hp (fun sF hH hF => ⟨p, xs, rfl, rfl, hH, hF, h5.mono sF⟩) i
/-- it is read, and from now on a value -/
theorem de_takeD {κ : D → Env → R α → Prop} {n : Str} {pos : Pos} (i : Nat) {kvs : List (D × D)} (hρ : ρ[i]? = some (some (.dct kvs))) (k : κ (.dict kvs) (ρ.set i (some (.val (.dict kvs)))) m) (hN : C.N[i]? = some n := by rfl)
    (hv : Vis C.sc n := by first | exact Or.inl rfl | exact Or.inr (Or.inl rfl) | exact Or.inr (Or.inr rfl)) (hd : (n == ("__debug__" : Str)) = false := by decide) (hcd : (n == ("__classdict__" : Str)) = false := by decide) : DE C ρ (.Name n pos) m κ := by
  intro X W Z x hK c z
  refine PE_imp (pe_var (i := i) (by rw [x.N]; exact hN) (x.vis hv) hd hcd) fun σ H Q ⟨F, r, q⟩ => ?_
  obtain ⟨p, F', h1, h2, h3, h4⟩ := r.freezeD hρ
  exact ⟨_, h1, q _ _ m _ H F' k z h2 h3 h4⟩
theorem ds_keepD {J : Jd α} {sts : List Stmt} (i : Nat) {kvs : List (D × D)} (hρ : ρ[i]? = some (some (.dct kvs))) (k : DSs C (ρ.set i (some (.val (.dict kvs)))) sts m J) : DSs C ρ sts m J := by
  intro X W Z x hK c z
  refine PSs_imp (k X W Z x hK c z) fun D σ H ⟨F, r, l⟩ => ?_
  obtain ⟨p, F', h1, r', ss, rp⟩ := r.freezeD hρ
  exact ⟨F', r', l⟩
/-- d[e1] = e2 -/
theorem ds_setD {J : Jd α} {n : Str} {e1 e2 : Expr} {np sp pos : Pos} {rest : List Stmt} (i : Nat) (h : DE C ρ e2 m fun d ρ1 m1 => (∃ kvs0, ρ1[i]? = some (some (.dct kvs0))) ∧ DE C ρ1 e1 m1 fun j ρ2 m2 => ∃ kvs g, ρ2[i]? = some (some (.dct kvs)) ∧ m2 = (setDM kvs j d).bind g ∧ ∀ ys, DSs C (ρ2.set i (some (.dct ys))) rest (g ys) J) (hN : C.N[i]? = some n := by rfl)
    (hv : Vis C.sc n := by first | exact Or.inl rfl | exact Or.inr (Or.inl rfl) | exact Or.inr (Or.inr rfl)) (hd : (n == ("__debug__" : Str)) = false := by decide) (hcd : (n == ("__classdict__" : Str)) = false := by decide)
    (ha : ∀ (env : PySem.Env) v, assign (.Subscript (.Name n np) e1 sp) env v = (do
      let ov ← holding [v] (eval (.Name n np) env)
      let iv ← holding [v, ov] (eval e1 env)
      standAt sp
      holding [v, ov, iv] (setItem ov iv v)
      release [v, ov, iv] []) := by intro _ _; rfl)
    (hs : ∀ env : PySem.Env, env.scope = C.sc → swapsWithSole [.Subscript (.Name n np) e1 sp] e2 pos.line env = pure false := by intro env he; rfl) (hw : ∀ env : PySem.Env, env.scope = C.sc → swappedStores [.Subscript (.Name n np) e1 sp] e2 env = pure none := by intro env he; rfl)
    (h1 : ∀ env : PySem.Env, (assignEach [.Subscript (.Name n np) e1 sp] env).map (·.2) = [assign (.Subscript (.Name n np) e1 sp) env] := by intro _; rfl) : DSs C ρ (.Assign [.Subscript (.Name n np) e1 sp] e2 pos :: rest) m J := by
  intro X W Z x hK c z
  have hi : PE X e1 fun σ H Q => ∃ (q : R α × Env) (κ : D → Env → R α → Prop), (DE C q.2 e1 q.1 κ ∧ Z q.1) ∧ ∃ F, Rel W q.2 σ H F ∧ ∀ d ρ' m' v H' F', κ d ρ' m' → Z m' → Rel W ρ' σ H' F' → Same F F' → Rp W.K F' v d → Q v H' :=
    ⟨fun p s σ H Q I ⟨i, κ, pi, q⟩ => (pi.1 X W Z x hK c pi.2).run p s σ H Q I q⟩
  refine PSs_imp (pss_cons (ps_asg (h X W Z x hK c z) (pg_sub (own_name x hN hv hd hcd) hi (set_dictX x.room) (ha _)) (hs _ x.sc) (hw _ x.sc) (h1 _)) (rest_run (J := J) x hK c)) fun Dn σ H ⟨F, r, l⟩ => ?_
  refine ⟨F, r, fun d ρ1 m1 v H1 F1 ⟨⟨kvs0, e0⟩, k1⟩ k2 k3 k4 k5 => ?_⟩
  obtain ⟨p, xs, a1, a2, _, _, _⟩ := k3.dctAt e0
  refine ⟨_, a1, (m1, ρ1), _, ⟨k1, k2⟩, F1, k3, fun j ρ2 m2 w H2 F2 ⟨kvs, g, b1, b2, b3⟩ j2 j3 j4 j5 => ?_⟩
  subst b2
  obtain ⟨p', xs', c1, c2, _, c4, c5⟩ := j3.dctAt b1
  rw [a1] at c1; cases c1
  obtain ⟨ys, ey, zy⟩ := c.bind j2
  unfold setDM at ey
  split at ey
  · rename_i n' hn
    split at ey
    · rename_i hz; cases ey
      obtain ⟨b, rfl⟩ := key_ref j5 hn
      refine ⟨F2, p, b, xs', kvs, j, n', d, rfl, rfl, c2, j3.sub, by rw [x.K, ← hK]; exact c4, by rw [x.K, ← hK]; exact j5, hn, by rw [x.K, ← hK]; exact k5.mono j4, by simpa using hz, fun xs2 hx2 => ⟨(_, _), ⟨b3 _, zy⟩, F2, c5 _ _ (by rw [x.K, ← hK] at hx2; exact hx2), l⟩⟩
    · cases ey
  · cases ey
/-- a constant of the module that is a whole number -/
theorem con_int {n : Str} {i : Int} {t : Tok} (h : C.mg n = some (.int i t)) : ConD C n (.int i) := ⟨.int i, _, h, ⟨t, rfl⟩, .int i⟩
end
end Z

set_option Elab.async false
set_option linter.all false
set_option maxRecDepth 100000
set_option autoImplicit false
/-! # Z23: comprehensions over a list of one's own that stays one's own -/
namespace Z
open PySem L2
section
variable {α : Type} {C : Ct} {ρ : Env} {m : R α}
theorem lcO_main {κ : D → Env → R α → Prop} {tg elt : Expr} {n : Str} {np : Pos} {ifs : List Expr} {scope : Scope} {vs : List Nat} {X : Cx} {W : Wd} {Z : R α → Prop} (x : XOk C X) (hK : W.K = C.K) (c : Cl Z) (z : Z m) (i0 : Nat) {items : List D} (hρ : ρ[i0]? = some (some (.own items))) (hN : C.N[i0]? = some n) (hvv : Vis C.sc n) (hdd : (n == ("__debug__" : Str)) = false) (hcd : (n == ("__classdict__" : Str)) = false)
    (h : ∃ ρb f g, Le ρb (wipeE ρ vs) ∧ valB ρb = true ∧ m = (compL items f).bind g ∧
      (∀ y, DG (C.blk scope) (fun i => i ∈ vs) ρb tg y (f y) fun ρ2 m2 => DTs (C.blk scope) ρ2 ifs m2 fun t ρ3 m3 =>
        (t = true → DE (C.blk scope) ρ3 elt m3 fun d ρ4 m4 => m4 = .ok (some d)) ∧ (t = false → m3 = .ok none)) ∧
      ∀ ys, κ (.list ys) ρ (g ys)) :
    ∃ wi g tt te, PI X tg (.Name n np) wi ∧ (∀ (s : Shared) (H : Hp) (Ca : Addr) (cl : List (Str × Addr)) (fp : List Addr), PG (X.blk s H scope (compEnvC scope cl Ca X.env) fp) tg g) ∧
      (∀ (s : Shared) (H : Hp) (Ca : Addr) (cl : List (Str × Addr)) (fp : List Addr), PTs (X.blk s H scope (compEnvC scope cl Ca X.env) fp) ifs tt) ∧
      (∀ (s : Shared) (H : Hp) (Ca : Addr) (cl : List (Str × Addr)) (fp : List Addr), PE (X.blk s H scope (compEnvC scope cl Ca X.env) fp) elt te) ∧
      ∀ σ H Q, (∃ F, Rel W ρ σ H F ∧ ∀ d ρ' m' v H' F', κ d ρ' m' → Z m' → Rel W ρ' σ H' F' → Same F F' → Rp W.K F' v d → Q v H') → tLc wi g tt te vs σ H Q := by
  refine ⟨_, fun v σ H Q => ∃ (W' : Wd) (τ' : Type) (Z' : R τ' → Prop) (i : R τ' × Env × D) (κ : Env → R τ' → Prop), (DG (C.blk scope) (fun i => i ∈ vs) i.2.1 tg i.2.2 i.1 κ ∧ W'.K = C.K ∧ Cl Z' ∧ Z' i.1) ∧ ∃ F, Rel W' i.2.1 σ H F ∧ Rp W'.K F v i.2.2 ∧ ∀ ρ' m' σ' H' F', κ ρ' m' → Z' m' → Rel W' ρ' σ' H' F' → Same F F' → (∀ us, (∀ i, i ∈ vs → i ∈ us) → wipe σ' us = wipe σ us) → Q σ' H',
    fun σ H Q => ∃ (W' : Wd) (τ' : Type) (Z' : R τ' → Prop) (i : R τ' × Env) (κ : Bool → Env → R τ' → Prop), (DTs (C.blk scope) i.2 ifs i.1 κ ∧ W'.K = C.K ∧ Cl Z' ∧ Z' i.1) ∧ ∃ F, Rel W' i.2 σ H F ∧ ∀ b ρ' m' H' F', κ b ρ' m' → Z' m' → Rel W' ρ' σ H' F' → Same F F' → Q b H',
    fun σ H Q => ∃ (W' : Wd) (τ' : Type) (Z' : R τ' → Prop) (i : R τ' × Env) (κ : D → Env → R τ' → Prop), (DE (C.blk scope) i.2 elt i.1 κ ∧ W'.K = C.K ∧ Cl Z' ∧ Z' i.1) ∧ ∃ F, Rel W' i.2 σ H F ∧ ∀ d ρ' m' v H' F', κ d ρ' m' → Z' m' → Rel W' ρ' σ H' F' → Same F F' → Rp W'.K F' v d → Q v H', pi_list (own_name x hN hvv hdd hcd), ?_, ?_, ?_, ?_⟩
  · exact fun s H Ca cl fp => ⟨fun p s' σ H v u Q I r ⟨W', _, Z', i, κ, ⟨pi, hK', c', z'⟩, q⟩ => (pi _ W' Z' (x.blk s _ Ca cl fp) hK' c' z').run p s' σ H v u Q I r q⟩
  · exact fun s H Ca cl fp => ⟨fun p s' σ H Q I ⟨W', _, Z', i, κ, ⟨pi, hK', c', z'⟩, q⟩ => (pi _ W' Z' (x.blk s _ Ca cl fp) hK' c' z').run p s' σ H Q I q⟩
  · exact fun s H Ca cl fp => ⟨fun p s' σ H Q I ⟨W', _, Z', i, κ, ⟨pi, hK', c', z'⟩, q⟩ => (pi _ W' Z' (x.blk s _ Ca cl fp) hK' c' z').run p s' σ H Q I q⟩
  rintro σ H1 Q ⟨F1, rel1, q⟩
  obtain ⟨ρb, f, g, hle, hv, em, hf, hk⟩ := h
  obtain ⟨pl, vl, s1, hpl, _, rdl, _⟩ := rel1.ownAt hρ
  refine ⟨.ref pl, s1, pl, rfl, ⟨_, SqL.of hpl⟩, fun Da hDa => ?_⟩
  subst em
  obtain ⟨qs0, eq0, zq0⟩ := c.bind z
  obtain ⟨hlen, eq0⟩ := compL_ok eq0
  have vo := valOnly_of hv
  have hF1D : F1 Da = none := rel1.sub.free hDa
  have v1 : VRel W.K F1 ρb (wipe σ vs) := ((rel1.wipe vs).le hle).vrel
  refine ⟨fun i n H => n = items.length - i ∧ i ≤ items.length ∧ ∃ Fi acc ds qs, H Da = some (.lst acc) ∧ Fi Da = none ∧ RpAll W.K Fi acc ds ∧ acc.length ≤ i ∧ Same F1 Fi ∧ Same Fi H ∧ Same H1 H ∧ (∀ b o, Fi b = some o → F1 b = some o ∨ H1 b = none) ∧ compP (items.drop i) f = .ok qs ∧ Z (g (ds ++ qs)),
    ⟨items.length, by simp, Nat.zero_le _, F1, [], [], qs0, upd_same, hF1D, .nil, Nat.le_refl _, Same.refl _, fun b o e => by rw [upd_ne (ne_of_none e hF1D)]; exact rel1.sub b o e, fun b o e => by rw [upd_ne (ne_of_none e hDa)]; exact e, fun _ _ e => .inl e, by simpa using eq0, by simpa using zq0⟩, ?_⟩
  rintro i n H2 ⟨rfl, hi, Fi, acc, ds, qs, hD, hFD, racc, hal, s1i, sih, s1h, fri, eqs, zqs⟩
  by_cases hlt : i < items.length
  · refine .inr ⟨walk_list.goes i H2 (by rw [rdl.length]; exact hlt) (SqL.of (s1h _ _ hpl)), fun H => ∃ Fi acc ds qs, H Da = some (.lst acc) ∧ Fi Da = none ∧ RpAll W.K Fi acc ds ∧ acc.length ≤ i + 1 ∧ Same F1 Fi ∧ Same Fi H ∧ Same H1 H ∧ (∀ b o, Fi b = some o → F1 b = some o ∨ H1 b = none) ∧ compP (items.drop (i + 1)) f = .ok qs ∧ Z (g (ds ++ qs)),
      fun H' hh => ⟨_, by omega, rfl, hlt, hh⟩, fun v H3 y => ?_⟩
    obtain ⟨F3, d, hd, fx, pd⟩ : ∃ F' d, items[i]? = some d ∧ Fx Fi H2 F' H3 ∧ Rp W.K F' v d := by
      obtain ⟨e, hx⟩ := walk_list.yields i H2 v H3 (by rw [rdl.length]; exact hlt) (SqL.of (s1h _ _ hpl)) y
      subst e
      obtain ⟨d, h1, h2⟩ := rdl.at' hx
      exact ⟨Fi, d, h1, Fx.refl sih, h2.mono s1i⟩
    rw [compP_step hd] at eqs
    obtain ⟨p, ep, eqs⟩ := R.bind_eq_ok eqs
    obtain ⟨q2, eq2, eqs⟩ := R.bind_eq_ok eqs
    have clp : Cl fun r : R (Option D) => r = .ok p := ⟨(fun e => nomatch e), (fun _ _ e => nomatch e)⟩
    refine ⟨⟨W.K, F3, H3, []⟩, Option D, fun r => r = .ok p, (f d, ρb, d), _, ⟨hf d, hK, clp, ep⟩, F3, (v1.mono (s1i.trans fx.ff)).rel vo fx.fh, pd, fun ρ2 m2 σ4 H4 F4 h1 h2 h3 h4 hw => ⟨(hw vs fun _ h => h).trans wipe_wipe, ?_⟩⟩
    refine ⟨⟨W.K, F3, H3, []⟩, Option D, fun r => r = .ok p, (m2, ρ2), _, ⟨h1, hK, clp, h2⟩, F4, h3, fun b ρ3 m3 H5 F5 k1 k2 k3 k4 => ?_⟩
    have grow : ∀ {H6 F6 : Hp}, Fx F3 H3 F6 H6 → H6 Da = some (.lst acc) ∧ F6 Da = none ∧ Same F1 F6 ∧ Same H1 H6 ∧ (∀ b o, F6 b = some o → F1 b = some o ∨ H1 b = none) ∧ Same Fi F6 := fun {H6 F6} f6 => by
      have fa := fx.trans f6
      exact ⟨fa.hh _ _ hD, fa.none hFD hD, s1i.trans fa.ff, s1h.trans fa.hh, fun b o e => (fa.new b o e).elim (fun q => fri b o q) fun q => .inr (s1h.free q), fa.ff⟩
    cases b with
    | false =>
      show (if false = true then _ else _)
      rw [if_neg Bool.false_ne_true]
      obtain ⟨g1, g2, g3, g4, g5, g6⟩ := grow k3.fx
      have e3 := k1.2 rfl
      rw [k2] at e3
      cases e3
      cases eqs
      exact ⟨F5, acc, ds, _, g1, g2, racc.mono g6, Nat.le_succ_of_le hal, g3, k3.sub, g4, g5, eq2, zqs⟩
    | true =>
      show (if true = true then _ else _)
      rw [if_pos rfl]
      refine ⟨⟨W.K, F3, H3, []⟩, Option D, fun r => r = .ok p, (m3, ρ3), _, ⟨k1.1 rfl, hK, clp, k2⟩, F5, k3, fun dd ρ4 m4 vv H6 F6 j1 j2 j3 j4 j5 => ?_⟩
      obtain ⟨g1, g2, g3, g4, g5, g6⟩ := grow j3.fx
      rw [j2] at j1
      cases j1
      cases eqs
      have hz : acc.length < 16777216 := by omega
      refine ⟨acc, g1, by rw [sizeLine_eq]; exact hz, F6, acc ++ [vv], ds ++ [dd], q2, upd_same, g2, (racc.mono g6).snoc j5, by simp; omega, g3, fun b o e => by rw [upd_ne (ne_of_none e g2)]; exact j3.sub b o e, fun b o e => by rw [upd_ne (ne_of_none e hDa)]; exact g4 b o e, g5, eq2, by simpa using zqs⟩
  · have e : i = items.length := by omega
    subst e
    rw [List.drop_length] at eqs
    cases eqs
    rw [List.append_nil] at zqs
    refine .inl ⟨by rw [← rdl.length]; exact walk_list.stops H2 (SqL.of (s1h _ _ hpl)), ?_⟩
    have fx : Fx F1 H1 (upd Fi Da (.lst acc)) H2 := ⟨fun b o e => by rw [upd_ne (ne_of_none e hF1D)]; exact s1i b o e, fun b o e => by
      by_cases hb : b = Da
      · subst hb; rw [upd_same] at e; rw [hD]; exact e
      · rw [upd_ne hb] at e; exact sih b o e, s1h, fun b o e => by
      by_cases hb : b = Da
      · subst hb; exact .inr hDa
      · rw [upd_ne hb] at e; exact fri b o e⟩
    exact q _ ρ _ _ H2 _ (hk ds) zqs (rel1.step fx) fx.ff (.lst upd_same (racc.mono fun b o e => by rw [upd_ne (ne_of_none e hFD)]; exact e))

/-- [e for tg in it if ..], the element changes nothing -/
theorem de_lcO {κ : D → Env → R α → Prop} {tg elt : Expr} {n0 : Str} {np : Pos} {ifs : List Expr} {scope : Scope} {pos : Pos} (i0 : Nat) (own : List (Str × Nat)) {items : List D} (hρ : ρ[i0]? = some (some (.own items))) (ok : blkC C.N C.sc scope own = true)
    (h : ∃ ρb f g, Le ρb (wipeE ρ (own.map (·.2))) ∧ valB ρb = true ∧ m = (compL items f).bind g ∧
      (∀ y, DG (C.blk scope) (fun i => i ∈ own.map (·.2)) ρb tg y (f y) fun ρ2 m2 => DTs (C.blk scope) ρ2 ifs m2 fun t ρ3 m3 =>
        (t = true → DE (C.blk scope) ρ3 elt m3 fun d ρ4 m4 => m4 = .ok (some d)) ∧ (t = false → m3 = .ok none)) ∧
      ∀ ys, κ (.list ys) ρ (g ys)) (hN0 : C.N[i0]? = some n0 := by rfl) (hvv : Vis C.sc n0 := by first | exact Or.inl rfl | exact Or.inr (Or.inl rfl) | exact Or.inr (Or.inr rfl)) (hdd : (n0 == ("__debug__" : Str)) = false := by decide) (hcd : (n0 == ("__classdict__" : Str)) = false := by decide) (hs : ∀ (env : PySem.Env) (x : Value), foldedSetIterable (.Name n0 np) env x = pure x := by intro _ _; rfl) : DE C ρ (.ListComp elt [⟨tg, .Name n0 np, ifs, 0⟩] scope pos) m κ := by
  intro X W Z x hK c z
  obtain ⟨wi, g, tt, te, h1, h2, h3, h4, h5⟩ := lcO_main (vs := own.map (·.2)) x hK c z i0 hρ hN0 hvv hdd hcd h
  exact PE_imp (pe_lc x.calm (by rw [x.N]; exact x.nd) h1 (blkOk_by (by rw [x.N, x.sc]; exact ok)) h2 h3 h4 (hs _)) h5
/-- y = [..], y a local, on one line -/
theorem ds_setLcO {J : Jd α} {n : Str} {tg elt : Expr} {n0 : Str} {np : Pos} {ifs : List Expr} {scope : Scope} {p pos cpos : Pos} {rest : List Stmt} (i : Nat) (i0 : Nat) (own : List (Str × Nat)) {items : List D} (hρ : ρ[i0]? = some (some (.own items))) (ok : blkC C.N C.sc scope own = true)
    (h : ∃ ρb f g, Le ρb (wipeE ρ (own.map (·.2))) ∧ valB ρb = true ∧ m = (compL items f).bind g ∧
      (∀ y, DG (C.blk scope) (fun i => i ∈ own.map (·.2)) ρb tg y (f y) fun ρ2 m2 => DTs (C.blk scope) ρ2 ifs m2 fun t ρ3 m3 =>
        (t = true → DE (C.blk scope) ρ3 elt m3 fun d ρ4 m4 => m4 = .ok (some d)) ∧ (t = false → m3 = .ok none)) ∧
      ∀ ys, DSs C (ρ.set i (some (.val (.list ys)))) rest (g ys) J) (hN : C.N[i]? = some n := by rfl) (hy : C.sc.names.lookup n = some .local := by rfl)
    (hsw : ∀ env : PySem.Env, env.scope = C.sc → swapsWith (.ListComp elt [⟨tg, .Name n0 np, ifs, 0⟩] scope cpos) (some (.Name n p)) pos.line env = pure true)
    (hN0 : C.N[i0]? = some n0 := by rfl) (hvv : Vis C.sc n0 := by first | exact Or.inl rfl | exact Or.inr (Or.inl rfl) | exact Or.inr (Or.inr rfl)) (hdd : (n0 == ("__debug__" : Str)) = false := by decide) (hcd : (n0 == ("__classdict__" : Str)) = false := by decide) (hs : ∀ (env : PySem.Env) (x : Value), foldedSetIterable (.Name n0 np) env x = pure x := by intro _ _; rfl) : DSs C ρ (.Assign [.Name n p] (.ListComp elt [⟨tg, .Name n0 np, ifs, 0⟩] scope cpos) pos :: rest) m J := by
  intro X W Z x hK c z
  obtain ⟨wi, g, tt, te, h1, h2, h3, h4, h5⟩ := lcO_main (κ := fun d ρ1 m1 => DSs C (ρ1.set i (some (.val d))) rest m1 J) (vs := own.map (·.2)) x hK c z i0 hρ hN0 hvv hdd hcd h
  refine PSs_imp (pss_cons (ps_setLc (i := i) x.calm (by rw [x.N]; exact x.nd) (by rw [x.N]; exact hN) (by rw [x.sc]; exact hy) (hsw _ x.sc) h1 (blkOk_by (by rw [x.N, x.sc]; exact ok)) h2 h3 h4 (hs _)) (rest_run (J := J) x hK c)) fun Dn σ H ⟨F, r, l⟩ => ?_
  exact h5 σ H (fun y H1 => ∃ j : R α × Env, (DSs C j.2 rest j.1 J ∧ Z j.1) ∧ ∃ F, Rel W j.2 (σ.set i (some y)) H1 F ∧ Lk W J Z Dn) ⟨F, r, fun d ρ' m' v H' F' k1 k2 k3 k4 k5 => ⟨(m', _), ⟨k1, k2⟩, F', k3.set i k5, l⟩⟩
end
end Z

set_option autoImplicit false
namespace K11
open PySem L2 Z
/-! ## the defs as data -/
@[irreducible] def m_point_of (v_lot : D) : R D :=
R.ok (PyData.tuple [v_lot, (PyData.int 1)])

@[irreducible] def m_point_low (v_numbers : D) (v_bottom : D) : R D :=
(item v_numbers (PyData.int 0)).bind fun z1 =>
(item v_numbers (PyData.int 1)).bind fun z2 =>
(gcdD z1 z2).bind fun z3 =>
(gcdD z3 v_bottom).bind fun z4 =>
((gtD v_bottom (PyData.int 0)).bind fun z5 =>
if z5 = true then
R.ok z4
else
(neg z4).bind fun z6 =>
R.ok z6 : R D).bind fun z7 =>
(item v_numbers (PyData.int 0)).bind fun z8 =>
(fdiv z8 z7).bind fun z9 =>
(item v_numbers (PyData.int 1)).bind fun z10 =>
(fdiv z10 z7).bind fun z11 =>
(fdiv v_bottom z7).bind fun z12 =>
R.ok (PyData.tuple [(PyData.tuple [z9, z11]), z12])

@[irreducible] def m_points_added (v_one : D) (v_other : D) : R D :=
(un2 v_one).bind fun (p1, p2) =>
(un2 p1).bind fun (p3, p4) =>
(un2 v_other).bind fun (p5, p6) =>
(un2 p5).bind fun (p7, p8) =>
(mul p3 p6).bind fun z9 =>
(mul p7 p2).bind fun z10 =>
(add z9 z10).bind fun z11 =>
(mul p4 p6).bind fun z12 =>
(mul p8 p2).bind fun z13 =>
(add z12 z13).bind fun z14 =>
(mul p2 p6).bind fun z15 =>
(m_point_low (PyData.tuple [z11, z14]) z15).bind fun z16 =>
R.ok z16

@[irreducible] def m_table_det (v_table : D) : R D :=
(un2 v_table).bind fun (p1, p2) =>
(un2 p1).bind fun (p3, p4) =>
(un2 p2).bind fun (p5, p6) =>
(mul p3 p6).bind fun z7 =>
(mul p4 p5).bind fun z8 =>
(sub z7 z8).bind fun z9 =>
R.ok z9

@[irreducible] def m_table_other (v_table : D) : R D :=
(un2 v_table).bind fun (p1, p2) =>
(un2 p1).bind fun (p3, p4) =>
(un2 p2).bind fun (p5, p6) =>
(neg p4).bind fun z7 =>
(neg p5).bind fun z8 =>
R.ok (PyData.tuple [(PyData.tuple [p6, z7]), (PyData.tuple [z8, p3])])

@[irreducible] def m_lot_led (v_table : D) (v_lot : D) : R D :=
(un2 v_table).bind fun (p1, p2) =>
(un2 p1).bind fun (p3, p4) =>
(un2 p2).bind fun (p5, p6) =>
(item v_lot (PyData.int 0)).bind fun z7 =>
(mul p3 z7).bind fun z8 =>
(item v_lot (PyData.int 1)).bind fun z9 =>
(mul p4 z9).bind fun z10 =>
(add z8 z10).bind fun z11 =>
(item v_lot (PyData.int 0)).bind fun z12 =>
(mul p5 z12).bind fun z13 =>
(item v_lot (PyData.int 1)).bind fun z14 =>
(mul p6 z14).bind fun z15 =>
(add z13 z15).bind fun z16 =>
R.ok (PyData.tuple [z11, z16])

@[irreducible] def m_point_undone (v_table : D) (v_point : D) : R D :=
(m_table_other v_table).bind fun z1 =>
(item v_point (PyData.int 0)).bind fun z2 =>
(m_lot_led z1 z2).bind fun z3 =>
(item v_point (PyData.int 1)).bind fun z4 =>
(m_table_det v_table).bind fun z5 =>
(mul z4 z5).bind fun z6 =>
(m_point_low z3 z6).bind fun z7 =>
R.ok z7

@[irreducible] def m_lots_added (v_one : D) (v_other : D) : R D :=
(item v_one (PyData.int 0)).bind fun z1 =>
(item v_other (PyData.int 0)).bind fun z2 =>
(add z1 z2).bind fun z3 =>
(item v_one (PyData.int 1)).bind fun z4 =>
(item v_other (PyData.int 1)).bind fun z5 =>
(add z4 z5).bind fun z6 =>
R.ok (PyData.tuple [z3, z6])

@[irreducible] def m_row_worth (v_base : D) (v_lot : D) (v_row : D) : R D :=
(iter v_row).bind fun z1 =>
(forS z1 v_lot fun x2 s3 =>
(item v_base (PyData.int 0)).bind fun z5 =>
(m_lot_led z5 s3).bind fun z6 =>
(item v_base (PyData.int 1)).bind fun z7 =>
(item z7 x2).bind fun z8 =>
(m_lots_added z6 z8).bind fun z9 =>
R.ok z9).bind fun s4 =>
R.ok s4

@[irreducible] def m_round_worth (v_base : D) (v_row : D) : R D :=
(un2 (PyData.tuple [(PyData.tuple [(PyData.int 1), (PyData.int 0)]), (PyData.tuple [(PyData.int 0), (PyData.int 1)])])).bind fun (p1, p2) =>
(iter v_row).bind fun z3 =>
(forS z3 (p1, p2) fun x4 s5 =>
(item v_base (PyData.int 0)).bind fun z7 =>
(m_lot_led z7 s5.1).bind fun z8 =>
(item v_base (PyData.int 0)).bind fun z9 =>
(m_lot_led z9 s5.2).bind fun z10 =>
R.ok (z8, z10)).bind fun s6 =>
(item s6.1 (PyData.int 0)).bind fun z11 =>
(sub z11 (PyData.int 1)).bind fun z12 =>
(item s6.2 (PyData.int 0)).bind fun z13 =>
(item s6.1 (PyData.int 1)).bind fun z14 =>
(item s6.2 (PyData.int 1)).bind fun z15 =>
(sub z15 (PyData.int 1)).bind fun z16 =>
(m_table_other (PyData.tuple [(PyData.tuple [z12, z13]), (PyData.tuple [z14, z16])])).bind fun z17 =>
(m_row_worth v_base (PyData.tuple [(PyData.int 0), (PyData.int 0)]) v_row).bind fun z18 =>
(m_lot_led z17 z18).bind fun z19 =>
(m_table_det (PyData.tuple [(PyData.tuple [z12, z13]), (PyData.tuple [z14, z16])])).bind fun z20 =>
(m_point_low z19 z20).bind fun z21 =>
R.ok z21

@[irreducible] def m_worth (v_base : D) (v_name : D) : R D :=
(un3 v_name).bind fun (p1, p2, p3) =>
(m_row_worth v_base p1 p2).bind fun z4 =>
(m_point_of z4).bind fun z5 =>
(m_round_worth v_base p3).bind fun z6 =>
(m_points_added z5 z6).bind fun z7 =>
(iter p2).bind fun z8 =>
(forS z8 z7 fun x9 s10 =>
(item v_base (PyData.int 0)).bind fun z12 =>
(m_point_undone z12 s10).bind fun z13 =>
R.ok z13).bind fun s11 =>
R.ok s11

@[irreducible] def m_least_name (v_name : D) : R D :=
(un3 v_name).bind fun (p1, p2, p3) =>
(lenD p3).bind fun z4 =>
(add z4 (PyData.int 1)).bind fun z5 =>
(range2 (PyData.int 1) z5).bind fun z6 =>
(compL z6 fun x7 =>
(lenD p3).bind fun z8 =>
(fmod z8 x7).bind fun z9 =>
(eqD z9 (PyData.int 0)).bind fun z10 =>
if z10 = true then
R.ok (some x7)
else
R.ok none).bind fun ys11 =>
(iter (PyData.list ys11)).bind fun z12 =>
(compL z12 fun x13 =>
(toI x13).bind fun l14 =>
(slice p3 none (some l14)).bind fun z15 =>
(lenD p3).bind fun z16 =>
(fdiv z16 x13).bind fun z17 =>
(mul z15 z17).bind fun z18 =>
(eqD z18 p3).bind fun z19 =>
if z19 = true then
R.ok (some x13)
else
R.ok none).bind fun ys20 =>
(item (PyData.list ys20) (PyData.int 0)).bind fun z21 =>
(toI z21).bind fun l22 =>
(slice p3 none (some l22)).bind fun z23 =>
(whileT 100000 (p2, z23) fun s24 =>
((neD s24.1 (PyData.tuple [])).bind fun z27 =>
if z27 = true then
(item s24.1 (PyData.int (-1))).bind fun z28 =>
(item s24.2 (PyData.int (-1))).bind fun z29 =>
(eqD z28 z29).bind fun z30 =>
R.ok z30
else
R.ok false : R Bool).bind fun t31 =>
if t31 = true then
(slice s24.1 none (some (-1))).bind fun z32 =>
(slice s24.2 (some (-1)) none).bind fun z33 =>
(slice s24.2 none (some (-1))).bind fun z34 =>
(add z33 z34).bind fun z35 =>
(un2 (PyData.tuple [z32, z35])).bind fun (p36, p37) =>
R.ok (.go (p36, p37))
else
R.ok (.done (s24.1, s24.2))).bind fun
| .nx s25 =>
(R.ok (PyData.tuple [p1, s25.1, s25.2]))
| .bk _ => .stuck
| .rt r26 s25 =>
(.stuck)

@[irreducible] def m_classes_of (v_table : D) (v_point : D) : R D :=
(un2 v_point).bind fun (p1, p2) =>
(un2 p1).bind fun (p3, p4) =>
(fmod p3 p2).bind fun z5 =>
(fmod p4 p2).bind fun z6 =>
(whileT 100000 ((PyData.tuple [z5, z6]), [], ([] : List (D × D))) fun s7 =>
((notInD s7.1 (PyData.dict s7.2.2)).bind fun z10 =>
R.ok z10).bind fun t11 =>
if t11 = true then
((lenD (PyData.list s7.2.1)).bind fun z12 =>
(eqD z12 (PyData.int 200)).bind fun z13 =>
R.ok z13).bind fun t14 =>
if t14 = true then
.stuck
else
(flatR ((lenD (PyData.list s7.2.1)).bind fun z15 =>
R.ok z15)).bind fun z16 =>
(setDM s7.2.2 s7.1 z16).bind fun y17 =>
(pushM s7.2.1 [s7.1]).bind fun (z18, y19) =>
(m_lot_led v_table s7.1).bind fun z20 =>
(un2 z20).bind fun (p21, p22) =>
(fmod p21 p2).bind fun z23 =>
(fmod p22 p2).bind fun z24 =>
R.ok (.go ((PyData.tuple [z23, z24]), y19, y17))
else
R.ok (.done (s7.1, s7.2.1, s7.2.2))).bind fun
| .nx s8 =>
((item (PyData.dict s8.2.2) s8.1).bind fun z25 =>
R.ok (PyData.tuple [(PyData.list s8.2.1), z25]))
| .bk _ => .stuck
| .rt r9 s8 =>
(.stuck)

@[irreducible] def m_lots_less (v_one : D) (v_other : D) : R D :=
(item v_one (PyData.int 0)).bind fun z1 =>
(item v_other (PyData.int 0)).bind fun z2 =>
(sub z1 z2).bind fun z3 =>
(item v_one (PyData.int 1)).bind fun z4 =>
(item v_other (PyData.int 1)).bind fun z5 =>
(sub z4 z5).bind fun z6 =>
R.ok (PyData.tuple [z3, z6])

@[irreducible] def m_lot_undone (v_table : D) (v_lot : D) : R D :=
(m_table_det v_table).bind fun z1 =>
(m_table_other v_table).bind fun z2 =>
(m_lot_led z2 v_lot).bind fun z3 =>
((item z3 (PyData.int 0)).bind fun z4 =>
(fmod z4 z1).bind fun z5 =>
(neD z5 (PyData.int 0)).bind fun z6 =>
if z6 = true then
R.ok true
else
(item z3 (PyData.int 1)).bind fun z7 =>
(fmod z7 z1).bind fun z8 =>
(neD z8 (PyData.int 0)).bind fun z9 =>
R.ok z9 : R Bool).bind fun t10 =>
if t10 = true then
R.ok PyData.none
else
(item z3 (PyData.int 0)).bind fun z11 =>
(fdiv z11 z1).bind fun z12 =>
(item z3 (PyData.int 1)).bind fun z13 =>
(fdiv z13 z1).bind fun z14 =>
R.ok (PyData.tuple [z12, z14])

@[irreducible] def m_lot_back (v_base : D) (v_lot : D) : R D :=
(item v_base (PyData.int 1)).bind fun z1 =>
(iterL z1).bind fun z2 =>
(compL (enumD z2) fun x3 =>
(un2 x3).bind fun (p4, p5) =>
(item v_base (PyData.int 0)).bind fun z6 =>
(m_lots_less v_lot p5).bind fun z7 =>
(m_lot_undone z6 z7).bind fun z8 =>
R.ok (some (PyData.tuple [p4, z8]))).bind fun ys9 =>
(iter (PyData.list ys9)).bind fun z10 =>
(compL z10 fun x11 =>
(item x11 (PyData.int 1)).bind fun z12 =>
if (!isNone z12) = true then
R.ok (some x11)
else
R.ok none).bind fun ys13 =>
(item (PyData.list ys13) (PyData.int 0)).bind fun z14 =>
R.ok z14

@[irreducible] def m_remainder_back (v_base : D) (v_bottom : D) (v_ahead : D) (v_remainder : D) : R D :=
(item v_base (PyData.int 0)).bind fun z1 =>
(m_lot_led z1 v_ahead).bind fun z2 =>
(m_lots_less z2 v_remainder).bind fun z3 =>
(un2 z3).bind fun (p4, p5) =>
(fdiv p4 v_bottom).bind fun z6 =>
(fdiv p5 v_bottom).bind fun z7 =>
(m_lot_back v_base (PyData.tuple [z6, z7])).bind fun z8 =>
(un2 z8).bind fun (p9, p10) =>
(item v_ahead (PyData.int 0)).bind fun z11 =>
(item p10 (PyData.int 0)).bind fun z12 =>
(mul v_bottom z12).bind fun z13 =>
(sub z11 z13).bind fun z14 =>
(item v_ahead (PyData.int 1)).bind fun z15 =>
(item p10 (PyData.int 1)).bind fun z16 =>
(mul v_bottom z16).bind fun z17 =>
(sub z15 z17).bind fun z18 =>
R.ok (PyData.tuple [p9, (PyData.tuple [z14, z18])])

@[irreducible] def m_classes_back (v_base : D) (v_bottom : D) (v_classes : D) (v_remainder : D) : R D :=
(revL v_classes).bind fun z1 =>
(iter (PyData.list z1)).bind fun z2 =>
(forS z2 (v_remainder, []) fun x3 s4 =>
(m_remainder_back v_base v_bottom x3 s4.1).bind fun z6 =>
(un2 z6).bind fun (p7, p8) =>
(pushM s4.2 [p7]).bind fun (z9, y10) =>
R.ok (p8, y10)).bind fun s5 =>
(revL (PyData.list s5.2)).bind fun z11 =>
(tupleD (PyData.list z11)).bind fun z12 =>
R.ok (PyData.tuple [z12, s5.1])

@[irreducible] def m_name_of (v_base : D) (v_point : D) : R D :=
(item v_base (PyData.int 0)).bind fun z1 =>
(m_classes_of z1 v_point).bind fun z2 =>
(un2 z2).bind fun (p3, p4) =>
(un2 v_point).bind fun (p5, p6) =>
(un2 p5).bind fun (p7, p8) =>
(item p3 p4).bind fun z9 =>
(whileT 100000 (z9, ([] : List (D × D)), []) fun s10 =>
((notInD s10.1 (PyData.dict s10.2.1)).bind fun z13 =>
R.ok z13).bind fun t14 =>
if t14 = true then
(flatR ((lenD (PyData.list s10.2.2)).bind fun z15 =>
R.ok z15)).bind fun z16 =>
(setDM s10.2.1 s10.1 z16).bind fun y17 =>
(toI p4).bind fun l18 =>
(slice p3 (some l18) none).bind fun z19 =>
(m_classes_back v_base p6 z19 s10.1).bind fun z20 =>
(un2 z20).bind fun (p21, p22) =>
(pushM s10.2.2 [p21]).bind fun (z23, y24) =>
R.ok (.go (p22, y17, y24))
else
R.ok (.done (s10.1, s10.2.1, s10.2.2))).bind fun
| .nx s11 =>
((item (PyData.dict s11.2.1) s11.1).bind fun z25 =>
(toI z25).bind fun l26 =>
(slice (PyData.list s11.2.2) (some l26) none).bind fun z27 =>
(iter z27).bind fun z28 =>
(forS z28 (PyData.tuple []) fun x29 s30 =>
(add x29 s30).bind fun z32 =>
R.ok z32).bind fun s31 =>
(toI p4).bind fun l33 =>
(slice p3 none (some l33)).bind fun z34 =>
(m_classes_back v_base p6 z34 s11.1).bind fun z35 =>
(un2 z35).bind fun (p36, p37) =>
(item p37 (PyData.int 0)).bind fun z38 =>
(sub p7 z38).bind fun z39 =>
(fdiv z39 p6).bind fun z40 =>
(item p37 (PyData.int 1)).bind fun z41 =>
(sub p8 z41).bind fun z42 =>
(fdiv z42 p6).bind fun z43 =>
(m_least_name (PyData.tuple [(PyData.tuple [z40, z43]), p36, s31])).bind fun z44 =>
R.ok z44)
| .bk _ => .stuck
| .rt r12 s11 =>
(.stuck)

@[irreducible] def m__law_source (ns : List Int) : R Src :=
(forS (ns.map PyData.int) (PyData.int 11) fun x1 s2 =>
(mul s2 (PyData.int 69069)).bind fun z4 =>
(mul x1 (PyData.int 31)).bind fun z5 =>
(add z4 z5).bind fun z6 =>
(add z6 (PyData.int 5)).bind fun z7 =>
(intD z7).bind fun z8 =>
(fmod z8 (PyData.int 2147483629)).bind fun z9 =>
R.ok z9).bind fun s3 =>
(compL (ns.map PyData.int) fun x10 =>
(absD x10).bind fun z11 =>
R.ok (some z11)).bind fun ys12 =>
(revL (PyData.list ys12)).bind fun y13 =>
(mkSrc y13 (PyData.int 1) s3 (PyData.int 0)).bind fun s14 =>
R.ok s14

@[irreducible] def m__law_pick (s0 : Src) (v_many : D) : R (D × Src) :=
(whileT (s0.cells.length + 1) s0 fun s1 =>
((gtD v_many (PyData.int 1)).bind fun z4 =>
if z4 = true then
(ltD (PyData.int s1.left) (PyData.int 2)).bind fun z5 =>
if z5 = true then
(gtD (PyData.int s1.cells.length) (PyData.int 0)).bind fun z6 =>
R.ok z6
else
R.ok false
else
R.ok false : R Bool).bind fun t7 =>
if t7 = true then
(popC s1.cells).bind fun (z8, c9) =>
(toI (PyData.int z8)).bind fun n10 =>
R.ok (.go { { s1 with cells := c9 } with left := n10 })
else
R.ok (.done s1)).bind fun
| .nx s2 =>
(((ltD v_many (PyData.int 2)).bind fun z11 =>
if z11 = true then
R.ok true
else
(gtD (PyData.int s2.left) (PyData.int 1)).bind fun z12 =>
R.ok z12 : R Bool).bind fun t13 =>
if t13 = true then
(maxD2 (PyData.int 1) v_many).bind fun z14 =>
(fdiv (PyData.int s2.left) z14).bind fun z15 =>
(toI z15).bind fun n16 =>
(intD (PyData.int s2.left)).bind fun z17 =>
(maxD2 (PyData.int 1) v_many).bind fun z18 =>
(fmod z17 z18).bind fun z19 =>
R.ok (z19, { s2 with left := n16 })
else
(add (PyData.int s2.turn) (PyData.int 1)).bind fun z20 =>
(toI z20).bind fun n21 =>
(mul (PyData.int { s2 with turn := n21 }.turn) (PyData.int 104729)).bind fun z22 =>
(add (PyData.int { s2 with turn := n21 }.mixed) z22).bind fun z23 =>
(intD z23).bind fun z24 =>
(fmod z24 (PyData.int 998244353)).bind fun z25 =>
(mul z25 z25).bind fun z26 =>
(mul (PyData.int { s2 with turn := n21 }.turn) (PyData.int 17)).bind fun z27 =>
(add z26 z27).bind fun z28 =>
(intD z28).bind fun z29 =>
(fmod z29 (PyData.int 2147483647)).bind fun z30 =>
(toI z30).bind fun n31 =>
(fdiv z30 (PyData.int 16)).bind fun z32 =>
(intD z32).bind fun z33 =>
(fmod z33 v_many).bind fun z34 =>
R.ok (z34, { { s2 with turn := n21 } with mixed := n31 }))
| .bk _ => .stuck
| .rt r3 s2 =>
(.stuck)

@[irreducible] def m__law_of (s0 : Src) (v_some : D) : R (D × Src) :=
(lenD v_some).bind fun z1 =>
(m__law_pick s0 z1).bind fun (z2, s3) =>
(item v_some z2).bind fun z4 =>
R.ok (z4, s3)

@[irreducible] def m__law_mixed (s0 : Src) (v_things : D) : R (D × Src) :=
(iterL v_things).bind fun y1 =>
(flatR ((lenD (PyData.list y1)).bind fun z2 =>
R.ok z2)).bind fun z3 =>
(range1 z3).bind fun z4 =>
(compS z4 (s0, y1) fun x5 s6 =>
(flatR ((lenD (PyData.list s6.2)).bind fun z7 =>
R.ok z7)).bind fun z8 =>
(m__law_pick s6.1 z8).bind fun (z9, s10) =>
(pop1M s6.2 [z9]).bind fun (z11, y12) =>
R.ok (some z11, (s10, y12))).bind fun (ys13, s14) =>
R.ok ((PyData.list ys13), s14.1)

@[irreducible] def m__law_undone (v_table : D) (v_lot : D) : R D :=
(un2 v_table).bind fun (p1, p2) =>
(un2 p1).bind fun (p3, p4) =>
(un2 p2).bind fun (p5, p6) =>
(mul p3 p6).bind fun z7 =>
(mul p4 p5).bind fun z8 =>
(sub z7 z8).bind fun z9 =>
(item v_lot (PyData.int 0)).bind fun z10 =>
(mul p6 z10).bind fun z11 =>
(item v_lot (PyData.int 1)).bind fun z12 =>
(mul p4 z12).bind fun z13 =>
(sub z11 z13).bind fun z14 =>
(item v_lot (PyData.int 1)).bind fun z15 =>
(mul p3 z15).bind fun z16 =>
(item v_lot (PyData.int 0)).bind fun z17 =>
(mul p5 z17).bind fun z18 =>
(sub z16 z18).bind fun z19 =>
((intD z14).bind fun z20 =>
(fmod z20 z9).bind fun z21 =>
(neD z21 (PyData.int 0)).bind fun z22 =>
if z22 = true then
R.ok true
else
(intD z19).bind fun z23 =>
(fmod z23 z9).bind fun z24 =>
(neD z24 (PyData.int 0)).bind fun z25 =>
R.ok z25 : R Bool).bind fun t26 =>
if t26 = true then
R.ok PyData.none
else
(fdiv z14 z9).bind fun z27 =>
(fdiv z19 z9).bind fun z28 =>
R.ok (PyData.tuple [z27, z28])

@[irreducible] def m__law_digits (s0 : Src) (v_table : D) (v_far : D) : R (D × Src) :=
(un2 v_table).bind fun (p1, p2) =>
(un2 p1).bind fun (p3, p4) =>
(un2 p2).bind fun (p5, p6) =>
(sub (PyData.int 0) v_far).bind fun z7 =>
(add v_far (PyData.int 1)).bind fun z8 =>
(range2 z7 z8).bind fun z9 =>
(forS z9 (PyData.list []) fun x10 s11 =>
(sub (PyData.int 0) v_far).bind fun z13 =>
(add v_far (PyData.int 1)).bind fun z14 =>
(range2 z13 z14).bind fun z15 =>
(compL z15 fun x16 =>
R.ok (some (PyData.tuple [x10, x16]))).bind fun ys17 =>
(add s11 (PyData.list ys17)).bind fun z18 =>
R.ok z18).bind fun s12 =>
(m__law_pick s0 (PyData.int 5)).bind fun (z19, s20) =>
(gtD z19 (PyData.int 0)).bind fun z21 =>
(intD (PyData.bool z21)).bind fun z22 =>
(mul (PyData.list [(PyData.tuple [(PyData.int 0), (PyData.int 0)])]) z22).bind fun z23 =>
(m__law_mixed s20 s12).bind fun (z24, s25) =>
(add z23 z24).bind fun z26 =>
(iter z26).bind fun z27 =>
(forS z27 (s25, []) fun x28 s29 =>
(compL s29.2 fun x31 =>
(item x28 (PyData.int 0)).bind fun z32 =>
(item x31 (PyData.int 0)).bind fun z33 =>
(sub z32 z33).bind fun z34 =>
(item x28 (PyData.int 1)).bind fun z35 =>
(item x31 (PyData.int 1)).bind fun z36 =>
(sub z35 z36).bind fun z37 =>
(m__law_undone v_table (PyData.tuple [z34, z37])).bind fun z38 =>
if (!isNone z38) = true then
R.ok (some x31)
else
R.ok none).bind fun ys39 =>
((eqD (PyData.list ys39) (PyData.list [])).bind fun z40 =>
if z40 = true then
((lenD (PyData.list s29.2)).bind fun z41 =>
(mul p3 p6).bind fun z42 =>
(mul p4 p5).bind fun z43 =>
(sub z42 z43).bind fun z44 =>
(absD z44).bind fun z45 =>
(ltD z41 z45).bind fun z46 =>
R.ok z46).bind fun t47 =>
R.ok t47
else
R.ok false : R Bool).bind fun t48 =>
if t48 = true then
(pushM s29.2 [x28]).bind fun (z49, y50) =>
R.ok (s29.1, y50)
else
R.ok (s29.1, s29.2)).bind fun s30 =>
(tupleD (PyData.list s30.2)).bind fun z51 =>
R.ok (z51, s30.1)

@[irreducible] def m__law_base (s0 : Src) (v_far : D) : R (D × Src) :=
(add (PyData.list [(PyData.tuple [(PyData.tuple [(PyData.int 1), (PyData.int (-1))]), (PyData.tuple [(PyData.int 1), (PyData.int 1)])]), (PyData.tuple [(PyData.tuple [(PyData.int (-1)), (PyData.int (-1))]), (PyData.tuple [(PyData.int 1), (PyData.int (-1))])]), (PyData.tuple [(PyData.tuple [(PyData.int 0), (PyData.int 2)]), (PyData.tuple [(PyData.int 1), (PyData.int 0)])]), (PyData.tuple [(PyData.tuple [(PyData.int 1), (PyData.int (-2))]), (PyData.tuple [(PyData.int 1), (PyData.int 0)])]), (PyData.tuple [(PyData.tuple [(PyData.int 2), (PyData.int 0)]), (PyData.tuple [(PyData.int 0), (PyData.int 2)])])]) (PyData.list [(PyData.tuple [(PyData.tuple [(PyData.int 0), (PyData.int (-2))]), (PyData.tuple [(PyData.int 1), (PyData.int 0)])]), (PyData.tuple [(PyData.tuple [(PyData.int 1), (PyData.int 1)]), (PyData.tuple [(PyData.int (-1)), (PyData.int 2)])]), (PyData.tuple [(PyData.tuple [(PyData.int 1), (PyData.int 2)]), (PyData.tuple [(PyData.int (-1)), (PyData.int 1)])]), (PyData.tuple [(PyData.tuple [(PyData.int 0), (PyData.int 3)]), (PyData.tuple [(PyData.int 1), (PyData.int 0)])]), (PyData.tuple [(PyData.tuple [(PyData.int 2), (PyData.int 1)]), (PyData.tuple [(PyData.int 0), (PyData.int 2)])])])).bind fun z1 =>
(m__law_of s0 z1).bind fun (z2, s3) =>
(m__law_digits s3 z2 v_far).bind fun (z4, s5) =>
R.ok ((PyData.tuple [z2, z4]), s5)

@[irreducible] def m__law_row (v_name : D) (v_many : D) : R D :=
(item v_name (PyData.int 1)).bind fun z1 =>
(listD z1).bind fun z2 =>
(whileT 100000 z2 fun s3 =>
(lenD s3).bind fun z6 =>
(ltD z6 v_many).bind fun z7 =>
if z7 = true then
(item v_name (PyData.int 2)).bind fun z8 =>
(listD z8).bind fun z9 =>
(add s3 z9).bind fun z10 =>
R.ok (.go z10)
else
R.ok (.done s3)).bind fun
| .nx s4 =>
((toI v_many).bind fun l11 =>
(slice s4 none (some l11)).bind fun z12 =>
(tupleD z12).bind fun z13 =>
R.ok z13)
| .bk _ => .stuck
| .rt r5 s4 =>
(.stuck)

@[irreducible] def m__law_least (v_name : D) : R D :=
(item v_name (PyData.int 1)).bind fun z1 =>
(lenD z1).bind fun z2 =>
(item v_name (PyData.int 2)).bind fun z3 =>
(lenD z3).bind fun z4 =>
(add z2 z4).bind fun z5 =>
(mul (PyData.int 3) z5).bind fun z6 =>
(m__law_row v_name z6).bind fun z7 =>
(item v_name (PyData.int 2)).bind fun z8 =>
(lenD z8).bind fun z9 =>
(add z9 (PyData.int 1)).bind fun z10 =>
(range2 (PyData.int 1) z10).bind fun z11 =>
(forT z11 () fun x12 s13 =>
(item v_name (PyData.int 1)).bind fun z15 =>
(lenD z15).bind fun z16 =>
(add z16 (PyData.int 1)).bind fun z17 =>
(range1 z17).bind fun z18 =>
(forT z18 () fun x19 s20 =>
(item v_name (PyData.int 0)).bind fun z22 =>
(toI x19).bind fun l23 =>
(slice z7 none (some l23)).bind fun z24 =>
(toI x19).bind fun l25 =>
(add x19 x12).bind fun z26 =>
(toI z26).bind fun l27 =>
(slice z7 (some l25) (some l27)).bind fun z28 =>
(mul (PyData.int 3) z5).bind fun z29 =>
(m__law_row (PyData.tuple [z22, z24, z28]) z29).bind fun z30 =>
(eqD z30 z7).bind fun z31 =>
if z31 = true then
R.ok (.rt (PyData.tuple [z22, z24, z28]) ())
else
R.ok (.nx ())).bind fun
| .nx s21 =>
(R.ok (.nx ()))
| .bk _ => .stuck
| .rt r32 s21 =>
(R.ok (.rt r32 ()))).bind fun
| .nx s14 =>
(R.ok v_name)
| .bk _ => .stuck
| .rt r33 s14 =>
(R.ok r33)

@[irreducible] def m__law_longer (s0 : Src) (v_name : D) : R (D × Src) :=
(un3 v_name).bind fun (p1, p2, p3) =>
(lenD p3).bind fun z4 =>
(mul (PyData.int 2) z4).bind fun z5 =>
(add z5 (PyData.int 1)).bind fun z6 =>
(m__law_pick s0 z6).bind fun (z7, s8) =>
(m__law_pick s8 (PyData.int 3)).bind fun (z9, s10) =>
(add (PyData.int 1) z9).bind fun z11 =>
(m__law_row (PyData.tuple [p1, (PyData.tuple []), p3]) z7).bind fun z12 =>
(intD z7).bind fun z13 =>
(lenD p3).bind fun z14 =>
(fmod z13 z14).bind fun z15 =>
(add p2 z12).bind fun z16 =>
(toI z15).bind fun l17 =>
(slice p3 (some l17) none).bind fun z18 =>
(toI z15).bind fun l19 =>
(slice p3 none (some l19)).bind fun z20 =>
(add z18 z20).bind fun z21 =>
(mul z21 z11).bind fun z22 =>
R.ok ((PyData.tuple [p1, z16, z22]), s10)

@[irreducible] def m_law (ns : List Int) : R D :=
(m__law_source ns).bind fun s1 =>
(range1 (PyData.int 3)).bind fun z2 =>
(forT z2 s1 fun x3 s4 =>
(m__law_of s4 (PyData.list [(PyData.int 1), (PyData.int 1), (PyData.int 2)])).bind fun (z6, s7) =>
(m__law_base s7 z6).bind fun (z8, s9) =>
(item z8 (PyData.int 1)).bind fun z10 =>
(lenD z10).bind fun z11 =>
(m__law_pick s9 (PyData.int 9)).bind fun (z12, s13) =>
(sub z12 (PyData.int 4)).bind fun z14 =>
(m__law_pick s13 (PyData.int 9)).bind fun (z15, s16) =>
(sub z15 (PyData.int 4)).bind fun z17 =>
(m__law_pick s16 (PyData.int 5)).bind fun (z18, s19) =>
(range1 z18).bind fun z20 =>
(compS z20 s19 fun x21 s22 =>
(m__law_pick s22 z11).bind fun (z23, s24) =>
R.ok (some z23, s24)).bind fun (ys25, s26) =>
(tupleD (PyData.list ys25)).bind fun z27 =>
(m__law_pick s26 (PyData.int 4)).bind fun (z28, s29) =>
(add (PyData.int 1) z28).bind fun z30 =>
(range1 z30).bind fun z31 =>
(compS z31 s29 fun x32 s33 =>
(m__law_pick s33 z11).bind fun (z34, s35) =>
R.ok (some z34, s35)).bind fun (ys36, s37) =>
(tupleD (PyData.list ys36)).bind fun z38 =>
(m__law_least (PyData.tuple [(PyData.tuple [z14, z17]), z27, z38])).bind fun z39 =>
(reprD (PyData.list [z8, (PyData.tuple [(PyData.tuple [z14, z17]), z27, z38])])).bind fun z40 =>
(m_worth z8 (PyData.tuple [(PyData.tuple [z14, z17]), z27, z38])).bind fun z41 =>
((m_least_name (PyData.tuple [(PyData.tuple [z14, z17]), z27, z38])).bind fun z42 =>
(reprD z42).bind fun z43 =>
(reprD z39).bind fun z44 =>
(neD z43 z44).bind fun z45 =>
if z45 = true then
R.ok true
else
(m_least_name z39).bind fun z46 =>
(reprD z46).bind fun z47 =>
(reprD z39).bind fun z48 =>
(neD z47 z48).bind fun z49 =>
R.ok z49 : R Bool).bind fun t50 =>
if t50 = true then
R.ok (.rt (PyData.bool false) s37)
else
(range1 (PyData.int 3)).bind fun z51 =>
(forT z51 s37 fun x52 s53 =>
(m__law_longer s53 (PyData.tuple [(PyData.tuple [z14, z17]), z27, z38])).bind fun (z55, s56) =>
((m_least_name z55).bind fun z57 =>
(reprD z57).bind fun z58 =>
(reprD z39).bind fun z59 =>
(neD z58 z59).bind fun z60 =>
if z60 = true then
R.ok true
else
(m_worth z8 z55).bind fun z61 =>
(reprD z61).bind fun z62 =>
(reprD z41).bind fun z63 =>
(neD z62 z63).bind fun z64 =>
R.ok z64 : R Bool).bind fun t65 =>
if t65 = true then
R.ok (.rt (PyData.bool false) s56)
else
(m__law_row z55 (PyData.int 40)).bind fun z66 =>
(m__law_row (PyData.tuple [(PyData.tuple [z14, z17]), z27, z38]) (PyData.int 40)).bind fun z67 =>
(neD z66 z67).bind fun z68 =>
if z68 = true then
R.ok (.rt (PyData.bool false) s56)
else
R.ok (.nx s56)).bind fun
| .nx s54 =>
((m_name_of z8 z41).bind fun z69 =>
((m_least_name z69).bind fun z70 =>
(reprD z70).bind fun z71 =>
(reprD z69).bind fun z72 =>
(neD z71 z72).bind fun z73 =>
if z73 = true then
R.ok true
else
(m_worth z8 z69).bind fun z74 =>
(reprD z74).bind fun z75 =>
(reprD z41).bind fun z76 =>
(neD z75 z76).bind fun z77 =>
R.ok z77 : R Bool).bind fun t78 =>
if t78 = true then
R.ok (.rt (PyData.bool false) s54)
else
(reprD (PyData.list [z8, (PyData.tuple [(PyData.tuple [z14, z17]), z27, z38])])).bind fun z79 =>
(neD z79 z40).bind fun z80 =>
if z80 = true then
R.ok (.rt (PyData.bool false) s54)
else
R.ok (.nx s54))
| .bk _ => .stuck
| .rt r81 s54 =>
(R.ok (.rt r81 s54))).bind fun
| .nx s5 =>
((m_least_name (PyData.tuple [(PyData.tuple [(PyData.int 0), (PyData.int 0)]), (PyData.tuple [(PyData.int 0), (PyData.int 1), (PyData.int 1)]), (PyData.tuple [(PyData.int 1), (PyData.int 1)])])).bind fun z82 =>
(m_least_name (PyData.tuple [(PyData.tuple [(PyData.int 1), (PyData.int 0)]), (PyData.tuple [(PyData.int 1), (PyData.int 0)]), (PyData.tuple [(PyData.int 0), (PyData.int 1), (PyData.int 0)])])).bind fun z83 =>
(reprD (PyData.list [z82, z83])).bind fun z84 =>
(reprD (PyData.list [(PyData.tuple [(PyData.tuple [(PyData.int 0), (PyData.int 0)]), (PyData.tuple [(PyData.int 0)]), (PyData.tuple [(PyData.int 1)])]), (PyData.tuple [(PyData.tuple [(PyData.int 1), (PyData.int 0)]), (PyData.tuple []), (PyData.tuple [(PyData.int 1), (PyData.int 0), (PyData.int 0)])])])).bind fun z85 =>
(eqD z84 z85).bind fun z86 =>
R.ok (PyData.bool z86))
| .bk _ => .stuck
| .rt r87 s5 =>
(R.ok r87)


/-! ## the text by places -/
def top (i : Nat) : Stmt := PySem.Challenge.pw_touchingtiles_k11_least_tellings.main.body.getD i (.Pass ⟨0, 0, 0, 0⟩)
abbrev s_point_of : Stmt := top 15
abbrev s_point_low : Stmt := top 14
abbrev s_points_added : Stmt := top 16
abbrev s_table_det : Stmt := top 7
abbrev s_table_other : Stmt := top 8
abbrev s_lot_led : Stmt := top 9
abbrev s_point_undone : Stmt := top 17
abbrev s_lots_added : Stmt := top 5
abbrev s_row_worth : Stmt := top 21
abbrev s_round_worth : Stmt := top 22
abbrev s_worth : Stmt := top 23
abbrev s_least_name : Stmt := top 24
abbrev s_classes_of : Stmt := top 25
abbrev s_lots_less : Stmt := top 6
abbrev s_lot_undone : Stmt := top 10
abbrev s_lot_back : Stmt := top 12
abbrev s_remainder_back : Stmt := top 26
abbrev s_classes_back : Stmt := top 27
abbrev s_name_of : Stmt := top 28
abbrev s__law_source : Stmt := top 30
abbrev s__law_pick : Stmt := top 31
abbrev s__law_of : Stmt := top 32
abbrev s__law_mixed : Stmt := top 33
abbrev s__law_undone : Stmt := top 34
abbrev s__law_digits : Stmt := top 35
abbrev s__law_base : Stmt := top 36
abbrev s__law_row : Stmt := top 37
abbrev s__law_least : Stmt := top 38
abbrev s__law_longer : Stmt := top 39
abbrev s_law : Stmt := top 40
structure Txt (K : PySem.W.Frag) (mg : Str → Option Value) : Prop where
  d_point_of : At K mg "point_of" s_point_of ["lot"]
  d_point_low : At K mg "point_low" s_point_low ["numbers", "bottom"]
  d_points_added : At K mg "points_added" s_points_added ["one", "other"]
  d_table_det : At K mg "table_det" s_table_det ["table"]
  d_table_other : At K mg "table_other" s_table_other ["table"]
  d_lot_led : At K mg "lot_led" s_lot_led ["table", "lot"]
  d_point_undone : At K mg "point_undone" s_point_undone ["table", "point"]
  d_lots_added : At K mg "lots_added" s_lots_added ["one", "other"]
  d_row_worth : At K mg "row_worth" s_row_worth ["base", "lot", "row"]
  d_round_worth : At K mg "round_worth" s_round_worth ["base", "row"]
  d_worth : At K mg "worth" s_worth ["base", "name"]
  d_least_name : At K mg "least_name" s_least_name ["name"]
  d_classes_of : At K mg "classes_of" s_classes_of ["table", "point"]
  d_lots_less : At K mg "lots_less" s_lots_less ["one", "other"]
  d_lot_undone : At K mg "lot_undone" s_lot_undone ["table", "lot"]
  d_lot_back : At K mg "lot_back" s_lot_back ["base", "lot"]
  d_remainder_back : At K mg "remainder_back" s_remainder_back ["base", "bottom", "ahead", "remainder"]
  d_classes_back : At K mg "classes_back" s_classes_back ["base", "bottom", "classes", "remainder"]
  d_name_of : At K mg "name_of" s_name_of ["base", "point"]
  d__law_source : At K mg "_law_source" s__law_source ["script"]
  d__law_pick : At K mg "_law_pick" s__law_pick ["source", "many"]
  d__law_of : At K mg "_law_of" s__law_of ["source", "some"]
  d__law_mixed : At K mg "_law_mixed" s__law_mixed ["source", "things"]
  d__law_undone : At K mg "_law_undone" s__law_undone ["table", "lot"]
  d__law_digits : At K mg "_law_digits" s__law_digits ["source", "table", "far"]
  d__law_base : At K mg "_law_base" s__law_base ["source", "far"]
  d__law_row : At K mg "_law_row" s__law_row ["name", "many"]
  d__law_least : At K mg "_law_least" s__law_least ["name"]
  d__law_longer : At K mg "_law_longer" s__law_longer ["source", "name"]
  z_range : mg "range" = none
  z_len : mg "len" = none
  z_enumerate : mg "enumerate" = none
  z_tuple : mg "tuple" = none
  z_int : mg "int" = none
  z_abs : mg "abs" = none
  z_max : mg "max" = none
  z_list : mg "list" = none
  z_repr : mg "repr" = none
  m_gcd : mg "gcd" = some (.builtin "math.gcd")
  c_MOST_CLASSES : ∃ t : Tok, mg "MOST_CLASSES" = some (.int 200 t)
theorem bb_len : bootBuiltins "len" = some (.builtin "len") := by first | rfl | decide +kernel
theorem bb_tuple : bootBuiltins "tuple" = some (.type "tuple") := by first | rfl | decide +kernel
theorem bb_int : bootBuiltins "int" = some (.type "int") := by first | rfl | decide +kernel
theorem bb_abs : bootBuiltins "abs" = some (.builtin "abs") := by first | rfl | decide +kernel
theorem bb_max : bootBuiltins "max" = some (.builtin "max") := by first | rfl | decide +kernel
theorem bb_list : bootBuiltins "list" = some (.type "list") := by first | rfl | decide +kernel
theorem bb_repr : bootBuiltins "repr" = some (.builtin "repr") := by first | rfl | decide +kernel
theorem sc_point_of : FnScope ["lot"] ["lot"] (defScope s_point_of) := ⟨rfl, rfl, rfl, by decide +kernel, rfl, by decide +kernel, by decide +kernel⟩
theorem sc_point_low : FnScope ["numbers", "bottom", "part"] ["numbers", "bottom"] (defScope s_point_low) := ⟨rfl, rfl, rfl, by decide +kernel, rfl, by decide +kernel, by decide +kernel⟩
theorem sc_points_added : FnScope ["one", "other", "x", "y", "c", "z", "w", "d"] ["one", "other"] (defScope s_points_added) := ⟨rfl, rfl, rfl, by decide +kernel, rfl, by decide +kernel, by decide +kernel⟩
theorem sc_table_det : FnScope ["table", "a", "b", "c", "d"] ["table"] (defScope s_table_det) := ⟨rfl, rfl, rfl, by decide +kernel, rfl, by decide +kernel, by decide +kernel⟩
theorem sc_table_other : FnScope ["table", "a", "b", "c", "d"] ["table"] (defScope s_table_other) := ⟨rfl, rfl, rfl, by decide +kernel, rfl, by decide +kernel, by decide +kernel⟩
theorem sc_lot_led : FnScope ["table", "lot", "a", "b", "c", "d"] ["table", "lot"] (defScope s_lot_led) := ⟨rfl, rfl, rfl, by decide +kernel, rfl, by decide +kernel, by decide +kernel⟩
theorem sc_point_undone : FnScope ["table", "point"] ["table", "point"] (defScope s_point_undone) := ⟨rfl, rfl, rfl, by decide +kernel, rfl, by decide +kernel, by decide +kernel⟩
theorem sc_lots_added : FnScope ["one", "other"] ["one", "other"] (defScope s_lots_added) := ⟨rfl, rfl, rfl, by decide +kernel, rfl, by decide +kernel, by decide +kernel⟩
theorem sc_row_worth : FnScope ["base", "lot", "row", "number"] ["base", "lot", "row"] (defScope s_row_worth) := ⟨rfl, rfl, rfl, by decide +kernel, rfl, by decide +kernel, by decide +kernel⟩
theorem sc_round_worth : FnScope ["base", "row", "first", "second", "number", "less"] ["base", "row"] (defScope s_round_worth) := ⟨rfl, rfl, rfl, by decide +kernel, rfl, by decide +kernel, by decide +kernel⟩
theorem sc_worth : FnScope ["base", "name", "lot", "ahead", "late", "found", "number"] ["base", "name"] (defScope s_worth) := ⟨rfl, rfl, rfl, by decide +kernel, rfl, by decide +kernel, by decide +kernel⟩
theorem sc_least_name : FnScope ["name", "lot", "ahead", "late", "parts", "k"] ["name"] (defScope s_least_name) := ⟨rfl, rfl, rfl, by decide +kernel, rfl, by decide +kernel, by decide +kernel⟩
theorem sc_classes_of : FnScope ["table", "point", "x", "y", "bottom", "here", "line", "met"] ["table", "point"] (defScope s_classes_of) := ⟨rfl, rfl, rfl, by decide +kernel, rfl, by decide +kernel, by decide +kernel⟩
theorem sc_lots_less : FnScope ["one", "other"] ["one", "other"] (defScope s_lots_less) := ⟨rfl, rfl, rfl, by decide +kernel, rfl, by decide +kernel, by decide +kernel⟩
theorem sc_lot_undone : FnScope ["table", "lot", "many", "late"] ["table", "lot"] (defScope s_lot_undone) := ⟨rfl, rfl, rfl, by decide +kernel, rfl, by decide +kernel, by decide +kernel⟩
theorem sc_lot_back : FnScope ["base", "lot", "some", "number", "digit", "told"] ["base", "lot"] (defScope s_lot_back) := ⟨rfl, rfl, rfl, by decide +kernel, rfl, by decide +kernel, by decide +kernel⟩
theorem sc_remainder_back : FnScope ["base", "bottom", "ahead", "remainder", "x", "y", "number", "left"] ["base", "bottom", "ahead", "remainder"] (defScope s_remainder_back) := ⟨rfl, rfl, rfl, by decide +kernel, rfl, by decide +kernel, by decide +kernel⟩
theorem sc_classes_back : FnScope ["base", "bottom", "classes", "remainder", "found", "ahead", "number"] ["base", "bottom", "classes", "remainder"] (defScope s_classes_back) := ⟨rfl, rfl, rfl, by decide +kernel, rfl, by decide +kernel, by decide +kernel⟩
theorem sc_name_of : FnScope ["base", "point", "line", "at", "x", "y", "bottom", "remainder", "met", "rows", "row", "late", "ahead", "first", "lot"] ["base", "point"] (defScope s_name_of) := ⟨rfl, rfl, rfl, by decide +kernel, rfl, by decide +kernel, by decide +kernel⟩
theorem sc__law_source : FnScope ["script", "mixed", "cell"] ["script"] (defScope s__law_source) := ⟨rfl, rfl, rfl, by decide +kernel, rfl, by decide +kernel, by decide +kernel⟩
theorem sc__law_pick : FnScope ["source", "many", "left", "mixed"] ["source", "many"] (defScope s__law_pick) := ⟨rfl, rfl, rfl, by decide +kernel, rfl, by decide +kernel, by decide +kernel⟩
theorem sc__law_of : FnScope ["source", "some"] ["source", "some"] (defScope s__law_of) := ⟨rfl, rfl, rfl, by decide +kernel, rfl, by decide +kernel, by decide +kernel⟩
theorem sc__law_mixed : FnScope ["source", "things", "rest", "lap"] ["source", "things"] (defScope s__law_mixed) := ⟨rfl, rfl, rfl, by decide +kernel, rfl, by decide +kernel, by decide +kernel⟩
theorem sc__law_undone : FnScope ["table", "lot", "a", "b", "c", "d", "many", "x", "y"] ["table", "lot"] (defScope s__law_undone) := ⟨rfl, rfl, rfl, by decide +kernel, rfl, by decide +kernel, by decide +kernel⟩
theorem sc__law_digits : FnScope ["source", "table", "far", "a", "b", "c", "d", "some", "found", "x", "lot", "late", "y", "one"] ["source", "table", "far"] (defScope s__law_digits) := ⟨rfl, rfl, rfl, by decide +kernel, rfl, by decide +kernel, by decide +kernel⟩
theorem sc__law_base : FnScope ["source", "far", "some", "table"] ["source", "far"] (defScope s__law_base) := ⟨rfl, rfl, rfl, by decide +kernel, rfl, by decide +kernel, by decide +kernel⟩
theorem sc__law_row : FnScope ["name", "many", "row"] ["name", "many"] (defScope s__law_row) := ⟨rfl, rfl, rfl, by decide +kernel, rfl, by decide +kernel, by decide +kernel⟩
theorem sc__law_least : FnScope ["name", "far", "row", "size", "ahead", "late"] ["name"] (defScope s__law_least) := ⟨rfl, rfl, rfl, by decide +kernel, rfl, by decide +kernel, by decide +kernel⟩
theorem sc__law_longer : FnScope ["source", "name", "lot", "ahead", "turn", "k", "times", "row", "late"] ["source", "name"] (defScope s__law_longer) := ⟨rfl, rfl, rfl, by decide +kernel, rfl, by decide +kernel, by decide +kernel⟩
theorem sc_law : FnScope ["script", "source", "lap", "base", "many", "lot", "ahead", "turn", "name", "least", "kept", "point", "turning", "late", "found", "told", "k"] ["script"] (defScope s_law) := ⟨rfl, rfl, rfl, by decide +kernel, rfl, by decide +kernel, by decide +kernel⟩
section
variable {P : Program} {w : World} {K : PySem.W.Frag} {mg : Str → Option Value} {base : Heap}
theorem p_point_of (T : Txt K mg) : ∀ k : Nat, 1 ≤ k → HasP P w K mg base k "point_of" 1 (fn1 m_point_of) :=
  T.d_point_of.p (lv := 0) (N := ["lot"]) sc_point_of rfl fun ds hds => match ds, hds with
  | [v_lot], _ => by
    show DSs _ [some (.val v_lot)] _ (m_point_of v_lot) _
    unfold m_point_of
    exact ds_at [some (.val v_lot)] (ds_ret (de_tup (da_cons (de_var 0 rfl (da_cons (de_int (da_nil (⟨by show (2 : Nat) ≤ 16777216; decide, rfl⟩))))))))

theorem p_point_low (T : Txt K mg) : ∀ k : Nat, 1 ≤ k → HasP P w K mg base k "point_low" 2 (fn2 m_point_low) :=
  T.d_point_low.p (lv := 0) (N := ["numbers", "bottom", "part"]) sc_point_low rfl fun ds hds => match ds, hds with
  | [v_numbers, v_bottom], _ => by
    show DSs _ [some (.val v_numbers), some (.val v_bottom), none] _ (m_point_low v_numbers v_bottom) _
    unfold m_point_low
    exact ds_at [some (.val v_numbers), some (.val v_bottom), none] (ds_set 2 (de_bfn bl_gcd T.m_gcd (da_cons (de_bfn bl_gcd T.m_gcd (da_cons (de_ix (de_var 0 rfl (de_int (⟨_, rfl, fun z1 => da_cons (de_ix (de_var 0 rfl (de_int (⟨_, rfl, fun z2 => da_nil (⟨_, _, fn2_eq _ _ _, rfl, fun z3 => da_cons (de_var 1 rfl (da_nil (⟨_, _, fn2_eq _ _ _, rfl, fun z4 => ds_at [some (.val v_numbers), some (.val v_bottom), some (.val z4)] (ds_set 2 (de_dir (de_ifx (dt_cmp cs_gt (de_var 1 rfl (de_int (⟨_, rfl, fun z5 => ⟨_, _, rfl, de_var 2 rfl (⟨rfl, rfl⟩), de_un us_neg (de_var 2 rfl (⟨_, rfl, fun z6 => ⟨rfl, rfl⟩⟩))⟩⟩))))) fun z7 => ds_at [some (.val v_numbers), some (.val v_bottom), some (.val z7)] (ds_ret (de_tup (da_cons (de_tup (da_cons (de_op bs_fdiv (de_ix (de_var 0 rfl (de_int (⟨_, rfl, fun z8 => de_var 2 rfl (⟨_, rfl, fun z9 => da_cons (de_op bs_fdiv (de_ix (de_var 0 rfl (de_int (⟨_, rfl, fun z10 => de_var 2 rfl (⟨_, rfl, fun z11 => da_nil (⟨by show (2 : Nat) ≤ 16777216; decide, da_cons (de_op bs_fdiv (de_var 1 rfl (de_var 2 rfl (⟨_, rfl, fun z12 => da_nil (⟨by show (2 : Nat) ≤ 16777216; decide, rfl⟩)⟩))))⟩)⟩)⟩)))))⟩)⟩))))))))))))⟩)))⟩)⟩))))⟩)))))))))

theorem p_points_added (T : Txt K mg) : ∀ k : Nat, 2 ≤ k → HasP P w K mg base k "points_added" 2 (fn2 m_points_added) :=
  T.d_points_added.p (lv := 1) (N := ["one", "other", "x", "y", "c", "z", "w", "d"]) sc_points_added rfl fun ds hds => match ds, hds with
  | [v_one, v_other], _ => by
    show DSs _ [some (.val v_one), some (.val v_other), none, none, none, none, none, none] _ (m_points_added v_one v_other) _
    unfold m_points_added
    exact ds_at [some (.val v_one), some (.val v_other), none, none, none, none, none, none] (ds_asg (de_var 0 rfl (dg_tup2 rfl fun p1 p2 => dgs_cons (dg_tup2 rfl fun p3 p4 => dgs_cons (dg_name 2 (dgs_cons (dg_name 3 (dgs_nil (dgs_cons (dg_name 4 (dgs_nil (ds_at [some (.val v_one), some (.val v_other), some (.val p3), some (.val p4), some (.val p2), none, none, none] (ds_asg (de_var 1 rfl (dg_tup2 rfl fun p5 p6 => dgs_cons (dg_tup2 rfl fun p7 p8 => dgs_cons (dg_name 5 (dgs_cons (dg_name 6 (dgs_nil (dgs_cons (dg_name 7 (dgs_nil (ds_at [some (.val v_one), some (.val v_other), some (.val p3), some (.val p4), some (.val p2), some (.val p7), some (.val p8), some (.val p6)] (ds_ret (de_call (p_point_low T _ (by show (1 : Nat) ≤ 1; decide) _ _ _) (da_cons (de_tup (da_cons (de_op bs_add (de_op bs_mul (de_var 2 rfl (de_var 7 rfl (⟨_, rfl, fun z9 => de_op bs_mul (de_var 5 rfl (de_var 4 rfl (⟨_, rfl, fun z10 => ⟨_, rfl, fun z11 => da_cons (de_op bs_add (de_op bs_mul (de_var 3 rfl (de_var 7 rfl (⟨_, rfl, fun z12 => de_op bs_mul (de_var 6 rfl (de_var 4 rfl (⟨_, rfl, fun z13 => ⟨_, rfl, fun z14 => da_nil (⟨by show (2 : Nat) ≤ 16777216; decide, da_cons (de_op bs_mul (de_var 4 rfl (de_var 7 rfl (⟨_, rfl, fun z15 => da_nil (⟨rfl, ⟨_, _, fn2_eq _ _ _, rfl, fun z16 => rfl⟩⟩)⟩))))⟩)⟩⟩)))⟩)))))⟩⟩)))⟩))))))))))))))))))))))))))))))))))

theorem p_table_det (T : Txt K mg) : ∀ k : Nat, 1 ≤ k → HasP P w K mg base k "table_det" 1 (fn1 m_table_det) :=
  T.d_table_det.p (lv := 0) (N := ["table", "a", "b", "c", "d"]) sc_table_det rfl fun ds hds => match ds, hds with
  | [v_table], _ => by
    show DSs _ [some (.val v_table), none, none, none, none] _ (m_table_det v_table) _
    unfold m_table_det
    exact ds_at [some (.val v_table), none, none, none, none] (ds_asg (de_var 0 rfl (dg_tup2 rfl fun p1 p2 => dgs_cons (dg_tup2 rfl fun p3 p4 => dgs_cons (dg_name 1 (dgs_cons (dg_name 2 (dgs_nil (dgs_cons (dg_tup2 rfl fun p5 p6 => dgs_cons (dg_name 3 (dgs_cons (dg_name 4 (dgs_nil (dgs_nil (ds_at [some (.val v_table), some (.val p3), some (.val p4), some (.val p5), some (.val p6)] (ds_ret (de_op bs_sub (de_op bs_mul (de_var 1 rfl (de_var 4 rfl (⟨_, rfl, fun z7 => de_op bs_mul (de_var 2 rfl (de_var 3 rfl (⟨_, rfl, fun z8 => ⟨_, rfl, fun z9 => rfl⟩⟩)))⟩))))))))))))))))))))))

theorem p_table_other (T : Txt K mg) : ∀ k : Nat, 1 ≤ k → HasP P w K mg base k "table_other" 1 (fn1 m_table_other) :=
  T.d_table_other.p (lv := 0) (N := ["table", "a", "b", "c", "d"]) sc_table_other rfl fun ds hds => match ds, hds with
  | [v_table], _ => by
    show DSs _ [some (.val v_table), none, none, none, none] _ (m_table_other v_table) _
    unfold m_table_other
    exact ds_at [some (.val v_table), none, none, none, none] (ds_asg (de_var 0 rfl (dg_tup2 rfl fun p1 p2 => dgs_cons (dg_tup2 rfl fun p3 p4 => dgs_cons (dg_name 1 (dgs_cons (dg_name 2 (dgs_nil (dgs_cons (dg_tup2 rfl fun p5 p6 => dgs_cons (dg_name 3 (dgs_cons (dg_name 4 (dgs_nil (dgs_nil (ds_at [some (.val v_table), some (.val p3), some (.val p4), some (.val p5), some (.val p6)] (ds_ret (de_tup (da_cons (de_tup (da_cons (de_var 4 rfl (da_cons (de_un us_neg (de_var 2 rfl (⟨_, rfl, fun z7 => da_nil (⟨by show (2 : Nat) ≤ 16777216; decide, da_cons (de_tup (da_cons (de_un us_neg (de_var 3 rfl (⟨_, rfl, fun z8 => da_cons (de_var 1 rfl (da_nil (⟨by show (2 : Nat) ≤ 16777216; decide, da_nil (⟨by show (2 : Nat) ≤ 16777216; decide, rfl⟩)⟩)))⟩)))))⟩)⟩))))))))))))))))))))))))))

theorem p_lot_led (T : Txt K mg) : ∀ k : Nat, 1 ≤ k → HasP P w K mg base k "lot_led" 2 (fn2 m_lot_led) :=
  T.d_lot_led.p (lv := 0) (N := ["table", "lot", "a", "b", "c", "d"]) sc_lot_led rfl fun ds hds => match ds, hds with
  | [v_table, v_lot], _ => by
    show DSs _ [some (.val v_table), some (.val v_lot), none, none, none, none] _ (m_lot_led v_table v_lot) _
    unfold m_lot_led
    exact ds_at [some (.val v_table), some (.val v_lot), none, none, none, none] (ds_asg (de_var 0 rfl (dg_tup2 rfl fun p1 p2 => dgs_cons (dg_tup2 rfl fun p3 p4 => dgs_cons (dg_name 2 (dgs_cons (dg_name 3 (dgs_nil (dgs_cons (dg_tup2 rfl fun p5 p6 => dgs_cons (dg_name 4 (dgs_cons (dg_name 5 (dgs_nil (dgs_nil (ds_at [some (.val v_table), some (.val v_lot), some (.val p3), some (.val p4), some (.val p5), some (.val p6)] (ds_ret (de_tup (da_cons (de_op bs_add (de_op bs_mul (de_var 2 rfl (de_ix (de_var 1 rfl (de_int (⟨_, rfl, fun z7 => ⟨_, rfl, fun z8 => de_op bs_mul (de_var 3 rfl (de_ix (de_var 1 rfl (de_int (⟨_, rfl, fun z9 => ⟨_, rfl, fun z10 => ⟨_, rfl, fun z11 => da_cons (de_op bs_add (de_op bs_mul (de_var 4 rfl (de_ix (de_var 1 rfl (de_int (⟨_, rfl, fun z12 => ⟨_, rfl, fun z13 => de_op bs_mul (de_var 5 rfl (de_ix (de_var 1 rfl (de_int (⟨_, rfl, fun z14 => ⟨_, rfl, fun z15 => ⟨_, rfl, fun z16 => da_nil (⟨by show (2 : Nat) ≤ 16777216; decide, rfl⟩)⟩⟩⟩)))))⟩⟩)))))))⟩⟩⟩)))))⟩⟩))))))))))))))))))))))))))

theorem p_point_undone (T : Txt K mg) : ∀ k : Nat, 2 ≤ k → HasP P w K mg base k "point_undone" 2 (fn2 m_point_undone) :=
  T.d_point_undone.p (lv := 1) (N := ["table", "point"]) sc_point_undone rfl fun ds hds => match ds, hds with
  | [v_table, v_point], _ => by
    show DSs _ [some (.val v_table), some (.val v_point)] _ (m_point_undone v_table v_point) _
    unfold m_point_undone
    exact ds_at [some (.val v_table), some (.val v_point)] (ds_ret (de_call (p_point_low T _ (by show (1 : Nat) ≤ 1; decide) _ _ _) (da_cons (de_call (p_lot_led T _ (by show (1 : Nat) ≤ 1; decide) _ _ _) (da_cons (de_call (p_table_other T _ (by show (1 : Nat) ≤ 1; decide) _ _ _) (da_cons (de_var 0 rfl (da_nil (⟨rfl, ⟨_, _, fn1_eq _ _, rfl, fun z1 => da_cons (de_ix (de_var 1 rfl (de_int (⟨_, rfl, fun z2 => da_nil (⟨rfl, ⟨_, _, fn2_eq _ _ _, rfl, fun z3 => da_cons (de_op bs_mul (de_ix (de_var 1 rfl (de_int (⟨_, rfl, fun z4 => de_call (p_table_det T _ (by show (1 : Nat) ≤ 1; decide) _ _ _) (da_cons (de_var 0 rfl (da_nil (⟨rfl, ⟨_, _, fn1_eq _ _, rfl, fun z5 => ⟨_, rfl, fun z6 => da_nil (⟨rfl, ⟨_, _, fn2_eq _ _ _, rfl, fun z7 => rfl⟩⟩)⟩⟩⟩))))⟩)))))⟩⟩)⟩))))⟩⟩))))))))))

theorem p_lots_added (T : Txt K mg) : ∀ k : Nat, 1 ≤ k → HasP P w K mg base k "lots_added" 2 (fn2 m_lots_added) :=
  T.d_lots_added.p (lv := 0) (N := ["one", "other"]) sc_lots_added rfl fun ds hds => match ds, hds with
  | [v_one, v_other], _ => by
    show DSs _ [some (.val v_one), some (.val v_other)] _ (m_lots_added v_one v_other) _
    unfold m_lots_added
    exact ds_at [some (.val v_one), some (.val v_other)] (ds_ret (de_tup (da_cons (de_op bs_add (de_ix (de_var 0 rfl (de_int (⟨_, rfl, fun z1 => de_ix (de_var 1 rfl (de_int (⟨_, rfl, fun z2 => ⟨_, rfl, fun z3 => da_cons (de_op bs_add (de_ix (de_var 0 rfl (de_int (⟨_, rfl, fun z4 => de_ix (de_var 1 rfl (de_int (⟨_, rfl, fun z5 => ⟨_, rfl, fun z6 => da_nil (⟨by show (2 : Nat) ≤ 16777216; decide, rfl⟩)⟩⟩)))⟩)))))⟩⟩)))⟩))))))))

theorem p_row_worth (T : Txt K mg) : ∀ k : Nat, 2 ≤ k → HasP P w K mg base k "row_worth" 3 (fn3 m_row_worth) :=
  T.d_row_worth.p (lv := 1) (N := ["base", "lot", "row", "number"]) sc_row_worth rfl fun ds hds => match ds, hds with
  | [v_base, v_lot, v_row], _ => by
    show DSs _ [some (.val v_base), some (.val v_lot), some (.val v_row), none] _ (m_row_worth v_base v_lot v_row) _
    unfold m_row_worth
    exact ds_at [some (.val v_base), some (.val v_lot), some (.val v_row), none] (ds_forS (fun (st : D) => ([some (.val v_base), some (.val st), some (.val v_row), none] : Z.Env)) (di_val (de_var 2 rfl (⟨_, rfl, fun z1 => ⟨v_lot, _, _, (.s (.s (.s (.n .z)))), rfl, fun x2 s3 => dg_name 3 (ds_at [some (.val v_base), some (.val s3), some (.val v_row), some (.val x2)] (ds_set 1 (de_call (p_lots_added T _ (by show (1 : Nat) ≤ 1; decide) _ _ _) (da_cons (de_call (p_lot_led T _ (by show (1 : Nat) ≤ 1; decide) _ _ _) (da_cons (de_ix (de_var 0 rfl (de_int (⟨_, rfl, fun z5 => da_cons (de_var 1 rfl (da_nil (⟨rfl, ⟨_, _, fn2_eq _ _ _, rfl, fun z6 => da_cons (de_ix (de_ix (de_var 0 rfl (de_int (⟨_, rfl, fun z7 => de_var 3 rfl (⟨_, rfl, fun z8 => da_nil (⟨rfl, ⟨_, _, fn2_eq _ _ _, rfl, fun z9 => ds_nil (⟨z9, (.s (.s (.s (.n .z)))), rfl⟩)⟩⟩)⟩)⟩)))))⟩⟩)))⟩)))))))))), fun s4 => ds_at [some (.val v_base), some (.val s4), some (.val v_row), none] (ds_ret (de_var 1 rfl (rfl)))⟩⟩))))

theorem p_round_worth (T : Txt K mg) : ∀ k : Nat, 3 ≤ k → HasP P w K mg base k "round_worth" 2 (fn2 m_round_worth) :=
  T.d_round_worth.p (lv := 2) (N := ["base", "row", "first", "second", "number", "less"]) sc_round_worth rfl fun ds hds => match ds, hds with
  | [v_base, v_row], _ => by
    show DSs _ [some (.val v_base), some (.val v_row), none, none, none, none] _ (m_round_worth v_base v_row) _
    unfold m_round_worth
    exact ds_at [some (.val v_base), some (.val v_row), none, none, none, none] (ds_asg (de_tup (da_cons (de_tup (da_cons (de_int (da_cons (de_int (da_nil (⟨by show (2 : Nat) ≤ 16777216; decide, da_cons (de_tup (da_cons (de_int (da_cons (de_int (da_nil (⟨by show (2 : Nat) ≤ 16777216; decide, da_nil (⟨by show (2 : Nat) ≤ 16777216; decide, dg_tup2 rfl fun p1 p2 => dgs_cons (dg_name 2 (dgs_cons (dg_name 3 (dgs_nil (ds_at [some (.val v_base), some (.val v_row), some (.val p1), some (.val p2), none, none] (ds_forS (fun (st : D × D) => ([some (.val v_base), some (.val v_row), some (.val st.1), some (.val st.2), none, none] : Z.Env)) (di_val (de_var 1 rfl (⟨_, rfl, fun z3 => ⟨(p1, p2), _, _, (.s (.s (.s (.s (.n (.n .z)))))), rfl, fun x4 s5 => dg_name 4 (ds_at [some (.val v_base), some (.val v_row), some (.val s5.1), some (.val s5.2), some (.val x4), none] (ds_par 2 3 (de_call (p_lot_led T _ (by show (1 : Nat) ≤ 2; decide) _ _ _) (da_cons (de_ix (de_var 0 rfl (de_int (⟨_, rfl, fun z7 => da_cons (de_var 2 rfl (da_nil (⟨rfl, ⟨_, _, fn2_eq _ _ _, rfl, fun z8 => de_call (p_lot_led T _ (by show (1 : Nat) ≤ 2; decide) _ _ _) (da_cons (de_ix (de_var 0 rfl (de_int (⟨_, rfl, fun z9 => da_cons (de_var 3 rfl (da_nil (⟨rfl, ⟨_, _, fn2_eq _ _ _, rfl, fun z10 => ds_nil (⟨(z8, z10), (.s (.s (.s (.s (.n (.n .z)))))), rfl⟩)⟩⟩)))⟩)))))⟩⟩)))⟩)))))) (hw := by intro env he; cases env; cases he; rfl))), fun s6 => ds_at [some (.val v_base), some (.val v_row), some (.val s6.1), some (.val s6.2), none, none] (ds_set 5 (de_tup (da_cons (de_tup (da_cons (de_op bs_sub (de_ix (de_var 2 rfl (de_int (⟨_, rfl, fun z11 => de_int (⟨_, rfl, fun z12 => da_cons (de_ix (de_var 3 rfl (de_int (⟨_, rfl, fun z13 => da_nil (⟨by show (2 : Nat) ≤ 16777216; decide, da_cons (de_tup (da_cons (de_ix (de_var 2 rfl (de_int (⟨_, rfl, fun z14 => da_cons (de_op bs_sub (de_ix (de_var 3 rfl (de_int (⟨_, rfl, fun z15 => de_int (⟨_, rfl, fun z16 => da_nil (⟨by show (2 : Nat) ≤ 16777216; decide, da_nil (⟨by show (2 : Nat) ≤ 16777216; decide, ds_at [some (.val v_base), some (.val v_row), some (.val s6.1), some (.val s6.2), none, some (.val (PyData.tuple [(PyData.tuple [z12, z13]), (PyData.tuple [z14, z16])]))] (ds_ret (de_call (p_point_low T _ (by show (1 : Nat) ≤ 2; decide) _ _ _) (da_cons (de_call (p_lot_led T _ (by show (1 : Nat) ≤ 2; decide) _ _ _) (da_cons (de_call (p_table_other T _ (by show (1 : Nat) ≤ 2; decide) _ _ _) (da_cons (de_var 5 rfl (da_nil (⟨rfl, ⟨_, _, fn1_eq _ _, rfl, fun z17 => da_cons (de_call (p_row_worth T _ (by show (2 : Nat) ≤ 2; decide) _ _ _) (da_cons (de_var 0 rfl (da_cons (de_tup (da_cons (de_int (da_cons (de_int (da_nil (⟨by show (2 : Nat) ≤ 16777216; decide, da_cons (de_var 1 rfl (da_nil (⟨rfl, ⟨_, _, fn3_eq _ _ _ _, rfl, fun z18 => da_nil (⟨rfl, ⟨_, _, fn2_eq _ _ _, rfl, fun z19 => da_cons (de_call (p_table_det T _ (by show (1 : Nat) ≤ 2; decide) _ _ _) (da_cons (de_var 5 rfl (da_nil (⟨rfl, ⟨_, _, fn1_eq _ _, rfl, fun z20 => da_nil (⟨rfl, ⟨_, _, fn2_eq _ _ _, rfl, fun z21 => rfl⟩⟩)⟩⟩)))))⟩⟩)⟩⟩)))⟩)))))))))))⟩⟩))))))))))⟩)⟩)⟩)⟩)))))⟩))))))⟩)⟩))))⟩)⟩))))))))))⟩⟩)))))))))⟩)⟩)))))))⟩))))))))))

theorem p_worth (T : Txt K mg) : ∀ k : Nat, 4 ≤ k → HasP P w K mg base k "worth" 2 (fn2 m_worth) :=
  T.d_worth.p (lv := 3) (N := ["base", "name", "lot", "ahead", "late", "found", "number"]) sc_worth rfl fun ds hds => match ds, hds with
  | [v_base, v_name], _ => by
    show DSs _ [some (.val v_base), some (.val v_name), none, none, none, none, none] _ (m_worth v_base v_name) _
    unfold m_worth
    exact ds_at [some (.val v_base), some (.val v_name), none, none, none, none, none] (ds_asg (de_var 1 rfl (dg_tup3 rfl fun p1 p2 p3 => dgs_cons (dg_name 2 (dgs_cons (dg_name 3 (dgs_cons (dg_name 4 (dgs_nil (ds_at [some (.val v_base), some (.val v_name), some (.val p1), some (.val p2), some (.val p3), none, none] (ds_set 5 (de_call (p_points_added T _ (by show (2 : Nat) ≤ 3; decide) _ _ _) (da_cons (de_call (p_point_of T _ (by show (1 : Nat) ≤ 3; decide) _ _ _) (da_cons (de_call (p_row_worth T _ (by show (2 : Nat) ≤ 3; decide) _ _ _) (da_cons (de_var 0 rfl (da_cons (de_var 2 rfl (da_cons (de_var 3 rfl (da_nil (⟨rfl, ⟨_, _, fn3_eq _ _ _ _, rfl, fun z4 => da_nil (⟨rfl, ⟨_, _, fn1_eq _ _, rfl, fun z5 => da_cons (de_call (p_round_worth T _ (by show (3 : Nat) ≤ 3; decide) _ _ _) (da_cons (de_var 0 rfl (da_cons (de_var 4 rfl (da_nil (⟨rfl, ⟨_, _, fn2_eq _ _ _, rfl, fun z6 => da_nil (⟨rfl, ⟨_, _, fn2_eq _ _ _, rfl, fun z7 => ds_at [some (.val v_base), some (.val v_name), some (.val p1), some (.val p2), some (.val p3), some (.val z7), none] (ds_forS (fun (st : D) => ([some (.val v_base), some (.val v_name), some (.val p1), some (.val p2), some (.val p3), some (.val st), none] : Z.Env)) (di_val (de_var 3 rfl (⟨_, rfl, fun z8 => ⟨z7, _, _, (.s (.s (.s (.s (.s (.s (.n .z))))))), rfl, fun x9 s10 => dg_name 6 (ds_at [some (.val v_base), some (.val v_name), some (.val p1), some (.val p2), some (.val p3), some (.val s10), some (.val x9)] (ds_set 5 (de_call (p_point_undone T _ (by show (2 : Nat) ≤ 3; decide) _ _ _) (da_cons (de_ix (de_var 0 rfl (de_int (⟨_, rfl, fun z12 => da_cons (de_var 5 rfl (da_nil (⟨rfl, ⟨_, _, fn2_eq _ _ _, rfl, fun z13 => ds_nil (⟨z13, (.s (.s (.s (.s (.s (.s (.n .z))))))), rfl⟩)⟩⟩)))⟩)))))))), fun s11 => ds_at [some (.val v_base), some (.val v_name), some (.val p1), some (.val p2), some (.val p3), some (.val s11), none] (ds_ret (de_var 5 rfl (rfl)))⟩⟩))))⟩⟩)⟩⟩)))))))⟩⟩)⟩⟩))))))))))))))))))))))))

theorem p_least_name (T : Txt K mg) : ∀ k : Nat, 1 ≤ k → HasP P w K mg base k "least_name" 1 (fn1 m_least_name) :=
  T.d_least_name.p (lv := 0) (N := ["name", "lot", "ahead", "late", "parts", "k"]) sc_least_name rfl fun ds hds => match ds, hds with
  | [v_name], _ => by
    show DSs _ [some (.val v_name), none, none, none, none, none] _ (m_least_name v_name) _
    unfold m_least_name
    exact ds_at [some (.val v_name), none, none, none, none, none] (ds_asg (de_var 0 rfl (dg_tup3 rfl fun p1 p2 p3 => dgs_cons (dg_name 1 (dgs_cons (dg_name 2 (dgs_cons (dg_name 3 (dgs_nil (ds_at [some (.val v_name), some (.val p1), some (.val p2), some (.val p3), none, none] (ds_setLcP 4 [("k", 5)] (by kernel_rfl) (di_range2 T.z_range (de_int (de_op bs_add (de_blt bl_len T.z_len bb_len (da_cons (de_var 3 rfl (da_nil (⟨_, _, fn1_eq _ _, rfl, fun z4 => de_int (⟨_, rfl, fun z5 => ⟨_, rfl, fun z6 => ⟨[some (.val v_name), some (.val p1), some (.val p2), some (.val p3), none, none], _, _, (.s (.s (.s (.s (.n (.n .z)))))), rfl, rfl, fun x7 => dg_name 5 (dts_one (dt_cmp cs_eq (de_op bs_fmod (de_blt bl_len T.z_len bb_len (da_cons (de_var 3 rfl (da_nil (⟨_, _, fn1_eq _ _, rfl, fun z8 => de_var 5 rfl (⟨_, rfl, fun z9 => de_int (⟨_, rfl, fun z10 => lsplitP rfl (de_var 5 rfl (rfl)) rfl⟩)⟩)⟩)))))))), fun ys11 => ds_at [some (.val v_name), some (.val p1), some (.val p2), some (.val p3), some (.val (PyData.list ys11)), none] (ds_set 3 (de_slice (de_var 3 rfl (de_ix (de_lcP [("k", 5)] (by kernel_rfl) (di_val (de_var 4 rfl (⟨_, rfl, fun z12 => ⟨[some (.val v_name), some (.val p1), some (.val p2), some (.val p3), some (.val (PyData.list ys11)), none], _, _, (.s (.s (.s (.s (.s (.n .z)))))), rfl, rfl, fun x13 => dg_name 5 (dts_one (dt_cmp cs_eq (de_op bs_mul (de_slice (de_var 3 rfl (de_var 5 rfl (.inr ⟨_, rfl, fun l14 => ⟨_, rfl, fun z15 => de_op bs_fdiv (de_blt bl_len T.z_len bb_len (da_cons (de_var 3 rfl (da_nil (⟨_, _, fn1_eq _ _, rfl, fun z16 => de_var 5 rfl (⟨_, rfl, fun z17 => ⟨_, rfl, fun z18 => de_var 3 rfl (⟨_, rfl, fun z19 => lsplitP rfl (de_var 5 rfl (rfl)) rfl⟩)⟩⟩)⟩)))))⟩⟩))))))), fun ys20 => de_int (⟨_, rfl, fun z21 => .inr ⟨_, rfl, fun l22 => ⟨_, rfl, fun z23 => ds_at [some (.val v_name), some (.val p1), some (.val p2), some (.val z23), some (.val (PyData.list ys11)), none] (ds_while (fun (st : D × D) => ([some (.val v_name), some (.val p1), some (.val st.1), some (.val st.2), some (.val (PyData.list ys11)), none] : Z.Env)) (100000) (p2, z23) (.s (.s (.s (.s (.s (.n .z)))))) rfl (fun s24 => dt_dir (dt_w (dw_and (dt_cmp cs_ne (de_var 2 rfl (de_tup (da_nil (⟨by show (0 : Nat) ≤ 16777216; decide, ⟨_, rfl, fun z27 => ⟨_, _, rfl, dw_and1 (dt_cmp cs_eq (de_ix (de_var 2 rfl (de_negc (⟨_, rfl, fun z28 => de_ix (de_var 3 rfl (de_negc (⟨_, rfl, fun z29 => ⟨_, rfl, fun z30 => ⟨rfl, rfl⟩⟩⟩)))⟩))))), ⟨rfl, rfl⟩⟩⟩⟩))))))) fun t31 => ⟨_, _, rfl, ds_at [some (.val v_name), some (.val p1), some (.val s24.1), some (.val s24.2), some (.val (PyData.list ys11)), none] (ds_asg (de_tup (da_cons (de_slice (de_var 2 rfl (de_negc (.inl ⟨_, rfl, ⟨_, rfl, fun z32 => da_cons (de_op bs_add (de_slice (de_var 3 rfl (de_negc (.inl ⟨_, rfl, ⟨_, rfl, fun z33 => de_slice (de_var 3 rfl (de_negc (.inl ⟨_, rfl, ⟨_, rfl, fun z34 => ⟨_, rfl, fun z35 => da_nil (⟨by show (2 : Nat) ≤ 16777216; decide, dg_tup2 rfl fun p36 p37 => dgs_cons (dg_name 2 (dgs_cons (dg_name 3 (dgs_nil (ds_nil (⟨(p36, p37), (.s (.s (.s (.s (.s (.n .z)))))), rfl⟩))))))⟩)⟩⟩⟩)))⟩⟩)))))⟩⟩))))))), (s24.1, s24.2), (.s (.s (.s (.s (.s (.n .z)))))), rfl⟩) (fun s25 => ds_at [some (.val v_name), some (.val p1), some (.val s25.1), some (.val s25.2), some (.val (PyData.list ys11)), none] (ds_ret (de_tup (da_cons (de_var 1 rfl (da_cons (de_var 2 rfl (da_cons (de_var 3 rfl (da_nil (⟨by show (3 : Nat) ≤ 16777216; decide, rfl⟩))))))))))) (fun r26 s25 _ hl => .inr rfl))⟩⟩⟩)⟩⟩))))))))⟩⟩⟩)⟩)))))))) (hsw := fun env he => sw_true (by rw [he]; rfl) (by rw [he]; rfl) rfl (by decide +kernel)))))))))))))

theorem p_classes_of (T : Txt K mg) : ∀ k : Nat, 2 ≤ k → HasP P w K mg base k "classes_of" 2 (fn2 m_classes_of) :=
  T.d_classes_of.p (lv := 1) (N := ["table", "point", "x", "y", "bottom", "here", "line", "met"]) sc_classes_of rfl fun ds hds => match ds, hds with
  | [v_table, v_point], _ => by
    show DSs _ [some (.val v_table), some (.val v_point), none, none, none, none, none, none] _ (m_classes_of v_table v_point) _
    unfold m_classes_of
    exact ds_at [some (.val v_table), some (.val v_point), none, none, none, none, none, none] (ds_asg (de_var 1 rfl (dg_tup2 rfl fun p1 p2 => dgs_cons (dg_tup2 rfl fun p3 p4 => dgs_cons (dg_name 2 (dgs_cons (dg_name 3 (dgs_nil (dgs_cons (dg_name 4 (dgs_nil (ds_at [some (.val v_table), some (.val v_point), some (.val p3), some (.val p4), some (.val p2), none, none, none] (ds_parN3 5 6 7 (dps_val 5 (de_tup (da_cons (de_op bs_fmod (de_var 2 rfl (de_var 4 rfl (⟨_, rfl, fun z5 => da_cons (de_op bs_fmod (de_var 3 rfl (de_var 4 rfl (⟨_, rfl, fun z6 => da_nil (⟨by show (2 : Nat) ≤ 16777216; decide, dps_own 6 (dn_lst (da_nil (⟨by show (0 : Nat) ≤ 16777216; decide, dps_dct 7 (dnd_empty (dps_nil (ds_at [some (.val v_table), some (.val v_point), some (.val p3), some (.val p4), some (.val p2), some (.val (PyData.tuple [z5, z6])), some (.own []), some (.dct ([] : List (D × D)))] (ds_while (fun (st : D × List D × List (D × D)) => ([some (.val v_table), some (.val v_point), none, none, some (.val p2), some (.val st.1), some (.own st.2.1), some (.dct st.2.2)] : Z.Env)) (100000) ((PyData.tuple [z5, z6]), [], ([] : List (D × D))) (.s (.s (.n (.n (.s (.s (.s (.s .z)))))))) rfl (fun s7 => dt_peek (dt_cmp cs_notIn (de_var 5 rfl (de_var 7 rfl (⟨_, rfl, fun z10 => rfl⟩)))) fun t11 => ⟨_, _, rfl, ds_at [some (.val v_table), some (.val v_point), none, none, some (.val p2), some (.val s7.1), some (.own s7.2.1), some (.dct s7.2.2)] (ds_if (dt_peek (dt_cmp cs_eq (de_blt bl_len T.z_len bb_len (da_cons (de_var 6 rfl (da_nil (⟨_, _, fn1_eq _ _, rfl, fun z12 => de_con (con_int T.c_MOST_CLASSES.choose_spec) (⟨_, rfl, fun z13 => rfl⟩)⟩)))))) fun t14 => ⟨_, _, rfl, dss_stuck, ds_nil (ds_setD 7 (de_peek (de_blt bl_len T.z_len bb_len (da_cons (de_var 6 rfl (da_nil (⟨_, _, fn1_eq _ _, rfl, fun z15 => rfl⟩))))) fun z16 => ⟨⟨_, rfl⟩, de_var 5 rfl (⟨_, _, rfl, rfl, fun y17 => ds_at [some (.val v_table), some (.val v_point), none, none, some (.val p2), some (.val s7.1), some (.own s7.2.1), some (.dct y17)] (ds_expr (de_om F.slot_list_append F.type_list_append om_append 6 rfl (da_cons (de_var 5 rfl (da_nil (⟨_, _, rfl, rfl, fun z18 y19 => ds_at [some (.val v_table), some (.val v_point), none, none, some (.val p2), some (.val s7.1), some (.own y19), some (.dct y17)] (ds_asg (de_call (p_lot_led T _ (by show (1 : Nat) ≤ 1; decide) _ _ _) (da_cons (de_var 0 rfl (da_cons (de_var 5 rfl (da_nil (⟨rfl, ⟨_, _, fn2_eq _ _ _, rfl, fun z20 => dg_tup2 rfl fun p21 p22 => dgs_cons (dg_name 2 (dgs_cons (dg_name 3 (dgs_nil (ds_at [some (.val v_table), some (.val v_point), some (.val p21), some (.val p22), some (.val p2), some (.val s7.1), some (.own y19), some (.dct y17)] (ds_set 5 (de_tup (da_cons (de_op bs_fmod (de_var 2 rfl (de_var 4 rfl (⟨_, rfl, fun z23 => da_cons (de_op bs_fmod (de_var 3 rfl (de_var 4 rfl (⟨_, rfl, fun z24 => da_nil (⟨by show (2 : Nat) ≤ 16777216; decide, ds_nil (⟨((PyData.tuple [z23, z24]), y19, y17), (.s (.s (.n (.n (.s (.s (.s (.s .z)))))))), rfl⟩)⟩)⟩))))⟩))))))))))))⟩⟩))))))))⟩))))))⟩)⟩))⟩)), (s7.1, s7.2.1, s7.2.2), (.s (.s (.n (.n (.s (.s (.s (.s .z)))))))), rfl⟩) (fun s8 => ds_at [some (.val v_table), some (.val v_point), none, none, some (.val p2), some (.val s8.1), some (.own s8.2.1), some (.dct s8.2.2)] (ds_keep 6 rfl (ds_at [some (.val v_table), some (.val v_point), none, none, some (.val p2), some (.val s8.1), some (.val (PyData.list s8.2.1)), some (.dct s8.2.2)] (ds_keepD 7 rfl (ds_at [some (.val v_table), some (.val v_point), none, none, some (.val p2), some (.val s8.1), some (.val (PyData.list s8.2.1)), some (.val (PyData.dict s8.2.2))] (ds_ret (de_tup (da_cons (de_var 6 rfl (da_cons (de_ix (de_var 7 rfl (de_var 5 rfl (⟨_, rfl, fun z25 => da_nil (⟨by show (2 : Nat) ≤ 16777216; decide, rfl⟩)⟩)))))))))))))) (fun r9 s8 _ hl => .inr rfl)))))⟩)))⟩)⟩))))⟩))))))))))))))))))))

theorem p_lots_less (T : Txt K mg) : ∀ k : Nat, 1 ≤ k → HasP P w K mg base k "lots_less" 2 (fn2 m_lots_less) :=
  T.d_lots_less.p (lv := 0) (N := ["one", "other"]) sc_lots_less rfl fun ds hds => match ds, hds with
  | [v_one, v_other], _ => by
    show DSs _ [some (.val v_one), some (.val v_other)] _ (m_lots_less v_one v_other) _
    unfold m_lots_less
    exact ds_at [some (.val v_one), some (.val v_other)] (ds_ret (de_tup (da_cons (de_op bs_sub (de_ix (de_var 0 rfl (de_int (⟨_, rfl, fun z1 => de_ix (de_var 1 rfl (de_int (⟨_, rfl, fun z2 => ⟨_, rfl, fun z3 => da_cons (de_op bs_sub (de_ix (de_var 0 rfl (de_int (⟨_, rfl, fun z4 => de_ix (de_var 1 rfl (de_int (⟨_, rfl, fun z5 => ⟨_, rfl, fun z6 => da_nil (⟨by show (2 : Nat) ≤ 16777216; decide, rfl⟩)⟩⟩)))⟩)))))⟩⟩)))⟩))))))))

theorem p_lot_undone (T : Txt K mg) : ∀ k : Nat, 2 ≤ k → HasP P w K mg base k "lot_undone" 2 (fn2 m_lot_undone) :=
  T.d_lot_undone.p (lv := 1) (N := ["table", "lot", "many", "late"]) sc_lot_undone rfl fun ds hds => match ds, hds with
  | [v_table, v_lot], _ => by
    show DSs _ [some (.val v_table), some (.val v_lot), none, none] _ (m_lot_undone v_table v_lot) _
    unfold m_lot_undone
    exact ds_at [some (.val v_table), some (.val v_lot), none, none] (ds_par 2 3 (de_call (p_table_det T _ (by show (1 : Nat) ≤ 1; decide) _ _ _) (da_cons (de_var 0 rfl (da_nil (⟨rfl, ⟨_, _, fn1_eq _ _, rfl, fun z1 => de_call (p_lot_led T _ (by show (1 : Nat) ≤ 1; decide) _ _ _) (da_cons (de_call (p_table_other T _ (by show (1 : Nat) ≤ 1; decide) _ _ _) (da_cons (de_var 0 rfl (da_nil (⟨rfl, ⟨_, _, fn1_eq _ _, rfl, fun z2 => da_cons (de_var 1 rfl (da_nil (⟨rfl, ⟨_, _, fn2_eq _ _ _, rfl, fun z3 => ds_at [some (.val v_table), some (.val v_lot), some (.val z1), some (.val z3)] (ds_if (dt_dir (dt_w (dw_or (dt_cmp cs_ne (de_op bs_fmod (de_ix (de_var 3 rfl (de_int (⟨_, rfl, fun z4 => de_var 2 rfl (⟨_, rfl, fun z5 => de_int (⟨_, rfl, fun z6 => ⟨_, _, rfl, ⟨rfl, rfl⟩, dw_or1 (dt_cmp cs_ne (de_op bs_fmod (de_ix (de_var 3 rfl (de_int (⟨_, rfl, fun z7 => de_var 2 rfl (⟨_, rfl, fun z8 => de_int (⟨_, rfl, fun z9 => ⟨rfl, rfl⟩⟩)⟩)⟩))))))⟩⟩)⟩)⟩)))))))) fun t10 => ⟨_, _, rfl, ds_ret (de_none (rfl)), ds_nil (ds_ret (de_tup (da_cons (de_op bs_fdiv (de_ix (de_var 3 rfl (de_int (⟨_, rfl, fun z11 => de_var 2 rfl (⟨_, rfl, fun z12 => da_cons (de_op bs_fdiv (de_ix (de_var 3 rfl (de_int (⟨_, rfl, fun z13 => de_var 2 rfl (⟨_, rfl, fun z14 => da_nil (⟨by show (2 : Nat) ≤ 16777216; decide, rfl⟩)⟩)⟩)))))⟩)⟩))))))))⟩))⟩⟩)))⟩⟩))))))⟩⟩))))) (hw := by intro env he; cases env; cases he; rfl))

theorem p_lot_back (T : Txt K mg) : ∀ k : Nat, 3 ≤ k → HasP P w K mg base k "lot_back" 2 (fn2 m_lot_back) :=
  T.d_lot_back.p (lv := 2) (N := ["base", "lot", "some", "number", "digit", "told"]) sc_lot_back rfl fun ds hds => match ds, hds with
  | [v_base, v_lot], _ => by
    show DSs _ [some (.val v_base), some (.val v_lot), none, none, none, none] _ (m_lot_back v_base v_lot) _
    unfold m_lot_back
    exact ds_at [some (.val v_base), some (.val v_lot), none, none, none, none] (ds_setLcP 2 [("number", 3), ("digit", 4)] (by kernel_rfl) (di_enum T.z_enumerate (de_ix (de_var 0 rfl (de_int (⟨_, rfl, fun z1 => ⟨_, rfl, fun z2 => ⟨[some (.val v_base), some (.val v_lot), none, none, none, none], _, _, (.s (.s (.n (.n (.n (.n .z)))))), rfl, rfl, fun x3 => dg_tup2 rfl fun p4 p5 => dgs_cons (dg_name 3 (dgs_cons (dg_name 4 (dgs_nil (dts_nil ⟨fun _ => de_tup (da_cons (de_var 3 rfl (da_cons (de_call (p_lot_undone T _ (by show (2 : Nat) ≤ 2; decide) _ _ _) (da_cons (de_ix (de_var 0 rfl (de_int (⟨_, rfl, fun z6 => da_cons (de_call (p_lots_less T _ (by show (1 : Nat) ≤ 2; decide) _ _ _) (da_cons (de_var 1 rfl (da_cons (de_var 4 rfl (da_nil (⟨rfl, ⟨_, _, fn2_eq _ _ _, rfl, fun z7 => da_nil (⟨rfl, ⟨_, _, fn2_eq _ _ _, rfl, fun z8 => da_nil (⟨by show (2 : Nat) ≤ 16777216; decide, rfl⟩)⟩⟩)⟩⟩)))))))⟩))))))))), fun h => nomatch h⟩))))), fun ys9 => ds_at [some (.val v_base), some (.val v_lot), some (.val (PyData.list ys9)), none, none, none] (ds_ret (de_ix (de_lcP [("told", 5)] (by kernel_rfl) (di_val (de_var 2 rfl (⟨_, rfl, fun z10 => ⟨[some (.val v_base), some (.val v_lot), some (.val (PyData.list ys9)), none, none, none], _, _, (.s (.s (.s (.n (.n (.n .z)))))), rfl, rfl, fun x11 => dg_name 5 (dts_one (dt_notN (de_ix (de_var 5 rfl (de_int (⟨_, rfl, fun z12 => lsplitP rfl (de_var 5 rfl (rfl)) rfl⟩)))))), fun ys13 => de_int (⟨_, rfl, fun z14 => rfl⟩)⟩⟩))))))⟩⟩⟩))))) (hsw := fun env he => sw_true (by rw [he]; rfl) (by rw [he]; rfl) rfl (by decide +kernel)))

theorem p_remainder_back (T : Txt K mg) : ∀ k : Nat, 4 ≤ k → HasP P w K mg base k "remainder_back" 4 (fn4 m_remainder_back) :=
  T.d_remainder_back.p (lv := 3) (N := ["base", "bottom", "ahead", "remainder", "x", "y", "number", "left"]) sc_remainder_back rfl fun ds hds => match ds, hds with
  | [v_base, v_bottom, v_ahead, v_remainder], _ => by
    show DSs _ [some (.val v_base), some (.val v_bottom), some (.val v_ahead), some (.val v_remainder), none, none, none, none] _ (m_remainder_back v_base v_bottom v_ahead v_remainder) _
    unfold m_remainder_back
    exact ds_at [some (.val v_base), some (.val v_bottom), some (.val v_ahead), some (.val v_remainder), none, none, none, none] (ds_asg (de_call (p_lots_less T _ (by show (1 : Nat) ≤ 3; decide) _ _ _) (da_cons (de_call (p_lot_led T _ (by show (1 : Nat) ≤ 3; decide) _ _ _) (da_cons (de_ix (de_var 0 rfl (de_int (⟨_, rfl, fun z1 => da_cons (de_var 2 rfl (da_nil (⟨rfl, ⟨_, _, fn2_eq _ _ _, rfl, fun z2 => da_cons (de_var 3 rfl (da_nil (⟨rfl, ⟨_, _, fn2_eq _ _ _, rfl, fun z3 => dg_tup2 rfl fun p4 p5 => dgs_cons (dg_name 4 (dgs_cons (dg_name 5 (dgs_nil (ds_at [some (.val v_base), some (.val v_bottom), some (.val v_ahead), some (.val v_remainder), some (.val p4), some (.val p5), none, none] (ds_asg (de_call (p_lot_back T _ (by show (3 : Nat) ≤ 3; decide) _ _ _) (da_cons (de_var 0 rfl (da_cons (de_tup (da_cons (de_op bs_fdiv (de_var 4 rfl (de_var 1 rfl (⟨_, rfl, fun z6 => da_cons (de_op bs_fdiv (de_var 5 rfl (de_var 1 rfl (⟨_, rfl, fun z7 => da_nil (⟨by show (2 : Nat) ≤ 16777216; decide, da_nil (⟨rfl, ⟨_, _, fn2_eq _ _ _, rfl, fun z8 => dg_tup2 rfl fun p9 p10 => dgs_cons (dg_name 6 (dgs_cons (dg_name 7 (dgs_nil (ds_at [some (.val v_base), some (.val v_bottom), some (.val v_ahead), some (.val v_remainder), some (.val p4), some (.val p5), some (.val p9), some (.val p10)] (ds_ret (de_tup (da_cons (de_var 6 rfl (da_cons (de_tup (da_cons (de_op bs_sub (de_ix (de_var 2 rfl (de_int (⟨_, rfl, fun z11 => de_op bs_mul (de_var 1 rfl (de_ix (de_var 7 rfl (de_int (⟨_, rfl, fun z12 => ⟨_, rfl, fun z13 => ⟨_, rfl, fun z14 => da_cons (de_op bs_sub (de_ix (de_var 2 rfl (de_int (⟨_, rfl, fun z15 => de_op bs_mul (de_var 1 rfl (de_ix (de_var 7 rfl (de_int (⟨_, rfl, fun z16 => ⟨_, rfl, fun z17 => ⟨_, rfl, fun z18 => da_nil (⟨by show (2 : Nat) ≤ 16777216; decide, da_nil (⟨by show (2 : Nat) ≤ 16777216; decide, rfl⟩)⟩)⟩⟩⟩)))))⟩)))))⟩⟩⟩)))))⟩)))))))))))))))))⟩⟩)⟩)⟩))))⟩))))))))))))))))⟩⟩)))⟩⟩)))⟩)))))))))

theorem p_classes_back (T : Txt K mg) : ∀ k : Nat, 5 ≤ k → HasP P w K mg base k "classes_back" 4 (fn4 m_classes_back) :=
  T.d_classes_back.p (lv := 4) (N := ["base", "bottom", "classes", "remainder", "found", "ahead", "number"]) sc_classes_back rfl fun ds hds => match ds, hds with
  | [v_base, v_bottom, v_classes, v_remainder], _ => by
    show DSs _ [some (.val v_base), some (.val v_bottom), some (.val v_classes), some (.val v_remainder), none, none, none] _ (m_classes_back v_base v_bottom v_classes v_remainder) _
    unfold m_classes_back
    exact ds_at [some (.val v_base), some (.val v_bottom), some (.val v_classes), some (.val v_remainder), none, none, none] (ds_own 4 (dn_lst (da_nil (⟨by show (0 : Nat) ≤ 16777216; decide, ds_at [some (.val v_base), some (.val v_bottom), some (.val v_classes), some (.val v_remainder), some (.own []), none, none] (ds_forS (fun (st : D × List D) => ([some (.val v_base), some (.val v_bottom), some (.val v_classes), some (.val st.1), some (.own st.2), none, none] : Z.Env)) (di_val (de_dn (dn_rev (de_var 2 rfl (⟨_, rfl, fun z1 => ⟨_, rfl, fun z2 => ⟨(v_remainder, []), _, _, (.s (.s (.s (.s (.s (.n (.n .z))))))), rfl, fun x3 s4 => dg_name 5 (ds_at [some (.val v_base), some (.val v_bottom), some (.val v_classes), some (.val s4.1), some (.own s4.2), some (.val x3), none] (ds_asg (de_call (p_remainder_back T _ (by show (4 : Nat) ≤ 4; decide) _ _ _) (da_cons (de_var 0 rfl (da_cons (de_var 1 rfl (da_cons (de_var 5 rfl (da_cons (de_var 3 rfl (da_nil (⟨rfl, ⟨_, _, fn4_eq _ _ _ _ _, rfl, fun z6 => dg_tup2 rfl fun p7 p8 => dgs_cons (dg_name 6 (dgs_cons (dg_name 3 (dgs_nil (ds_at [some (.val v_base), some (.val v_bottom), some (.val v_classes), some (.val p8), some (.own s4.2), some (.val x3), some (.val p7)] (ds_expr (de_om F.slot_list_append F.type_list_append om_append 4 rfl (da_cons (de_var 6 rfl (da_nil (⟨_, _, rfl, rfl, fun z9 y10 => ds_nil (⟨(p8, y10), (.s (.s (.s (.s (.s (.n (.n .z))))))), rfl⟩)⟩)))))))))))⟩⟩))))))))))))), fun s5 => ds_at [some (.val v_base), some (.val v_bottom), some (.val v_classes), some (.val s5.1), some (.own s5.2), none, none] (ds_keep 4 rfl (ds_at [some (.val v_base), some (.val v_bottom), some (.val v_classes), some (.val s5.1), some (.val (PyData.list s5.2)), none, none] (ds_ret (de_tup (da_cons (de_bty bl_tuple T.z_tuple bb_tuple (da_cons (de_dn (dn_rev (de_var 4 rfl (⟨_, rfl, fun z11 => da_nil (⟨_, _, fn1_eq _ _, rfl, fun z12 => da_cons (de_var 3 rfl (da_nil (⟨by show (2 : Nat) ≤ 16777216; decide, rfl⟩)))⟩)⟩)))))))))))⟩⟩⟩))))))⟩))))

theorem p_name_of (T : Txt K mg) : ∀ k : Nat, 6 ≤ k → HasP P w K mg base k "name_of" 2 (fn2 m_name_of) :=
  T.d_name_of.p (lv := 5) (N := ["base", "point", "line", "at", "x", "y", "bottom", "remainder", "met", "rows", "row", "late", "ahead", "first", "lot"]) sc_name_of rfl fun ds hds => match ds, hds with
  | [v_base, v_point], _ => by
    show DSs _ [some (.val v_base), some (.val v_point), none, none, none, none, none, none, none, none, none, none, none, none, none] _ (m_name_of v_base v_point) _
    unfold m_name_of
    exact ds_at [some (.val v_base), some (.val v_point), none, none, none, none, none, none, none, none, none, none, none, none, none] (ds_asg (de_call (p_classes_of T _ (by show (2 : Nat) ≤ 5; decide) _ _ _) (da_cons (de_ix (de_var 0 rfl (de_int (⟨_, rfl, fun z1 => da_cons (de_var 1 rfl (da_nil (⟨rfl, ⟨_, _, fn2_eq _ _ _, rfl, fun z2 => dg_tup2 rfl fun p3 p4 => dgs_cons (dg_name 2 (dgs_cons (dg_name 3 (dgs_nil (ds_at [some (.val v_base), some (.val v_point), some (.val p3), some (.val p4), none, none, none, none, none, none, none, none, none, none, none] (ds_asg (de_var 1 rfl (dg_tup2 rfl fun p5 p6 => dgs_cons (dg_tup2 rfl fun p7 p8 => dgs_cons (dg_name 4 (dgs_cons (dg_name 5 (dgs_nil (dgs_cons (dg_name 6 (dgs_nil (ds_at [some (.val v_base), some (.val v_point), some (.val p3), some (.val p4), some (.val p7), some (.val p8), some (.val p6), none, none, none, none, none, none, none, none] (ds_parN3 7 8 9 (dps_val 7 (de_ix (de_var 2 rfl (de_var 3 rfl (⟨_, rfl, fun z9 => dps_dct 8 (dnd_empty (dps_own 9 (dn_lst (da_nil (⟨by show (0 : Nat) ≤ 16777216; decide, dps_nil (ds_at [some (.val v_base), some (.val v_point), some (.val p3), some (.val p4), some (.val p7), some (.val p8), some (.val p6), some (.val z9), some (.dct ([] : List (D × D))), some (.own []), none, none, none, none, none] (ds_while (fun (st : D × List (D × D) × List D) => ([some (.val v_base), some (.val v_point), some (.val p3), some (.val p4), some (.val p7), some (.val p8), some (.val p6), some (.val st.1), some (.dct st.2.1), some (.own st.2.2), none, none, none, none, none] : Z.Env)) (100000) (z9, ([] : List (D × D)), []) (.s (.s (.s (.s (.s (.s (.s (.s (.s (.s (.n (.n (.n (.n (.n .z))))))))))))))) rfl (fun s10 => dt_peek (dt_cmp cs_notIn (de_var 7 rfl (de_var 8 rfl (⟨_, rfl, fun z13 => rfl⟩)))) fun t14 => ⟨_, _, rfl, ds_at [some (.val v_base), some (.val v_point), some (.val p3), some (.val p4), some (.val p7), some (.val p8), some (.val p6), some (.val s10.1), some (.dct s10.2.1), some (.own s10.2.2), none, none, none, none, none] (ds_setD 8 (de_peek (de_blt bl_len T.z_len bb_len (da_cons (de_var 9 rfl (da_nil (⟨_, _, fn1_eq _ _, rfl, fun z15 => rfl⟩))))) fun z16 => ⟨⟨_, rfl⟩, de_var 7 rfl (⟨_, _, rfl, rfl, fun y17 => ds_at [some (.val v_base), some (.val v_point), some (.val p3), some (.val p4), some (.val p7), some (.val p8), some (.val p6), some (.val s10.1), some (.dct y17), some (.own s10.2.2), none, none, none, none, none] (ds_asg (de_call (p_classes_back T _ (by show (5 : Nat) ≤ 5; decide) _ _ _) (da_cons (de_var 0 rfl (da_cons (de_var 6 rfl (da_cons (de_slice (de_var 2 rfl (de_var 3 rfl (.inr ⟨_, rfl, fun l18 => ⟨_, rfl, fun z19 => da_cons (de_var 7 rfl (da_nil (⟨rfl, ⟨_, _, fn4_eq _ _ _ _ _, rfl, fun z20 => dg_tup2 rfl fun p21 p22 => dgs_cons (dg_name 10 (dgs_cons (dg_name 7 (dgs_nil (ds_at [some (.val v_base), some (.val v_point), some (.val p3), some (.val p4), some (.val p7), some (.val p8), some (.val p6), some (.val p22), some (.dct y17), some (.own s10.2.2), some (.val p21), none, none, none, none] (ds_expr (de_om F.slot_list_append F.type_list_append om_append 9 rfl (da_cons (de_var 10 rfl (da_nil (⟨_, _, rfl, rfl, fun z23 y24 => ds_nil (⟨(p22, y17, y24), (.s (.s (.s (.s (.s (.s (.s (.s (.s (.s (.n (.n (.n (.n (.n .z))))))))))))))), rfl⟩)⟩)))))))))))⟩⟩)))⟩⟩)))))))))))⟩)⟩)), (s10.1, s10.2.1, s10.2.2), (.s (.s (.s (.s (.s (.s (.s (.s (.s (.s (.n (.n (.n (.n (.n .z))))))))))))))), rfl⟩) (fun s11 => ds_at [some (.val v_base), some (.val v_point), some (.val p3), some (.val p4), some (.val p7), some (.val p8), some (.val p6), some (.val s11.1), some (.dct s11.2.1), some (.own s11.2.2), none, none, none, none, none] (ds_keepD 8 rfl (ds_at [some (.val v_base), some (.val v_point), some (.val p3), some (.val p4), some (.val p7), some (.val p8), some (.val p6), some (.val s11.1), some (.val (PyData.dict s11.2.1)), some (.own s11.2.2), none, none, none, none, none] (ds_keep 9 rfl (ds_at [some (.val v_base), some (.val v_point), some (.val p3), some (.val p4), some (.val p7), some (.val p8), some (.val p6), some (.val s11.1), some (.val (PyData.dict s11.2.1)), some (.val (PyData.list s11.2.2)), none, none, none, none, none] (ds_set 11 (de_tup (da_nil (⟨by show (0 : Nat) ≤ 16777216; decide, ds_at [some (.val v_base), some (.val v_point), some (.val p3), some (.val p4), some (.val p7), some (.val p8), some (.val p6), some (.val s11.1), some (.val (PyData.dict s11.2.1)), some (.val (PyData.list s11.2.2)), none, some (.val (PyData.tuple [])), none, none, none] (ds_forS (fun (st : D) => ([some (.val v_base), some (.val v_point), some (.val p3), some (.val p4), some (.val p7), some (.val p8), some (.val p6), some (.val s11.1), some (.val (PyData.dict s11.2.1)), some (.val (PyData.list s11.2.2)), none, some (.val st), none, none, none] : Z.Env)) (di_val (de_slice (de_var 9 rfl (de_ix (de_var 8 rfl (de_var 7 rfl (⟨_, rfl, fun z25 => .inr ⟨_, rfl, fun l26 => ⟨_, rfl, fun z27 => ⟨_, rfl, fun z28 => ⟨(PyData.tuple []), _, _, (.s (.s (.s (.s (.s (.s (.s (.s (.s (.s (.n (.s (.n (.n (.n .z))))))))))))))), rfl, fun x29 s30 => dg_name 10 (ds_at [some (.val v_base), some (.val v_point), some (.val p3), some (.val p4), some (.val p7), some (.val p8), some (.val p6), some (.val s11.1), some (.val (PyData.dict s11.2.1)), some (.val (PyData.list s11.2.2)), some (.val x29), some (.val s30), none, none, none] (ds_set 11 (de_op bs_add (de_var 10 rfl (de_var 11 rfl (⟨_, rfl, fun z32 => ds_nil (⟨z32, (.s (.s (.s (.s (.s (.s (.s (.s (.s (.s (.n (.s (.n (.n (.n .z))))))))))))))), rfl⟩)⟩)))))), fun s31 => ds_at [some (.val v_base), some (.val v_point), some (.val p3), some (.val p4), some (.val p7), some (.val p8), some (.val p6), some (.val s11.1), some (.val (PyData.dict s11.2.1)), some (.val (PyData.list s11.2.2)), none, some (.val s31), none, none, none] (ds_asg (de_call (p_classes_back T _ (by show (5 : Nat) ≤ 5; decide) _ _ _) (da_cons (de_var 0 rfl (da_cons (de_var 6 rfl (da_cons (de_slice (de_var 2 rfl (de_var 3 rfl (.inr ⟨_, rfl, fun l33 => ⟨_, rfl, fun z34 => da_cons (de_var 7 rfl (da_nil (⟨rfl, ⟨_, _, fn4_eq _ _ _ _ _, rfl, fun z35 => dg_tup2 rfl fun p36 p37 => dgs_cons (dg_name 12 (dgs_cons (dg_name 13 (dgs_nil (ds_at [some (.val v_base), some (.val v_point), some (.val p3), some (.val p4), some (.val p7), some (.val p8), some (.val p6), some (.val s11.1), some (.val (PyData.dict s11.2.1)), some (.val (PyData.list s11.2.2)), none, some (.val s31), some (.val p36), some (.val p37), none] (ds_set 14 (de_tup (da_cons (de_op bs_fdiv (de_op bs_sub (de_var 4 rfl (de_ix (de_var 13 rfl (de_int (⟨_, rfl, fun z38 => ⟨_, rfl, fun z39 => de_var 6 rfl (⟨_, rfl, fun z40 => da_cons (de_op bs_fdiv (de_op bs_sub (de_var 5 rfl (de_ix (de_var 13 rfl (de_int (⟨_, rfl, fun z41 => ⟨_, rfl, fun z42 => de_var 6 rfl (⟨_, rfl, fun z43 => da_nil (⟨by show (2 : Nat) ≤ 16777216; decide, ds_at [some (.val v_base), some (.val v_point), some (.val p3), some (.val p4), some (.val p7), some (.val p8), some (.val p6), some (.val s11.1), some (.val (PyData.dict s11.2.1)), some (.val (PyData.list s11.2.2)), none, some (.val s31), some (.val p36), some (.val p37), some (.val (PyData.tuple [z40, z43]))] (ds_ret (de_call (p_least_name T _ (by show (1 : Nat) ≤ 5; decide) _ _ _) (da_cons (de_tup (da_cons (de_var 14 rfl (da_cons (de_var 12 rfl (da_cons (de_var 11 rfl (da_nil (⟨by show (3 : Nat) ≤ 16777216; decide, da_nil (⟨rfl, ⟨_, _, fn1_eq _ _, rfl, fun z44 => rfl⟩⟩)⟩))))))))))))⟩)⟩)⟩⟩)))))))⟩)⟩⟩)))))))))))))))⟩⟩)))⟩⟩)))))))))))⟩⟩⟩⟩⟩))))))))⟩))))))))) (fun r12 s11 _ hl => .inr rfl)))⟩)))))⟩)))))))))))))))))))))))⟩⟩)))⟩)))))))

theorem p__law_source (T : Txt K mg) : ∀ k : Nat, 1 ≤ k → HasQ P w K mg base k "_law_source" m__law_source :=
  T.d__law_source.q (lv := 0) (N := ["script", "mixed", "cell"]) sc__law_source rfl fun ns => by
    show DSs _ [some (.scr ns), none, none] _ (m__law_source ns) _
    unfold m__law_source
    exact ds_at [some (.scr ns), none, none] (ds_set 1 (de_int (ds_at [some (.scr ns), some (.val (PyData.int 11)), none] (ds_forS (fun (st : D) => ([some (.scr ns), some (.val st), none] : Z.Env)) (di_scr 0 rfl (⟨(PyData.int 11), _, _, (.s (.s (.n .z))), rfl, fun x1 s2 => dg_name 2 (ds_at [some (.scr ns), some (.val s2), some (.val x1)] (ds_set 1 (de_op bs_fmod (de_bty bl_int T.z_int bb_int (da_cons (de_op bs_add (de_op bs_add (de_op bs_mul (de_var 1 rfl (de_int (⟨_, rfl, fun z4 => de_op bs_mul (de_var 2 rfl (de_int (⟨_, rfl, fun z5 => ⟨_, rfl, fun z6 => de_int (⟨_, rfl, fun z7 => da_nil (⟨_, _, fn1_eq _ _, rfl, fun z8 => de_int (⟨_, rfl, fun z9 => ds_nil (⟨z9, (.s (.s (.n .z))), rfl⟩)⟩)⟩)⟩)⟩⟩)))⟩))))))))))), fun s3 => ds_at [some (.scr ns), some (.val s3), none] (ds_retSrc (dn_rev (de_lcP [("cell", 2)] (by kernel_rfl) (di_scr 0 rfl (⟨[none, some (.val s3), none], _, _, (.n (.s (.n .z))), rfl, rfl, fun x10 => dg_name 2 (dts_nil ⟨fun _ => de_blt bl_abs T.z_abs bb_abs (da_cons (de_var 2 rfl (da_nil (⟨_, _, fn1_eq _ _, rfl, fun z11 => rfl⟩)))), fun h => nomatch h⟩), fun ys12 => ⟨_, rfl, fun y13 => ⟨_, _, _, _, ie_int, (ie_var 1 rfl), ie_int, rfl, fun s14 => ⟨s14, rfl, rfl⟩⟩⟩⟩)))))⟩))))))

theorem p__law_pick (T : Txt K mg) : ∀ k : Nat, 1 ≤ k → HasS P w K mg base k "_law_pick" 1 (sn1 m__law_pick) :=
  T.d__law_pick.s (lv := 0) (N := ["source", "many", "left", "mixed"]) sc__law_pick rfl fun a0 s0 ds hds => match ds, hds with
  | [v_many], _ => by
    show DSs _ [some (.src a0 s0), some (.val v_many), none, none] _ (m__law_pick s0 v_many) _
    unfold m__law_pick
    exact ds_at [some (.src a0 s0), some (.val v_many), none, none] (ds_while (fun (st : Src) => ([some (.src a0 st), some (.val v_many), none, none] : Z.Env)) ((s0.cells.length + 1)) s0 (.s (.s (.n (.n .z)))) rfl (fun s1 => dt_dir (dt_w (dw_and (dt_cmp cs_gt (de_var 1 rfl (de_int (⟨_, rfl, fun z4 => ⟨_, _, rfl, dw_and (dt_cmp cs_lt (de_srcGet kf_left 0 rfl (de_int (⟨_, rfl, fun z5 => ⟨_, _, rfl, dw_and1 (dt_cmp cs_gt (de_srcLen T.z_len 0 rfl (de_int (⟨_, rfl, fun z6 => ⟨rfl, rfl⟩⟩)))), ⟨rfl, rfl⟩⟩⟩)))), ⟨rfl, rfl⟩⟩⟩)))))) fun t7 => ⟨_, _, rfl, ds_at [some (.src a0 s1), some (.val v_many), none, none] (ds_srcPut kf_left 0 (de_srcPop 0 rfl rfl fun z8 c9 => ⟨_, _, _, rfl, rfl, fun n10 => ds_nil (⟨{ { s1 with cells := c9 } with left := n10 }, (.s (.s (.n (.n .z)))), rfl⟩)⟩)), s1, (.s (.s (.n (.n .z)))), rfl⟩) (fun s2 => ds_at [some (.src a0 s2), some (.val v_many), none, none] (ds_set 2 (de_srcGet kf_left 0 rfl (ds_at [some (.src a0 s2), some (.val v_many), some (.val (PyData.int s2.left)), none] (ds_if (dt_dir (dt_w (dw_or (dt_cmp cs_lt (de_var 1 rfl (de_int (⟨_, rfl, fun z11 => ⟨_, _, rfl, ⟨rfl, rfl⟩, dw_or1 (dt_cmp cs_gt (de_var 2 rfl (de_int (⟨_, rfl, fun z12 => ⟨rfl, rfl⟩⟩))))⟩⟩)))))) fun t13 => ⟨_, _, rfl, ds_srcPut kf_left 0 (de_op bs_fdiv (de_var 2 rfl (de_blt bl_max2 T.z_max bb_max (da_cons (de_int (da_cons (de_var 1 rfl (da_nil (⟨_, _, fn2_eq _ _ _, rfl, fun z14 => ⟨_, rfl, fun z15 => ⟨_, _, _, rfl, rfl, fun n16 => ds_at [some (.src a0 { s2 with left := n16 }), some (.val v_many), some (.val (PyData.int s2.left)), none] (ds_ret (de_op bs_fmod (de_bty bl_int T.z_int bb_int (da_cons (de_var 2 rfl (da_nil (⟨_, _, fn1_eq _ _, rfl, fun z17 => de_blt bl_max2 T.z_max bb_max (da_cons (de_int (da_cons (de_var 1 rfl (da_nil (⟨_, _, fn2_eq _ _ _, rfl, fun z18 => ⟨_, rfl, fun z19 => ⟨_, rfl, rfl⟩⟩⟩))))))⟩)))))))⟩⟩⟩))))))))), ds_nil (ds_srcPut kf_turn 0 (de_op bs_add (de_srcGet kf_turn 0 rfl (de_int (⟨_, rfl, fun z20 => ⟨_, _, _, rfl, rfl, fun n21 => ds_at [some (.src a0 { s2 with turn := n21 }), some (.val v_many), some (.val (PyData.int s2.left)), none] (ds_set 3 (de_op bs_fmod (de_bty bl_int T.z_int bb_int (da_cons (de_op bs_add (de_srcGet kf_mixed 0 rfl (de_op bs_mul (de_srcGet kf_turn 0 rfl (de_int (⟨_, rfl, fun z22 => ⟨_, rfl, fun z23 => da_nil (⟨_, _, fn1_eq _ _, rfl, fun z24 => de_int (⟨_, rfl, fun z25 => ds_at [some (.src a0 { s2 with turn := n21 }), some (.val v_many), some (.val (PyData.int s2.left)), some (.val z25)] (ds_set 3 (de_op bs_fmod (de_bty bl_int T.z_int bb_int (da_cons (de_op bs_add (de_op bs_mul (de_var 3 rfl (de_var 3 rfl (⟨_, rfl, fun z26 => de_op bs_mul (de_srcGet kf_turn 0 rfl (de_int (⟨_, rfl, fun z27 => ⟨_, rfl, fun z28 => da_nil (⟨_, _, fn1_eq _ _, rfl, fun z29 => de_int (⟨_, rfl, fun z30 => ds_at [some (.src a0 { s2 with turn := n21 }), some (.val v_many), some (.val (PyData.int s2.left)), some (.val z30)] (ds_srcPut kf_mixed 0 (de_var 3 rfl (⟨_, _, _, rfl, rfl, fun n31 => ds_at [some (.src a0 { { s2 with turn := n21 } with mixed := n31 }), some (.val v_many), some (.val (PyData.int s2.left)), some (.val z30)] (ds_ret (de_op bs_fmod (de_bty bl_int T.z_int bb_int (da_cons (de_op bs_fdiv (de_var 3 rfl (de_int (⟨_, rfl, fun z32 => da_nil (⟨_, _, fn1_eq _ _, rfl, fun z33 => de_var 1 rfl (⟨_, rfl, fun z34 => ⟨_, rfl, rfl⟩⟩)⟩)⟩))))))))⟩)))⟩)⟩)⟩⟩)))⟩)))))))))⟩)⟩)⟩⟩))))))))))⟩⟩)))))⟩)))))) (fun r3 s2 _ hl => .inr rfl))

theorem p__law_of (T : Txt K mg) : ∀ k : Nat, 2 ≤ k → HasS P w K mg base k "_law_of" 1 (sn1 m__law_of) :=
  T.d__law_of.s (lv := 1) (N := ["source", "some"]) sc__law_of rfl fun a0 s0 ds hds => match ds, hds with
  | [v_some], _ => by
    show DSs _ [some (.src a0 s0), some (.val v_some)] _ (m__law_of s0 v_some) _
    unfold m__law_of
    exact ds_at [some (.src a0 s0), some (.val v_some)] (ds_ret (de_ix (de_var 1 rfl (de_callS 0 (p__law_pick T _ (by show (1 : Nat) ≤ 1; decide) _ _ _) rfl (da_cons (de_blt bl_len T.z_len bb_len (da_cons (de_var 1 rfl (da_nil (⟨_, _, fn1_eq _ _, rfl, fun z1 => da_nil (⟨rfl, _, _, _, rfl, sn1_eq _ _ _, rfl, fun z2 s3 => ⟨_, rfl, fun z4 => ⟨_, rfl, rfl⟩⟩⟩)⟩))))))))))

theorem p__law_mixed (T : Txt K mg) : ∀ k : Nat, 2 ≤ k → HasS P w K mg base k "_law_mixed" 1 (sn1 m__law_mixed) :=
  T.d__law_mixed.s (lv := 1) (N := ["source", "things", "rest", "lap"]) sc__law_mixed rfl fun a0 s0 ds hds => match ds, hds with
  | [v_things], _ => by
    show DSs _ [some (.src a0 s0), some (.val v_things), none, none] _ (m__law_mixed s0 v_things) _
    unfold m__law_mixed
    exact ds_at [some (.src a0 s0), some (.val v_things), none, none] (ds_own 2 (dn_list T.z_list (de_var 1 rfl (⟨_, rfl, fun y1 => ds_at [some (.src a0 s0), some (.val v_things), some (.own y1), none] (ds_ret (de_lcT (fun (st : Src × List D) => ([some (.src a0 st.1), some (.val v_things), some (.own st.2), none] : Z.Env)) [("lap", 3)] (by kernel_rfl) (di_range1 T.z_range (de_peek (de_blt bl_len T.z_len bb_len (da_cons (de_var 2 rfl (da_nil (⟨_, _, fn1_eq _ _, rfl, fun z2 => rfl⟩))))) fun z3 => ⟨_, rfl, fun z4 => ⟨(s0, y1), _, _, (.s (.s (.s (.n .z)))), rfl, fun x5 s6 => dg_name 3 (dts_nil ⟨fun _ => de_om F.slot_list_pop F.type_list_pop om_pop1 2 rfl (da_cons (de_callS 0 (p__law_pick T _ (by show (1 : Nat) ≤ 1; decide) _ _ _) rfl (da_cons (de_peek (de_blt bl_len T.z_len bb_len (da_cons (de_var 2 rfl (da_nil (⟨_, _, fn1_eq _ _, rfl, fun z7 => rfl⟩))))) fun z8 => da_nil (⟨rfl, _, _, _, rfl, sn1_eq _ _ _, rfl, fun z9 s10 => da_nil (⟨_, _, rfl, rfl, fun z11 y12 => ⟨(s10, y12), (.s (.s (.s (.n .z)))), rfl⟩⟩)⟩))))), fun h => nomatch h⟩), fun ys13 s14 => ⟨_, rfl, rfl⟩⟩⟩))))⟩))))

theorem p__law_undone (T : Txt K mg) : ∀ k : Nat, 1 ≤ k → HasP P w K mg base k "_law_undone" 2 (fn2 m__law_undone) :=
  T.d__law_undone.p (lv := 0) (N := ["table", "lot", "a", "b", "c", "d", "many", "x", "y"]) sc__law_undone rfl fun ds hds => match ds, hds with
  | [v_table, v_lot], _ => by
    show DSs _ [some (.val v_table), some (.val v_lot), none, none, none, none, none, none, none] _ (m__law_undone v_table v_lot) _
    unfold m__law_undone
    exact ds_at [some (.val v_table), some (.val v_lot), none, none, none, none, none, none, none] (ds_asg (de_var 0 rfl (dg_tup2 rfl fun p1 p2 => dgs_cons (dg_tup2 rfl fun p3 p4 => dgs_cons (dg_name 2 (dgs_cons (dg_name 3 (dgs_nil (dgs_cons (dg_tup2 rfl fun p5 p6 => dgs_cons (dg_name 4 (dgs_cons (dg_name 5 (dgs_nil (dgs_nil (ds_at [some (.val v_table), some (.val v_lot), some (.val p3), some (.val p4), some (.val p5), some (.val p6), none, none, none] (ds_par3 6 7 8 (de_op bs_sub (de_op bs_mul (de_var 2 rfl (de_var 5 rfl (⟨_, rfl, fun z7 => de_op bs_mul (de_var 3 rfl (de_var 4 rfl (⟨_, rfl, fun z8 => ⟨_, rfl, fun z9 => de_op bs_sub (de_op bs_mul (de_var 5 rfl (de_ix (de_var 1 rfl (de_int (⟨_, rfl, fun z10 => ⟨_, rfl, fun z11 => de_op bs_mul (de_var 3 rfl (de_ix (de_var 1 rfl (de_int (⟨_, rfl, fun z12 => ⟨_, rfl, fun z13 => ⟨_, rfl, fun z14 => de_op bs_sub (de_op bs_mul (de_var 2 rfl (de_ix (de_var 1 rfl (de_int (⟨_, rfl, fun z15 => ⟨_, rfl, fun z16 => de_op bs_mul (de_var 4 rfl (de_ix (de_var 1 rfl (de_int (⟨_, rfl, fun z17 => ⟨_, rfl, fun z18 => ⟨_, rfl, fun z19 => ds_at [some (.val v_table), some (.val v_lot), some (.val p3), some (.val p4), some (.val p5), some (.val p6), some (.val z9), some (.val z14), some (.val z19)] (ds_if (dt_dir (dt_w (dw_or (dt_cmp cs_ne (de_op bs_fmod (de_bty bl_int T.z_int bb_int (da_cons (de_var 7 rfl (da_nil (⟨_, _, fn1_eq _ _, rfl, fun z20 => de_var 6 rfl (⟨_, rfl, fun z21 => de_int (⟨_, rfl, fun z22 => ⟨_, _, rfl, ⟨rfl, rfl⟩, dw_or1 (dt_cmp cs_ne (de_op bs_fmod (de_bty bl_int T.z_int bb_int (da_cons (de_var 8 rfl (da_nil (⟨_, _, fn1_eq _ _, rfl, fun z23 => de_var 6 rfl (⟨_, rfl, fun z24 => de_int (⟨_, rfl, fun z25 => ⟨rfl, rfl⟩⟩)⟩)⟩)))))))⟩⟩)⟩)⟩))))))))) fun t26 => ⟨_, _, rfl, ds_ret (de_none (rfl)), ds_nil (ds_ret (de_tup (da_cons (de_op bs_fdiv (de_var 7 rfl (de_var 6 rfl (⟨_, rfl, fun z27 => da_cons (de_op bs_fdiv (de_var 8 rfl (de_var 6 rfl (⟨_, rfl, fun z28 => da_nil (⟨by show (2 : Nat) ≤ 16777216; decide, rfl⟩)⟩))))⟩)))))))⟩))⟩⟩⟩)))))⟩⟩))))))⟩⟩⟩)))))⟩⟩))))))⟩⟩)))⟩))))))))))))))))))))))

theorem p__law_digits (T : Txt K mg) : ∀ k : Nat, 3 ≤ k → HasS P w K mg base k "_law_digits" 2 (sn2 m__law_digits) :=
  T.d__law_digits.s (lv := 2) (N := ["source", "table", "far", "a", "b", "c", "d", "some", "found", "x", "lot", "late", "y", "one"]) sc__law_digits rfl fun a0 s0 ds hds => match ds, hds with
  | [v_table, v_far], _ => by
    show DSs _ [some (.src a0 s0), some (.val v_table), some (.val v_far), none, none, none, none, none, none, none, none, none, none, none] _ (m__law_digits s0 v_table v_far) _
    unfold m__law_digits
    exact ds_at [some (.src a0 s0), some (.val v_table), some (.val v_far), none, none, none, none, none, none, none, none, none, none, none] (ds_asg (de_var 1 rfl (dg_tup2 rfl fun p1 p2 => dgs_cons (dg_tup2 rfl fun p3 p4 => dgs_cons (dg_name 3 (dgs_cons (dg_name 4 (dgs_nil (dgs_cons (dg_tup2 rfl fun p5 p6 => dgs_cons (dg_name 5 (dgs_cons (dg_name 6 (dgs_nil (dgs_nil (ds_at [some (.src a0 s0), some (.val v_table), some (.val v_far), some (.val p3), some (.val p4), some (.val p5), some (.val p6), none, none, none, none, none, none, none] (ds_parN 7 8 (dps_val 7 (de_lst (da_nil (⟨by show (0 : Nat) ≤ 16777216; decide, dps_own 8 (dn_lst (da_nil (⟨by show (0 : Nat) ≤ 16777216; decide, dps_nil (ds_at [some (.src a0 s0), some (.val v_table), some (.val v_far), some (.val p3), some (.val p4), some (.val p5), some (.val p6), some (.val (PyData.list [])), some (.own []), none, none, none, none, none] (ds_forS (fun (st : D) => ([some (.src a0 s0), some (.val v_table), some (.val v_far), some (.val p3), some (.val p4), some (.val p5), some (.val p6), some (.val st), some (.own []), none, none, none, none, none] : Z.Env)) (di_range2 T.z_range (de_op bs_sub (de_int (de_var 2 rfl (⟨_, rfl, fun z7 => de_op bs_add (de_var 2 rfl (de_int (⟨_, rfl, fun z8 => ⟨_, rfl, fun z9 => ⟨(PyData.list []), _, _, (.s (.s (.s (.s (.s (.s (.s (.s (.s (.n (.n (.n (.n (.n .z)))))))))))))), rfl, fun x10 s11 => dg_name 9 (ds_at [some (.src a0 s0), some (.val v_table), some (.val v_far), some (.val p3), some (.val p4), some (.val p5), some (.val p6), some (.val s11), some (.own []), some (.val x10), none, none, none, none] (ds_set 7 (de_op bs_add (de_var 7 rfl (de_lcP [("y", 12)] (by kernel_rfl) (di_range2 T.z_range (de_op bs_sub (de_int (de_var 2 rfl (⟨_, rfl, fun z13 => de_op bs_add (de_var 2 rfl (de_int (⟨_, rfl, fun z14 => ⟨_, rfl, fun z15 => ⟨[none, some (.val v_table), some (.val v_far), some (.val p3), some (.val p4), some (.val p5), some (.val p6), some (.val s11), none, some (.val x10), none, none, none, none], _, _, (.n (.s (.s (.s (.s (.s (.s (.s (.n (.s (.n (.n (.n (.n .z)))))))))))))), rfl, rfl, fun x16 => dg_name 12 (dts_nil ⟨fun _ => de_tup (da_cons (de_var 9 rfl (da_cons (de_var 12 rfl (da_nil (⟨by show (2 : Nat) ≤ 16777216; decide, rfl⟩)))))), fun h => nomatch h⟩), fun ys17 => ⟨_, rfl, fun z18 => ds_nil (⟨z18, (.s (.s (.s (.s (.s (.s (.s (.s (.s (.n (.n (.n (.n (.n .z)))))))))))))), rfl⟩)⟩⟩⟩⟩)))⟩)))))))))), fun s12 => ds_at [some (.src a0 s0), some (.val v_table), some (.val v_far), some (.val p3), some (.val p4), some (.val p5), some (.val p6), some (.val s12), some (.own []), none, none, none, none, none] (ds_forS (fun (st : Src × List D) => ([some (.src a0 st.1), some (.val v_table), some (.val v_far), some (.val p3), some (.val p4), some (.val p5), some (.val p6), some (.val s12), some (.own st.2), none, none, none, none, none] : Z.Env)) (di_val (de_op bs_add (de_op bs_mul (de_lst (da_cons (de_tup (da_cons (de_int (da_cons (de_int (da_nil (⟨by show (2 : Nat) ≤ 16777216; decide, da_nil (⟨by show (1 : Nat) ≤ 16777216; decide, de_bty bl_int T.z_int bb_int (da_cons (de_cmp cs_gt (de_callS 0 (p__law_pick T _ (by show (1 : Nat) ≤ 2; decide) _ _ _) rfl (da_cons (de_int (da_nil (⟨rfl, _, _, _, rfl, sn1_eq _ _ _, rfl, fun z19 s20 => de_int (⟨_, rfl, fun z21 => da_nil (⟨_, _, fn1_eq _ _, rfl, fun z22 => ⟨_, rfl, fun z23 => de_callS 0 (p__law_mixed T _ (by show (2 : Nat) ≤ 2; decide) _ _ _) rfl (da_cons (de_var 7 rfl (da_nil (⟨rfl, _, _, _, rfl, sn1_eq _ _ _, rfl, fun z24 s25 => ⟨_, rfl, fun z26 => ⟨_, rfl, fun z27 => ⟨(s25, []), _, _, (.s (.s (.s (.s (.s (.s (.s (.s (.s (.n (.n (.n (.n (.n .z)))))))))))))), rfl, fun x28 s29 => dg_name 10 (ds_at [some (.src a0 s29.1), some (.val v_table), some (.val v_far), some (.val p3), some (.val p4), some (.val p5), some (.val p6), some (.val s12), some (.own s29.2), none, some (.val x28), none, none, none] (ds_setLcO 11 8 [("one", 13)] rfl (by kernel_rfl) (⟨[none, some (.val v_table), some (.val v_far), some (.val p3), some (.val p4), some (.val p5), some (.val p6), some (.val s12), none, none, some (.val x28), none, none, none], _, _, (.n (.s (.s (.s (.s (.s (.s (.s (.n (.n (.s (.n (.n (.n .z)))))))))))))), rfl, rfl, fun x31 => dg_name 13 (dts_one (dt_notN (de_call (p__law_undone T _ (by show (1 : Nat) ≤ 2; decide) _ _ _) (da_cons (de_var 1 rfl (da_cons (de_tup (da_cons (de_op bs_sub (de_ix (de_var 10 rfl (de_int (⟨_, rfl, fun z32 => de_ix (de_var 13 rfl (de_int (⟨_, rfl, fun z33 => ⟨_, rfl, fun z34 => da_cons (de_op bs_sub (de_ix (de_var 10 rfl (de_int (⟨_, rfl, fun z35 => de_ix (de_var 13 rfl (de_int (⟨_, rfl, fun z36 => ⟨_, rfl, fun z37 => da_nil (⟨by show (2 : Nat) ≤ 16777216; decide, da_nil (⟨rfl, ⟨_, _, fn2_eq _ _ _, rfl, fun z38 => lsplitP rfl (de_var 13 rfl (rfl)) rfl⟩⟩)⟩)⟩⟩)))⟩)))))⟩⟩)))⟩))))))))))))), fun ys39 => ds_at [some (.src a0 s29.1), some (.val v_table), some (.val v_far), some (.val p3), some (.val p4), some (.val p5), some (.val p6), some (.val s12), some (.own s29.2), none, some (.val x28), some (.val (PyData.list ys39)), none, none] (ds_if (dt_dir (dt_w (dw_and (dt_cmp cs_eq (de_var 11 rfl (de_lst (da_nil (⟨by show (0 : Nat) ≤ 16777216; decide, ⟨_, rfl, fun z40 => ⟨_, _, rfl, dw_and1 (dt_peek (dt_cmp cs_lt (de_blt bl_len T.z_len bb_len (da_cons (de_var 8 rfl (da_nil (⟨_, _, fn1_eq _ _, rfl, fun z41 => de_blt bl_abs T.z_abs bb_abs (da_cons (de_op bs_sub (de_op bs_mul (de_var 3 rfl (de_var 6 rfl (⟨_, rfl, fun z42 => de_op bs_mul (de_var 4 rfl (de_var 5 rfl (⟨_, rfl, fun z43 => ⟨_, rfl, fun z44 => da_nil (⟨_, _, fn1_eq _ _, rfl, fun z45 => ⟨_, rfl, fun z46 => rfl⟩⟩)⟩⟩)))⟩))))))⟩)))))) fun t47 => ⟨rfl, rfl⟩), ⟨rfl, rfl⟩⟩⟩⟩))))))) fun t48 => ⟨_, _, rfl, ds_expr (de_om F.slot_list_append F.type_list_append om_append 8 rfl (da_cons (de_var 10 rfl (da_nil (⟨_, _, rfl, rfl, fun z49 y50 => ds_nil (ds_nil (⟨(s29.1, y50), (.s (.s (.s (.s (.s (.s (.s (.s (.s (.n (.n (.n (.n (.n .z)))))))))))))), rfl⟩))⟩))))), ds_nil (ds_nil (⟨(s29.1, s29.2), (.s (.s (.s (.s (.s (.s (.s (.s (.s (.n (.n (.n (.n (.n .z)))))))))))))), rfl⟩))⟩))⟩) (hsw := fun env he => sw_true (by rw [he]; rfl) (by rw [he]; rfl) rfl (by decide +kernel)))), fun s30 => ds_at [some (.src a0 s30.1), some (.val v_table), some (.val v_far), some (.val p3), some (.val p4), some (.val p5), some (.val p6), some (.val s12), some (.own s30.2), none, none, none, none, none] (ds_keep 8 rfl (ds_at [some (.src a0 s30.1), some (.val v_table), some (.val v_far), some (.val p3), some (.val p4), some (.val p5), some (.val p6), some (.val s12), some (.val (PyData.list s30.2)), none, none, none, none, none] (ds_ret (de_bty bl_tuple T.z_tuple bb_tuple (da_cons (de_var 8 rfl (da_nil (⟨_, _, fn1_eq _ _, rfl, fun z51 => ⟨_, rfl, rfl⟩⟩))))))))⟩⟩⟩⟩))))⟩⟩)⟩)⟩)))))))⟩)⟩)))))))))))))⟩⟩⟩)))⟩)))))))⟩)))⟩)))))))))))))))))))))

theorem p__law_base (T : Txt K mg) : ∀ k : Nat, 4 ≤ k → HasS P w K mg base k "_law_base" 1 (sn1 m__law_base) :=
  T.d__law_base.s (lv := 3) (N := ["source", "far", "some", "table"]) sc__law_base rfl fun a0 s0 ds hds => match ds, hds with
  | [v_far], _ => by
    show DSs _ [some (.src a0 s0), some (.val v_far), none, none] _ (m__law_base s0 v_far) _
    unfold m__law_base
    exact ds_at [some (.src a0 s0), some (.val v_far), none, none] (ds_set 2 (de_lst (da_cons (de_tup (da_cons (de_tup (da_cons (de_int (da_cons (de_negc (da_nil (⟨by show (2 : Nat) ≤ 16777216; decide, da_cons (de_tup (da_cons (de_int (da_cons (de_int (da_nil (⟨by show (2 : Nat) ≤ 16777216; decide, da_nil (⟨by show (2 : Nat) ≤ 16777216; decide, da_cons (de_tup (da_cons (de_tup (da_cons (de_negc (da_cons (de_negc (da_nil (⟨by show (2 : Nat) ≤ 16777216; decide, da_cons (de_tup (da_cons (de_int (da_cons (de_negc (da_nil (⟨by show (2 : Nat) ≤ 16777216; decide, da_nil (⟨by show (2 : Nat) ≤ 16777216; decide, da_cons (de_tup (da_cons (de_tup (da_cons (de_int (da_cons (de_int (da_nil (⟨by show (2 : Nat) ≤ 16777216; decide, da_cons (de_tup (da_cons (de_int (da_cons (de_int (da_nil (⟨by show (2 : Nat) ≤ 16777216; decide, da_nil (⟨by show (2 : Nat) ≤ 16777216; decide, da_cons (de_tup (da_cons (de_tup (da_cons (de_int (da_cons (de_negc (da_nil (⟨by show (2 : Nat) ≤ 16777216; decide, da_cons (de_tup (da_cons (de_int (da_cons (de_int (da_nil (⟨by show (2 : Nat) ≤ 16777216; decide, da_nil (⟨by show (2 : Nat) ≤ 16777216; decide, da_cons (de_tup (da_cons (de_tup (da_cons (de_int (da_cons (de_int (da_nil (⟨by show (2 : Nat) ≤ 16777216; decide, da_cons (de_tup (da_cons (de_int (da_cons (de_int (da_nil (⟨by show (2 : Nat) ≤ 16777216; decide, da_nil (⟨by show (2 : Nat) ≤ 16777216; decide, da_nil (⟨by show (5 : Nat) ≤ 16777216; decide, ds_at [some (.src a0 s0), some (.val v_far), some (.val (PyData.list [(PyData.tuple [(PyData.tuple [(PyData.int 1), (PyData.int (-1))]), (PyData.tuple [(PyData.int 1), (PyData.int 1)])]), (PyData.tuple [(PyData.tuple [(PyData.int (-1)), (PyData.int (-1))]), (PyData.tuple [(PyData.int 1), (PyData.int (-1))])]), (PyData.tuple [(PyData.tuple [(PyData.int 0), (PyData.int 2)]), (PyData.tuple [(PyData.int 1), (PyData.int 0)])]), (PyData.tuple [(PyData.tuple [(PyData.int 1), (PyData.int (-2))]), (PyData.tuple [(PyData.int 1), (PyData.int 0)])]), (PyData.tuple [(PyData.tuple [(PyData.int 2), (PyData.int 0)]), (PyData.tuple [(PyData.int 0), (PyData.int 2)])])])), none] (ds_set 2 (de_op bs_add (de_var 2 rfl (de_lst (da_cons (de_tup (da_cons (de_tup (da_cons (de_int (da_cons (de_negc (da_nil (⟨by show (2 : Nat) ≤ 16777216; decide, da_cons (de_tup (da_cons (de_int (da_cons (de_int (da_nil (⟨by show (2 : Nat) ≤ 16777216; decide, da_nil (⟨by show (2 : Nat) ≤ 16777216; decide, da_cons (de_tup (da_cons (de_tup (da_cons (de_int (da_cons (de_int (da_nil (⟨by show (2 : Nat) ≤ 16777216; decide, da_cons (de_tup (da_cons (de_negc (da_cons (de_int (da_nil (⟨by show (2 : Nat) ≤ 16777216; decide, da_nil (⟨by show (2 : Nat) ≤ 16777216; decide, da_cons (de_tup (da_cons (de_tup (da_cons (de_int (da_cons (de_int (da_nil (⟨by show (2 : Nat) ≤ 16777216; decide, da_cons (de_tup (da_cons (de_negc (da_cons (de_int (da_nil (⟨by show (2 : Nat) ≤ 16777216; decide, da_nil (⟨by show (2 : Nat) ≤ 16777216; decide, da_cons (de_tup (da_cons (de_tup (da_cons (de_int (da_cons (de_int (da_nil (⟨by show (2 : Nat) ≤ 16777216; decide, da_cons (de_tup (da_cons (de_int (da_cons (de_int (da_nil (⟨by show (2 : Nat) ≤ 16777216; decide, da_nil (⟨by show (2 : Nat) ≤ 16777216; decide, da_cons (de_tup (da_cons (de_tup (da_cons (de_int (da_cons (de_int (da_nil (⟨by show (2 : Nat) ≤ 16777216; decide, da_cons (de_tup (da_cons (de_int (da_cons (de_int (da_nil (⟨by show (2 : Nat) ≤ 16777216; decide, da_nil (⟨by show (2 : Nat) ≤ 16777216; decide, da_nil (⟨by show (5 : Nat) ≤ 16777216; decide, ⟨_, rfl, fun z1 => ds_at [some (.src a0 s0), some (.val v_far), some (.val z1), none] (ds_set 3 (de_callS 0 (p__law_of T _ (by show (2 : Nat) ≤ 3; decide) _ _ _) rfl (da_cons (de_var 2 rfl (da_nil (⟨rfl, _, _, _, rfl, sn1_eq _ _ _, rfl, fun z2 s3 => ds_at [some (.src a0 s3), some (.val v_far), some (.val z1), some (.val z2)] (ds_ret (de_tup (da_cons (de_var 3 rfl (da_cons (de_callS 0 (p__law_digits T _ (by show (3 : Nat) ≤ 3; decide) _ _ _) rfl (da_cons (de_var 3 rfl (da_cons (de_var 1 rfl (da_nil (⟨rfl, _, _, _, rfl, sn2_eq _ _ _ _, rfl, fun z4 s5 => da_nil (⟨by show (2 : Nat) ≤ 16777216; decide, ⟨_, rfl, rfl⟩⟩)⟩))))))))))))⟩))))))⟩⟩)⟩)⟩)))))))⟩)))))))))⟩)⟩)))))))⟩)))))))))⟩)⟩)))))))⟩)))))))))⟩)⟩)))))))⟩)))))))))⟩)⟩)))))))⟩))))))))))))))⟩)⟩)⟩)))))))⟩)))))))))⟩)⟩)))))))⟩)))))))))⟩)⟩)))))))⟩)))))))))⟩)⟩)))))))⟩)))))))))⟩)⟩)))))))⟩))))))))))))

theorem p__law_row (T : Txt K mg) : ∀ k : Nat, 1 ≤ k → HasP P w K mg base k "_law_row" 2 (fn2 m__law_row) :=
  T.d__law_row.p (lv := 0) (N := ["name", "many", "row"]) sc__law_row rfl fun ds hds => match ds, hds with
  | [v_name, v_many], _ => by
    show DSs _ [some (.val v_name), some (.val v_many), none] _ (m__law_row v_name v_many) _
    unfold m__law_row
    exact ds_at [some (.val v_name), some (.val v_many), none] (ds_set 2 (de_bty bl_list T.z_list bb_list (da_cons (de_ix (de_var 0 rfl (de_int (⟨_, rfl, fun z1 => da_nil (⟨_, _, fn1_eq _ _, rfl, fun z2 => ds_at [some (.val v_name), some (.val v_many), some (.val z2)] (ds_while (fun (st : D) => ([some (.val v_name), some (.val v_many), some (.val st)] : Z.Env)) (100000) z2 (.s (.s (.s .z))) rfl (fun s3 => dt_cmp cs_lt (de_blt bl_len T.z_len bb_len (da_cons (de_var 2 rfl (da_nil (⟨_, _, fn1_eq _ _, rfl, fun z6 => de_var 1 rfl (⟨_, rfl, fun z7 => ⟨_, _, rfl, ds_at [some (.val v_name), some (.val v_many), some (.val s3)] (ds_set 2 (de_op bs_add (de_var 2 rfl (de_bty bl_list T.z_list bb_list (da_cons (de_ix (de_var 0 rfl (de_int (⟨_, rfl, fun z8 => da_nil (⟨_, _, fn1_eq _ _, rfl, fun z9 => ⟨_, rfl, fun z10 => ds_nil (⟨z10, (.s (.s (.s .z))), rfl⟩)⟩⟩)⟩))))))))), s3, (.s (.s (.s .z))), rfl⟩⟩)⟩)))))) (fun s4 => ds_at [some (.val v_name), some (.val v_many), some (.val s4)] (ds_ret (de_bty bl_tuple T.z_tuple bb_tuple (da_cons (de_slice (de_var 2 rfl (de_var 1 rfl (.inr ⟨_, rfl, fun l11 => ⟨_, rfl, fun z12 => da_nil (⟨_, _, fn1_eq _ _, rfl, fun z13 => rfl⟩)⟩⟩)))))))) (fun r5 s4 _ hl => .inr rfl))⟩)⟩)))))))

theorem p__law_least (T : Txt K mg) : ∀ k : Nat, 2 ≤ k → HasP P w K mg base k "_law_least" 1 (fn1 m__law_least) :=
  T.d__law_least.p (lv := 1) (N := ["name", "far", "row", "size", "ahead", "late"]) sc__law_least rfl fun ds hds => match ds, hds with
  | [v_name], _ => by
    show DSs _ [some (.val v_name), none, none, none, none, none] _ (m__law_least v_name) _
    unfold m__law_least
    exact ds_at [some (.val v_name), none, none, none, none, none] (ds_set 1 (de_op bs_add (de_blt bl_len T.z_len bb_len (da_cons (de_ix (de_var 0 rfl (de_int (⟨_, rfl, fun z1 => da_nil (⟨_, _, fn1_eq _ _, rfl, fun z2 => de_blt bl_len T.z_len bb_len (da_cons (de_ix (de_var 0 rfl (de_int (⟨_, rfl, fun z3 => da_nil (⟨_, _, fn1_eq _ _, rfl, fun z4 => ⟨_, rfl, fun z5 => ds_at [some (.val v_name), some (.val z5), none, none, none, none] (ds_set 2 (de_call (p__law_row T _ (by show (1 : Nat) ≤ 1; decide) _ _ _) (da_cons (de_var 0 rfl (da_cons (de_op bs_mul (de_int (de_var 1 rfl (⟨_, rfl, fun z6 => da_nil (⟨rfl, ⟨_, _, fn2_eq _ _ _, rfl, fun z7 => ds_at [some (.val v_name), some (.val z5), some (.val z7), none, none, none] (ds_forT (fun (st : Unit) => ([some (.val v_name), some (.val z5), some (.val z7), none, none, none] : Z.Env)) (di_range2 T.z_range (de_int (de_op bs_add (de_blt bl_len T.z_len bb_len (da_cons (de_ix (de_var 0 rfl (de_int (⟨_, rfl, fun z8 => da_nil (⟨_, _, fn1_eq _ _, rfl, fun z9 => de_int (⟨_, rfl, fun z10 => ⟨_, rfl, fun z11 => ⟨(), _, _, (.s (.s (.s (.n (.n (.n .z)))))), rfl, fun x12 s13 => dg_name 3 (ds_at [some (.val v_name), some (.val z5), some (.val z7), some (.val x12), none, none] (ds_forT (fun (st : Unit) => ([some (.val v_name), some (.val z5), some (.val z7), some (.val x12), none, none] : Z.Env)) (di_range1 T.z_range (de_op bs_add (de_blt bl_len T.z_len bb_len (da_cons (de_ix (de_var 0 rfl (de_int (⟨_, rfl, fun z15 => da_nil (⟨_, _, fn1_eq _ _, rfl, fun z16 => de_int (⟨_, rfl, fun z17 => ⟨_, rfl, fun z18 => ⟨(), _, _, (.s (.s (.s (.s (.n (.n .z)))))), rfl, fun x19 s20 => dg_name 4 (ds_at [some (.val v_name), some (.val z5), some (.val z7), some (.val x12), some (.val x19), none] (ds_set 5 (de_tup (da_cons (de_ix (de_var 0 rfl (de_int (⟨_, rfl, fun z22 => da_cons (de_slice (de_var 2 rfl (de_var 4 rfl (.inr ⟨_, rfl, fun l23 => ⟨_, rfl, fun z24 => da_cons (de_slice (de_var 2 rfl (de_var 4 rfl (.inr ⟨_, rfl, fun l25 => de_op bs_add (de_var 4 rfl (de_var 3 rfl (⟨_, rfl, fun z26 => .inr ⟨_, rfl, fun l27 => ⟨_, rfl, fun z28 => da_nil (⟨by show (3 : Nat) ≤ 16777216; decide, ds_at [some (.val v_name), some (.val z5), some (.val z7), some (.val x12), some (.val x19), some (.val (PyData.tuple [z22, z24, z28]))] (ds_if (dt_cmp cs_eq (de_call (p__law_row T _ (by show (1 : Nat) ≤ 1; decide) _ _ _) (da_cons (de_var 5 rfl (da_cons (de_op bs_mul (de_int (de_var 1 rfl (⟨_, rfl, fun z29 => da_nil (⟨rfl, ⟨_, _, fn2_eq _ _ _, rfl, fun z30 => de_var 2 rfl (⟨_, rfl, fun z31 => ⟨_, _, rfl, ds_ret (de_var 5 rfl (⟨(), (.s (.s (.s (.s (.n (.n .z)))))), rfl⟩)), ds_nil (ds_nil (⟨(), (.s (.s (.s (.s (.n (.n .z)))))), rfl⟩))⟩⟩)⟩⟩)⟩))))))))))⟩)⟩⟩⟩)))⟩))))⟩⟩))))⟩)))))))), fun s21 => ds_nil (⟨(), (.s (.s (.s (.n (.n (.n .z)))))), rfl⟩), fun r32 s21 _ hl => ⟨(), Le.trans (.s (.s (.s (.n (.n (.n .z)))))) hl, rfl⟩⟩⟩⟩)⟩)⟩)))))))))), fun s14 => ds_at [some (.val v_name), some (.val z5), some (.val z7), none, none, none] (ds_ret (de_var 0 rfl (rfl))), fun r33 s14 _ hl => rfl⟩⟩⟩)⟩)⟩))))))))))⟩⟩)⟩)))))))))⟩⟩)⟩)))))⟩)⟩))))))))

theorem p__law_longer (T : Txt K mg) : ∀ k : Nat, 2 ≤ k → HasS P w K mg base k "_law_longer" 1 (sn1 m__law_longer) :=
  T.d__law_longer.s (lv := 1) (N := ["source", "name", "lot", "ahead", "turn", "k", "times", "row", "late"]) sc__law_longer rfl fun a0 s0 ds hds => match ds, hds with
  | [v_name], _ => by
    show DSs _ [some (.src a0 s0), some (.val v_name), none, none, none, none, none, none, none] _ (m__law_longer s0 v_name) _
    unfold m__law_longer
    exact ds_at [some (.src a0 s0), some (.val v_name), none, none, none, none, none, none, none] (ds_asg (de_var 1 rfl (dg_tup3 rfl fun p1 p2 p3 => dgs_cons (dg_name 2 (dgs_cons (dg_name 3 (dgs_cons (dg_name 4 (dgs_nil (ds_at [some (.src a0 s0), some (.val v_name), some (.val p1), some (.val p2), some (.val p3), none, none, none, none] (ds_par 5 6 (de_callS 0 (p__law_pick T _ (by show (1 : Nat) ≤ 1; decide) _ _ _) rfl (da_cons (de_op bs_add (de_op bs_mul (de_int (de_blt bl_len T.z_len bb_len (da_cons (de_var 4 rfl (da_nil (⟨_, _, fn1_eq _ _, rfl, fun z4 => ⟨_, rfl, fun z5 => de_int (⟨_, rfl, fun z6 => da_nil (⟨rfl, _, _, _, rfl, sn1_eq _ _ _, rfl, fun z7 s8 => de_op bs_add (de_int (de_callS 0 (p__law_pick T _ (by show (1 : Nat) ≤ 1; decide) _ _ _) rfl (da_cons (de_int (da_nil (⟨rfl, _, _, _, rfl, sn1_eq _ _ _, rfl, fun z9 s10 => ⟨_, rfl, fun z11 => ds_at [some (.src a0 s10), some (.val v_name), some (.val p1), some (.val p2), some (.val p3), some (.val z7), some (.val z11), none, none] (ds_set 7 (de_call (p__law_row T _ (by show (1 : Nat) ≤ 1; decide) _ _ _) (da_cons (de_tup (da_cons (de_var 2 rfl (da_cons (de_tup (da_nil (⟨by show (0 : Nat) ≤ 16777216; decide, da_cons (de_var 4 rfl (da_nil (⟨by show (3 : Nat) ≤ 16777216; decide, da_cons (de_var 5 rfl (da_nil (⟨rfl, ⟨_, _, fn2_eq _ _ _, rfl, fun z12 => ds_at [some (.src a0 s10), some (.val v_name), some (.val p1), some (.val p2), some (.val p3), some (.val z7), some (.val z11), some (.val z12), none] (ds_set 8 (de_op bs_fmod (de_bty bl_int T.z_int bb_int (da_cons (de_var 5 rfl (da_nil (⟨_, _, fn1_eq _ _, rfl, fun z13 => de_blt bl_len T.z_len bb_len (da_cons (de_var 4 rfl (da_nil (⟨_, _, fn1_eq _ _, rfl, fun z14 => ⟨_, rfl, fun z15 => ds_at [some (.src a0 s10), some (.val v_name), some (.val p1), some (.val p2), some (.val p3), some (.val z7), some (.val z11), some (.val z12), some (.val z15)] (ds_ret (de_tup (da_cons (de_var 2 rfl (da_cons (de_op bs_add (de_var 3 rfl (de_var 7 rfl (⟨_, rfl, fun z16 => da_cons (de_op bs_mul (de_op bs_add (de_slice (de_var 4 rfl (de_var 8 rfl (.inr ⟨_, rfl, fun l17 => ⟨_, rfl, fun z18 => de_slice (de_var 4 rfl (de_var 8 rfl (.inr ⟨_, rfl, fun l19 => ⟨_, rfl, fun z20 => ⟨_, rfl, fun z21 => de_var 6 rfl (⟨_, rfl, fun z22 => da_nil (⟨by show (3 : Nat) ≤ 16777216; decide, ⟨_, rfl, rfl⟩⟩)⟩)⟩⟩⟩)))⟩⟩))))))⟩)))))))))⟩⟩))))⟩)))))))⟩⟩)))⟩)))⟩))))))))))⟩⟩))))))⟩)⟩)⟩⟩)))))))))) (hw := by intro env he; cases env; cases he; rfl))))))))))))

theorem p_law (T : Txt K mg) (ns : List Int) : DSs ⟨P, w, K, mg, base, 6, ["script", "source", "lap", "base", "many", "lot", "ahead", "turn", "name", "least", "kept", "point", "turning", "late", "found", "told", "k"], defScope s_law, fun _ => true⟩ (startE ["script", "source", "lap", "base", "many", "lot", "ahead", "turn", "name", "least", "kept", "point", "turning", "late", "found", "told", "k"] [.scr ns]) (defBody s_law) (m_law ns) Jf := by
    show DSs _ [some (.scr ns), none, none, none, none, none, none, none, none, none, none, none, none, none, none, none, none] _ (m_law ns) _
    unfold m_law
    exact ds_at [some (.scr ns), none, none, none, none, none, none, none, none, none, none, none, none, none, none, none, none] (ds_source 1 0 (p__law_source T _ (by show (1 : Nat) ≤ 6; decide) _ _ _) rfl rfl fun a0 s1 => ds_at [some (.scr ns), some (.src a0 s1), none, none, none, none, none, none, none, none, none, none, none, none, none, none, none] (ds_forT (fun (st : Src) => ([some (.scr ns), some (.src a0 st), none, none, none, none, none, none, none, none, none, none, none, none, none, none, none] : Z.Env)) (di_range1 T.z_range (de_int (⟨_, rfl, fun z2 => ⟨s1, _, _, (.s (.s (.n (.n (.n (.n (.n (.n (.n (.n (.n (.n (.n (.n (.n (.n (.n .z))))))))))))))))), rfl, fun x3 s4 => dg_name 2 (ds_at [some (.scr ns), some (.src a0 s4), some (.val x3), none, none, none, none, none, none, none, none, none, none, none, none, none, none] (ds_set 3 (de_callS 1 (p__law_base T _ (by show (4 : Nat) ≤ 6; decide) _ _ _) rfl (da_cons (de_callS 1 (p__law_of T _ (by show (2 : Nat) ≤ 6; decide) _ _ _) rfl (da_cons (de_lst (da_cons (de_int (da_cons (de_int (da_cons (de_int (da_nil (⟨by show (3 : Nat) ≤ 16777216; decide, da_nil (⟨rfl, _, _, _, rfl, sn1_eq _ _ _, rfl, fun z6 s7 => da_nil (⟨rfl, _, _, _, rfl, sn1_eq _ _ _, rfl, fun z8 s9 => ds_at [some (.scr ns), some (.src a0 s9), some (.val x3), some (.val z8), none, none, none, none, none, none, none, none, none, none, none, none, none] (ds_set 4 (de_blt bl_len T.z_len bb_len (da_cons (de_ix (de_var 3 rfl (de_int (⟨_, rfl, fun z10 => da_nil (⟨_, _, fn1_eq _ _, rfl, fun z11 => ds_at [some (.scr ns), some (.src a0 s9), some (.val x3), some (.val z8), some (.val z11), none, none, none, none, none, none, none, none, none, none, none, none] (ds_set 5 (de_tup (da_cons (de_op bs_sub (de_callS 1 (p__law_pick T _ (by show (1 : Nat) ≤ 6; decide) _ _ _) rfl (da_cons (de_int (da_nil (⟨rfl, _, _, _, rfl, sn1_eq _ _ _, rfl, fun z12 s13 => de_int (⟨_, rfl, fun z14 => da_cons (de_op bs_sub (de_callS 1 (p__law_pick T _ (by show (1 : Nat) ≤ 6; decide) _ _ _) rfl (da_cons (de_int (da_nil (⟨rfl, _, _, _, rfl, sn1_eq _ _ _, rfl, fun z15 s16 => de_int (⟨_, rfl, fun z17 => da_nil (⟨by show (2 : Nat) ≤ 16777216; decide, ds_at [some (.scr ns), some (.src a0 s16), some (.val x3), some (.val z8), some (.val z11), some (.val (PyData.tuple [z14, z17])), none, none, none, none, none, none, none, none, none, none, none] (ds_set 6 (de_bty bl_tuple T.z_tuple bb_tuple (da_cons (de_lcT (fun (st : Src) => ([some (.scr ns), some (.src a0 st), some (.val x3), some (.val z8), some (.val z11), some (.val (PyData.tuple [z14, z17])), none, none, none, none, none, none, none, none, none, none, none] : Z.Env)) [("k", 16)] (by kernel_rfl) (di_range1 T.z_range (de_callS 1 (p__law_pick T _ (by show (1 : Nat) ≤ 6; decide) _ _ _) rfl (da_cons (de_int (da_nil (⟨rfl, _, _, _, rfl, sn1_eq _ _ _, rfl, fun z18 s19 => ⟨_, rfl, fun z20 => ⟨s19, _, _, (.s (.s (.s (.s (.s (.s (.n (.n (.n (.n (.n (.n (.n (.n (.n (.n (.n .z))))))))))))))))), rfl, fun x21 s22 => dg_name 16 (dts_nil ⟨fun _ => de_callS 1 (p__law_pick T _ (by show (1 : Nat) ≤ 6; decide) _ _ _) rfl (da_cons (de_var 4 rfl (da_nil (⟨rfl, _, _, _, rfl, sn1_eq _ _ _, rfl, fun z23 s24 => ⟨s24, (.s (.s (.s (.s (.s (.s (.n (.n (.n (.n (.n (.n (.n (.n (.n (.n (.n .z))))))))))))))))), rfl⟩⟩)))), fun h => nomatch h⟩), fun ys25 s26 => da_nil (⟨_, _, fn1_eq _ _, rfl, fun z27 => ds_at [some (.scr ns), some (.src a0 s26), some (.val x3), some (.val z8), some (.val z11), some (.val (PyData.tuple [z14, z17])), some (.val z27), none, none, none, none, none, none, none, none, none, none] (ds_set 7 (de_bty bl_tuple T.z_tuple bb_tuple (da_cons (de_lcT (fun (st : Src) => ([some (.scr ns), some (.src a0 st), some (.val x3), some (.val z8), some (.val z11), some (.val (PyData.tuple [z14, z17])), some (.val z27), none, none, none, none, none, none, none, none, none, none] : Z.Env)) [("k", 16)] (by kernel_rfl) (di_range1 T.z_range (de_op bs_add (de_int (de_callS 1 (p__law_pick T _ (by show (1 : Nat) ≤ 6; decide) _ _ _) rfl (da_cons (de_int (da_nil (⟨rfl, _, _, _, rfl, sn1_eq _ _ _, rfl, fun z28 s29 => ⟨_, rfl, fun z30 => ⟨_, rfl, fun z31 => ⟨s29, _, _, (.s (.s (.s (.s (.s (.s (.s (.n (.n (.n (.n (.n (.n (.n (.n (.n (.n .z))))))))))))))))), rfl, fun x32 s33 => dg_name 16 (dts_nil ⟨fun _ => de_callS 1 (p__law_pick T _ (by show (1 : Nat) ≤ 6; decide) _ _ _) rfl (da_cons (de_var 4 rfl (da_nil (⟨rfl, _, _, _, rfl, sn1_eq _ _ _, rfl, fun z34 s35 => ⟨s35, (.s (.s (.s (.s (.s (.s (.s (.n (.n (.n (.n (.n (.n (.n (.n (.n (.n .z))))))))))))))))), rfl⟩⟩)))), fun h => nomatch h⟩), fun ys36 s37 => da_nil (⟨_, _, fn1_eq _ _, rfl, fun z38 => ds_at [some (.scr ns), some (.src a0 s37), some (.val x3), some (.val z8), some (.val z11), some (.val (PyData.tuple [z14, z17])), some (.val z27), some (.val z38), none, none, none, none, none, none, none, none, none] (ds_set 8 (de_tup (da_cons (de_var 5 rfl (da_cons (de_var 6 rfl (da_cons (de_var 7 rfl (da_nil (⟨by show (3 : Nat) ≤ 16777216; decide, ds_at [some (.scr ns), some (.src a0 s37), some (.val x3), some (.val z8), some (.val z11), some (.val (PyData.tuple [z14, z17])), some (.val z27), some (.val z38), some (.val (PyData.tuple [(PyData.tuple [z14, z17]), z27, z38])), none, none, none, none, none, none, none, none] (ds_par3 9 10 11 (de_call (p__law_least T _ (by show (2 : Nat) ≤ 6; decide) _ _ _) (da_cons (de_var 8 rfl (da_nil (⟨rfl, ⟨_, _, fn1_eq _ _, rfl, fun z39 => de_blt bl_repr T.z_repr bb_repr (da_cons (de_lst (da_cons (de_var 3 rfl (da_cons (de_var 8 rfl (da_nil (⟨by show (2 : Nat) ≤ 16777216; decide, da_nil (⟨_, _, fn1_eq _ _, rfl, fun z40 => de_call (p_worth T _ (by show (4 : Nat) ≤ 6; decide) _ _ _) (da_cons (de_var 3 rfl (da_cons (de_var 8 rfl (da_nil (⟨rfl, ⟨_, _, fn2_eq _ _ _, rfl, fun z41 => ds_at [some (.scr ns), some (.src a0 s37), some (.val x3), some (.val z8), some (.val z11), some (.val (PyData.tuple [z14, z17])), some (.val z27), some (.val z38), some (.val (PyData.tuple [(PyData.tuple [z14, z17]), z27, z38])), some (.val z39), some (.val z40), some (.val z41), none, none, none, none, none] (ds_if (dt_dir (dt_w (dw_or (dt_cmp cs_ne (de_blt bl_repr T.z_repr bb_repr (da_cons (de_call (p_least_name T _ (by show (1 : Nat) ≤ 6; decide) _ _ _) (da_cons (de_var 8 rfl (da_nil (⟨rfl, ⟨_, _, fn1_eq _ _, rfl, fun z42 => da_nil (⟨_, _, fn1_eq _ _, rfl, fun z43 => de_blt bl_repr T.z_repr bb_repr (da_cons (de_var 9 rfl (da_nil (⟨_, _, fn1_eq _ _, rfl, fun z44 => ⟨_, rfl, fun z45 => ⟨_, _, rfl, ⟨rfl, rfl⟩, dw_or1 (dt_cmp cs_ne (de_blt bl_repr T.z_repr bb_repr (da_cons (de_call (p_least_name T _ (by show (1 : Nat) ≤ 6; decide) _ _ _) (da_cons (de_var 9 rfl (da_nil (⟨rfl, ⟨_, _, fn1_eq _ _, rfl, fun z46 => da_nil (⟨_, _, fn1_eq _ _, rfl, fun z47 => de_blt bl_repr T.z_repr bb_repr (da_cons (de_var 9 rfl (da_nil (⟨_, _, fn1_eq _ _, rfl, fun z48 => ⟨_, rfl, fun z49 => ⟨rfl, rfl⟩⟩⟩))))⟩)⟩⟩))))))))⟩⟩⟩))))⟩)⟩⟩)))))))))) fun t50 => ⟨_, _, rfl, ds_ret (de_bool (⟨s37, (.s (.s (.n (.n (.n (.n (.n (.n (.n (.n (.n (.n (.n (.n (.n (.n (.n .z))))))))))))))))), rfl⟩)), ds_nil (ds_forT (fun (st : Src) => ([some (.scr ns), some (.src a0 st), some (.val x3), some (.val z8), some (.val z11), some (.val (PyData.tuple [z14, z17])), some (.val z27), some (.val z38), some (.val (PyData.tuple [(PyData.tuple [z14, z17]), z27, z38])), some (.val z39), some (.val z40), some (.val z41), none, none, none, none, none] : Z.Env)) (di_range1 T.z_range (de_int (⟨_, rfl, fun z51 => ⟨s37, _, _, (.s (.s (.s (.s (.s (.s (.s (.s (.s (.s (.s (.s (.n (.n (.n (.n (.n .z))))))))))))))))), rfl, fun x52 s53 => dg_name 12 (ds_at [some (.scr ns), some (.src a0 s53), some (.val x3), some (.val z8), some (.val z11), some (.val (PyData.tuple [z14, z17])), some (.val z27), some (.val z38), some (.val (PyData.tuple [(PyData.tuple [z14, z17]), z27, z38])), some (.val z39), some (.val z40), some (.val z41), some (.val x52), none, none, none, none] (ds_set 13 (de_callS 1 (p__law_longer T _ (by show (2 : Nat) ≤ 6; decide) _ _ _) rfl (da_cons (de_var 8 rfl (da_nil (⟨rfl, _, _, _, rfl, sn1_eq _ _ _, rfl, fun z55 s56 => ds_at [some (.scr ns), some (.src a0 s56), some (.val x3), some (.val z8), some (.val z11), some (.val (PyData.tuple [z14, z17])), some (.val z27), some (.val z38), some (.val (PyData.tuple [(PyData.tuple [z14, z17]), z27, z38])), some (.val z39), some (.val z40), some (.val z41), some (.val x52), some (.val z55), none, none, none] (ds_if (dt_dir (dt_w (dw_or (dt_cmp cs_ne (de_blt bl_repr T.z_repr bb_repr (da_cons (de_call (p_least_name T _ (by show (1 : Nat) ≤ 6; decide) _ _ _) (da_cons (de_var 13 rfl (da_nil (⟨rfl, ⟨_, _, fn1_eq _ _, rfl, fun z57 => da_nil (⟨_, _, fn1_eq _ _, rfl, fun z58 => de_blt bl_repr T.z_repr bb_repr (da_cons (de_var 9 rfl (da_nil (⟨_, _, fn1_eq _ _, rfl, fun z59 => ⟨_, rfl, fun z60 => ⟨_, _, rfl, ⟨rfl, rfl⟩, dw_or1 (dt_cmp cs_ne (de_blt bl_repr T.z_repr bb_repr (da_cons (de_call (p_worth T _ (by show (4 : Nat) ≤ 6; decide) _ _ _) (da_cons (de_var 3 rfl (da_cons (de_var 13 rfl (da_nil (⟨rfl, ⟨_, _, fn2_eq _ _ _, rfl, fun z61 => da_nil (⟨_, _, fn1_eq _ _, rfl, fun z62 => de_blt bl_repr T.z_repr bb_repr (da_cons (de_var 11 rfl (da_nil (⟨_, _, fn1_eq _ _, rfl, fun z63 => ⟨_, rfl, fun z64 => ⟨rfl, rfl⟩⟩⟩))))⟩)⟩⟩))))))))))⟩⟩⟩))))⟩)⟩⟩)))))))))) fun t65 => ⟨_, _, rfl, ds_ret (de_bool (⟨s56, (.s (.s (.s (.s (.s (.s (.s (.s (.s (.s (.s (.s (.n (.n (.n (.n (.n .z))))))))))))))))), rfl⟩)), ds_nil (ds_if (dt_cmp cs_ne (de_call (p__law_row T _ (by show (1 : Nat) ≤ 6; decide) _ _ _) (da_cons (de_var 13 rfl (da_cons (de_int (da_nil (⟨rfl, ⟨_, _, fn2_eq _ _ _, rfl, fun z66 => de_call (p__law_row T _ (by show (1 : Nat) ≤ 6; decide) _ _ _) (da_cons (de_var 8 rfl (da_cons (de_int (da_nil (⟨rfl, ⟨_, _, fn2_eq _ _ _, rfl, fun z67 => ⟨_, rfl, fun z68 => ⟨_, _, rfl, ds_ret (de_bool (⟨s56, (.s (.s (.s (.s (.s (.s (.s (.s (.s (.s (.s (.s (.n (.n (.n (.n (.n .z))))))))))))))))), rfl⟩)), ds_nil (ds_nil (⟨s56, (.s (.s (.s (.s (.s (.s (.s (.s (.s (.s (.s (.s (.n (.n (.n (.n (.n .z))))))))))))))))), rfl⟩))⟩⟩⟩⟩))))))⟩⟩)))))))))⟩))⟩))))))), fun s54 => ds_at [some (.scr ns), some (.src a0 s54), some (.val x3), some (.val z8), some (.val z11), some (.val (PyData.tuple [z14, z17])), some (.val z27), some (.val z38), some (.val (PyData.tuple [(PyData.tuple [z14, z17]), z27, z38])), some (.val z39), some (.val z40), some (.val z41), none, none, none, none, none] (ds_set 14 (de_call (p_name_of T _ (by show (6 : Nat) ≤ 6; decide) _ _ _) (da_cons (de_var 3 rfl (da_cons (de_var 11 rfl (da_nil (⟨rfl, ⟨_, _, fn2_eq _ _ _, rfl, fun z69 => ds_at [some (.scr ns), some (.src a0 s54), some (.val x3), some (.val z8), some (.val z11), some (.val (PyData.tuple [z14, z17])), some (.val z27), some (.val z38), some (.val (PyData.tuple [(PyData.tuple [z14, z17]), z27, z38])), some (.val z39), some (.val z40), some (.val z41), none, none, some (.val z69), none, none] (ds_if (dt_dir (dt_w (dw_or (dt_cmp cs_ne (de_blt bl_repr T.z_repr bb_repr (da_cons (de_call (p_least_name T _ (by show (1 : Nat) ≤ 6; decide) _ _ _) (da_cons (de_var 14 rfl (da_nil (⟨rfl, ⟨_, _, fn1_eq _ _, rfl, fun z70 => da_nil (⟨_, _, fn1_eq _ _, rfl, fun z71 => de_blt bl_repr T.z_repr bb_repr (da_cons (de_var 14 rfl (da_nil (⟨_, _, fn1_eq _ _, rfl, fun z72 => ⟨_, rfl, fun z73 => ⟨_, _, rfl, ⟨rfl, rfl⟩, dw_or1 (dt_cmp cs_ne (de_blt bl_repr T.z_repr bb_repr (da_cons (de_call (p_worth T _ (by show (4 : Nat) ≤ 6; decide) _ _ _) (da_cons (de_var 3 rfl (da_cons (de_var 14 rfl (da_nil (⟨rfl, ⟨_, _, fn2_eq _ _ _, rfl, fun z74 => da_nil (⟨_, _, fn1_eq _ _, rfl, fun z75 => de_blt bl_repr T.z_repr bb_repr (da_cons (de_var 11 rfl (da_nil (⟨_, _, fn1_eq _ _, rfl, fun z76 => ⟨_, rfl, fun z77 => ⟨rfl, rfl⟩⟩⟩))))⟩)⟩⟩))))))))))⟩⟩⟩))))⟩)⟩⟩)))))))))) fun t78 => ⟨_, _, rfl, ds_ret (de_bool (⟨s54, (.s (.s (.n (.n (.n (.n (.n (.n (.n (.n (.n (.n (.n (.n (.n (.n (.n .z))))))))))))))))), rfl⟩)), ds_nil (ds_if (dt_cmp cs_ne (de_blt bl_repr T.z_repr bb_repr (da_cons (de_lst (da_cons (de_var 3 rfl (da_cons (de_var 8 rfl (da_nil (⟨by show (2 : Nat) ≤ 16777216; decide, da_nil (⟨_, _, fn1_eq _ _, rfl, fun z79 => de_var 10 rfl (⟨_, rfl, fun z80 => ⟨_, _, rfl, ds_ret (de_bool (⟨s54, (.s (.s (.n (.n (.n (.n (.n (.n (.n (.n (.n (.n (.n (.n (.n (.n (.n .z))))))))))))))))), rfl⟩)), ds_nil (ds_nil (⟨s54, (.s (.s (.n (.n (.n (.n (.n (.n (.n (.n (.n (.n (.n (.n (.n (.n (.n .z))))))))))))))))), rfl⟩))⟩⟩)⟩)⟩)))))))))))⟩))⟩⟩)))))))), fun r81 s54 _ hl => ⟨s54, Le.trans (.s (.s (.n (.n (.n (.n (.n (.n (.n (.n (.n (.n (.n (.n (.n (.n (.n .z))))))))))))))))) hl, rfl⟩⟩⟩))))⟩))⟩⟩))))))⟩)⟩))))))))⟩⟩))))))⟩))))))))))⟩)⟩⟩⟩⟩))))))))))))⟩)⟩⟩⟩))))))))))⟩)⟩)⟩))))))⟩)⟩)))))))))⟩)⟩)))))))⟩)⟩)⟩))))))))))))))), fun s5 => ds_at [some (.scr ns), some (.src a0 s5), none, none, none, none, none, none, none, none, none, none, none, none, none, none, none] (ds_set 15 (de_lst (da_cons (de_call (p_least_name T _ (by show (1 : Nat) ≤ 6; decide) _ _ _) (da_cons (de_tup (da_cons (de_tup (da_cons (de_int (da_cons (de_int (da_nil (⟨by show (2 : Nat) ≤ 16777216; decide, da_cons (de_tup (da_cons (de_int (da_cons (de_int (da_cons (de_int (da_nil (⟨by show (3 : Nat) ≤ 16777216; decide, da_cons (de_tup (da_cons (de_int (da_cons (de_int (da_nil (⟨by show (2 : Nat) ≤ 16777216; decide, da_nil (⟨by show (3 : Nat) ≤ 16777216; decide, da_nil (⟨rfl, ⟨_, _, fn1_eq _ _, rfl, fun z82 => da_cons (de_call (p_least_name T _ (by show (1 : Nat) ≤ 6; decide) _ _ _) (da_cons (de_tup (da_cons (de_tup (da_cons (de_int (da_cons (de_int (da_nil (⟨by show (2 : Nat) ≤ 16777216; decide, da_cons (de_tup (da_cons (de_int (da_cons (de_int (da_nil (⟨by show (2 : Nat) ≤ 16777216; decide, da_cons (de_tup (da_cons (de_int (da_cons (de_int (da_cons (de_int (da_nil (⟨by show (3 : Nat) ≤ 16777216; decide, da_nil (⟨by show (3 : Nat) ≤ 16777216; decide, da_nil (⟨rfl, ⟨_, _, fn1_eq _ _, rfl, fun z83 => da_nil (⟨by show (2 : Nat) ≤ 16777216; decide, ds_at [some (.scr ns), some (.src a0 s5), none, none, none, none, none, none, none, none, none, none, none, none, none, some (.val (PyData.list [z82, z83])), none] (ds_ret (de_cmp cs_eq (de_blt bl_repr T.z_repr bb_repr (da_cons (de_var 15 rfl (da_nil (⟨_, _, fn1_eq _ _, rfl, fun z84 => de_blt bl_repr T.z_repr bb_repr (da_cons (de_lst (da_cons (de_tup (da_cons (de_tup (da_cons (de_int (da_cons (de_int (da_nil (⟨by show (2 : Nat) ≤ 16777216; decide, da_cons (de_tup (da_cons (de_int (da_nil (⟨by show (1 : Nat) ≤ 16777216; decide, da_cons (de_tup (da_cons (de_int (da_nil (⟨by show (1 : Nat) ≤ 16777216; decide, da_nil (⟨by show (3 : Nat) ≤ 16777216; decide, da_cons (de_tup (da_cons (de_tup (da_cons (de_int (da_cons (de_int (da_nil (⟨by show (2 : Nat) ≤ 16777216; decide, da_cons (de_tup (da_nil (⟨by show (0 : Nat) ≤ 16777216; decide, da_cons (de_tup (da_cons (de_int (da_cons (de_int (da_cons (de_int (da_nil (⟨by show (3 : Nat) ≤ 16777216; decide, da_nil (⟨by show (3 : Nat) ≤ 16777216; decide, da_nil (⟨by show (2 : Nat) ≤ 16777216; decide, da_nil (⟨_, _, fn1_eq _ _, rfl, fun z85 => ⟨_, rfl, fun z86 => rfl⟩⟩)⟩)⟩)⟩)))))))))⟩)))⟩)))))))))⟩)⟩)))))⟩)))))⟩))))))))))))⟩)))))))⟩)⟩⟩)⟩)⟩)))))))))⟩)))))))⟩)))))))))))⟩⟩)⟩)⟩)))))))⟩)))))))))⟩)))))))))))))), fun r87 s5 _ hl => rfl⟩⟩)))))

end
theorem all_mk {l : PySem.W.OpenLaw} {w : World} {K : PySem.W.Frag} {h : Heap} {mg : Str → Option Value} {fa f0 f1 f2 f3 f4 f5 f6 f7 f8 f9 f10 f11 f12 f13 f14 f15 f16 f17 f18 f19 f20 f21 f22 f23 f24 f25 f26 f27 f28 f29 : Addr} (X : K.In h) (G : h.Ns mainGlobals mg) (hfa : mg "law" = some (.ref fa))
    {od0 an0 od1 an1 od2 an2 od3 an3 od4 an4 od5 an5 od6 an6 od7 an7 od8 an8 od9 an9 od10 an10 od11 an11 od12 an12 od13 an13 od14 an14 od15 an15 od16 an16 od17 an17 od18 an18 od19 an19 od20 an20 od21 an21 od22 an22 od23 an23 od24 an24 od25 an25 od26 an26 od27 an27 od28 an28 od29 an29 : Option Addr} {sl0 sl1 sl2 sl3 sl4 sl5 sl6 sl7 sl8 sl9 sl10 sl11 sl12 sl13 sl14 sl15 sl16 sl17 sl18 sl19 sl20 sl21 sl22 sl23 sl24 sl25 sl26 sl27 sl28 sl29 : Array (Option Value)} {oc0 kV0 dc0 pm0 cd0 ct0 oc1 kV1 dc1 pm1 cd1 ct1 oc2 kV2 dc2 pm2 cd2 ct2 oc3 kV3 dc3 pm3 cd3 ct3 oc4 kV4 dc4 pm4 cd4 ct4 oc5 kV5 dc5 pm5 cd5 ct5 oc6 kV6 dc6 pm6 cd6 ct6 oc7 kV7 dc7 pm7 cd7 ct7 oc8 kV8 dc8 pm8 cd8 ct8 oc9 kV9 dc9 pm9 cd9 ct9 oc10 kV10 dc10 pm10 cd10 ct10 oc11 kV11 dc11 pm11 cd11 ct11 oc12 kV12 dc12 pm12 cd12 ct12 oc13 kV13 dc13 pm13 cd13 ct13 oc14 kV14 dc14 pm14 cd14 ct14 oc15 kV15 dc15 pm15 cd15 ct15 oc16 kV16 dc16 pm16 cd16 ct16 oc17 kV17 dc17 pm17 cd17 ct17 oc18 kV18 dc18 pm18 cd18 ct18 oc19 kV19 dc19 pm19 cd19 ct19 oc20 kV20 dc20 pm20 cd20 ct20 oc21 kV21 dc21 pm21 cd21 ct21 oc22 kV22 dc22 pm22 cd22 ct22 oc23 kV23 dc23 pm23 cd23 ct23 oc24 kV24 dc24 pm24 cd24 ct24 oc25 kV25 dc25 pm25 cd25 ct25 oc26 kV26 dc26 pm26 cd26 ct26 oc27 kV27 dc27 pm27 cd27 ct27 oc28 kV28 dc28 pm28 cd28 ct28 oc29 kV29 dc29 pm29 cd29 ct29 : Value} {t_MOST_CLASSES : Tok}
    (a0 : PySem.W.nsIn K mainGlobals "point_of" = some (some (.ref f0)))
    (l0 : K.lookup f0 = some ⟨oc0, od0, .func (PySem.W.fnOf "point_of" "point_of" (defArgs s_point_of) (defBody s_point_of) (defScope s_point_of) .none kV0 dc0 pm0 an0 cd0 ct0), sl0⟩)
    (c0 : PySem.W.codeIn K cd0 "point_of" = true)
    (k0 : PySem.W.keepIn K (.ref f0) = true)
    (a1 : PySem.W.nsIn K mainGlobals "point_low" = some (some (.ref f1)))
    (l1 : K.lookup f1 = some ⟨oc1, od1, .func (PySem.W.fnOf "point_low" "point_low" (defArgs s_point_low) (defBody s_point_low) (defScope s_point_low) .none kV1 dc1 pm1 an1 cd1 ct1), sl1⟩)
    (c1 : PySem.W.codeIn K cd1 "point_low" = true)
    (k1 : PySem.W.keepIn K (.ref f1) = true)
    (a2 : PySem.W.nsIn K mainGlobals "points_added" = some (some (.ref f2)))
    (l2 : K.lookup f2 = some ⟨oc2, od2, .func (PySem.W.fnOf "points_added" "points_added" (defArgs s_points_added) (defBody s_points_added) (defScope s_points_added) .none kV2 dc2 pm2 an2 cd2 ct2), sl2⟩)
    (c2 : PySem.W.codeIn K cd2 "points_added" = true)
    (k2 : PySem.W.keepIn K (.ref f2) = true)
    (a3 : PySem.W.nsIn K mainGlobals "table_det" = some (some (.ref f3)))
    (l3 : K.lookup f3 = some ⟨oc3, od3, .func (PySem.W.fnOf "table_det" "table_det" (defArgs s_table_det) (defBody s_table_det) (defScope s_table_det) .none kV3 dc3 pm3 an3 cd3 ct3), sl3⟩)
    (c3 : PySem.W.codeIn K cd3 "table_det" = true)
    (k3 : PySem.W.keepIn K (.ref f3) = true)
    (a4 : PySem.W.nsIn K mainGlobals "table_other" = some (some (.ref f4)))
    (l4 : K.lookup f4 = some ⟨oc4, od4, .func (PySem.W.fnOf "table_other" "table_other" (defArgs s_table_other) (defBody s_table_other) (defScope s_table_other) .none kV4 dc4 pm4 an4 cd4 ct4), sl4⟩)
    (c4 : PySem.W.codeIn K cd4 "table_other" = true)
    (k4 : PySem.W.keepIn K (.ref f4) = true)
    (a5 : PySem.W.nsIn K mainGlobals "lot_led" = some (some (.ref f5)))
    (l5 : K.lookup f5 = some ⟨oc5, od5, .func (PySem.W.fnOf "lot_led" "lot_led" (defArgs s_lot_led) (defBody s_lot_led) (defScope s_lot_led) .none kV5 dc5 pm5 an5 cd5 ct5), sl5⟩)
    (c5 : PySem.W.codeIn K cd5 "lot_led" = true)
    (k5 : PySem.W.keepIn K (.ref f5) = true)
    (a6 : PySem.W.nsIn K mainGlobals "point_undone" = some (some (.ref f6)))
    (l6 : K.lookup f6 = some ⟨oc6, od6, .func (PySem.W.fnOf "point_undone" "point_undone" (defArgs s_point_undone) (defBody s_point_undone) (defScope s_point_undone) .none kV6 dc6 pm6 an6 cd6 ct6), sl6⟩)
    (c6 : PySem.W.codeIn K cd6 "point_undone" = true)
    (k6 : PySem.W.keepIn K (.ref f6) = true)
    (a7 : PySem.W.nsIn K mainGlobals "lots_added" = some (some (.ref f7)))
    (l7 : K.lookup f7 = some ⟨oc7, od7, .func (PySem.W.fnOf "lots_added" "lots_added" (defArgs s_lots_added) (defBody s_lots_added) (defScope s_lots_added) .none kV7 dc7 pm7 an7 cd7 ct7), sl7⟩)
    (c7 : PySem.W.codeIn K cd7 "lots_added" = true)
    (k7 : PySem.W.keepIn K (.ref f7) = true)
    (a8 : PySem.W.nsIn K mainGlobals "row_worth" = some (some (.ref f8)))
    (l8 : K.lookup f8 = some ⟨oc8, od8, .func (PySem.W.fnOf "row_worth" "row_worth" (defArgs s_row_worth) (defBody s_row_worth) (defScope s_row_worth) .none kV8 dc8 pm8 an8 cd8 ct8), sl8⟩)
    (c8 : PySem.W.codeIn K cd8 "row_worth" = true)
    (k8 : PySem.W.keepIn K (.ref f8) = true)
    (a9 : PySem.W.nsIn K mainGlobals "round_worth" = some (some (.ref f9)))
    (l9 : K.lookup f9 = some ⟨oc9, od9, .func (PySem.W.fnOf "round_worth" "round_worth" (defArgs s_round_worth) (defBody s_round_worth) (defScope s_round_worth) .none kV9 dc9 pm9 an9 cd9 ct9), sl9⟩)
    (c9 : PySem.W.codeIn K cd9 "round_worth" = true)
    (k9 : PySem.W.keepIn K (.ref f9) = true)
    (a10 : PySem.W.nsIn K mainGlobals "worth" = some (some (.ref f10)))
    (l10 : K.lookup f10 = some ⟨oc10, od10, .func (PySem.W.fnOf "worth" "worth" (defArgs s_worth) (defBody s_worth) (defScope s_worth) .none kV10 dc10 pm10 an10 cd10 ct10), sl10⟩)
    (c10 : PySem.W.codeIn K cd10 "worth" = true)
    (k10 : PySem.W.keepIn K (.ref f10) = true)
    (a11 : PySem.W.nsIn K mainGlobals "least_name" = some (some (.ref f11)))
    (l11 : K.lookup f11 = some ⟨oc11, od11, .func (PySem.W.fnOf "least_name" "least_name" (defArgs s_least_name) (defBody s_least_name) (defScope s_least_name) .none kV11 dc11 pm11 an11 cd11 ct11), sl11⟩)
    (c11 : PySem.W.codeIn K cd11 "least_name" = true)
    (k11 : PySem.W.keepIn K (.ref f11) = true)
    (a12 : PySem.W.nsIn K mainGlobals "classes_of" = some (some (.ref f12)))
    (l12 : K.lookup f12 = some ⟨oc12, od12, .func (PySem.W.fnOf "classes_of" "classes_of" (defArgs s_classes_of) (defBody s_classes_of) (defScope s_classes_of) .none kV12 dc12 pm12 an12 cd12 ct12), sl12⟩)
    (c12 : PySem.W.codeIn K cd12 "classes_of" = true)
    (k12 : PySem.W.keepIn K (.ref f12) = true)
    (a13 : PySem.W.nsIn K mainGlobals "lots_less" = some (some (.ref f13)))
    (l13 : K.lookup f13 = some ⟨oc13, od13, .func (PySem.W.fnOf "lots_less" "lots_less" (defArgs s_lots_less) (defBody s_lots_less) (defScope s_lots_less) .none kV13 dc13 pm13 an13 cd13 ct13), sl13⟩)
    (c13 : PySem.W.codeIn K cd13 "lots_less" = true)
    (k13 : PySem.W.keepIn K (.ref f13) = true)
    (a14 : PySem.W.nsIn K mainGlobals "lot_undone" = some (some (.ref f14)))
    (l14 : K.lookup f14 = some ⟨oc14, od14, .func (PySem.W.fnOf "lot_undone" "lot_undone" (defArgs s_lot_undone) (defBody s_lot_undone) (defScope s_lot_undone) .none kV14 dc14 pm14 an14 cd14 ct14), sl14⟩)
    (c14 : PySem.W.codeIn K cd14 "lot_undone" = true)
    (k14 : PySem.W.keepIn K (.ref f14) = true)
    (a15 : PySem.W.nsIn K mainGlobals "lot_back" = some (some (.ref f15)))
    (l15 : K.lookup f15 = some ⟨oc15, od15, .func (PySem.W.fnOf "lot_back" "lot_back" (defArgs s_lot_back) (defBody s_lot_back) (defScope s_lot_back) .none kV15 dc15 pm15 an15 cd15 ct15), sl15⟩)
    (c15 : PySem.W.codeIn K cd15 "lot_back" = true)
    (k15 : PySem.W.keepIn K (.ref f15) = true)
    (a16 : PySem.W.nsIn K mainGlobals "remainder_back" = some (some (.ref f16)))
    (l16 : K.lookup f16 = some ⟨oc16, od16, .func (PySem.W.fnOf "remainder_back" "remainder_back" (defArgs s_remainder_back) (defBody s_remainder_back) (defScope s_remainder_back) .none kV16 dc16 pm16 an16 cd16 ct16), sl16⟩)
    (c16 : PySem.W.codeIn K cd16 "remainder_back" = true)
    (k16 : PySem.W.keepIn K (.ref f16) = true)
    (a17 : PySem.W.nsIn K mainGlobals "classes_back" = some (some (.ref f17)))
    (l17 : K.lookup f17 = some ⟨oc17, od17, .func (PySem.W.fnOf "classes_back" "classes_back" (defArgs s_classes_back) (defBody s_classes_back) (defScope s_classes_back) .none kV17 dc17 pm17 an17 cd17 ct17), sl17⟩)
    (c17 : PySem.W.codeIn K cd17 "classes_back" = true)
    (k17 : PySem.W.keepIn K (.ref f17) = true)
    (a18 : PySem.W.nsIn K mainGlobals "name_of" = some (some (.ref f18)))
    (l18 : K.lookup f18 = some ⟨oc18, od18, .func (PySem.W.fnOf "name_of" "name_of" (defArgs s_name_of) (defBody s_name_of) (defScope s_name_of) .none kV18 dc18 pm18 an18 cd18 ct18), sl18⟩)
    (c18 : PySem.W.codeIn K cd18 "name_of" = true)
    (k18 : PySem.W.keepIn K (.ref f18) = true)
    (a19 : PySem.W.nsIn K mainGlobals "_law_source" = some (some (.ref f19)))
    (l19 : K.lookup f19 = some ⟨oc19, od19, .func (PySem.W.fnOf "_law_source" "_law_source" (defArgs s__law_source) (defBody s__law_source) (defScope s__law_source) .none kV19 dc19 pm19 an19 cd19 ct19), sl19⟩)
    (c19 : PySem.W.codeIn K cd19 "_law_source" = true)
    (k19 : PySem.W.keepIn K (.ref f19) = true)
    (a20 : PySem.W.nsIn K mainGlobals "_law_pick" = some (some (.ref f20)))
    (l20 : K.lookup f20 = some ⟨oc20, od20, .func (PySem.W.fnOf "_law_pick" "_law_pick" (defArgs s__law_pick) (defBody s__law_pick) (defScope s__law_pick) .none kV20 dc20 pm20 an20 cd20 ct20), sl20⟩)
    (c20 : PySem.W.codeIn K cd20 "_law_pick" = true)
    (k20 : PySem.W.keepIn K (.ref f20) = true)
    (a21 : PySem.W.nsIn K mainGlobals "_law_of" = some (some (.ref f21)))
    (l21 : K.lookup f21 = some ⟨oc21, od21, .func (PySem.W.fnOf "_law_of" "_law_of" (defArgs s__law_of) (defBody s__law_of) (defScope s__law_of) .none kV21 dc21 pm21 an21 cd21 ct21), sl21⟩)
    (c21 : PySem.W.codeIn K cd21 "_law_of" = true)
    (k21 : PySem.W.keepIn K (.ref f21) = true)
    (a22 : PySem.W.nsIn K mainGlobals "_law_mixed" = some (some (.ref f22)))
    (l22 : K.lookup f22 = some ⟨oc22, od22, .func (PySem.W.fnOf "_law_mixed" "_law_mixed" (defArgs s__law_mixed) (defBody s__law_mixed) (defScope s__law_mixed) .none kV22 dc22 pm22 an22 cd22 ct22), sl22⟩)
    (c22 : PySem.W.codeIn K cd22 "_law_mixed" = true)
    (k22 : PySem.W.keepIn K (.ref f22) = true)
    (a23 : PySem.W.nsIn K mainGlobals "_law_undone" = some (some (.ref f23)))
    (l23 : K.lookup f23 = some ⟨oc23, od23, .func (PySem.W.fnOf "_law_undone" "_law_undone" (defArgs s__law_undone) (defBody s__law_undone) (defScope s__law_undone) .none kV23 dc23 pm23 an23 cd23 ct23), sl23⟩)
    (c23 : PySem.W.codeIn K cd23 "_law_undone" = true)
    (k23 : PySem.W.keepIn K (.ref f23) = true)
    (a24 : PySem.W.nsIn K mainGlobals "_law_digits" = some (some (.ref f24)))
    (l24 : K.lookup f24 = some ⟨oc24, od24, .func (PySem.W.fnOf "_law_digits" "_law_digits" (defArgs s__law_digits) (defBody s__law_digits) (defScope s__law_digits) .none kV24 dc24 pm24 an24 cd24 ct24), sl24⟩)
    (c24 : PySem.W.codeIn K cd24 "_law_digits" = true)
    (k24 : PySem.W.keepIn K (.ref f24) = true)
    (a25 : PySem.W.nsIn K mainGlobals "_law_base" = some (some (.ref f25)))
    (l25 : K.lookup f25 = some ⟨oc25, od25, .func (PySem.W.fnOf "_law_base" "_law_base" (defArgs s__law_base) (defBody s__law_base) (defScope s__law_base) .none kV25 dc25 pm25 an25 cd25 ct25), sl25⟩)
    (c25 : PySem.W.codeIn K cd25 "_law_base" = true)
    (k25 : PySem.W.keepIn K (.ref f25) = true)
    (a26 : PySem.W.nsIn K mainGlobals "_law_row" = some (some (.ref f26)))
    (l26 : K.lookup f26 = some ⟨oc26, od26, .func (PySem.W.fnOf "_law_row" "_law_row" (defArgs s__law_row) (defBody s__law_row) (defScope s__law_row) .none kV26 dc26 pm26 an26 cd26 ct26), sl26⟩)
    (c26 : PySem.W.codeIn K cd26 "_law_row" = true)
    (k26 : PySem.W.keepIn K (.ref f26) = true)
    (a27 : PySem.W.nsIn K mainGlobals "_law_least" = some (some (.ref f27)))
    (l27 : K.lookup f27 = some ⟨oc27, od27, .func (PySem.W.fnOf "_law_least" "_law_least" (defArgs s__law_least) (defBody s__law_least) (defScope s__law_least) .none kV27 dc27 pm27 an27 cd27 ct27), sl27⟩)
    (c27 : PySem.W.codeIn K cd27 "_law_least" = true)
    (k27 : PySem.W.keepIn K (.ref f27) = true)
    (a28 : PySem.W.nsIn K mainGlobals "_law_longer" = some (some (.ref f28)))
    (l28 : K.lookup f28 = some ⟨oc28, od28, .func (PySem.W.fnOf "_law_longer" "_law_longer" (defArgs s__law_longer) (defBody s__law_longer) (defScope s__law_longer) .none kV28 dc28 pm28 an28 cd28 ct28), sl28⟩)
    (c28 : PySem.W.codeIn K cd28 "_law_longer" = true)
    (k28 : PySem.W.keepIn K (.ref f28) = true)
    (a29 : PySem.W.nsIn K mainGlobals "law" = some (some (.ref f29)))
    (l29 : K.lookup f29 = some ⟨oc29, od29, .func (PySem.W.fnOf "law" "law" (defArgs s_law) (defBody s_law) (defScope s_law) .none kV29 dc29 pm29 an29 cd29 ct29), sl29⟩)
    (c29 : PySem.W.codeIn K cd29 "law" = true)
    (k29 : PySem.W.keepIn K (.ref f29) = true)
    (z_range : PySem.W.nsIn K mainGlobals "range" = some none)
    (z_len : PySem.W.nsIn K mainGlobals "len" = some none)
    (z_enumerate : PySem.W.nsIn K mainGlobals "enumerate" = some none)
    (z_tuple : PySem.W.nsIn K mainGlobals "tuple" = some none)
    (z_int : PySem.W.nsIn K mainGlobals "int" = some none)
    (z_abs : PySem.W.nsIn K mainGlobals "abs" = some none)
    (z_max : PySem.W.nsIn K mainGlobals "max" = some none)
    (z_list : PySem.W.nsIn K mainGlobals "list" = some none)
    (z_repr : PySem.W.nsIn K mainGlobals "repr" = some none)
    (m_gcd : PySem.W.nsIn K mainGlobals "gcd" = some (some (.builtin "math.gcd")))
    (g_MOST_CLASSES : PySem.W.nsIn K mainGlobals "MOST_CLASSES" = some (some (.int 200 t_MOST_CLASSES)))
    (holds : ∀ ns : List Int, ns.length ≤ 63 → m_law ns = .ok (.bool true)) :
    ∃ fd : FuncData, (∀ (s : Shared) (v : Value), BindsTo s fd ⟨[v], []⟩ [("script", v)]) ∧ ∀ base : Heap, K.In base → base.Ns mainGlobals mg → FnG l.prog w K mg base CX0 7 fa fd ["script"] (spLaw K) := by
  have e := hfa.symm.trans (PySem.W.mg_of X G a29)
  cases e
  have T : Txt K mg := {
    d_point_of := At.mk X G a0 l0 c0 k0 fun _ _ _ _ _ _ us hl => match us, hl with | [_], _ => rfl
    d_point_low := At.mk X G a1 l1 c1 k1 fun _ _ _ _ _ _ us hl => match us, hl with | [_, _], _ => rfl
    d_points_added := At.mk X G a2 l2 c2 k2 fun _ _ _ _ _ _ us hl => match us, hl with | [_, _], _ => rfl
    d_table_det := At.mk X G a3 l3 c3 k3 fun _ _ _ _ _ _ us hl => match us, hl with | [_], _ => rfl
    d_table_other := At.mk X G a4 l4 c4 k4 fun _ _ _ _ _ _ us hl => match us, hl with | [_], _ => rfl
    d_lot_led := At.mk X G a5 l5 c5 k5 fun _ _ _ _ _ _ us hl => match us, hl with | [_, _], _ => rfl
    d_point_undone := At.mk X G a6 l6 c6 k6 fun _ _ _ _ _ _ us hl => match us, hl with | [_, _], _ => rfl
    d_lots_added := At.mk X G a7 l7 c7 k7 fun _ _ _ _ _ _ us hl => match us, hl with | [_, _], _ => rfl
    d_row_worth := At.mk X G a8 l8 c8 k8 fun _ _ _ _ _ _ us hl => match us, hl with | [_, _, _], _ => rfl
    d_round_worth := At.mk X G a9 l9 c9 k9 fun _ _ _ _ _ _ us hl => match us, hl with | [_, _], _ => rfl
    d_worth := At.mk X G a10 l10 c10 k10 fun _ _ _ _ _ _ us hl => match us, hl with | [_, _], _ => rfl
    d_least_name := At.mk X G a11 l11 c11 k11 fun _ _ _ _ _ _ us hl => match us, hl with | [_], _ => rfl
    d_classes_of := At.mk X G a12 l12 c12 k12 fun _ _ _ _ _ _ us hl => match us, hl with | [_, _], _ => rfl
    d_lots_less := At.mk X G a13 l13 c13 k13 fun _ _ _ _ _ _ us hl => match us, hl with | [_, _], _ => rfl
    d_lot_undone := At.mk X G a14 l14 c14 k14 fun _ _ _ _ _ _ us hl => match us, hl with | [_, _], _ => rfl
    d_lot_back := At.mk X G a15 l15 c15 k15 fun _ _ _ _ _ _ us hl => match us, hl with | [_, _], _ => rfl
    d_remainder_back := At.mk X G a16 l16 c16 k16 fun _ _ _ _ _ _ us hl => match us, hl with | [_, _, _, _], _ => rfl
    d_classes_back := At.mk X G a17 l17 c17 k17 fun _ _ _ _ _ _ us hl => match us, hl with | [_, _, _, _], _ => rfl
    d_name_of := At.mk X G a18 l18 c18 k18 fun _ _ _ _ _ _ us hl => match us, hl with | [_, _], _ => rfl
    d__law_source := At.mk X G a19 l19 c19 k19 fun _ _ _ _ _ _ us hl => match us, hl with | [_], _ => rfl
    d__law_pick := At.mk X G a20 l20 c20 k20 fun _ _ _ _ _ _ us hl => match us, hl with | [_, _], _ => rfl
    d__law_of := At.mk X G a21 l21 c21 k21 fun _ _ _ _ _ _ us hl => match us, hl with | [_, _], _ => rfl
    d__law_mixed := At.mk X G a22 l22 c22 k22 fun _ _ _ _ _ _ us hl => match us, hl with | [_, _], _ => rfl
    d__law_undone := At.mk X G a23 l23 c23 k23 fun _ _ _ _ _ _ us hl => match us, hl with | [_, _], _ => rfl
    d__law_digits := At.mk X G a24 l24 c24 k24 fun _ _ _ _ _ _ us hl => match us, hl with | [_, _, _], _ => rfl
    d__law_base := At.mk X G a25 l25 c25 k25 fun _ _ _ _ _ _ us hl => match us, hl with | [_, _], _ => rfl
    d__law_row := At.mk X G a26 l26 c26 k26 fun _ _ _ _ _ _ us hl => match us, hl with | [_, _], _ => rfl
    d__law_least := At.mk X G a27 l27 c27 k27 fun _ _ _ _ _ _ us hl => match us, hl with | [_], _ => rfl
    d__law_longer := At.mk X G a28 l28 c28 k28 fun _ _ _ _ _ _ us hl => match us, hl with | [_, _], _ => rfl
    z_range := PySem.W.mg_none_of X G z_range
    z_len := PySem.W.mg_none_of X G z_len
    z_enumerate := PySem.W.mg_none_of X G z_enumerate
    z_tuple := PySem.W.mg_none_of X G z_tuple
    z_int := PySem.W.mg_none_of X G z_int
    z_abs := PySem.W.mg_none_of X G z_abs
    z_max := PySem.W.mg_none_of X G z_max
    z_list := PySem.W.mg_none_of X G z_list
    z_repr := PySem.W.mg_none_of X G z_repr
    m_gcd := PySem.W.mg_of X G m_gcd
    c_MOST_CLASSES := ⟨_, PySem.W.mg_of X G g_MOST_CLASSES⟩
  }
  exact ⟨PySem.W.fnOf "law" "law" (defArgs s_law) (defBody s_law) (defScope s_law) .none kV29 dc29 pm29 an29 cd29 ct29, fun s v => .of_eq rfl, fun base _ _ =>
    fnLaw_of (fun_mk (st := s_law) l29 c29 k29) sc_law rfl (fun ns => p_law T ns) holds⟩

end K11

set_option autoImplicit false
set_option maxRecDepth 100000
set_option exponentiation.threshold 5000
namespace K11
open PySem L2 Z
/-- the cells are asked while they tell nothing -/
theorem pick_while (many : Int) {f : Src → R (Wl Src)} (hf : ∀ s1, f s1 = (
    ((gtD (.int many) (PyData.int 1)).bind fun z4 =>
    if z4 = true then
    (ltD (PyData.int s1.left) (PyData.int 2)).bind fun z5 =>
    if z5 = true then
    (gtD (PyData.int s1.cells.length) (PyData.int 0)).bind fun z6 =>
    R.ok z6
    else
    R.ok false
    else
    R.ok false : R Bool).bind fun t7 =>
    if t7 = true then
    (popC s1.cells).bind fun (z8, c9) =>
    (toI (PyData.int z8)).bind fun n10 =>
    R.ok (.go { { s1 with cells := c9 } with left := n10 })
    else
    R.ok (.done s1))) : ∀ (k : Nat) (s : Src), s.cells.length ≤ k → ∃ s', whileT (k + 1) s f = .ok (.nx s') ∧ s'.turn = s.turn := by
  intro k
  induction k with
  | zero =>
    intro s hs
    have h0 : s.cells = [] := List.eq_nil_of_length_eq_zero (Nat.le_zero.mp hs)
    refine ⟨s, ?_, rfl⟩
    simp only [whileT, hf, gt_i, lt_i, R.bind_ok, h0]
    by_cases c1 : 1 < many <;> by_cases c2 : s.left < 2 <;> simp [c1, c2, R.bind_ok]
  | succ k ih =>
    intro s hs
    rw [whileT, hf]
    simp only [gt_i, lt_i, R.bind_ok]
    by_cases c : 1 < many ∧ s.left < 2 ∧ 0 < s.cells.length
    · obtain ⟨c1, c2, c3⟩ := c
      have c3' : (0 : Int) < (s.cells.length : Int) := by omega
      cases hl : s.cells.getLast? with
      | none => rw [List.getLast?_eq_none_iff] at hl; rw [hl] at c3; simp at c3
      | some t =>
        obtain ⟨s', e, ht⟩ := ih { s with cells := s.cells.dropLast, left := t } (by simp [List.length_dropLast]; omega)
        refine ⟨s', ?_, ht⟩
        simp only [decide_eq_true c1, decide_eq_true c2, decide_eq_true c3', if_true, R.bind_ok, popC, hl, toI_i]
        exact e
    · refine ⟨s, ?_, rfl⟩
      by_cases c1 : 1 < many <;> by_cases c2 : s.left < 2 <;> by_cases c3 : 0 < s.cells.length
      · exact absurd ⟨c1, c2, c3⟩ c
      all_goals (have c3' : (0 : Int) < (s.cells.length : Int) ↔ 0 < s.cells.length := by omega); simp [c1, c2, c3, c3', R.bind_ok]
theorem pick_ok {n : Nat} {s : Src} {many : Int} (h : Ok (n + 1) s) (h1 : 1 ≤ many) (h2 : many < 2 ^ 100) : ∃ (r : Nat) (s' : Src), m__law_pick s (.int many) = .ok (.int (r : Int), s') ∧ (r : Int) < many ∧ Ok n s' := by
  unfold m__law_pick
  obtain ⟨s2, e, ht⟩ := pick_while many (fun _ => rfl) s.cells.length s (Nat.le_refl _)
  obtain ⟨h3, h4⟩ := h
  rw [e]
  simp only [R.bind_ok, lt_i, gt_i]
  have nat : ∀ {i : Int}, 0 ≤ i → i < many → ∃ r : Nat, i = (r : Int) ∧ (r : Int) < many := fun {i} a b => ⟨i.toNat, by omega, by omega⟩
  by_cases c : many < 2 ∨ 1 < s2.left
  · have ec : ((if decide (many < 2) = true then R.ok true else (R.ok (decide (1 < s2.left)))) : R Bool) = .ok true := by
      by_cases c1 : many < 2
      · simp [c1]
      · simp [c1, c.resolve_left c1]
    have hm : max 1 many = many := by omega
    have hn : many ≠ 0 := by omega
    have hb : bigD many = true := bigD_of (k := 100) (by omega) (by decide)
    rw [ec]
    simp only [R.bind_ok, if_true, max2_i, hm, fdiv_i hn hb, fmod_i hn, int_i, toI_i]
    obtain ⟨r, e1, e2⟩ := nat (Int.fmod_nonneg_of_pos s2.left (by omega : 0 < many)) (Int.fmod_lt_of_pos s2.left (by omega : 0 < many))
    exact ⟨r, _, by rw [e1], e2, by show 0 ≤ s2.turn; omega, by show s2.turn + _ ≤ _; omega⟩
  · have c1 : ¬ many < 2 := fun q => c (.inl q)
    have c2 : ¬ 1 < s2.left := fun q => c (.inr q)
    have hn : many ≠ 0 := by omega
    have lt : ∀ {i : Int}, 0 ≤ i → i ≤ 2 ^ 100 → Sz i := fun {i} a b => Sz.of (k := 101) (by omega) (by decide)
    have s1 : Sz (s2.turn + 1) := lt (by omega) (by omega)
    have s3 : Sz 104729 := lt (by decide) (by decide)
    have s4 : Sz 17 := lt (by decide) (by decide)
    have f1 : ∀ x : Int, 0 ≤ x.fmod 998244353 := fun x => Int.fmod_nonneg_of_pos x (by decide)
    have f2 : ∀ x : Int, x.fmod 998244353 < 998244353 := fun x => Int.fmod_lt_of_pos x (by decide)
    have s5 : ∀ x : Int, Sz (x.fmod 998244353) := fun x => lt (f1 x) (by have := f2 x; omega)
    have hb : bigD 16 = true := by decide
    simp only [decide_eq_false c1, decide_eq_false c2, R.bind_ok, if_false, Bool.false_eq_true, add_i, toI_i, mul_i s1 s3, mul_i s1 s4, int_i, fmod_i (by decide : (998244353 : Int) ≠ 0), fmod_i (by decide : (2147483647 : Int) ≠ 0), mul_i (s5 _) (s5 _), fdiv_i (by decide : (16 : Int) ≠ 0) hb, fmod_i hn]
    obtain ⟨r, e1, e2⟩ := nat (Int.fmod_nonneg_of_pos _ (by omega : 0 < many)) (Int.fmod_lt_of_pos _ (by omega : 0 < many))
    exact ⟨r, _, by rw [← e1], e2, by show 0 ≤ s2.turn + 1; omega, by show s2.turn + 1 + _ ≤ _; omega⟩
end K11
namespace K11
open PySem L2 Z
theorem source_ok (ns : List Int) (hl : ns.length ≤ 63) : ∃ s, m__law_source ns = .ok s ∧ Ok 1000000000 s := by
  unfold m__law_source
  obtain ⟨mx, e1, n, hn⟩ := forS_inv (xs := ns.map PyData.int) (st := PyData.int 11) (f := fun x1 s2 => (mul s2 (PyData.int 69069)).bind fun z4 => (mul x1 (PyData.int 31)).bind fun z5 => (add z4 z5).bind fun z6 => (add z6 (PyData.int 5)).bind fun z7 => (intD z7).bind fun z8 => (fmod z8 (PyData.int 2147483629)).bind fun z9 => R.ok z9)
    (fun _ s => ∃ n : Int, s = .int n) ⟨11, rfl⟩ (fun ys x s ⟨zs, e⟩ ⟨n, en⟩ => by
      have hx : x ∈ ns.map PyData.int := by rw [e]; simp
      obtain ⟨c, _, rfl⟩ := List.mem_map.mp hx
      subst en
      exact ⟨_, by simp only [mul_r (by decide : ((69069 : Int)).natAbs < 2 ^ 64), mul_r (by decide : ((31 : Int)).natAbs < 2 ^ 64), add_i, int_i, fmod_i (by decide : (2147483629 : Int) ≠ 0), R.bind_ok]; rfl, _, rfl⟩)
  subst hn
  rw [e1]
  simp only [R.bind_ok]
  rw [compL_all (h := fun n => PyData.int (n.natAbs : Int)) (by omega) fun x _ => by rw [abs_i]; rfl]
  simp only [R.bind_ok, revL]
  have e2 : ((ns.map fun n => PyData.int (n.natAbs : Int)).reverse : List D) = (ns.map fun n => (n.natAbs : Int)).reverse.map PyData.int := by rw [List.map_reverse, List.map_map]; rfl
  rw [e2]
  unfold mkSrc
  rw [intsD_map]
  simp only [toI_i, R.bind_ok]
  rw [if_pos (by simpa using hl)]
  exact ⟨_, rfl, by show (0 : Int) ≤ 0; decide, by show (0 : Int) + _ ≤ _; decide⟩
end K11

set_option autoImplicit false
set_option linter.all false
set_option maxRecDepth 100000
set_option exponentiation.threshold 20000
namespace K11
open PySem L2 Z

def SzT (M : Tb) : Prop := Sz M.a ∧ Sz M.b ∧ Sz M.c ∧ Sz M.d
def SzV (v : Vc) : Prop := Sz v.1 ∧ Sz v.2
theorem added_ok (u v : Vc) : m_lots_added (lotD u) (lotD v) = .ok (lotD (vadd u v)) := by
  unfold m_lots_added lotD
  simp only [item0, item1, R.bind_ok, add_i]; rfl
theorem less_ok (u v : Vc) : m_lots_less (lotD u) (lotD v) = .ok (lotD (vsub u v)) := by
  unfold m_lots_less lotD
  simp only [item0, item1, R.bind_ok, sub_i]; rfl
theorem det_ok {M : Tb} (h : SzT M) : m_table_det (tabD M) = .ok (.int M.det) := by
  unfold m_table_det tabD
  obtain ⟨h1, h2, h3, h4⟩ := h
  simp only [un2_t, R.bind_ok, mul_i h1 h4, mul_i h2 h3, sub_i]; rfl
theorem other_ok (M : Tb) : m_table_other (tabD M) = .ok (tabD M.adj) := by
  unfold m_table_other tabD
  simp only [un2_t, R.bind_ok, neg_i]; rfl
theorem led_ok {M : Tb} {v : Vc} (h : SzT M) (hv : SzV v) : m_lot_led (tabD M) (lotD v) = .ok (lotD (M.led v)) := by
  unfold m_lot_led tabD lotD
  obtain ⟨h1, h2, h3, h4⟩ := h
  obtain ⟨k1, k2⟩ := hv
  simp only [un2_t, R.bind_ok, item0, item1, mul_i h1 k1, mul_i h2 k2, mul_i h3 k1, mul_i h4 k2, add_i]; rfl
/-- a point in least terms -/
structure Pt (x y c X Y C : Int) : Prop where
  low : IsLow x y c X Y C
  bx : X.natAbs ≤ x.natAbs
  by' : Y.natAbs ≤ y.natAbs
  bc : C.natAbs ≤ c.natAbs
theorem Pt.of {x y c : Int} (hc : c ≠ 0) (g : Int) (hg : g.natAbs = Nat.gcd (Nat.gcd x.natAbs y.natAbs) c.natAbs) (hs : 0 < g * c) : Pt x y c (x / g) (y / g) (c / g) ∧ x.fdiv g = x / g ∧ y.fdiv g = y / g ∧ c.fdiv g = c / g := by
  obtain ⟨h, r⟩ := IsLow.of hc g hg hs
  exact ⟨⟨h, Int.natAbs_ediv_le_natAbs _ _, Int.natAbs_ediv_le_natAbs _ _, Int.natAbs_ediv_le_natAbs _ _⟩, r⟩
theorem low_ok {x y c : Int} (hc : c ≠ 0) (hb : c.natAbs < 2 ^ 9000) : ∃ X Y C, m_point_low (lotD (x, y)) (.int c) = .ok (pointD ((X, Y), C)) ∧ Pt x y c X Y C := by
  unfold m_point_low lotD
  have gpos : 0 < Nat.gcd (Nat.gcd x.natAbs y.natAbs) c.natAbs := Nat.gcd_pos_of_pos_right _ (by omega)
  have gle : Nat.gcd (Nat.gcd x.natAbs y.natAbs) c.natAbs ≤ c.natAbs := Nat.gcd_le_right _ (by omega)
  have bd : ∀ g : Int, g.natAbs = Nat.gcd (Nat.gcd x.natAbs y.natAbs) c.natAbs → bigD g = true := fun g e => bigD_of (k := 9000) (by omega) (by decide)
  have ge : Nat.gcd (Nat.gcd x.natAbs y.natAbs) c.natAbs = Nat.gcd ((Nat.gcd x.natAbs y.natAbs : Nat) : Int).natAbs c.natAbs := rfl
  simp only [item0, item1, R.bind_ok, gcd_i, gt_i]
  by_cases h : 0 < c
  · have hg : ((Nat.gcd ((Nat.gcd x.natAbs y.natAbs : Nat) : Int).natAbs c.natAbs : Nat) : Int).natAbs = Nat.gcd (Nat.gcd x.natAbs y.natAbs) c.natAbs := rfl
    have g0 : ((Nat.gcd ((Nat.gcd x.natAbs y.natAbs : Nat) : Int).natAbs c.natAbs : Nat) : Int) ≠ 0 := by rw [← ge]; omega
    obtain ⟨p, e1, e2, e3⟩ := Pt.of (x := x) (y := y) hc _ hg (Int.mul_pos (by rw [← ge]; omega) h)
    simp only [decide_eq_true h, if_true, R.bind_ok, fdiv_i g0 (bd _ hg)]
    exact ⟨_, _, _, by rw [e1, e2, e3]; rfl, p⟩
  · have hg : (-((Nat.gcd ((Nat.gcd x.natAbs y.natAbs : Nat) : Int).natAbs c.natAbs : Nat) : Int)).natAbs = Nat.gcd (Nat.gcd x.natAbs y.natAbs) c.natAbs := by rw [Int.natAbs_neg]; rfl
    have g0 : (-((Nat.gcd ((Nat.gcd x.natAbs y.natAbs : Nat) : Int).natAbs c.natAbs : Nat) : Int)) ≠ 0 := by rw [← ge]; omega
    obtain ⟨p, e1, e2, e3⟩ := Pt.of (x := x) (y := y) hc _ hg (Int.mul_pos_of_neg_of_neg (by rw [← ge]; omega) (by omega))
    simp only [decide_eq_false h, if_false, Bool.false_eq_true, neg_i, R.bind_ok, fdiv_i g0 (bd _ hg)]
    exact ⟨_, _, _, by rw [e1, e2, e3]; rfl, p⟩

def nv (v : Vc) : Nat := max v.1.natAbs v.2.natAbs
/-- rows of sum 3 at most -/
structure RS (M : Tb) : Prop where
  r1 : M.a.natAbs + M.b.natAbs ≤ 3
  r2 : M.c.natAbs + M.d.natAbs ≤ 3
theorem two_le {a b x y : Int} {n k : Nat} (h : a.natAbs + b.natAbs ≤ k) (hx : x.natAbs ≤ n) (hy : y.natAbs ≤ n) : (a * x + b * y).natAbs ≤ k * n := by
  have h1 : (a * x).natAbs ≤ a.natAbs * n := by rw [Int.natAbs_mul]; exact Nat.mul_le_mul_left _ hx
  have h2 : (b * y).natAbs ≤ b.natAbs * n := by rw [Int.natAbs_mul]; exact Nat.mul_le_mul_left _ hy
  have h3 : (a.natAbs + b.natAbs) * n ≤ k * n := Nat.mul_le_mul_right _ h
  rw [Nat.add_mul] at h3
  have := Int.natAbs_add_le (a * x) (b * y)
  omega
theorem nv1 (v : Vc) : v.1.natAbs ≤ nv v := Nat.le_max_left _ _
theorem nv2 (v : Vc) : v.2.natAbs ≤ nv v := Nat.le_max_right _ _
theorem nv_le {v : Vc} {n : Nat} (h1 : v.1.natAbs ≤ n) (h2 : v.2.natAbs ≤ n) : nv v ≤ n := Nat.max_le.mpr ⟨h1, h2⟩
theorem nv_led {M : Tb} (h : RS M) (v : Vc) : nv (M.led v) ≤ 3 * nv v := nv_le (two_le h.r1 (nv1 v) (nv2 v)) (two_le h.r2 (nv1 v) (nv2 v))
theorem nv_add (u v : Vc) : nv (vadd u v) ≤ nv u + nv v := by
  have := nv1 u; have := nv2 u; have := nv1 v; have := nv2 v
  refine nv_le ?_ ?_
  · have := Int.natAbs_add_le u.1 v.1; simp only [vadd]; omega
  · have := Int.natAbs_add_le u.2 v.2; simp only [vadd]; omega
theorem nv_sub (u v : Vc) : nv (vsub u v) ≤ nv u + nv v := by
  have := nv1 u; have := nv2 u; have := nv1 v; have := nv2 v
  refine nv_le ?_ ?_
  · simp only [vsub]; omega
  · simp only [vsub]; omega
theorem nv_mul (k : Int) (v : Vc) : nv (vmul k v) ≤ k.natAbs * nv v := by
  refine nv_le ?_ ?_
  · simp only [vmul]; rw [Int.natAbs_mul]; exact Nat.mul_le_mul_left _ (nv1 v)
  · simp only [vmul]; rw [Int.natAbs_mul]; exact Nat.mul_le_mul_left _ (nv2 v)
theorem nv_it {M : Tb} (h : RS M) (v : Vc) : ∀ n, nv (M.it n v) ≤ 3 ^ n * nv v
  | 0 => by simp [Tb.it]
  | n + 1 => by
    have h1 := nv_led h (M.it n v)
    have h2 := nv_it h v n
    have : 3 ^ (n + 1) * nv v = 3 * (3 ^ n * nv v) := by rw [Nat.pow_succ]; grind
    show nv (M.led _) ≤ _
    omega
theorem nv_row {M : Tb} (h : RS M) : ∀ (r : List Vc) (v : Vc), (∀ d ∈ r, nv d ≤ 3) → nv (M.row v r) + 3 ≤ 3 ^ r.length * (nv v + 3)
  | [], v, _ => by simp [Tb.row]
  | d :: r, v, hd => by
    have h1 := nv_row h r (vadd (M.led v) d) fun e he => hd e (by simp [he])
    have h2 := nv_add (M.led v) d
    have h3 := nv_led h v
    have h4 := hd d (by simp)
    have h5 : 3 ^ r.length * (nv (vadd (M.led v) d) + 3) ≤ 3 ^ r.length * (3 * (nv v + 3)) := Nat.mul_le_mul_left _ (by omega)
    have h6 : 3 ^ (d :: r).length * (nv v + 3) = 3 ^ r.length * (3 * (nv v + 3)) := by rw [List.length_cons, Nat.pow_succ]; grind
    rw [h6]
    exact Nat.le_trans h1 h5
theorem SzV.of {v : Vc} {k : Nat} (h : nv v < 2 ^ k) (hk : k ≤ 400000) : SzV v := ⟨Sz.of (Nat.lt_of_le_of_lt (nv1 v) h) hk, Sz.of (Nat.lt_of_le_of_lt (nv2 v) h) hk⟩
theorem RS.sz {M : Tb} (h : RS M) : SzT M := by
  have := h.r1; have := h.r2
  exact ⟨Sz.of (k := 2) (by omega) (by decide), Sz.of (k := 2) (by omega) (by decide), Sz.of (k := 2) (by omega) (by decide), Sz.of (k := 2) (by omega) (by decide)⟩

/-! ### the base, its rows -/
structure Base (M : Tb) (ds : List Vc) : Prop where
  rs : RS M
  dg : ∀ d ∈ ds, nv d ≤ 3
def baseD (M : Tb) (ds : List Vc) : D := .tuple [tabD M, .tuple (ds.map lotD)]
def numD (k : Nat) : D := .int (k : Int)
def dig (ds : List Vc) (k : Nat) : Vc := ds.getD k (0, 0)
theorem dig_at {ds : List Vc} {k : Nat} (h : k < ds.length) : (ds.map lotD)[k]? = some (lotD (dig ds k)) := by
  rw [List.getElem?_map, List.getElem?_eq_getElem h]
  simp [dig, List.getD, List.getElem?_eq_getElem h]
theorem dig_mem {ds : List Vc} {k : Nat} (h : k < ds.length) : dig ds k ∈ ds := by
  simp [dig, List.getD, List.getElem?_eq_getElem h]
theorem Base.digs {M : Tb} {ds : List Vc} (b : Base M ds) {ks : List Nat} (hk : ∀ k ∈ ks, k < ds.length) : ∀ d ∈ ks.map (dig ds), nv d ≤ 3 := fun d hd => by
  obtain ⟨k, h1, rfl⟩ := List.mem_map.mp hd
  exact b.dg _ (dig_mem (hk k h1))
theorem row_run {M : Tb} {ds : List Vc} (b : Base M ds) {f : D → D → R D} (hf : ∀ (k : Nat) (v : Vc), k < ds.length → SzV v → f (numD k) (lotD v) = .ok (lotD (vadd (M.led v) (dig ds k)))) :
    ∀ (ks : List Nat) (v : Vc) (j : Nat), (∀ k ∈ ks, k < ds.length) → nv v + 3 ≤ 3 ^ j * 100 → j + ks.length ≤ 2600 → forS (ks.map numD) (lotD v) f = .ok (lotD (M.row v (ks.map (dig ds))))
  | [], v, j, _, _, _ => rfl
  | k :: ks, v, j, hk, hv, hj => by
    have p : 3 ^ j * 100 < 2 ^ 5000 := by
      have h1 : 3 ^ j ≤ 3 ^ 2600 := Nat.pow_le_pow_right (by decide) (by simp at hj; omega)
      have h2 : 3 ^ 2600 * 100 < 2 ^ 5000 := by decide
      omega
    have sv : SzV v := SzV.of (k := 5000) (by omega) (by decide)
    rw [List.map_cons, forS_cons, hf k v (hk k (by simp)) sv, R.bind_ok]
    have h1 := nv_add (M.led v) (dig ds k)
    have h2 := nv_led b.rs v
    have h3 := b.dg _ (dig_mem (hk k (by simp)))
    exact row_run b hf ks _ (j + 1) (fun e he => hk e (by simp [he])) (by rw [Nat.pow_succ]; omega) (by simp at hj; omega)
theorem rowW_ok {M : Tb} {ds : List Vc} (b : Base M ds) (ks : List Nat) (v : Vc) (hk : ∀ k ∈ ks, k < ds.length) (hv : nv v ≤ 97) (hl : ks.length ≤ 2500) : m_row_worth (baseD M ds) (lotD v) (.tuple (ks.map numD)) = .ok (lotD (M.row v (ks.map (dig ds)))) := by
  unfold m_row_worth
  rw [iter_t, R.bind_ok, row_run b (fun k v h1 h2 => ?_) ks v 0 hk (by omega) (by omega)]
  · rfl
  · unfold baseD numD
    simp only [item0, item1, R.bind_ok, led_ok b.rs.sz h2, item_n (dig_at h1), added_ok]def zv : Vc := (0, 0)
section
variable (M : Tb) (n k : Nat) (W S : Vc)
/-- what is left of a point led by the digits ahead -/
def left (p : Vc) (c : Int) : Vc := vsub (M.it k p) (vmul c W)
/-- (p, c) is the point: 0 -/
def E (p : Vc) (c : Int) : Vc := vsub (vsub (M.it n (left M k W p c)) (left M k W p c)) (vmul c S)
theorem vmul_sub (t : Int) (u v : Vc) : vmul t (vsub u v) = vsub (vmul t u) (vmul t v) := by apply vext <;> simp only [vmul, vsub] <;> grind
theorem vmul_mul (t s : Int) (v : Vc) : vmul t (vmul s v) = vmul (t * s) v := by apply vext <;> simp only [vmul] <;> grind
theorem left_mul (t : Int) (p : Vc) (c : Int) : left M k W (vmul t p) (t * c) = vmul t (left M k W p c) := by
  unfold left; rw [it_mul, vmul_sub, vmul_mul]
theorem E_mul (t : Int) (p : Vc) (c : Int) : E M n k W S (vmul t p) (t * c) = vmul t (E M n k W S p c) := by
  unfold E; rw [left_mul, it_mul, vmul_sub, vmul_sub, vmul_mul]
theorem left_sub (p q : Vc) (c d : Int) : left M k W (vsub p q) (c - d) = vsub (left M k W p c) (left M k W q d) := by
  unfold left; rw [it_sub]; apply vext <;> simp only [vmul, vsub] <;> grind
theorem E_sub (p q : Vc) (c d : Int) : E M n k W S (vsub p q) (c - d) = vsub (E M n k W S p c) (E M n k W S q d) := by
  unfold E; rw [left_sub, it_sub]; apply vext <;> simp only [vmul, vsub] <;> grind
end
theorem vmul_zero {t : Int} {v : Vc} (ht : t ≠ 0) (h : vmul t v = zv) : v = zv := by
  have h1 : t * v.1 = 0 := congrArg Prod.fst h
  have h2 : t * v.2 = 0 := congrArg Prod.snd h
  exact vext ((Int.mul_eq_zero.mp h1).resolve_left ht) ((Int.mul_eq_zero.mp h2).resolve_left ht)
theorem vmul_z (t : Int) : vmul t zv = zv := by apply vext <;> simp [vmul, zv]
theorem vsub_z {u v : Vc} (h : vsub u v = zv) : u = v := by
  have h1 : u.1 - v.1 = 0 := congrArg Prod.fst h
  have h2 : u.2 - v.2 = 0 := congrArg Prod.snd h
  exact vext (by omega) (by omega)
theorem vsub_self (u : Vc) : vsub u u = zv := by apply vext <;> simp [vsub, zv]
theorem led_zero {N : Tb} {v : Vc} (hd : N.det ≠ 0) (h : N.led v = zv) : v = zv := by
  have h1 := adj_led N v
  rw [h] at h1
  have h2 : N.adj.led zv = zv := by apply vext <;> simp [Tb.led, zv]
  rw [h2] at h1
  exact vmul_zero hd h1.symm
theorem det_mul (M N : Tb) : (M.mul N).det = M.det * N.det := by simp only [Tb.det, Tb.mul]; grind
theorem det_pw {M : Tb} (h : M.det ≠ 0) : ∀ n, (M.pw n).det ≠ 0
  | 0 => by show Tb.one.det ≠ 0; decide
  | n + 1 => by rw [Tb.pw, det_mul]; exact Int.mul_ne_zero h (det_pw h n)
/-- one point alone -/
theorem E_uniq {M : Tb} {n k : Nat} {W S p q : Vc} {c d : Int} (hM : M.det ≠ 0) (hL : (M.pw n).less1.det ≠ 0) (h1 : E M n k W S p c = zv) (h2 : E M n k W S q d = zv) : vmul d p = vmul c q := by
  have e1 : E M n k W S (vmul d p) (d * c) = zv := by rw [E_mul, h1, vmul_z]
  have e2 : E M n k W S (vmul c q) (c * d) = zv := by rw [E_mul, h2, vmul_z]
  have e3 : E M n k W S (vsub (vmul d p) (vmul c q)) (d * c - c * d) = zv := by rw [E_sub, e1, e2, vsub_self]
  have e4 : d * c - c * d = 0 := by grind
  rw [e4] at e3
  generalize hq : vsub (vmul d p) (vmul c q) = r at e3
  unfold E left at e3
  have z0 : ∀ v : Vc, vmul 0 v = zv := fun v => by apply vext <;> simp [vmul, zv]
  have s0 : ∀ v : Vc, vsub v zv = v := fun v => by apply vext <;> simp [vsub, zv]
  rw [z0, z0, s0, s0] at e3
  rw [← pw_led, ← less1_led] at e3
  have e5 := led_zero hL e3
  rw [← pw_led] at e5
  have e6 := led_zero (det_pw hM k) e5
  rw [e6] at hq
  exact vsub_z hq
/-- least terms tell the same -/
theorem E_low {M : Tb} {n k : Nat} {W S : Vc} {x y c X Y C : Int} (hc : c ≠ 0) (h : E M n k W S (x, y) c = zv) (l : IsLow x y c X Y C) : E M n k W S (X, Y) C = zv := by
  have e : vmul c (X, Y) = vmul C (x, y) := by
    apply vext
    · show c * X = C * x; have := l.ex; grind
    · show c * Y = C * y; have := l.ey; grind
  have e1 : vmul c (E M n k W S (X, Y) C) = zv := by
    rw [← E_mul, e, Int.mul_comm c C, E_mul, h, vmul_z]
  exact vmul_zero hc e1
/-- two in least terms are one -/
theorem E_eq {M : Tb} {n k : Nat} {W S : Vc} {x y c X Y C x' y' c' X' Y' C' : Int} (hM : M.det ≠ 0) (hL : (M.pw n).less1.det ≠ 0) (hc : c ≠ 0) (hc' : c' ≠ 0) (h : E M n k W S (x, y) c = zv) (h' : E M n k W S (x', y') c' = zv) (l : IsLow x y c X Y C) (l' : IsLow x' y' c' X' Y' C') :
    X = X' ∧ Y = Y' ∧ C = C' := by
  have e := E_uniq hM hL h h'
  have e1 : c' * x = c * x' := congrArg Prod.fst e
  have e2 : c' * y = c * y' := congrArg Prod.snd e
  exact l.uniq l' hc hc' (by grind) (by grind)

/-! ### what changes with the name -/
section
variable {M : Tb} {n k : Nat} {W S p : Vc} {c : Int}
theorem E_iff : E M n k W S p c = zv ↔ vsub (M.it n (left M k W p c)) (left M k W p c) = vmul c S := ⟨fun h => vsub_z h, fun h => by unfold E; rw [h, vsub_self]⟩
/-- moved -/
theorem E_moved (t : Vc) (h : E M n k W S p c = zv) : E M n k (vadd W (M.it k t)) S (vadd p (vmul c t)) c = zv := by
  have e : left M k (vadd W (M.it k t)) (vadd p (vmul c t)) c = left M k W p c := by
    unfold left
    rw [it_add, it_mul]
    apply vext <;> simp only [vmul, vsub, vadd] <;> grind
  unfold E at h ⊢
  rw [e]; exact h
/-- the round told twice -/
theorem E_twice (h : E M n k W S p c = zv) : E M (n + n) k W (vadd (M.it n S) S) p c = zv := by
  rw [E_iff] at h ⊢
  generalize left M k W p c = z at h ⊢
  have h1 : M.it n z = vadd z (vmul c S) := by
    apply vext
    · have := congrArg Prod.fst h; simp only [vsub, vadd] at this ⊢; omega
    · have := congrArg Prod.snd h; simp only [vsub, vadd] at this ⊢; omega
  rw [← it_it, h1, it_add, h1, it_mul]
  apply vext <;> simp only [vmul, vsub, vadd] <;> grind
/-- a digit of the round ahead -/
theorem E_turned {d R : Vc} (n0 : Nat) (hn : n = n0 + 1) (hS : S = vadd (M.it n0 d) R) (h : E M n k W S p c = zv) : E M n (k + 1) (vadd (M.led W) d) (vadd (M.led R) d) p c = zv := by
  subst hn
  rw [E_iff] at h ⊢
  have e : left M (k + 1) (vadd (M.led W) d) p c = vsub (M.led (left M k W p c)) (vmul c d) := by
    unfold left
    show vsub (M.led (M.it k p)) _ = _
    rw [led_sub, led_mul]
    apply vext <;> simp only [vmul, vsub, vadd] <;> grind
  rw [e]
  generalize left M k W p c = z at h ⊢
  have h1 : M.it (n0 + 1) z = vadd z (vmul c S) := by
    apply vext
    · have := congrArg Prod.fst h; simp only [vsub, vadd] at this ⊢; omega
    · have := congrArg Prod.snd h; simp only [vsub, vadd] at this ⊢; omega
  rw [it_sub, it_led, h1, it_mul, led_add, led_mul, hS, led_add]
  show vsub (vsub (vadd (M.led z) (vmul c (vadd (M.led (M.it n0 d)) (M.led R)))) (vmul c (M.led (M.it n0 d)))) _ = _
  apply vext <;> simp only [vmul, vsub, vadd] <;> grind
end
theorem E_led {M : Tb} {n k : Nat} {W S p : Vc} {c : Int} : E M n (k + 1) W S p c = E M n k W S (M.led p) c := by
  unfold E left; rw [it_led]; rfl

/-- entries below -/
def Ent (M : Tb) (B : Nat) : Prop := M.a.natAbs ≤ B ∧ M.b.natAbs ≤ B ∧ M.c.natAbs ≤ B ∧ M.d.natAbs ≤ B
theorem Ent.sz {M : Tb} {B k : Nat} (h : Ent M B) (hB : B < 2 ^ k) (hk : k ≤ 400000) : SzT M :=
  ⟨Sz.of (Nat.lt_of_le_of_lt h.1 hB) hk, Sz.of (Nat.lt_of_le_of_lt h.2.1 hB) hk, Sz.of (Nat.lt_of_le_of_lt h.2.2.1 hB) hk, Sz.of (Nat.lt_of_le_of_lt h.2.2.2 hB) hk⟩
theorem Ent.adj {M : Tb} {B : Nat} (h : Ent M B) : Ent M.adj B := by
  obtain ⟨h1, h2, h3, h4⟩ := h
  exact ⟨h4, by simpa [Tb.adj] using h2, by simpa [Tb.adj] using h3, h1⟩
theorem Ent.less1 {M : Tb} {B : Nat} (h : Ent M B) : Ent M.less1 (B + 1) := by
  obtain ⟨h1, h2, h3, h4⟩ := h
  refine ⟨?_, ?_, ?_, ?_⟩ <;> simp only [Tb.less1] <;> omega
theorem Ent.led {M : Tb} {B : Nat} (h : Ent M B) (v : Vc) : nv (M.led v) ≤ 2 * B * nv v := by
  obtain ⟨h1, h2, h3, h4⟩ := h
  exact nv_le (two_le (by omega) (nv1 v) (nv2 v)) (two_le (by omega) (nv1 v) (nv2 v))
theorem Ent.det {M : Tb} {B : Nat} (h : Ent M B) : M.det.natAbs ≤ 2 * B * B := by
  obtain ⟨h1, h2, h3, h4⟩ := h
  have e1 : (M.a * M.d).natAbs ≤ B * B := by rw [Int.natAbs_mul]; exact Nat.mul_le_mul h1 h4
  have e2 : (M.b * M.c).natAbs ≤ B * B := by rw [Int.natAbs_mul]; exact Nat.mul_le_mul h2 h3
  unfold Tb.det
  have : 2 * B * B = B * B + B * B := by grind
  omega
theorem pw_ent {M : Tb} (h : RS M) (n : Nat) : Ent (M.pw n) (3 ^ n) := by
  have e1 := nv_it h (1, 0) n
  have e2 := nv_it h (0, 1) n
  rw [← pw_led] at e1 e2
  have n1 : nv ((1, 0) : Vc) = 1 := rfl
  have n2 : nv ((0, 1) : Vc) = 1 := rfl
  rw [n1, Nat.mul_one] at e1
  rw [n2, Nat.mul_one] at e2
  have a1 := nv1 ((M.pw n).led (1, 0)); have a2 := nv2 ((M.pw n).led (1, 0))
  have b1 := nv1 ((M.pw n).led (0, 1)); have b2 := nv2 ((M.pw n).led (0, 1))
  simp only [Tb.led, Int.mul_one, Int.mul_zero, Int.add_zero, Int.zero_add] at a1 a2 b1 b2 e1 e2
  exact ⟨by omega, by omega, by omega, by omega⟩
theorem pw_it1 (M : Tb) (n : Nat) : M.it n (1, 0) = ((M.pw n).a, (M.pw n).c) := by rw [← pw_led]; simp [Tb.led]
theorem pw_it2 (M : Tb) (n : Nat) : M.it n (0, 1) = ((M.pw n).b, (M.pw n).d) := by rw [← pw_led]; simp [Tb.led]
theorem range_run {τ : Type} {f : D → τ → R τ} (g : Nat → τ) {n : Nat} (h : ∀ (i : Nat) (x : D), i < n → f x (g i) = .ok (g (i + 1))) : forS (rangeD 0 (n : Int)) (g 0) f = .ok (g n) := by
  have key : ∀ (xs : List D) (i : Nat), i + xs.length = n → forS xs (g i) f = .ok (g n) := by
    intro xs
    induction xs with
    | nil => intro i e; have : i = n := by simpa using e
             subst this; rfl
    | cons x xs ih => intro i e; rw [forS_cons, h i x (by simp at e; omega), R.bind_ok]; exact ih (i + 1) (by simp at e; omega)
  exact key _ 0 (by rw [rangeD_eq]; simp)
theorem pw_sz {M : Tb} (h : RS M) {n : Nat} (hn : n ≤ 1000) : SzT (M.pw n) := by
  refine (pw_ent h n).sz (k := 2000) ?_ (by decide)
  have h1 : 3 ^ n ≤ 3 ^ 1000 := Nat.pow_le_pow_right (by decide) hn
  have h2 : 3 ^ 1000 < 2 ^ 2000 := by decide
  omega
/-- (d x - b y, a y - c x) over the determinant, in least terms -/
theorem added_pt {x y c u v d : Int} (hs : Sz x ∧ Sz y ∧ Sz c ∧ Sz u ∧ Sz v ∧ Sz d) (hc : c * d ≠ 0) (hb : (c * d).natAbs < 2 ^ 9000) : ∃ X Y C, m_points_added (pointD ((x, y), c)) (pointD ((u, v), d)) = .ok (pointD ((X, Y), C)) ∧ Pt (x * d + u * c) (y * d + v * c) (c * d) X Y C := by
  unfold m_points_added pointD lotD
  obtain ⟨h1, h2, h3, h4, h5, h6⟩ := hs
  obtain ⟨X, Y, C, e, p⟩ := low_ok (x := x * d + u * c) (y := y * d + v * c) hc hb
  refine ⟨X, Y, C, ?_, p⟩
  unfold lotD at e
  simp only [un2_t, R.bind_ok, mul_i h1 h6, mul_i h4 h3, mul_i h2 h6, mul_i h5 h3, mul_i h3 h6, add_i, e]
  rfl
theorem undone_pt {M : Tb} {x y c : Int} (hM : SzT M) (hs : Sz x ∧ Sz y ∧ Sz c) (hd : Sz M.det) (hc : c * M.det ≠ 0) (hb : (c * M.det).natAbs < 2 ^ 9000) : ∃ X Y C, m_point_undone (tabD M) (pointD ((x, y), c)) = .ok (pointD ((X, Y), C)) ∧ Pt (M.adj.led (x, y)).1 (M.adj.led (x, y)).2 (c * M.det) X Y C := by
  unfold m_point_undone pointD
  obtain ⟨h1, h2, h3⟩ := hs
  have hA : SzT M.adj := by
    obtain ⟨a1, a2, a3, a4⟩ := hM
    exact ⟨a4, by unfold Sz at *; simpa [Tb.adj] using a2, by unfold Sz at *; simpa [Tb.adj] using a3, a1⟩
  obtain ⟨X, Y, C, e, p⟩ := low_ok (x := (M.adj.led (x, y)).1) (y := (M.adj.led (x, y)).2) hc hb
  refine ⟨X, Y, C, ?_, p⟩
  simp only [other_ok, R.bind_ok, item0, item1, led_ok hA (v := (x, y)) ⟨h1, h2⟩, det_ok hM, mul_i h3 hd, e]
  rfl
end K11

set_option autoImplicit false
set_option linter.all false
set_option maxRecDepth 100000
set_option exponentiation.threshold 20000
namespace K11
open PySem L2 Z
/-- in least terms -/
structure Red (X Y C : Int) : Prop where
  pos : 0 < C
  co : Nat.gcd (Nat.gcd X.natAbs Y.natAbs) C.natAbs = 1
theorem Red.self {X Y C : Int} (h : Red X Y C) : IsLow X Y C X Y C := ⟨h.pos, h.co, rfl, rfl⟩
theorem Pt.red {x y c X Y C : Int} (h : Pt x y c X Y C) : Red X Y C := ⟨h.low.pos, h.low.co⟩
theorem Red.eq {M : Tb} {n k : Nat} {W S : Vc} {X Y C X' Y' C' : Int} (hM : M.det ≠ 0) (hL : (M.pw n).less1.det ≠ 0) (r : Red X Y C) (r' : Red X' Y' C') (h : E M n k W S (X, Y) C = zv) (h' : E M n k W S (X', Y') C' = zv) : X = X' ∧ Y = Y' ∧ C = C' :=
  E_eq hM hL (by have := r.pos; omega) (by have := r'.pos; omega) h h' r.self r'.self
theorem run_lt {τ : Type} {f : D → τ → R τ} (g : Nat → τ) (N : Nat) (h : ∀ (i : Nat) (x : D), i < N → f x (g i) = .ok (g (i + 1))) : ∀ (xs : List D) (i : Nat), i + xs.length ≤ N → forS xs (g i) f = .ok (g (i + xs.length))
  | [], i, _ => rfl
  | x :: xs, i, hl => by
    rw [List.length_cons] at hl
    rw [forS_cons, h i x (by omega), R.bind_ok, run_lt g N h xs (i + 1) (by omega), List.length_cons]; congr 2; omega
theorem lotz : lotD zv = .tuple [.int 0, .int 0] := rfl
theorem pow24 {n : Nat} (h : n ≤ 2500) : 3 ^ n ≤ 2 ^ 3990 :=
  Nat.le_trans (Nat.pow_le_pow_right (by decide) h) (by decide : 3 ^ 2500 ≤ 2 ^ 3990)
theorem pow12 {n : Nat} (h : n ≤ 12) : 3 ^ n ≤ 531441 := by
  have : 3 ^ n ≤ 3 ^ 12 := Nat.pow_le_pow_right (by decide) h
  have e : 3 ^ 12 = 531441 := by decide
  omega
theorem mul_bd {a b A B : Nat} (h1 : a ≤ A) (h2 : b ≤ B) : a * b ≤ A * B := Nat.mul_le_mul h1 h2
/-- the sum of a round -/
theorem nv_S {M : Tb} {ds : List Vc} (b : Base M ds) {ks : List Nat} (hk : ∀ k ∈ ks, k < ds.length) (v : Vc) : nv (M.row v (ks.map (dig ds))) ≤ 3 ^ ks.length * (nv v + 3) := by
  have := nv_row b.rs (ks.map (dig ds)) v (b.digs hk)
  rw [List.length_map] at this
  omega
theorem E0_of {M : Tb} {n : Nat} {S : Vc} {hd : (M.pw n).less1.det ≠ 0} : E M n 0 zv S ((M.pw n).less1.adj.led S) (M.pw n).less1.det = zv := by
  have e := led_adj (M.pw n).less1 S
  rw [less1_led, pw_led] at e
  rw [E_iff]
  have l : left M 0 zv ((M.pw n).less1.adj.led S) (M.pw n).less1.det = (M.pw n).less1.adj.led S := by
    unfold left; rw [vmul_z]; apply vext <;> simp [vsub, zv, Tb.it]
  rw [l]; exact e
/-- the facts of a round by itself -/
structure RoundAt (M : Tb) (n : Nat) (S : Vc) (X Y C : Int) : Prop where
  red : Red X Y C
  eq : E M n 0 zv S (X, Y) C = zv
  bx : nv (X, Y) ≤ 2 * (3 ^ n + 1) * nv S
  bc : C.natAbs ≤ 2 * (3 ^ n + 1) * (3 ^ n + 1)
theorem RoundAt.of {M : Tb} (h : RS M) {n : Nat} {S : Vc} (hd : (M.pw n).less1.det ≠ 0) {X Y C : Int} (p : Pt ((M.pw n).less1.adj.led S).1 ((M.pw n).less1.adj.led S).2 (M.pw n).less1.det X Y C) : RoundAt M n S X Y C := by
  have en := (pw_ent h n).less1
  have b1 := en.adj.led S
  have b2 := en.det
  have := p.bx; have := p.by'; have := p.bc
  have := nv1 ((M.pw n).less1.adj.led S); have := nv2 ((M.pw n).less1.adj.led S)
  exact ⟨p.red, E_low hd (E0_of (hd := hd)) p.low, nv_le (by show X.natAbs ≤ _; omega) (by show Y.natAbs ≤ _; omega), by omega⟩
theorem round_ok {M : Tb} {ds : List Vc} (b : Base M ds) {ks : List Nat} (hk : ∀ k ∈ ks, k < ds.length) (hl : ks.length ≤ 2500) (hd : (M.pw ks.length).less1.det ≠ 0) :
    ∃ X Y C, m_round_worth (baseD M ds) (.tuple (ks.map numD)) = .ok (pointD ((X, Y), C)) ∧ RoundAt M ks.length (M.row zv (ks.map (dig ds))) X Y C := by
  have en := (pw_ent b.rs ks.length).less1
  have p24 := pow24 hl
  have bS := nv_S b hk zv
  have z0 : nv zv = 0 := rfl
  rw [z0] at bS
  have up : (2 : Nat) ^ 3990 + 1 < 2 ^ 4000 := by decide
  have up3 : (2 : Nat) ^ 3990 * 3 < 2 ^ 4000 := by decide
  have sA := en.adj.sz (k := 4000) (Nat.lt_of_le_of_lt (Nat.add_le_add_right p24 1) up) (by decide)
  have sL := en.sz (k := 4000) (Nat.lt_of_le_of_lt (Nat.add_le_add_right p24 1) up) (by decide)
  have sS : SzV (M.row zv (ks.map (dig ds))) := SzV.of (k := 4000) (Nat.lt_of_le_of_lt bS (Nat.lt_of_le_of_lt (Nat.mul_le_mul_right _ p24) up3)) (by decide)
  have bd : (M.pw ks.length).less1.det.natAbs < 2 ^ 9000 := by
    have h1 := en.det
    have h2 : 2 * (3 ^ ks.length + 1) * (3 ^ ks.length + 1) ≤ 2 * (2 ^ 3990 + 1) * (2 ^ 3990 + 1) := mul_bd (Nat.mul_le_mul_left _ (Nat.add_le_add_right p24 1)) (Nat.add_le_add_right p24 1)
    have h3 : 2 * (2 ^ 3990 + 1) * (2 ^ 3990 + 1) < 2 ^ 9000 := by decide
    exact Nat.lt_of_le_of_lt h1 (Nat.lt_of_le_of_lt h2 h3)
  obtain ⟨X, Y, C, e, p⟩ := low_ok (x := ((M.pw ks.length).less1.adj.led (M.row zv (ks.map (dig ds)))).1) (y := ((M.pw ks.length).less1.adj.led (M.row zv (ks.map (dig ds)))).2) hd bd
  refine ⟨X, Y, C, ?_, RoundAt.of b.rs hd p⟩
  unfold m_round_worth
  have n1 : nv ((1, 0) : Vc) = 1 := rfl
  have n2 : nv ((0, 1) : Vc) = 1 := rfl
  have sit : ∀ (v : Vc) (i : Nat), nv v = 1 → i < 2501 → SzV (M.it i v) := fun v i hv hi => by
    have h1 := nv_it b.rs v i
    have h2 := pow24 (n := i) (by omega)
    rw [hv, Nat.mul_one] at h1
    exact SzV.of (k := 4000) (Nat.lt_of_le_of_lt (Nat.le_trans h1 h2) (Nat.lt_of_succ_lt up)) (by decide)
  have run := run_lt (f := fun (_ : D) (s5 : D × D) => (item (baseD M ds) (PyData.int 0)).bind fun z7 => (m_lot_led z7 s5.1).bind fun z8 => (item (baseD M ds) (PyData.int 0)).bind fun z9 => (m_lot_led z9 s5.2).bind fun z10 => R.ok (z8, z10)) (fun i => (lotD (M.it i (1, 0)), lotD (M.it i (0, 1)))) 2501 (fun i x hi => by
    unfold baseD
    simp only [item0, R.bind_ok, led_ok b.rs.sz (sit _ i n1 hi), led_ok b.rs.sz (sit _ i n2 hi)]; rfl) (ks.map numD) 0 (by rw [List.length_map]; omega)
  rw [List.length_map, Nat.zero_add] at run
  have st : ((PyData.tuple [PyData.int 1, PyData.int 0]), (PyData.tuple [PyData.int 0, PyData.int 1])) = ((lotD (M.it 0 (1, 0)), lotD (M.it 0 (0, 1))) : D × D) := rfl
  rw [un2_t]
  simp only [R.bind_ok, iter_t]
  rw [st, run]
  simp only [R.bind_ok, pw_it1, pw_it2]
  have t : PyData.tuple [PyData.tuple [PyData.int ((M.pw ks.length).a - 1), PyData.int (M.pw ks.length).b], PyData.tuple [PyData.int (M.pw ks.length).c, PyData.int ((M.pw ks.length).d - 1)]] = tabD (M.pw ks.length).less1 := rfl
  have rw1 := rowW_ok b ks zv hk (by decide) (by omega)
  rw [lotz] at rw1
  have e1 : ∀ a c : Int, item (lotD (a, c)) (PyData.int 0) = .ok (.int a) := fun a c => item0 _ _
  have e2 : ∀ a c : Int, item (lotD (a, c)) (PyData.int 1) = .ok (.int c) := fun a c => item1 _ _ _
  simp only [e1, e2, R.bind_ok, sub_i, t, other_ok, rw1, led_ok sA sS, det_ok sL, e]
def nameD (v : Vc) (ks js : List Nat) : D := .tuple [lotD v, .tuple (ks.map numD), .tuple (js.map numD)]
/-- the point of a name -/
structure WorthAt (M : Tb) (ds : List Vc) (v : Vc) (ks js : List Nat) (X Y C : Int) : Prop where
  red : Red X Y C
  eq : E M js.length ks.length (M.row v (ks.map (dig ds))) (M.row zv (js.map (dig ds))) (X, Y) C = zv
theorem det_bd {M : Tb} (h : RS M) : M.det.natAbs ≤ 18 := by
  have : Ent M 3 := by have := h.r1; have := h.r2; exact ⟨by omega, by omega, by omega, by omega⟩
  have := this.det
  omega
theorem ent3 {M : Tb} (h : RS M) : Ent M 3 := by have := h.r1; have := h.r2; exact ⟨by omega, by omega, by omega, by omega⟩
theorem E_undone {M : Tb} {n i : Nat} {W S p : Vc} {c : Int} (h : E M n i W S p c = zv) : E M n (i + 1) W S (M.adj.led p) (c * M.det) = zv := by
  rw [E_led, led_adj, Int.mul_comm, E_mul, h, vmul_z]
theorem szN {i : Int} {B k : Nat} (h : i.natAbs ≤ B) (hB : B < 2 ^ k) (hk : k ≤ 400000) : Sz i := Sz.of (Nat.lt_of_le_of_lt h hB) hk
theorem undo_run {M : Tb} {ds : List Vc} (b : Base M ds) (hM : M.det ≠ 0) {n : Nat} {W S : Vc} {f : D → D → R D} (hf : ∀ x p, f x p = ((item (baseD M ds) (PyData.int 0)).bind fun z12 => (m_point_undone z12 p).bind fun z13 => R.ok z13)) :
    ∀ (xs : List D) (i : Nat) (X Y C : Int), i + xs.length ≤ 12 → Red X Y C → E M n i W S (X, Y) C = zv → nv (X, Y) ≤ 2 ^ 8200 * 6 ^ i → C.natAbs ≤ 2 ^ 8050 * 18 ^ i →
      ∃ X' Y' C', forS xs (pointD ((X, Y), C)) f = .ok (pointD ((X', Y'), C')) ∧ Red X' Y' C' ∧ E M n (i + xs.length) W S (X', Y') C' = zv ∧ nv (X', Y') ≤ 2 ^ 8200 * 6 ^ 12 ∧ C'.natAbs ≤ 2 ^ 8050 * 18 ^ 12
  | [], i, X, Y, C, hl, r, e, b1, b2 => ⟨X, Y, C, rfl, r, e, Nat.le_trans b1 (Nat.mul_le_mul_left _ (Nat.pow_le_pow_right (by decide) (by simpa using hl))), Nat.le_trans b2 (Nat.mul_le_mul_left _ (Nat.pow_le_pow_right (by decide) (by simpa using hl)))⟩
  | x :: xs, i, X, Y, C, hl, r, e, b1, b2 => by
    rw [List.length_cons] at hl
    have q1 : 2 ^ 8200 * 6 ^ i ≤ 2 ^ 8200 * 6 ^ 12 := Nat.mul_le_mul_left _ (Nat.pow_le_pow_right (by decide) (by omega))
    have q2 : 2 ^ 8050 * 18 ^ i ≤ 2 ^ 8050 * 18 ^ 12 := Nat.mul_le_mul_left _ (Nat.pow_le_pow_right (by decide) (by omega))
    have w1 : 2 ^ 8200 * 6 ^ 12 < 2 ^ 8300 := by decide
    have w2 : 2 ^ 8050 * 18 ^ 12 < 2 ^ 8150 := by decide
    have d18 := det_bd b.rs
    have cp := r.pos
    have m1 : (C * M.det).natAbs ≤ 2 ^ 8050 * 18 ^ i * 18 := by rw [Int.natAbs_mul]; exact Nat.mul_le_mul b2 d18
    have m2 : 2 ^ 8050 * 18 ^ (i + 1) = 2 ^ 8050 * 18 ^ i * 18 := by rw [Nat.pow_succ]; grind
    have m3 : 2 ^ 8050 * 18 ^ i * 18 < 2 ^ 9000 := by
      have : 2 ^ 8150 * 18 < 2 ^ 9000 := by decide
      exact Nat.lt_of_le_of_lt (Nat.mul_le_mul_right _ q2) (Nat.lt_of_le_of_lt (Nat.mul_le_mul_right _ (Nat.le_of_lt w2)) this)
    obtain ⟨X', Y', C', e1, p⟩ := undone_pt (M := M) (x := X) (y := Y) (c := C) b.rs.sz ⟨szN (Nat.le_trans (nv1 (X, Y)) (Nat.le_trans b1 q1)) w1 (by decide), szN (Nat.le_trans (nv2 (X, Y)) (Nat.le_trans b1 q1)) w1 (by decide), szN (Nat.le_trans b2 q2) w2 (by decide)⟩
      (szN d18 (by decide : 18 < 2 ^ 5) (by decide)) (Int.mul_ne_zero (by omega) hM) (Nat.lt_of_le_of_lt m1 m3)
    have e2 : f x (pointD ((X, Y), C)) = .ok (pointD ((X', Y'), C')) := by rw [hf]; unfold baseD; simp only [item0, R.bind_ok, e1]
    have en := (ent3 b.rs).adj.led (X, Y)
    have k1 : nv (X', Y') ≤ 2 ^ 8200 * 6 ^ (i + 1) := by
      have h1 := p.bx; have h2 := p.by'
      have h3 := nv1 (M.adj.led (X, Y)); have h4 := nv2 (M.adj.led (X, Y))
      have h5 : 2 ^ 8200 * 6 ^ (i + 1) = 6 * (2 ^ 8200 * 6 ^ i) := by rw [Nat.pow_succ]; grind
      have h6 : nv (M.adj.led (X, Y)) ≤ 2 ^ 8200 * 6 ^ (i + 1) := by rw [h5]; exact Nat.le_trans en (Nat.mul_le_mul_left 6 b1)
      exact nv_le (Nat.le_trans h1 (Nat.le_trans h3 h6)) (Nat.le_trans h2 (Nat.le_trans h4 h6))
    have k2 : C'.natAbs ≤ 2 ^ 8050 * 18 ^ (i + 1) := by rw [m2]; exact Nat.le_trans p.bc m1
    obtain ⟨X2, Y2, C2, r1, r2, r3, r4, r5⟩ := undo_run b hM hf xs (i + 1) X' Y' C' (by omega) p.red (E_low (Int.mul_ne_zero (by omega) hM) (E_undone e) p.low) k1 k2
    refine ⟨X2, Y2, C2, by rw [forS_cons, e2]; exact r1, r2, ?_, r4, r5⟩
    rw [List.length_cons, show i + (xs.length + 1) = i + 1 + xs.length by omega]
    exact r3
theorem worth_ok {M : Tb} {ds : List Vc} (b : Base M ds) (hM : M.det ≠ 0) {v : Vc} {ks js : List Nat} (hv : nv v ≤ 97) (hk : ∀ k ∈ ks, k < ds.length) (hj : ∀ k ∈ js, k < ds.length) (lk : ks.length ≤ 12) (lj : js.length ≤ 2500) (hd : (M.pw js.length).less1.det ≠ 0) :
    ∃ X Y C, m_worth (baseD M ds) (nameD v ks js) = .ok (pointD ((X, Y), C)) ∧ WorthAt M ds v ks js X Y C := by
  obtain ⟨x, y, c, e1, ra⟩ := round_ok b hj lj hd
  have bW := nv_S b hk v
  have bS := nv_S b hj zv
  have z0 : nv zv = 0 := rfl
  rw [z0] at bS
  have p24 := pow24 lj
  have p12 := pow12 lk
  have cp := ra.red.pos
  have c1 : c.natAbs ≤ 2 ^ 8040 := Nat.le_trans ra.bc (Nat.le_trans (mul_bd (Nat.mul_le_mul_left _ (Nat.add_le_add_right p24 1)) (Nat.add_le_add_right p24 1)) (by decide : 2 * (2 ^ 3990 + 1) * (2 ^ 3990 + 1) ≤ 2 ^ 8040))
  have c2 : nv (x, y) ≤ 2 ^ 8040 := Nat.le_trans ra.bx (Nat.le_trans (mul_bd (Nat.mul_le_mul_left _ (Nat.add_le_add_right p24 1)) (Nat.le_trans bS (Nat.mul_le_mul_right _ p24))) (by decide : 2 * (2 ^ 3990 + 1) * (2 ^ 3990 * (0 + 3)) ≤ 2 ^ 8040))
  have c3 : nv (M.row v (ks.map (dig ds))) ≤ 2 ^ 40 := Nat.le_trans bW (Nat.le_trans (mul_bd p12 (Nat.add_le_add_right hv 3)) (by decide))
  have w1 : (2 : Nat) ^ 8040 < 2 ^ 8050 := by decide
  have w3 : (2 : Nat) ^ 40 < 2 ^ 90 := by decide
  generalize hW : M.row v (ks.map (dig ds)) = W at *
  have nW1 := nv1 W; have nW2 := nv2 W
  have nx : x.natAbs ≤ nv (x, y) := nv1 (x, y)
  have ny : y.natAbs ≤ nv (x, y) := nv2 (x, y)
  obtain ⟨X, Y, C, e2, p⟩ := added_pt (x := W.1) (y := W.2) (c := 1) (u := x) (v := y) (d := c) ⟨szN (Nat.le_trans nW1 c3) w3 (by decide), szN (Nat.le_trans nW2 c3) w3 (by decide), szN (by decide : (1 : Int).natAbs ≤ 1) (by decide : 1 < 2 ^ 5) (by decide), szN (Nat.le_trans nx c2) w1 (by decide), szN (Nat.le_trans ny c2) w1 (by decide), szN c1 w1 (by decide)⟩
    (by omega) (by rw [Int.one_mul]; exact Nat.lt_of_le_of_lt c1 (by decide))
  have E0 : E M js.length 0 W (M.row zv (js.map (dig ds))) (W.1 * c + x * 1, W.2 * c + y * 1) (1 * c) = zv := by
    have h := ra.eq
    unfold E left at h ⊢
    have q1 : vsub (M.it 0 (W.1 * c + x * 1, W.2 * c + y * 1)) (vmul (1 * c) W) = (x, y) := by clear c1 c2 c3 w1 w3 p24 e1 e2 p ra h; apply vext <;> simp only [Tb.it, vsub, vmul] <;> grind
    have q2 : vsub (M.it 0 (x, y)) (vmul c zv) = (x, y) := by rw [vmul_z]; apply vext <;> simp [Tb.it, vsub, zv]
    rw [q2] at h
    rw [q1, Int.one_mul]; exact h
  have hc : (1 : Int) * c ≠ 0 := by clear c1 c2 c3 w1 w3; omega
  have up : (2 : Nat) ^ 40 * 2 ^ 8040 + 2 ^ 8040 ≤ 2 ^ 8200 := by decide
  have one : ∀ {w z Z : Int}, w.natAbs ≤ 2 ^ 40 → z.natAbs ≤ 2 ^ 8040 → Z.natAbs ≤ (w * c + z * 1).natAbs → Z.natAbs ≤ 2 ^ 8200 * 6 ^ 0 := fun {w z Z} hw hz hZ => by
    rw [Nat.pow_zero, Nat.mul_one]
    rw [Int.mul_one] at hZ
    refine Nat.le_trans hZ (Nat.le_trans (Int.natAbs_add_le _ _) (Nat.le_trans (Nat.add_le_add ?_ hz) up))
    rw [Int.natAbs_mul]; exact mul_bd hw c1
  have k1 : nv (X, Y) ≤ 2 ^ 8200 * 6 ^ 0 := nv_le (one (Nat.le_trans nW1 c3) (Nat.le_trans nx c2) p.bx) (one (Nat.le_trans nW2 c3) (Nat.le_trans ny c2) p.by')
  have k2 : C.natAbs ≤ 2 ^ 8050 * 18 ^ 0 := by
    rw [Nat.pow_zero, Nat.mul_one]
    have := p.bc
    rw [Int.one_mul] at this
    exact Nat.le_trans this (Nat.le_trans c1 (Nat.le_of_lt w1))
  obtain ⟨X', Y', C', e3, r1, r2, _, _⟩ := undo_run b hM (n := js.length) (W := W) (S := M.row zv (js.map (dig ds))) (f := fun x9 s10 => (item (baseD M ds) (PyData.int 0)).bind fun z12 => (m_point_undone z12 s10).bind fun z13 => R.ok z13) (fun _ _ => rfl) (ks.map numD) 0 X Y C (by rw [List.length_map, Nat.zero_add]; exact lk) p.red (E_low hc E0 p.low) k1 k2
  rw [List.length_map, Nat.zero_add] at r2
  refine ⟨X', Y', C', ?_, r1, by rw [hW]; exact r2⟩
  unfold m_worth nameD
  have rw1 := rowW_ok b ks v hk hv (Nat.le_trans lk (by decide))
  rw [hW] at rw1
  have po : m_point_of (lotD W) = .ok (pointD ((W.1, W.2), 1)) := by unfold m_point_of; rfl
  simp only [un3_t, R.bind_ok, rw1, po, e1, e2, iter_t, e3]
end K11

set_option autoImplicit false
set_option linter.all false
set_option maxRecDepth 100000
set_option exponentiation.threshold 20000
namespace K11
open PySem L2 Z
def tables : List Tb := [⟨1, -1, 1, 1⟩, ⟨-1, -1, 1, -1⟩, ⟨0, 2, 1, 0⟩, ⟨1, -2, 1, 0⟩, ⟨2, 0, 0, 2⟩, ⟨0, -2, 1, 0⟩, ⟨1, 1, -1, 2⟩, ⟨1, 2, -1, 1⟩, ⟨0, 3, 1, 0⟩, ⟨2, 1, 0, 2⟩]
/-- a form of two numbers -/
structure Fm where
  A : Int
  B : Int
  C : Int
def Fm.q (F : Fm) (v : Vc) : Int := F.A * (v.1 * v.1) + F.B * (v.1 * v.2) + F.C * (v.2 * v.2)
def Fm.pos (F : Fm) : Bool := (decide (0 < F.A) && decide (F.B * F.B ≤ 4 * F.A * F.C)) || (decide (F.A = 0) && decide (F.B = 0) && decide (0 ≤ F.C))
theorem Fm.nonneg {F : Fm} (h : F.pos = true) (v : Vc) : 0 ≤ F.q v := by
  obtain ⟨A, B, C⟩ := F
  obtain ⟨x, y⟩ := v
  simp only [Fm.pos, Bool.or_eq_true, Bool.and_eq_true, decide_eq_true_eq] at h
  simp only [Fm.q]
  rcases h with ⟨h1, h2⟩ | ⟨⟨h1, h2⟩, h3⟩
  · have sq : 0 ≤ (2 * A * x + B * y) * (2 * A * x + B * y) := by
      rcases Int.le_total 0 (2 * A * x + B * y) with q | q
      · exact Int.mul_nonneg q q
      · exact Int.mul_nonneg_of_nonpos_of_nonpos q q
    have sy : 0 ≤ y * y := by
      rcases Int.le_total 0 y with q | q
      · exact Int.mul_nonneg q q
      · exact Int.mul_nonneg_of_nonpos_of_nonpos q q
    have t2 : 0 ≤ (4 * A * C - B * B) * (y * y) := Int.mul_nonneg (by omega) sy
    have key : 4 * A * (A * (x * x) + B * (x * y) + C * (y * y)) = (2 * A * x + B * y) * (2 * A * x + B * y) + (4 * A * C - B * B) * (y * y) := by grind
    by_cases c : 0 ≤ A * (x * x) + B * (x * y) + C * (y * y)
    · exact c
    · have : 4 * A * (A * (x * x) + B * (x * y) + C * (y * y)) < 0 := Int.mul_neg_of_pos_of_neg (by omega) (by omega)
      omega
  · subst h1 h2
    have sy : 0 ≤ y * y := by
      rcases Int.le_total 0 y with q | q
      · exact Int.mul_nonneg q q
      · exact Int.mul_nonneg_of_nonpos_of_nonpos q q
    have := Int.mul_nonneg h3 sy
    omega
def Fm.pull (F : Fm) (M : Tb) : Fm := ⟨F.A * (M.a * M.a) + F.B * (M.a * M.c) + F.C * (M.c * M.c), 2 * F.A * (M.a * M.b) + F.B * (M.a * M.d + M.b * M.c) + 2 * F.C * (M.c * M.d), F.A * (M.b * M.b) + F.B * (M.b * M.d) + F.C * (M.d * M.d)⟩
theorem Fm.led (F : Fm) (M : Tb) (v : Vc) : F.q (M.led v) = (F.pull M).q v := by
  simp only [Fm.q, Fm.pull, Tb.led]; grind
def Fm.sub (F G : Fm) (s t : Int) : Fm := ⟨s * F.A - t * G.A, s * F.B - t * G.B, s * F.C - t * G.C⟩
theorem Fm.q_sub (F G : Fm) (s t : Int) (v : Vc) : (F.sub G s t).q v = s * F.q v - t * G.q v := by
  simp only [Fm.q, Fm.sub]; grind
theorem Fm.q_mul (F : Fm) (c : Int) (v : Vc) : F.q (vmul c v) = c * c * F.q v := by simp only [Fm.q, vmul]; grind
theorem Fm.par (F : Fm) (u v : Vc) : F.q (vsub u (vmul 2 v)) = 3 * F.q u + 6 * F.q v - 2 * F.q (vadd u v) := by simp only [Fm.q, vsub, vmul, vadd]; grind
/-- the form of a table: its powers grow by it -/
def fm (M : Tb) : Fm := if M = ⟨0, 2, 1, 0⟩ ∨ M = ⟨0, -2, 1, 0⟩ ∨ M = ⟨1, 2, -1, 1⟩ then ⟨1, 0, 2⟩ else if M = ⟨0, 3, 1, 0⟩ then ⟨1, 0, 3⟩ else if M = ⟨1, -2, 1, 0⟩ then ⟨1, -1, 2⟩ else if M = ⟨1, 1, -1, 2⟩ then ⟨1, -1, 1⟩ else ⟨1, 0, 1⟩
def dm (M : Tb) : Int := if M = ⟨0, 2, 1, 0⟩ ∨ M = ⟨0, -2, 1, 0⟩ ∨ M = ⟨1, 2, -1, 1⟩ ∨ M = ⟨1, 1, -1, 2⟩ then 12 else if M = ⟨0, 3, 1, 0⟩ ∨ M = ⟨1, -2, 1, 0⟩ then 16 else 8
theorem fm_facts : ∀ M ∈ tables, (fm M).pos = true ∧ (((fm M).pull M).sub (fm M) 1 2).pos = true ∧ ((fm M).sub ⟨1, 0, 0⟩ 121 (6 * dm M)).pos = true ∧ ((fm M).sub ⟨0, 0, 1⟩ 121 (6 * dm M)).pos = true ∧ (fm M).B ≤ 0 ∧ 0 ≤ (fm M).A ∧ 0 ≤ (fm M).C ∧ (fm M).A + (fm M).C ≤ 4 ∧ 8 ≤ dm M := by decide
theorem dm_facts : ∀ M ∈ tables, ∀ i : Nat, i < 5 → ∀ j : Nat, j < 5 → (fm M).q ((i : Int) - 2, (j : Int) - 2) ≤ dm M := by decide
section
variable {M : Tb} (hM : M ∈ tables)
include hM
theorem fq0 (v : Vc) : 0 ≤ (fm M).q v := Fm.nonneg (fm_facts M hM).1 v
theorem fq_led (v : Vc) : 2 * (fm M).q v ≤ (fm M).q (M.led v) := by
  have := Fm.nonneg (fm_facts M hM).2.1 v
  rw [Fm.q_sub, ← Fm.led] at this
  omega
theorem fq_it (v : Vc) : ∀ n, (fm M).q v ≤ (fm M).q (M.it n v)
  | 0 => Int.le_refl _
  | n + 1 => by
    have h1 := fq_it v n
    have h2 := fq_led hM (M.it n v)
    have h3 := fq0 hM (M.it n v)
    show _ ≤ (fm M).q (M.led (M.it n v))
    omega
theorem fq_dig {d : Vc} (h : nv d ≤ 2) : (fm M).q d ≤ dm M := by
  have h1 := nv1 d
  have h2 := nv2 d
  have := dm_facts M hM (d.1 + 2).toNat (by omega) (d.2 + 2).toNat (by omega)
  rw [Int.toNat_of_nonneg (by omega), Int.toNat_of_nonneg (by omega)] at this
  have e : ((d.1 + 2 - 2, d.2 + 2 - 2) : Vc) = d := by apply vext <;> show _ + 2 - 2 = _ <;> omega
  rwa [e] at this
theorem sq_le {x c : Int} (hc : 0 ≤ c) (h : x * x ≤ c * c) : x.natAbs ≤ c.natAbs := by
  by_cases q : x.natAbs ≤ c.natAbs
  · exact q
  · have h1 : c.natAbs * c.natAbs < x.natAbs * x.natAbs := Nat.mul_self_lt_mul_self (by omega)
    have e1 : ((c.natAbs * c.natAbs : Nat) : Int) = c * c := Int.natAbs_mul_self
    have e2 : ((x.natAbs * x.natAbs : Nat) : Int) = x * x := Int.natAbs_mul_self
    omega
theorem fq_coord {v : Vc} {c : Int} (hc : 0 ≤ c) (h : (fm M).q v ≤ 6 * (c * c * dm M)) : v.1.natAbs ≤ (11 * c).natAbs ∧ v.2.natAbs ≤ (11 * c).natAbs := by
  obtain ⟨_, _, f3, f4, _, _, _, _, f8⟩ := fm_facts M hM
  have g1 := Fm.nonneg f3 v
  have g2 := Fm.nonneg f4 v
  rw [Fm.q_sub] at g1 g2
  have e1 : (⟨1, 0, 0⟩ : Fm).q v = v.1 * v.1 := by simp [Fm.q]
  have e2 : (⟨0, 0, 1⟩ : Fm).q v = v.2 * v.2 := by simp [Fm.q]
  rw [e1] at g1
  rw [e2] at g2
  have up : ∀ {z : Int}, 6 * dm M * z ≤ 121 * (fm M).q v → z ≤ 11 * c * (11 * c) := fun {z} hz => by
    have k : 6 * dm M * z ≤ 6 * dm M * (11 * c * (11 * c)) := by
      have : 6 * dm M * (11 * c * (11 * c)) = 121 * (6 * (c * c * dm M)) := by grind
      omega
    exact Int.le_of_mul_le_mul_left k (by omega)
  exact ⟨sq_le hM (by omega) (up (by omega)), sq_le hM (by omega) (up (by omega))⟩
theorem fq_zero {v : Vc} (h : (fm M).q v ≤ 0) : v = zv := by
  obtain ⟨h1, h2⟩ := fq_coord hM (c := 0) (v := v) (by decide) (by simpa using h)
  apply vext
  · show v.1 = 0; simpa using h1
  · show v.2 = 0; simpa using h2
/-- one step back keeps the bound -/
theorem fq_step {r r' d : Vc} {c : Int} (hd : nv d ≤ 2) (h : (fm M).q r ≤ 6 * (c * c * dm M)) (e : M.led r' = vadd r (vmul c d)) : (fm M).q r' ≤ 6 * (c * c * dm M) := by
  have h1 := fq_led hM r'
  rw [e] at h1
  have h2 := fq0 hM (vsub r (vmul 2 (vmul c d)))
  rw [Fm.par, Fm.q_mul] at h2
  have h3 := fq_dig hM hd
  have cc : 0 ≤ c * c := by
    rcases Int.le_total 0 c with q | q
    · exact Int.mul_nonneg q q
    · exact Int.mul_nonneg_of_nonpos_of_nonpos q q
  have h4 : c * c * (fm M).q d ≤ c * c * dm M := Int.mul_le_mul_of_nonneg_left h3 cc
  omega
theorem fq_start {v : Vc} {c : Int} (h1 : 0 ≤ v.1) (h2 : v.1 < c) (h3 : 0 ≤ v.2) (h4 : v.2 < c) : (fm M).q v ≤ 6 * (c * c * dm M) := by
  obtain ⟨_, _, _, _, f1, f2, f3, f4, f5⟩ := fm_facts M hM
  have a1 : v.1 * v.1 ≤ c * c := Int.mul_le_mul (by omega) (by omega) h1 (by omega)
  have a2 : v.2 * v.2 ≤ c * c := Int.mul_le_mul (by omega) (by omega) h3 (by omega)
  have a3 : 0 ≤ v.1 * v.2 := Int.mul_nonneg h1 h3
  have b1 : (fm M).A * (v.1 * v.1) ≤ (fm M).A * (c * c) := Int.mul_le_mul_of_nonneg_left a1 f2
  have b2 : (fm M).C * (v.2 * v.2) ≤ (fm M).C * (c * c) := Int.mul_le_mul_of_nonneg_left a2 f3
  have b3 : (fm M).B * (v.1 * v.2) ≤ 0 := Int.mul_nonpos_of_nonpos_of_nonneg f1 a3
  have cc : 0 ≤ c * c := Int.mul_nonneg (by omega) (by omega)
  have b4 : ((fm M).A + (fm M).C) * (c * c) ≤ 4 * (c * c) := Int.mul_le_mul_of_nonneg_right f4 cc
  have b5 : c * c * 8 ≤ c * c * dm M := Int.mul_le_mul_of_nonneg_left f5 cc
  have b6 : ((fm M).A + (fm M).C) * (c * c) = (fm M).A * (c * c) + (fm M).C * (c * c) := Int.add_mul ..
  simp only [Fm.q]
  omega
/-- what comes again is nothing -/
theorem it_self {v : Vc} {n : Nat} (hn : 1 ≤ n) (h : M.it n v = v) : v = zv := by
  obtain ⟨m, rfl⟩ : ∃ m, n = m + 1 := ⟨n - 1, by omega⟩
  have h1 := fq_it hM v m
  have h2 := fq_led hM (M.it m v)
  have h3 : (fm M).q (M.led (M.it m v)) = (fm M).q v := congrArg _ h
  exact fq_zero hM (by omega)
theorem less_det {n : Nat} (hn : 1 ≤ n) : (M.pw n).less1.det ≠ 0 := by
  intro hd
  have ker : ∀ v : Vc, (M.pw n).less1.led v = zv → v = zv := fun v hv => by
    rw [less1_led, pw_led] at hv
    exact it_self hM hn (vsub_z hv)
  have col : ∀ v : Vc, (M.pw n).less1.adj.led v = zv := fun v => ker _ (by rw [led_adj, hd]; apply vext <;> simp [vmul, zv])
  have c1 := col (1, 0)
  have c2 := col (0, 1)
  simp only [Tb.led, Tb.adj, zv, Prod.mk.injEq] at c1 c2
  have := ker (1, 0) (by simp only [Tb.led, zv, Prod.mk.injEq]; omega)
  simp [zv] at this
end
theorem tables_rs : ∀ M ∈ tables, RS M := by
  have : ∀ M ∈ tables, M.a.natAbs + M.b.natAbs ≤ 3 ∧ M.c.natAbs + M.d.natAbs ≤ 3 := by decide
  exact fun M h => ⟨(this M h).1, (this M h).2⟩
theorem tables_det : ∀ M ∈ tables, M.det ≠ 0 ∧ M.det.natAbs ≤ 4 ∧ 2 ≤ M.det.natAbs := by decide
end K11

set_option autoImplicit false
set_option linter.all false
set_option maxRecDepth 100000
set_option exponentiation.threshold 20000
namespace K11
open PySem L2 Z
/-! ### words -/
def wd (ks js : List Nat) (i : Nat) : Nat := if i < ks.length then ks.getD i 0 else js.getD ((i - ks.length) % js.length) 0
def seg (w : Nat → Nat) (s n : Nat) : List Nat := (List.range n).map fun i => w (s + i)
def Per (w : Nat → Nat) (s p : Nat) : Prop := ∀ i, s ≤ i → w (i + p) = w i
theorem seg_len (w : Nat → Nat) (s n : Nat) : (seg w s n).length = n := by simp [seg]
theorem seg_get (w : Nat → Nat) (s n i : Nat) (h : i < n) : (seg w s n)[i]? = some (w (s + i)) := by simp [seg, h]
theorem seg_getD (w : Nat → Nat) (s n i : Nat) (h : i < n) : (seg w s n).getD i 0 = w (s + i) := by
  rw [List.getD_eq_getElem?_getD, seg_get w s n i h]; rfl
theorem seg_snoc (w : Nat → Nat) (s n : Nat) : seg w s (n + 1) = seg w s n ++ [w (s + n)] := by simp [seg, List.range_succ]
theorem seg_cons (w : Nat → Nat) (s n : Nat) : seg w s (n + 1) = w s :: seg w (s + 1) n := by
  simp only [seg, List.range_succ_eq_map, List.map_cons, List.map_map, Nat.add_zero]
  congr 1
  apply List.map_congr_left
  intro i _
  simp only [Function.comp_apply]
  congr 1; omega
theorem seg_append (w : Nat → Nat) (s m n : Nat) : seg w s m ++ seg w (s + m) n = seg w s (m + n) := by
  induction n with
  | zero => simp [seg]
  | succ n ih => rw [seg_snoc, ← List.append_assoc, ih, ← Nat.add_assoc, seg_snoc, Nat.add_assoc]
theorem seg_take (w : Nat → Nat) (s n m : Nat) (h : m ≤ n) : (seg w s n).take m = seg w s m := by
  obtain ⟨k, rfl⟩ : ∃ k, n = m + k := ⟨n - m, by omega⟩
  rw [← seg_append, List.take_left' (seg_len w s m)]
theorem seg_drop (w : Nat → Nat) (s n m : Nat) (h : m ≤ n) : (seg w s n).drop m = seg w (s + m) (n - m) := by
  obtain ⟨k, rfl⟩ : ∃ k, n = m + k := ⟨n - m, by omega⟩
  rw [← seg_append, List.drop_left' (seg_len w s m), Nat.add_sub_cancel_left]
theorem seg_eq {w w' : Nat → Nat} {s n : Nat} (h : ∀ i, i < n → w (s + i) = w' (s + i)) : seg w s n = seg w' s n := List.map_congr_left fun i hi => h i (List.mem_range.mp hi)
theorem seg_inj {w w' : Nat → Nat} {s n : Nat} (h : seg w s n = seg w' s n) : ∀ i, i < n → w (s + i) = w' (s + i) := fun i hi => by
  have a := seg_get w s n i hi
  have b := seg_get w' s n i hi
  rw [h, b] at a
  exact (Option.some.inj a).symm
theorem wd_lt {ks js : List Nat} {i : Nat} (h : i < ks.length) : wd ks js i = ks.getD i 0 := by unfold wd; rw [if_pos h]
theorem wd_ge {ks js : List Nat} (i : Nat) : wd ks js (ks.length + i) = js.getD (i % js.length) 0 := by
  unfold wd; rw [if_neg (by omega), Nat.add_sub_cancel_left]
theorem list_seg {l : List Nat} {w : Nat → Nat} {s : Nat} (h : ∀ i, i < l.length → w (s + i) = l.getD i 0) : seg w s l.length = l := by
  apply List.ext_getElem?
  intro i
  by_cases hi : i < l.length
  · rw [seg_get w s _ i hi, h i hi, List.getD_eq_getElem?_getD, List.getElem?_eq_getElem hi]; rfl
  · rw [List.getElem?_eq_none (by rw [seg_len]; omega), List.getElem?_eq_none (by omega)]
theorem seg_ks (ks js : List Nat) : seg (wd ks js) 0 ks.length = ks := list_seg fun i hi => by rw [Nat.zero_add, wd_lt hi]
theorem seg_js (ks js : List Nat) : seg (wd ks js) ks.length js.length = js := list_seg fun i hi => by rw [wd_ge, Nat.mod_eq_of_lt hi]
theorem wd_per (ks js : List Nat) : Per (wd ks js) ks.length js.length := fun i hi => by
  obtain ⟨n, rfl⟩ : ∃ n, i = ks.length + n := ⟨i - ks.length, by omega⟩
  rw [Nat.add_assoc, wd_ge, wd_ge, Nat.add_mod_right]
theorem Per.mono {w : Nat → Nat} {s s' p : Nat} (h : Per w s p) (k : s ≤ s') : Per w s' p := fun i hi => h i (by omega)
theorem Per.mul {w : Nat → Nat} {s p : Nat} (h : Per w s p) : ∀ m i, s ≤ i → w (i + m * p) = w i
  | 0, i, _ => by simp
  | m + 1, i, hi => by
    rw [show i + (m + 1) * p = (i + m * p) + p by rw [Nat.add_mul]; omega, h _ (by omega), Per.mul h m i hi]
theorem Per.any {w : Nat → Nat} {s p a t : Nat} (h : Per w s p) (k : Per w a t) (ht : 1 ≤ t) : Per w a p := fun i hi => by
  have big : s ≤ i + s * t := by
    have : s * 1 ≤ s * t := Nat.mul_le_mul_left s ht
    omega
  rw [← k.mul s (i + p) (by omega), ← k.mul s i hi, show i + p + s * t = i + s * t + p by omega]
  exact h _ big
theorem Per.mod {w : Nat → Nat} {s p t : Nat} (h : Per w s p) (k : Per w s t) : Per w s (t % p) := fun i hi => by
  have e : t % p + t / p * p = t := by rw [Nat.mul_comm]; exact Nat.mod_add_div t p
  rw [← h.mul (t / p) (i + t % p) (by omega), Nat.add_assoc, e]
  exact k i hi
/-- the least way to tell a word -/
structure Can (w : Nat → Nat) (s p : Nat) : Prop where
  pos : 1 ≤ p
  per : Per w s p
  lp : ∀ s' p', 1 ≤ p' → Per w s' p' → p ≤ p'
  ls : ∀ s', Per w s' p → s ≤ s'
theorem Can.uniq {w : Nat → Nat} {s p s' p' : Nat} (h : Can w s p) (h' : Can w s' p') : s = s' ∧ p = p' := by
  have e : p = p' := Nat.le_antisymm (h.lp s' p' h'.pos h'.per) (h'.lp s p h.pos h.per)
  subst e
  exact ⟨Nat.le_antisymm (h.ls s' h'.per) (h'.ls s h.per), rfl⟩
theorem wd_seg {w : Nat → Nat} {s p : Nat} (hp : 1 ≤ p) (h : Per w s p) : wd (seg w 0 s) (seg w s p) = w := by
  funext i
  by_cases hi : i < s
  · rw [wd_lt (by rw [seg_len]; exact hi), seg_getD _ _ _ _ hi, Nat.zero_add]
  · obtain ⟨n, rfl⟩ : ∃ n, i = s + n := ⟨i - s, by omega⟩
    have e : wd (seg w 0 s) (seg w s p) (s + n) = (seg w s p).getD (n % (seg w s p).length) 0 := by
      have := wd_ge (ks := seg w 0 s) (js := seg w s p) n
      rwa [seg_len] at this
    rw [e, seg_len, seg_getD _ _ _ _ (Nat.mod_lt _ hp)]
    have := h.mul (n / p) (s + n % p) (by omega)
    rw [← this]
    congr 1
    have := Nat.mod_add_div n p
    rw [Nat.mul_comm] at this
    omega
/-- the candidate of a size and a start agrees far enough exactly if it is a period -/
theorem cand_iff {w : Nat → Nat} {A T a p : Nat} (hw : Per w A T) (hT : 1 ≤ T) (ha : a ≤ A) (hp : 1 ≤ p) (hpT : p ≤ T) :
    seg (wd (seg w 0 a) (seg w a p)) 0 (3 * (A + T)) = seg w 0 (3 * (A + T)) ↔ Per w a p := by
  constructor
  · intro h
    have ag : ∀ i, i < 3 * (A + T) → wd (seg w 0 a) (seg w a p) i = w i := fun i hi => by
      have := seg_inj h i hi
      rwa [Nat.zero_add] at this
    have pw' : Per (wd (seg w 0 a) (seg w a p)) a p := by
      have := wd_per (seg w 0 a) (seg w a p)
      rwa [seg_len, seg_len] at this
    have near : ∀ i, a ≤ i → i + p < 3 * (A + T) → w (i + p) = w i := fun i h1 h2 => by
      rw [← ag _ h2, ← ag _ (by omega)]
      exact pw' i h1
    intro i hi
    by_cases c : i + p < 3 * (A + T)
    · exact near i hi c
    · have hiA : A ≤ i := by omega
      obtain ⟨n, rfl⟩ : ∃ n, i = A + n := ⟨i - A, by omega⟩
      have e := Nat.mod_add_div n T
      rw [Nat.mul_comm] at e
      have lt := Nat.mod_lt n hT
      have e1 : w (A + n) = w (A + n % T) := by
        rw [← hw.mul (n / T) (A + n % T) (by omega)]; congr 1; omega
      have e2 : w (A + n + p) = w (A + n % T + p) := by
        rw [← hw.mul (n / T) (A + n % T + p) (by omega)]; congr 1; omega
      rw [e1, e2]
      exact near _ (by omega) (by omega)
  · intro h
    rw [wd_seg hp h]
theorem Can.of_first {w : Nat → Nat} {A T s p : Nat} (hw : Per w A T) (hT : 1 ≤ T) (hp : 1 ≤ p) (h : Per w s p) (hs : s ≤ A) (h1 : ∀ p', 1 ≤ p' → p' < p → ¬ Per w A p') (h2 : ∀ s', s' < s → ¬ Per w s' p) : Can w s p :=
  ⟨hp, h, fun s' p' hp' k => by
    by_cases c : p ≤ p'
    · exact c
    · exact absurd (k.any hw hT) (h1 p' hp' (by omega)), fun s' k => by
    by_cases c : s ≤ s'
    · exact c
    · exact absurd k (h2 s' (by omega))⟩
/-- the least period parts each other one -/
theorem period_dvd {w : Nat → Nat} {A T p : Nat} (hw : Per w A T) (hp : 1 ≤ p) (h : Per w A p) (hmin : ∀ p', 1 ≤ p' → p' < p → ¬ Per w A p') : p ∣ T := by
  by_cases c : T % p = 0
  · exact Nat.dvd_of_mod_eq_zero c
  · exact absurd (h.mod hw) (hmin _ (by omega) (Nat.mod_lt _ hp))
theorem rep_get (l : List Nat) : ∀ (m i : Nat), i < m * l.length → ((List.replicate m l).flatten).getD i 0 = l.getD (i % l.length) 0
  | 0, i, h => by simp at h
  | m + 1, i, h => by
    rw [List.replicate_succ, List.flatten_cons]
    by_cases c : i < l.length
    · rw [List.getD_eq_getElem?_getD, List.getElem?_append_left c, Nat.mod_eq_of_lt c, List.getD_eq_getElem?_getD]
    · rw [List.getD_eq_getElem?_getD, List.getElem?_append_right (by omega), ← List.getD_eq_getElem?_getD, rep_get l m (i - l.length) (by rw [Nat.add_mul, Nat.one_mul] at h; omega)]
      congr 1
      rw [← Nat.mod_eq_sub_mod (by omega)]
theorem rep_len (l : List Nat) (m : Nat) : ((List.replicate m l).flatten).length = m * l.length := by simp
/-- a row is its beginning again and again exactly if that is a period -/
theorem rep_iff {ks js : List Nat} {k : Nat} (hk : 1 ≤ k) (hd : k ∣ js.length) (h0 : 1 ≤ js.length) : (List.replicate (js.length / k) (js.take k)).flatten = js ↔ Per (wd ks js) ks.length k := by
  have hkl : k ≤ js.length := Nat.le_of_dvd h0 hd
  have tl : (js.take k).length = k := by rw [List.length_take]; omega
  have ml : js.length / k * k = js.length := Nat.div_mul_cancel hd
  have tg : ∀ i, i < k → (js.take k).getD i 0 = js.getD i 0 := fun i hi => by
    rw [List.getD_eq_getElem?_getD, List.getD_eq_getElem?_getD, List.getElem?_take_of_lt hi]
  constructor
  · intro h
    have cyc : ∀ i, i < js.length → js.getD i 0 = js.getD (i % k) 0 := fun i hi => by
      have e := rep_get (js.take k) (js.length / k) i (by rw [tl, ml]; exact hi)
      rw [h, tl, tg _ (Nat.mod_lt _ hk)] at e
      exact e
    intro i hi
    obtain ⟨n, rfl⟩ : ∃ n, i = ks.length + n := ⟨i - ks.length, by omega⟩
    rw [Nat.add_assoc, wd_ge, wd_ge, cyc _ (Nat.mod_lt _ h0), cyc (n % js.length) (Nat.mod_lt _ h0), Nat.mod_mod_of_dvd _ hd, Nat.mod_mod_of_dvd _ hd, Nat.add_mod_right]
  · intro h
    apply List.ext_getElem?
    intro i
    by_cases hi : i < js.length
    · have e := rep_get (js.take k) (js.length / k) i (by rw [tl, ml]; exact hi)
      rw [tl, tg _ (Nat.mod_lt _ hk)] at e
      have e2 : js.getD i 0 = js.getD (i % k) 0 := by
        have a := wd_ge (ks := ks) (js := js) i
        have b := wd_ge (ks := ks) (js := js) (i % k)
        rw [Nat.mod_eq_of_lt hi] at a
        rw [Nat.mod_eq_of_lt (Nat.lt_of_lt_of_le (Nat.mod_lt _ hk) hkl)] at b
        rw [← a, ← b, ← h.mul (i / k) (ks.length + i % k) (by omega)]
        congr 1
        have := Nat.mod_add_div i k
        rw [Nat.mul_comm] at this
        omega
      have l1 : i < ((List.replicate (js.length / k) (js.take k)).flatten).length := by rw [rep_len, tl, ml]; exact hi
      rw [List.getElem?_eq_getElem l1, List.getElem?_eq_getElem hi]
      rw [List.getD_eq_getElem?_getD, List.getElem?_eq_getElem l1] at e
      rw [e2.symm, List.getD_eq_getElem?_getD, List.getElem?_eq_getElem hi] at e
      exact congrArg some e
    · rw [List.getElem?_eq_none (by rw [rep_len, tl, ml]; omega), List.getElem?_eq_none (by omega)]
end K11

set_option autoImplicit false
set_option linter.all false
set_option maxRecDepth 100000
set_option exponentiation.threshold 20000
namespace K11
open PySem L2 Z
theorem bok {α β : Type} {m : R α} {f : α → R β} {a : α} {r : R β} (h : m = .ok a) (k : f a = r) : m.bind f = r := by rw [h]; exact k
theorem bokF {β : Type} {m : R Bool} {f g : R β} {r : R β} (h : m = .ok false) (k : g = r) : (m.bind fun t => if t = true then f else g) = r := by rw [h]; exact k
theorem bokT {β : Type} {m : R Bool} {f g : R β} {r : R β} (h : m = .ok true) (k : f = r) : (m.bind fun t => if t = true then f else g) = r := by rw [h]; exact k
abbrev nums (l : List Nat) : D := .tuple (l.map numD)
theorem numD_eqv (a b : Nat) : PyData.eqv (numD a) (numD b) = decide (a = b) := by unfold numD; rw [eqv_i]; exact decide_eq_decide.mpr Int.ofNat_inj
theorem nums_eqvAll : ∀ as bs : List Nat, PyData.eqvAll (as.map numD) (bs.map numD) = decide (as = bs)
  | [], [] => by simp [PyData.eqvAll]
  | [], b :: bs => by simp [PyData.eqvAll]
  | a :: as, [] => by simp [PyData.eqvAll]
  | a :: as, b :: bs => by
    simp only [List.map_cons, PyData.eqvAll, numD_eqv, nums_eqvAll as bs, List.cons.injEq]
    simp
theorem nums_plain (l : List Nat) : PyData.plainAll (l.map numD) = true ∧ PyData.depthAll (l.map numD) ≤ 5 := by
  induction l with
  | nil => exact ⟨rfl, by simp [PyData.depthAll]⟩
  | cons a l ih =>
    refine ⟨by simp [PyData.plainAll, numD, PyData.plain, ih.1], ?_⟩
    simp only [List.map_cons, PyData.depthAll]
    have : (numD a).depth ≤ 5 := by simp [numD, PyData.depth]
    have := ih.2
    omega
theorem nums_okD (l : List Nat) : okD (nums l) = true := by
  obtain ⟨a, b⟩ := nums_plain l
  unfold okD
  rw [show (nums l).plain = true by simpa [PyData.plain] using a, decide_eq_true (by simp only [PyData.depth]; omega)]; rfl
theorem eq_nums (as bs : List Nat) : eqD (nums as) (nums bs) = .ok (decide (as = bs)) := by
  unfold eqD
  rw [nums_okD as, nums_okD bs]
  simp [PyData.eqv, nums_eqvAll]
theorem ne_nums (as bs : List Nat) : neD (nums as) (nums bs) = .ok (!decide (as = bs)) := by unfold neD; rw [eq_nums]; rfl
theorem cut_take {α : Type} (xs : List α) (k : Nat) : cut xs none (some (k : Int)) = xs.take k := by
  unfold cut
  rw [HT.sIx_none, HT.sIx_nat, List.drop_zero, Nat.sub_zero, List.take_eq_take_iff]
  omega
theorem cut_drop {α : Type} (xs : List α) (k : Nat) : cut xs (some (k : Int)) none = xs.drop k := by
  unfold cut
  rw [HT.sIx_none, HT.sIx_nat]
  by_cases c : k ≤ xs.length
  · rw [Nat.min_eq_left c, List.take_of_length_le (by rw [List.length_drop]; exact Nat.le_refl _)]
  · rw [Nat.min_eq_right (by omega), List.drop_of_length_le (Nat.le_refl _), List.drop_of_length_le (by omega)]; simp
theorem sIx_m1 (n d : Nat) : HT.sIx n d (some (-1)) = n - 1 := by
  show (if (-1 : Int) < 0 then ((-1 : Int) + (n : Int)).toNat else min (-1 : Int).toNat n) = _
  rw [if_pos (by decide)]; omega
theorem cut_mid {α : Type} (xs : List α) (k l : Nat) : cut xs (some (k : Int)) (some (l : Int)) = (xs.drop k).take (l - k) := by
  unfold cut
  rw [HT.sIx_nat, HT.sIx_nat]
  by_cases c : k ≤ xs.length
  · rw [show min k xs.length = k by omega, List.take_eq_take_iff, List.length_drop]; omega
  · rw [show min k xs.length = xs.length by omega, List.drop_of_length_le (Nat.le_refl _), List.drop_of_length_le (show xs.length ≤ k by omega)]; simp
theorem cut_init {α : Type} (xs : List α) (x : α) : cut (xs ++ [x]) none (some (-1)) = xs := by
  have e : HT.sIx (xs ++ [x]).length (xs ++ [x]).length (some (-1)) = xs.length := by
    rw [sIx_m1, List.length_append, List.length_singleton]; omega
  unfold cut
  rw [HT.sIx_none, e, List.drop_zero, Nat.sub_zero, List.take_left']; rfl
theorem cut_last {α : Type} (xs : List α) (x : α) : cut (xs ++ [x]) (some (-1)) none = [x] := by
  have e : HT.sIx (xs ++ [x]).length 0 (some (-1)) = xs.length := by
    rw [sIx_m1, List.length_append, List.length_singleton]; omega
  unfold cut
  rw [HT.sIx_none, e, List.drop_left' rfl, List.take_of_length_le]
  rw [List.length_append, List.length_singleton]; omega
theorem nums_take (l : List Nat) (k : Nat) : slice (nums l) none (some (k : Int)) = .ok (nums (l.take k)) := by
  show R.ok (PyData.tuple (cut _ _ _)) = _
  rw [cut_take, ← List.map_take]
theorem nums_drop (l : List Nat) (k : Nat) : slice (nums l) (some (k : Int)) none = .ok (nums (l.drop k)) := by
  show R.ok (PyData.tuple (cut _ _ _)) = _
  rw [cut_drop, ← List.map_drop]
theorem nums_mid (l : List Nat) (k m : Nat) : slice (nums l) (some (k : Int)) (some (m : Int)) = .ok (nums ((l.drop k).take (m - k))) := by
  show R.ok (PyData.tuple (cut _ _ _)) = _
  rw [cut_mid, ← List.map_drop, ← List.map_take]
theorem nums_init (l : List Nat) (x : Nat) : slice (nums (l ++ [x])) none (some (-1)) = .ok (nums l) := by
  show R.ok (PyData.tuple (cut _ _ _)) = _
  rw [List.map_append, List.map_singleton, cut_init]
theorem nums_lastS (l : List Nat) (x : Nat) : slice (nums (l ++ [x])) (some (-1)) none = .ok (nums [x]) := by
  show R.ok (PyData.tuple (cut _ _ _)) = _
  rw [List.map_append, List.map_singleton, cut_last]; rfl
theorem nums_last (l : List Nat) (x : Nat) : item (nums (l ++ [x])) (PyData.int (-1)) = .ok (numD x) := by
  have e : L2.atI ((l ++ [x]).map numD) (-1) = some (numD x) := by
    unfold L2.atI L2.ixN
    rw [if_neg (by decide), if_pos (by simp; omega)]
    simp only [Option.bind_some, List.map_append, List.map_singleton, List.length_append, List.length_map, List.length_singleton]
    rw [show ((-1 : Int) + ((l.length + 1 : Nat) : Int)).toNat = l.length by omega]
    simp
  show atD _ _ = _
  unfold atD
  rw [e]
theorem add_nums {a b : List Nat} (h : a.length + b.length < 16777216) : add (nums a) (nums b) = .ok (nums (a ++ b)) := by
  have := add_t (xs := a.map numD) (ys := b.map numD) (by rw [List.length_map, List.length_map]; exact h)
  rw [this, ← List.map_append]
theorem add_l {xs ys : List D} (h : xs.length + ys.length < 16777216) : add (.list xs) (.list ys) = .ok (.list (xs ++ ys)) := by
  have c1 : szOk (xs.length + ys.length) = true := by unfold szOk; exact decide_eq_true (by omega)
  simp only [add, c1, if_true]
theorem mul_nums {l : List Nat} {m : Nat} (hm : 1 ≤ m) (hl : l ≠ []) (hb : l.length * m ≤ 1000000) : mul (nums l) (.int (m : Int)) = .ok (nums (List.replicate m l).flatten) := by
  unfold mul
  by_cases c : m = 1
  · subst c
    simp
  · have c1 : ¬ ((m : Int) = 1) := by omega
    have c2 : (2 : Int) ≤ m := by omega
    have c3 : ((l.map numD).isEmpty) = false := by cases l <;> simp at hl ⊢
    have c4 : ((l.map numD).length : Int) * (m : Int) ≤ 1000000 := by rw [List.length_map, ← Int.natCast_mul]; exact Int.ofNat_le.mpr hb
    simp only [decide_eq_false c1, Bool.false_eq_true, if_false, decide_eq_true c2, c3, decide_eq_true c4, Bool.not_false, Bool.and_self, if_true, repl, Int.toNat_natCast]
    show R.ok (PyData.tuple _) = R.ok (PyData.tuple (List.map numD (List.replicate m l).flatten))
    rw [List.map_flatten, List.map_replicate]
theorem range_nums (lo n : Nat) : rangeD (lo : Int) ((lo + n : Nat) : Int) = (List.range' lo n).map numD := by
  unfold rangeD
  rw [show ((lo + n : Nat) : Int) - (lo : Int) = (n : Int) by omega, Int.toNat_natCast, List.range'_eq_map_range, List.map_map]
  apply List.map_congr_left
  intro i _
  simp [numD]
theorem range2_nums {lo n : Nat} (h : lo + n < 2 ^ 60) : range2 (.int (lo : Int)) (.int ((lo + n : Nat) : Int)) = .ok ((List.range' lo n).map numD) := by
  have e : (decide (-(2 ^ 62) ≤ (lo : Int)) && decide ((lo : Int) < 2 ^ 62) && decide (-(2 ^ 62) ≤ ((lo + n : Nat) : Int)) && decide (((lo + n : Nat) : Int) < 2 ^ 62)) = true := by
    simp only [Bool.and_eq_true, decide_eq_true_eq]; omega
  simp only [range2]
  rw [if_pos e, range_nums]
theorem compP_filter {ι : Type} {f : D → R (Option D)} {enc : ι → D} {P : ι → Bool} : ∀ {xs : List ι}, (∀ x ∈ xs, f (enc x) = .ok (if P x then some (enc x) else none)) → compP (xs.map enc) f = .ok ((xs.filter P).map enc)
  | [], _ => rfl
  | x :: xs, h => by
    have ih := compP_filter (f := f) (enc := enc) (P := P) (xs := xs) fun y hy => h y (by simp [hy])
    simp only [List.map_cons, compP, h x (by simp), R.bind_ok, ih]
    by_cases c : P x = true
    · simp [c]
    · have c' : P x = false := by simpa using c
      simp [c']
/-! ### a row of digits -/
theorem row_ok (v : D) {ks js : List Nat} {many : Nat} (hj : 1 ≤ js.length) (hm : many ≤ 1000) (hk : ks.length ≤ 1000) (hl : js.length ≤ 3000) : m__law_row (.tuple [v, nums ks, nums js]) (.int (many : Int)) = .ok (nums (seg (wd ks js) 0 many)) := by
  let w := wd ks js
  let st : Nat → D := fun m => .list ((seg w 0 (ks.length + m * js.length)).map numD)
  have run : ∀ (d n m : Nat), many ≤ ks.length + (m + d) * js.length → d < n → (m = 0 ∨ ks.length + m * js.length < many + js.length) → ∃ m', many ≤ ks.length + m' * js.length ∧ whileT n (st m) (fun s3 => (lenD s3).bind fun z6 => (ltD z6 (.int (many : Int))).bind fun z7 => if z7 = true then (item (.tuple [v, nums ks, nums js]) (PyData.int 2)).bind fun z8 => (listD z8).bind fun z9 => (add s3 z9).bind fun z10 => R.ok (.go z10) else R.ok (.done s3)) = .ok (.nx (st m')) := by
    intro d
    induction d with
    | zero =>
      intro n m h1 h2 h3
      obtain ⟨n, rfl⟩ : ∃ k, n = k + 1 := ⟨n - 1, by omega⟩
      refine ⟨m, by simpa using h1, ?_⟩
      rw [whileT]
      refine bok (bok (len_l _) <| bokF ?_ rfl) rfl
      rw [lt_i, List.length_map, seg_len]
      congr 1
      exact decide_eq_false (by rw [Nat.add_zero] at h1; omega)
    | succ d ih =>
      intro n m h1 h2 h3
      obtain ⟨n, rfl⟩ : ∃ k, n = k + 1 := ⟨n - 1, by omega⟩
      by_cases c : many ≤ ks.length + m * js.length
      · refine ⟨m, c, ?_⟩
        rw [whileT]
        refine bok (bok (len_l _) <| bokF ?_ rfl) rfl
        rw [lt_i, List.length_map, seg_len]
        congr 1
        exact decide_eq_false (by omega)
      · obtain ⟨m', e1, e2⟩ := ih n (m + 1) (by rw [show m + 1 + d = m + (d + 1) by omega]; exact h1) (by omega) (.inr (by rw [Nat.add_mul]; omega))
        refine ⟨m', e1, ?_⟩
        rw [whileT]
        refine bok (a := Wl.go (st (m + 1))) (r := R.ok (Fl.nx (st m'))) ?_ (by exact e2)
        refine bok (len_l _) <| bokT (by rw [lt_i, List.length_map, seg_len]; congr 1; exact decide_eq_true (by omega)) <| bok (item_n (n := 2) (by rfl)) <| bok (a := .list (js.map numD)) rfl <| bok (a := st (m + 1)) ?_ rfl
        rw [add_l (by rw [List.length_map, List.length_map, seg_len]; omega)]
        show R.ok (PyData.list _) = R.ok (PyData.list _)
        congr 2
        rw [← List.map_append]
        congr 1
        rw [show ks.length + (m + 1) * js.length = (ks.length + m * js.length) + js.length by rw [Nat.add_mul]; omega, ← seg_append w 0 (ks.length + m * js.length) js.length, Nat.zero_add]
        refine congrArg (seg w 0 (ks.length + m * js.length) ++ ·) (list_seg fun i hi => ?_).symm
        show wd ks js _ = _
        rw [show ks.length + m * js.length + i = ks.length + (m * js.length + i) by omega, wd_ge, Nat.mul_add_mod_self_right, Nat.mod_eq_of_lt hi]
  obtain ⟨m', e1, e2⟩ := run many 100000 0 (by have : many * 1 ≤ many * js.length := Nat.mul_le_mul_left _ hj; rw [Nat.zero_add]; omega) (by omega) (.inl rfl)
  have s0 : st 0 = .list (ks.map numD) := by
    show PyData.list ((seg w 0 (ks.length + 0 * js.length)).map numD) = _
    rw [Nat.zero_mul, Nat.add_zero, seg_ks]
  rw [s0] at e2
  unfold m__law_row
  refine bok (item1 _ _ _) <| bok (a := .list (ks.map numD)) rfl <| bok e2 ?_
  refine bok (toI_i _) <| bok (a := .list ((seg w 0 many).map numD)) ?_ <| bok (tuple_l _) rfl
  show R.ok (PyData.list (cut _ _ _)) = _
  rw [cut_take, ← List.map_take, seg_take _ _ _ _ e1]
end K11

set_option autoImplicit false
set_option linter.all false
set_option maxRecDepth 100000
set_option exponentiation.threshold 20000
namespace K11
open PySem L2 Z
theorem numsC (a : Nat) (l : List Nat) : neD (nums (a :: l)) (PyData.tuple []) = .ok true := by
  have := ne_nums (a :: l) []
  rw [show PyData.tuple [] = nums [] from rfl, this]; rfl
theorem numsN : neD (nums []) (PyData.tuple []) = .ok false := by
  have := ne_nums [] []
  rw [show PyData.tuple [] = nums [] from rfl, this]; rfl
/-- digits of the round at the end of those ahead are taken back -/
theorem back_run {w : Nat → Nat} {p : Nat} (hp : 1 ≤ p) (hp2 : p < 100000) : ∀ (s n : Nat), s < n → Per w s p → ∃ s', s' ≤ s ∧ Per w s' p ∧ (∀ q, q < s' → ¬ Per w q p) ∧
    whileT n (nums (seg w 0 s), nums (seg w s p)) (fun s24 => ((neD s24.1 (PyData.tuple [])).bind fun z27 =>
if z27 = true then
(item s24.1 (PyData.int (-1))).bind fun z28 =>
(item s24.2 (PyData.int (-1))).bind fun z29 =>
(eqD z28 z29).bind fun z30 =>
R.ok z30
else
R.ok false : R Bool).bind fun t31 =>
if t31 = true then
(slice s24.1 none (some (-1))).bind fun z32 =>
(slice s24.2 (some (-1)) none).bind fun z33 =>
(slice s24.2 none (some (-1))).bind fun z34 =>
(add z33 z34).bind fun z35 =>
(un2 (PyData.tuple [z32, z35])).bind fun (p36, p37) =>
R.ok (.go (p36, p37))
else
R.ok (.done (s24.1, s24.2))) = .ok (.nx (nums (seg w 0 s'), nums (seg w s' p)))
  | 0, n, h, hs => by
    obtain ⟨n, rfl⟩ : ∃ k, n = k + 1 := ⟨n - 1, by omega⟩
    refine ⟨0, Nat.le_refl _, hs, by omega, ?_⟩
    rw [whileT]
    exact bok (bokF (bokF (m := neD (nums (seg w 0 0)) (PyData.tuple [])) numsN rfl) rfl) rfl
  | s + 1, n, h, hs => by
    obtain ⟨n, rfl⟩ : ∃ k, n = k + 1 := ⟨n - 1, by omega⟩
    obtain ⟨q, rfl⟩ : ∃ q, p = q + 1 := ⟨p - 1, by omega⟩
    have e1 : seg w 0 (s + 1) = seg w 0 s ++ [w s] := by rw [seg_snoc, Nat.zero_add]
    have e2 : seg w (s + 1) (q + 1) = seg w (s + 1) q ++ [w (s + 1 + q)] := seg_snoc ..
    have n1 : neD (nums (seg w 0 (s + 1))) (PyData.tuple []) = .ok true := by rw [seg_cons]; exact numsC _ _
    have i1 : item (nums (seg w 0 (s + 1))) (PyData.int (-1)) = .ok (numD (w s)) := by rw [e1]; exact nums_last _ _
    have i2 : item (nums (seg w (s + 1) (q + 1))) (PyData.int (-1)) = .ok (numD (w (s + 1 + q))) := by rw [e2]; exact nums_last _ _
    have ee : eqD (numD (w s)) (numD (w (s + 1 + q))) = .ok (decide (w s = w (s + 1 + q))) := by
      unfold numD; rw [eq_i]; congr 1; exact decide_eq_decide.mpr Int.ofNat_inj
    by_cases c : w s = w (s + 1 + q)
    · have hs' : Per w s (q + 1) := fun i hi => by
        by_cases ci : i = s
        · subst ci; rw [c]; congr 1; omega
        · exact hs i (by omega)
      obtain ⟨s', k1, k2, k3, k4⟩ := back_run hp hp2 s n (by omega) hs'
      refine ⟨s', by omega, k2, k3, ?_⟩
      rw [whileT]
      refine bok (a := Wl.go (nums (seg w 0 s), nums (seg w s (q + 1)))) ?_ (by exact k4)
      refine bokT (bokT n1 <| bok i1 <| bok i2 <| bok ee <| by rw [decide_eq_true c]) ?_
      refine bok (a := nums (seg w 0 s)) (by show slice (nums (seg w 0 (s + 1))) none (some (-1)) = _; rw [e1]; exact nums_init _ _) ?_
      refine bok (a := nums [w (s + 1 + q)]) (by show slice (nums (seg w (s + 1) (q + 1))) (some (-1)) none = _; rw [e2]; exact nums_lastS _ _) ?_
      refine bok (a := nums (seg w (s + 1) q)) (by show slice (nums (seg w (s + 1) (q + 1))) none (some (-1)) = _; rw [e2]; exact nums_init _ _) ?_
      refine bok (add_nums (by rw [seg_len]; show 1 + q < _; omega)) ?_
      have e3 : [w (s + 1 + q)] ++ seg w (s + 1) q = seg w s (q + 1) := by rw [← c, seg_cons]; rfl
      rw [e3]; rfl
    · refine ⟨s + 1, Nat.le_refl _, hs, fun r hr k => c ?_, ?_⟩
      · have := k s (by omega)
        rw [← this]; congr 1; omega
      · rw [whileT]
        exact bok (bokF (bokT n1 <| bok i1 <| bok i2 <| bok ee <| by rw [decide_eq_false c]) rfl) rfl
/-- the least telling by the program -/
theorem least_ok {v : Vc} {ks js : List Nat} (hj : 1 ≤ js.length) (hl : js.length ≤ 3000) (hk : ks.length ≤ 3000) :
    ∃ s p, Can (wd ks js) s p ∧ s ≤ ks.length ∧ p ≤ js.length ∧ m_least_name (nameD v ks js) = .ok (nameD v (seg (wd ks js) 0 s) (seg (wd ks js) s p)) := by
  have hw := wd_per ks js
  let P1 : Nat → Bool := fun k => decide (js.length % k = 0)
  let P2 : Nat → Bool := fun k => decide ((List.replicate (js.length / k) (js.take k)).flatten = js)
  let L := ((List.range' 1 js.length).filter P1).filter P2
  have memL : ∀ k, k ∈ L ↔ (1 ≤ k ∧ k ≤ js.length ∧ k ∣ js.length ∧ Per (wd ks js) ks.length k) := fun k => by
    simp only [L, List.mem_filter, List.mem_range'_1, P1, P2, decide_eq_true_eq]
    constructor
    · rintro ⟨⟨⟨a, b⟩, c⟩, d⟩
      have dv := Nat.dvd_of_mod_eq_zero c
      exact ⟨a, by omega, dv, (rep_iff a dv hj).mp d⟩
    · rintro ⟨a, b, c, d⟩
      exact ⟨⟨⟨a, by omega⟩, Nat.mod_eq_zero_of_dvd c⟩, (rep_iff a c hj).mpr d⟩
  have sorted : L.Pairwise (· < ·) := (List.Pairwise.filter _ (List.Pairwise.filter _ List.pairwise_lt_range'))
  have ne : L ≠ [] := fun e => by
    have := (memL js.length).mpr ⟨hj, Nat.le_refl _, Nat.dvd_refl _, hw⟩
    rw [e] at this; simp at this
  obtain ⟨p, rest, eL⟩ : ∃ p rest, L = p :: rest := by
    cases h : L with
    | nil => exact absurd h ne
    | cons a l => exact ⟨a, l, rfl⟩
  have hp := (memL p).mp (by rw [eL]; simp)
  obtain ⟨p1, p2, p3, p4⟩ := hp
  have pmin0 : ∀ k ∈ L, p ≤ k := fun k hk => by
    rw [eL] at hk sorted
    rw [List.pairwise_cons] at sorted
    rcases List.mem_cons.mp hk with rfl | hk
    · exact Nat.le_refl _
    · exact Nat.le_of_lt (sorted.1 k hk)
  have exq : ∃ q, 1 ≤ q ∧ Per (wd ks js) ks.length q ∧ ∀ q', 1 ≤ q' → q' < q → ¬ Per (wd ks js) ks.length q' := by
    have : ∀ n q, q ≤ n → 1 ≤ q → Per (wd ks js) ks.length q → ∃ q, 1 ≤ q ∧ Per (wd ks js) ks.length q ∧ ∀ q', 1 ≤ q' → q' < q → ¬ Per (wd ks js) ks.length q' := by
      intro n
      induction n with
      | zero => intro q h1 h2; omega
      | succ n ih =>
        intro q h1 h2 h3
        by_cases c : ∃ q', 1 ≤ q' ∧ q' < q ∧ Per (wd ks js) ks.length q'
        · obtain ⟨q', c1, c2, c3⟩ := c
          exact ih q' (by omega) c1 c3
        · exact ⟨q, h2, h3, fun q' a b d => c ⟨q', a, b, d⟩⟩
    exact this _ _ (Nat.le_refl _) hj hw
  obtain ⟨q, q1, q2, q3⟩ := exq
  have qd := period_dvd hw q1 q2 q3
  have qL := (memL q).mpr ⟨q1, Nat.le_of_dvd hj qd, qd, q2⟩
  have pq : p = q := by
    have h1 := pmin0 q qL
    by_cases c : p < q
    · exact absurd p4 (q3 p p1 c)
    · omega
  subst pq
  obtain ⟨s, s1, s2, s3, s4⟩ := back_run (w := wd ks js) p1 (by omega) ks.length 100000 (by omega) p4
  refine ⟨s, p, Can.of_first hw hj p1 s2 s1 q3 s3, s1, p2, ?_⟩
  have tk : js.take p = seg (wd ks js) ks.length p := by
    have := seg_take (wd ks js) ks.length js.length p p2
    rw [seg_js] at this; exact this
  rw [seg_ks] at s4
  unfold m_least_name nameD
  have ln : ∀ l : List Nat, lenD (nums l) = .ok (.int (l.length : Int)) := fun l => by
    show R.ok _ = R.ok _
    rw [List.length_map]
  refine bok (un3_t _ _ _) <| bok (ln js) <| bok (add_i _ _) ?_
  have r2 := range2_nums (lo := 1) (n := js.length) (by omega)
  rw [show ((1 + js.length : Nat) : Int) = (js.length : Int) + 1 by omega] at r2
  refine bok r2 <| bok (a := ((List.range' 1 js.length).filter P1).map numD) ?_ <| bok (iter_l _) <| bok (a := L.map numD) ?_ ?_
  · rw [compL_of (by simp; omega)]
    refine compP_filter fun k hk => ?_
    have k1 : 1 ≤ k := (List.mem_range'_1.mp hk).1
    refine bok (ln js) <| bok (fmod_i (by show (k : Int) ≠ 0; omega)) <| bok (eq_i _ _) ?_
    have e : ((js.length : Int).fmod (k : Int) = 0) ↔ js.length % k = 0 := by
      rw [Int.fmod_eq_emod_of_nonneg _ (by omega)]; omega
    by_cases c : js.length % k = 0
    · rw [if_pos (decide_eq_true (e.mpr c))]
      simp [P1, c]
    · rw [if_neg (by simpa using fun x => c (e.mp x))]
      simp [P1, c]
  · rw [compL_of (by
      rw [List.length_map]
      exact Nat.lt_of_le_of_lt (List.length_filter_le _ _) (by simp; omega))]
    refine compP_filter fun k hk => ?_
    have hk' := List.mem_filter.mp hk
    have k1 : 1 ≤ k := (List.mem_range'_1.mp hk'.1).1
    have kd : k ∣ js.length := Nat.dvd_of_mod_eq_zero (by simpa [P1] using hk'.2)
    have kl : k ≤ js.length := Nat.le_of_dvd hj kd
    have kq : 1 ≤ js.length / k := (Nat.one_le_div_iff (by omega)).mpr kl
    have tl : (js.take k).length = k := by rw [List.length_take]; omega
    have fd : fdiv (.int (js.length : Int)) (.int (k : Int)) = .ok (.int ((js.length / k : Nat) : Int)) := by
      rw [fdiv_i (by omega) (bigD_of (k := 20) (by omega) (by decide)), Int.fdiv_eq_ediv_of_nonneg _ (by omega)]
      rfl
    refine bok (toI_i _) <| bok (nums_take js k) <| bok (ln js) <| bok fd <| bok (mul_nums kq (by intro e; rw [e] at tl; simp at tl; omega) (by rw [tl, Nat.mul_comm, Nat.div_mul_cancel kd]; omega)) <| bok (eq_nums _ _) ?_
    by_cases c : (List.replicate (js.length / k) (js.take k)).flatten = js
    · rw [decide_eq_true c]; simp [P2, c]
    · rw [decide_eq_false c]; simp [P2, c]
  · have i0 : item (PyData.list (L.map numD)) (PyData.int 0) = .ok (numD p) := by rw [eL, List.map_cons]; exact item_l0 _ _
    refine bok i0 <| bok (toI_i _) <| bok (nums_take js p) ?_
    rw [tk]
    exact bok s4 rfl
/-- walked till one is told -/
theorem forT_first {f : D → Unit → R (Fl Unit)} {Rr : Nat → Option D → Prop} {lo hi : Nat} (hf : ∀ x, lo ≤ x → x < hi → ∃ o, Rr x o ∧ f (numD x) () = .ok (match o with | some r => .rt r () | none => .nx ())) :
    ∀ (n a : Nat), lo ≤ a → a + n ≤ hi → (∃ x r, a ≤ x ∧ x < a + n ∧ Rr x (some r) ∧ (∀ y, a ≤ y → y < x → Rr y none) ∧ forT ((List.range' a n).map numD) () f = .ok (.rt r ())) ∨ ((∀ y, a ≤ y → y < a + n → Rr y none) ∧ forT ((List.range' a n).map numD) () f = .ok (.nx ()))
  | 0, a, h1, h2 => .inr ⟨fun y _ _ => by omega, rfl⟩
  | n + 1, a, h1, h2 => by
    obtain ⟨o, r1, r2⟩ := hf a h1 (by omega)
    rw [List.range'_succ, List.map_cons]
    cases o with
    | some r =>
      refine .inl ⟨a, r, Nat.le_refl _, by omega, r1, fun y _ _ => by omega, ?_⟩
      show (f (numD a) ()).bind _ = _
      rw [r2]; rfl
    | none =>
      rcases forT_first hf n (a + 1) (by omega) (by omega) with ⟨x, r, k1, k2, k3, k4, k5⟩ | ⟨k1, k2⟩
      · refine .inl ⟨x, r, by omega, by omega, k3, fun y y1 y2 => ?_, ?_⟩
        · by_cases c : y = a
          · subst c; exact r1
          · exact k4 y (by omega) y2
        · show (f (numD a) ()).bind _ = _
          rw [r2]; exact k5
      · refine .inr ⟨fun y y1 y2 => ?_, ?_⟩
        · by_cases c : y = a
          · subst c; exact r1
          · exact k1 y (by omega) (by omega)
        · show (f (numD a) ()).bind _ = _
          rw [r2]; exact k2
/-- the least telling by the law's tries -/
theorem lleast_ok {v : Vc} {ks js : List Nat} (hj : 1 ≤ js.length) (hl : js.length ≤ 100) (hk : ks.length ≤ 100) :
    ∃ s p, Can (wd ks js) s p ∧ s ≤ ks.length ∧ p ≤ js.length ∧ m__law_least (nameD v ks js) = .ok (nameD v (seg (wd ks js) 0 s) (seg (wd ks js) s p)) := by
  have hw := wd_per ks js
  let w := wd ks js
  let far := 3 * (ks.length + js.length)
  have ln : ∀ l : List Nat, lenD (nums l) = .ok (.int (l.length : Int)) := fun l => by
    show R.ok _ = R.ok _
    rw [List.length_map]
  have i1 : item (nameD v ks js) (PyData.int 1) = .ok (nums ks) := item1 _ _ _
  have i2 : item (nameD v ks js) (PyData.int 2) = .ok (nums js) := item_n (n := 2) (by rfl)
  have i0 : item (nameD v ks js) (PyData.int 0) = .ok (lotD v) := item0 _ _
  have m3 : mul (PyData.int 3) (.int ((ks.length : Int) + (js.length : Int))) = .ok (.int ((far : Nat) : Int)) := by
    rw [mul_l (by decide)]
    congr 2
  have row0 : m__law_row (nameD v ks js) (.int ((far : Nat) : Int)) = .ok (nums (seg w 0 far)) := row_ok (lotD v) hj (by show 3 * _ ≤ _; omega) (by omega) (by omega)
  have r1 : range1 (.int ((ks.length : Int) + 1)) = .ok ((List.range' 0 (ks.length + 1)).map numD) := by
    have := range2_nums (lo := 0) (n := ks.length + 1) (by omega)
    rw [show ((0 + (ks.length + 1) : Nat) : Int) = (ks.length : Int) + 1 by omega] at this
    exact this
  have r2 := range2_nums (lo := 1) (n := js.length) (by omega)
  rw [show ((1 + js.length : Nat) : Int) = (js.length : Int) + 1 by omega] at r2
  let nm : Nat → Nat → D := fun a p => nameD v (seg w 0 a) (seg w a p)
  let fin : Nat → D → Unit → R (Fl Unit) := fun p x19 _ => (item (nameD v ks js) (PyData.int 0)).bind fun z22 => (toI x19).bind fun l23 => (slice (nums (seg w 0 far)) none (some l23)).bind fun z24 => (toI x19).bind fun l25 => (add x19 (numD p)).bind fun z26 => (toI z26).bind fun l27 => (slice (nums (seg w 0 far)) (some l25) (some l27)).bind fun z28 =>
        (mul (PyData.int 3) (.int ((ks.length : Int) + (js.length : Int)))).bind fun z29 => (m__law_row (PyData.tuple [z22, z24, z28]) z29).bind fun z30 => (eqD z30 (nums (seg w 0 far))).bind fun z31 => if z31 = true then R.ok (Fl.rt (PyData.tuple [z22, z24, z28]) ()) else R.ok (.nx ())
  let fout : D → Unit → R (Fl Unit) := fun x12 _ => (item (nameD v ks js) (PyData.int 1)).bind fun z15 => (lenD z15).bind fun z16 => (add z16 (PyData.int 1)).bind fun z17 => (range1 z17).bind fun z18 =>
        (forT z18 () fun x19 s20 => (item (nameD v ks js) (PyData.int 0)).bind fun z22 => (toI x19).bind fun l23 => (slice (nums (seg w 0 far)) none (some l23)).bind fun z24 => (toI x19).bind fun l25 => (add x19 x12).bind fun z26 => (toI z26).bind fun l27 => (slice (nums (seg w 0 far)) (some l25) (some l27)).bind fun z28 =>
        (mul (PyData.int 3) (.int ((ks.length : Int) + (js.length : Int)))).bind fun z29 => (m__law_row (PyData.tuple [z22, z24, z28]) z29).bind fun z30 => (eqD z30 (nums (seg w 0 far))).bind fun z31 => if z31 = true then R.ok (Fl.rt (PyData.tuple [z22, z24, z28]) ()) else R.ok (.nx ())).bind fun
          | .nx s21 => (R.ok (.nx ()))
          | .bk _ => .stuck
          | .rt r32 s21 => (R.ok (.rt r32 ()))
  have inner : ∀ p, 1 ≤ p → p ≤ js.length → ∀ a, 0 ≤ a → a < ks.length + 1 → ∃ o, ((Per w a p ∧ o = some (nm a p)) ∨ (¬ Per w a p ∧ o = none)) ∧
      fin p (numD a) () = .ok (match o with | some r => .rt r () | none => .nx ()) := by
    intro p h1 h2 a _ h3
    have af : a ≤ far := by show a ≤ 3 * _; omega
    have apf : a + p ≤ far := by show a + p ≤ 3 * _; omega
    have s1 : slice (nums (seg w 0 far)) none (some (a : Int)) = .ok (nums (seg w 0 a)) := by rw [nums_take, seg_take _ _ _ _ af]
    have s2 : slice (nums (seg w 0 far)) (some (a : Int)) (some ((a : Int) + (p : Int))) = .ok (nums (seg w a p)) := by
      rw [show (a : Int) + (p : Int) = ((a + p : Nat) : Int) by omega, nums_mid, seg_drop _ _ _ _ af, seg_take _ _ _ _ (by omega), Nat.zero_add, Nat.add_sub_cancel_left]
    have row1 : m__law_row (.tuple [lotD v, nums (seg w 0 a), nums (seg w a p)]) (.int ((far : Nat) : Int)) = .ok (nums (seg (wd (seg w 0 a) (seg w a p)) 0 far)) := row_ok (lotD v) (by rw [seg_len]; exact h1) (by show 3 * _ ≤ _; omega) (by rw [seg_len]; omega) (by rw [seg_len]; omega)
    have ci := cand_iff (w := w) (A := ks.length) (T := js.length) hw hj (a := a) (p := p) (by omega) h1 h2
    by_cases c : Per w a p
    · refine ⟨some (nm a p), .inl ⟨c, rfl⟩, ?_⟩
      refine bok i0 <| bok (toI_i _) <| bok s1 <| bok (toI_i _) <| bok (add_i _ _) <| bok (toI_i _) <| bok s2 <| bok m3 <| bok row1 <| bokT ?_ rfl
      rw [eq_nums, decide_eq_true (ci.mpr c)]
    · refine ⟨none, .inr ⟨c, rfl⟩, ?_⟩
      refine bok i0 <| bok (toI_i _) <| bok s1 <| bok (toI_i _) <| bok (add_i _ _) <| bok (toI_i _) <| bok s2 <| bok m3 <| bok row1 <| bokF ?_ rfl
      rw [eq_nums, decide_eq_false fun e => c (ci.mp e)]
  have outer : ∀ p, 1 ≤ p → p < 1 + js.length → ∃ o, ((∃ a, a ≤ ks.length ∧ Per w a p ∧ (∀ b, b < a → ¬ Per w b p) ∧ o = some (nm a p)) ∨ ((∀ a, a ≤ ks.length → ¬ Per w a p) ∧ o = none)) ∧
      fout (numD p) () = .ok (match o with | some r => .rt r () | none => .nx ()) := by
    intro p h1 h2
    rcases forT_first (f := fin p) (lo := 0) (hi := ks.length + 1) (Rr := fun a o => (Per w a p ∧ o = some (nm a p)) ∨ (¬ Per w a p ∧ o = none)) (inner p h1 (by omega)) (ks.length + 1) 0 (Nat.le_refl _) (by omega) with ⟨a, r, k1, k2, k3, k4, k5⟩ | ⟨k1, k2⟩
    · rcases k3 with ⟨c1, c2⟩ | ⟨_, c2⟩
      · refine ⟨some r, .inl ⟨a, by omega, c1, fun b hb => ?_, c2⟩, ?_⟩
        · rcases k4 b (by omega) hb with ⟨_, d⟩ | ⟨d, _⟩
          · cases d
          · exact d
        · exact bok i1 <| bok (ln ks) <| bok (add_i _ _) <| bok r1 <| bok k5 rfl
      · cases c2
    · refine ⟨none, .inr ⟨fun a ha => ?_, rfl⟩, ?_⟩
      · rcases k1 a (by omega) (by omega) with ⟨_, d⟩ | ⟨d, _⟩
        · cases d
        · exact d
      · exact bok i1 <| bok (ln ks) <| bok (add_i _ _) <| bok r1 <| bok k2 rfl
  rcases forT_first (f := fout) (lo := 1) (hi := 1 + js.length) (Rr := fun p o => (∃ a, a ≤ ks.length ∧ Per w a p ∧ (∀ b, b < a → ¬ Per w b p) ∧ o = some (nm a p)) ∨ ((∀ a, a ≤ ks.length → ¬ Per w a p) ∧ o = none)) outer js.length 1 (Nat.le_refl _) (by omega) with ⟨p, r, k1, k2, k3, k4, k5⟩ | ⟨k1, _⟩
  · rcases k3 with ⟨s, c1, c2, c3, c4⟩ | ⟨_, c4⟩
    · cases c4
      refine ⟨s, p, Can.of_first hw hj k1 c2 c1 (fun p' a b d => ?_) c3, c1, by omega, ?_⟩
      · rcases k4 p' a b with ⟨_, _, _, _, e⟩ | ⟨e, _⟩
        · cases e
        · exact e ks.length (Nat.le_refl _) d
      · unfold m__law_least
        exact bok i1 <| bok (ln ks) <| bok i2 <| bok (ln js) <| bok (add_i _ _) <| bok m3 <| bok row0 <| bok i2 <| bok (ln js) <| bok (add_i _ _) <| bok r2 <| bok k5 rfl
    · cases c4
  · rcases k1 js.length hj (by omega) with ⟨_, _, _, _, e⟩ | ⟨e, _⟩
    · cases e
    · exact absurd hw (e ks.length (Nat.le_refl _))
end K11

set_option autoImplicit false
set_option linter.all false
set_option maxRecDepth 100000
set_option exponentiation.threshold 20000
namespace K11
open PySem L2 Z
/-- what is left of a point behind each digit -/
def lf (M : Tb) (u : Nat → Vc) (v p : Vc) (c : Int) : Nat → Vc
  | 0 => vsub p (vmul c v)
  | m + 1 => vsub (M.led (lf M u v p c m)) (vmul c (u m))
section
variable {M : Tb} {u : Nat → Vc} {v p : Vc} {c : Int}
theorem row_snoc (M : Tb) (v : Vc) (r : List Vc) (d : Vc) : M.row v (r ++ [d]) = vadd (M.led (M.row v r)) d := by rw [row_append]; rfl
theorem lf_left (m : Nat) : left M m (M.row v ((List.range m).map u)) p c = lf M u v p c m := by
  induction m with
  | zero => rfl
  | succ m ih =>
    rw [List.range_succ, List.map_append, List.map_singleton, row_snoc]
    show _ = vsub (M.led (lf M u v p c m)) (vmul c (u m))
    rw [← ih]
    unfold left
    rw [led_sub, led_mul]
    apply vext <;> simp only [vsub, vmul, vadd, Tb.it] <;> grind
theorem lf_add (k n : Nat) : lf M u v p c (k + n) = vsub (M.it n (lf M u v p c k)) (vmul c (M.row zv ((List.range n).map fun i => u (k + i)))) := by
  induction n with
  | zero =>
    show lf M u v p c k = vsub (lf M u v p c k) (vmul c zv)
    rw [vmul_z]; apply vext <;> simp [vsub, zv]
  | succ n ih =>
    rw [List.range_succ, List.map_append, List.map_singleton, row_snoc]
    show vsub (M.led (lf M u v p c (k + n))) (vmul c (u (k + n))) = _
    rw [ih, led_sub, led_mul]
    apply vext <;> simp only [vsub, vmul, vadd, Tb.it] <;> grind
theorem E_lf {n k : Nat} : E M n k (M.row v ((List.range k).map u)) (M.row zv ((List.range n).map fun i => u (k + i))) p c = zv ↔ lf M u v p c (k + n) = lf M u v p c k := by
  rw [E_iff, lf_left, lf_add]
  constructor
  · intro h
    rw [← h]; apply vext <;> simp only [vsub] <;> omega
  · intro h
    have h1 := congrArg Prod.fst h
    have h2 := congrArg Prod.snd h
    simp only [vsub] at h1 h2
    apply vext <;> simp only [vsub] <;> omega
/-- the same word told otherwise -/
theorem lf_same (hM : M ∈ tables) {k n k' n' : Nat} (hn : 1 ≤ n) (h1 : ∀ i, k ≤ i → u (i + n) = u i) (h2 : ∀ i, k' ≤ i → u (i + n') = u i) (h : lf M u v p c (k + n) = lf M u v p c k) : lf M u v p c (k' + n') = lf M u v p c k' := by
  have rep : ∀ i, lf M u v p c (k + i + n) = lf M u v p c (k + i) := by
    intro i
    induction i with
    | zero => exact h
    | succ i ih =>
      rw [show k + (i + 1) + n = (k + i + n) + 1 by omega, show k + (i + 1) = (k + i) + 1 by omega]
      show vsub (M.led _) (vmul c _) = vsub (M.led _) (vmul c _)
      rw [ih, h1 _ (by omega)]
  let dl : Nat → Vc := fun m => vsub (lf M u v p c (m + n')) (lf M u v p c m)
  have step : ∀ m, k' ≤ m → dl (m + 1) = M.led (dl m) := fun m hm => by
    show vsub (lf M u v p c (m + 1 + n')) (lf M u v p c (m + 1)) = M.led (vsub _ _)
    rw [show m + 1 + n' = (m + n') + 1 by omega, led_sub]
    show vsub (vsub (M.led _) (vmul c _)) (vsub (M.led _) (vmul c _)) = _
    rw [h2 m hm]
    apply vext <;> simp only [vsub, vmul] <;> omega
  have steps : ∀ i m, k' ≤ m → dl (m + i) = M.it i (dl m) := by
    intro i
    induction i with
    | zero => intro m _; rfl
    | succ i ih => intro m hm; rw [show m + (i + 1) = (m + i) + 1 by omega, step _ (by omega), ih m hm]; rfl
  have m0 : dl (k + k' + n) = dl (k + k') := by
    show vsub (lf M u v p c (k + k' + n + n')) (lf M u v p c (k + k' + n)) = vsub _ _
    rw [show k + k' + n + n' = k + (k' + n') + n by omega, rep, rep, show k + (k' + n') = k + k' + n' by omega]
  rw [steps n (k + k') (by omega)] at m0
  have z := it_self hM hn m0
  have e := steps k k' (Nat.le_refl _)
  rw [Nat.add_comm k' k, z] at e
  have q := fq_it hM (dl k') k
  rw [← e] at q
  have q0 : (fm M).q zv = 0 := by simp [Fm.q, zv]
  rw [q0] at q
  exact vsub_z (fq_zero hM q)
end
theorem wd_all {ks js : List Nat} {n : Nat} (hk : ∀ k ∈ ks, k < n) (hj : ∀ k ∈ js, k < n) (h1 : 1 ≤ js.length) (i : Nat) : wd ks js i < n := by
  unfold wd
  split
  · rename_i h
    rw [List.getD_eq_getElem?_getD, List.getElem?_eq_getElem h]
    exact hk _ (List.getElem_mem h)
  · have h : (i - ks.length) % js.length < js.length := Nat.mod_lt _ h1
    rw [List.getD_eq_getElem?_getD, List.getElem?_eq_getElem h]
    exact hj _ (List.getElem_mem h)
theorem seg_all {w : Nat → Nat} {n s m : Nat} (h : ∀ i, w i < n) : ∀ k ∈ seg w s m, k < n := fun k hk => by
  obtain ⟨i, _, rfl⟩ := List.mem_map.mp hk
  exact h _
theorem E_word {M : Tb} {ds : List Vc} {v p : Vc} {c : Int} (ks js : List Nat) : E M js.length ks.length (M.row v (ks.map (dig ds))) (M.row zv (js.map (dig ds))) p c = zv ↔ lf M (fun i => dig ds (wd ks js i)) v p c (ks.length + js.length) = lf M (fun i => dig ds (wd ks js i)) v p c ks.length := by
  rw [← E_lf]
  have e1 : (List.range ks.length).map (fun i => dig ds (wd ks js i)) = ks.map (dig ds) := by
    have := congrArg (List.map (dig ds)) (seg_ks ks js)
    rw [← this, seg, List.map_map]
    apply List.map_congr_left
    intro i _
    simp
  have e2 : (List.range js.length).map (fun i => dig ds (wd ks js (ks.length + i))) = js.map (dig ds) := by
    have := congrArg (List.map (dig ds)) (seg_js ks js)
    rw [← this, seg, List.map_map]
    rfl
  rw [e1, e2]
/-- names of one word have one point -/
theorem worth_word {M : Tb} {ds : List Vc} (hM : M ∈ tables) (b : Base M ds) {v : Vc} {ks js ks' js' : List Nat} (hv : nv v ≤ 97) (hj0 : 1 ≤ js.length) (hj0' : 1 ≤ js'.length) (hk' : ∀ k ∈ ks', k < ds.length) (hj' : ∀ k ∈ js', k < ds.length) (lk' : ks'.length ≤ 12) (lj' : js'.length ≤ 2500)
    (hw : wd ks' js' = wd ks js) {X Y C : Int} (h : WorthAt M ds v ks js X Y C) : m_worth (baseD M ds) (nameD v ks' js') = .ok (pointD ((X, Y), C)) := by
  have hd := (tables_det M hM).1
  have hl := less_det hM hj0'
  obtain ⟨X', Y', C', e1, w1⟩ := worth_ok b hd hv hk' hj' lk' lj' hl
  have h1 := (E_word ks js).mp h.eq
  have h2 : E M js'.length ks'.length (M.row v (ks'.map (dig ds))) (M.row zv (js'.map (dig ds))) (X, Y) C = zv := by
    rw [E_word, hw]
    refine lf_same hM hj0 (fun i hi => ?_) (fun i hi => ?_) h1
    · show dig ds _ = dig ds _
      rw [wd_per ks js i hi]
    · show dig ds _ = dig ds _
      rw [← hw, wd_per ks' js' i hi]
  obtain ⟨q1, q2, q3⟩ := w1.red.eq hd hl h.red w1.eq h2
  subst q1 q2 q3
  exact e1
end K11

set_option autoImplicit false
set_option linter.all false
set_option maxRecDepth 100000
set_option exponentiation.threshold 20000
namespace K11
namespace Sm
open PySem L2 Z
theorem up200 {n : Nat} (h : n < 2 ^ 200) : n < 2 ^ 9000 := Nat.lt_trans h (by decide)
theorem low_ok {x y c : Int} (hc : c ≠ 0) (hb : c.natAbs < 2 ^ 200) : ∃ X Y C, m_point_low (lotD (x, y)) (.int c) = .ok (pointD ((X, Y), C)) ∧ Pt x y c X Y C := K11.low_ok hc (up200 hb)
theorem added_pt {x y c u v d : Int} (hs : Sz x ∧ Sz y ∧ Sz c ∧ Sz u ∧ Sz v ∧ Sz d) (hc : c * d ≠ 0) (hb : (c * d).natAbs < 2 ^ 200) : ∃ X Y C, m_points_added (pointD ((x, y), c)) (pointD ((u, v), d)) = .ok (pointD ((X, Y), C)) ∧ Pt (x * d + u * c) (y * d + v * c) (c * d) X Y C := K11.added_pt hs hc (up200 hb)
theorem undone_pt {M : Tb} {x y c : Int} (hM : SzT M) (hs : Sz x ∧ Sz y ∧ Sz c) (hd : Sz M.det) (hc : c * M.det ≠ 0) (hb : (c * M.det).natAbs < 2 ^ 200) : ∃ X Y C, m_point_undone (tabD M) (pointD ((x, y), c)) = .ok (pointD ((X, Y), C)) ∧ Pt (M.adj.led (x, y)).1 (M.adj.led (x, y)).2 (c * M.det) X Y C := K11.undone_pt hM hs hd hc (up200 hb)
theorem pow24 {n : Nat} (h : n ≤ 24) : 3 ^ n ≤ 282429536481 := by
  have : 3 ^ n ≤ 3 ^ 24 := Nat.pow_le_pow_right (by decide) h
  have e : 3 ^ 24 = 282429536481 := by decide
  omega
theorem pow12 {n : Nat} (h : n ≤ 12) : 3 ^ n ≤ 531441 := by
  have : 3 ^ n ≤ 3 ^ 12 := Nat.pow_le_pow_right (by decide) h
  have e : 3 ^ 12 = 531441 := by decide
  omega
theorem round_ok {M : Tb} {ds : List Vc} (b : Base M ds) {ks : List Nat} (hk : ∀ k ∈ ks, k < ds.length) (hl : ks.length ≤ 24) (hd : (M.pw ks.length).less1.det ≠ 0) :
    ∃ X Y C, m_round_worth (baseD M ds) (.tuple (ks.map numD)) = .ok (pointD ((X, Y), C)) ∧ RoundAt M ks.length (M.row zv (ks.map (dig ds))) X Y C := by
  have en := (pw_ent b.rs ks.length).less1
  have p24 := pow24 hl
  have bS := nv_S b hk zv
  have z0 : nv zv = 0 := rfl
  rw [z0] at bS
  have sA := en.adj.sz (k := 100) (Nat.lt_of_le_of_lt (Nat.add_le_add_right p24 1) (by decide)) (by decide)
  have sL := en.sz (k := 100) (Nat.lt_of_le_of_lt (Nat.add_le_add_right p24 1) (by decide)) (by decide)
  have p100 : (2 : Nat) ^ 100 = 1267650600228229401496703205376 := by decide
  have sS : SzV (M.row zv (ks.map (dig ds))) := SzV.of (k := 100) (by omega) (by decide)
  have bd : (M.pw ks.length).less1.det.natAbs < 2 ^ 200 := by
    have h1 := en.det
    have h2 : 2 * (3 ^ ks.length + 1) * (3 ^ ks.length + 1) ≤ 2 * 282429536482 * 282429536482 := mul_bd (by omega) (by omega)
    have h3 : 2 * 282429536482 * 282429536482 < 2 ^ 200 := by decide
    omega
  obtain ⟨X, Y, C, e, p⟩ := low_ok (x := ((M.pw ks.length).less1.adj.led (M.row zv (ks.map (dig ds)))).1) (y := ((M.pw ks.length).less1.adj.led (M.row zv (ks.map (dig ds)))).2) hd bd
  refine ⟨X, Y, C, ?_, RoundAt.of b.rs hd p⟩
  unfold m_round_worth
  have n1 : nv ((1, 0) : Vc) = 1 := rfl
  have n2 : nv ((0, 1) : Vc) = 1 := rfl
  have sit : ∀ (v : Vc) (i : Nat), nv v = 1 → i < 25 → SzV (M.it i v) := fun v i hv hi => by
    have h1 := nv_it b.rs v i
    have h2 := pow24 (n := i) (by omega)
    rw [hv] at h1
    exact SzV.of (k := 100) (by omega) (by decide)
  have run := run_lt (f := fun (_ : D) (s5 : D × D) => (item (baseD M ds) (PyData.int 0)).bind fun z7 => (m_lot_led z7 s5.1).bind fun z8 => (item (baseD M ds) (PyData.int 0)).bind fun z9 => (m_lot_led z9 s5.2).bind fun z10 => R.ok (z8, z10)) (fun i => (lotD (M.it i (1, 0)), lotD (M.it i (0, 1)))) 25 (fun i x hi => by
    unfold baseD
    simp only [item0, R.bind_ok, led_ok b.rs.sz (sit _ i n1 hi), led_ok b.rs.sz (sit _ i n2 hi)]; rfl) (ks.map numD) 0 (by rw [List.length_map]; omega)
  rw [List.length_map, Nat.zero_add] at run
  have st : ((PyData.tuple [PyData.int 1, PyData.int 0]), (PyData.tuple [PyData.int 0, PyData.int 1])) = ((lotD (M.it 0 (1, 0)), lotD (M.it 0 (0, 1))) : D × D) := rfl
  rw [un2_t]
  simp only [R.bind_ok, iter_t]
  rw [st, run]
  simp only [R.bind_ok, pw_it1, pw_it2]
  have t : PyData.tuple [PyData.tuple [PyData.int ((M.pw ks.length).a - 1), PyData.int (M.pw ks.length).b], PyData.tuple [PyData.int (M.pw ks.length).c, PyData.int ((M.pw ks.length).d - 1)]] = tabD (M.pw ks.length).less1 := rfl
  have rw1 := rowW_ok b ks zv hk (by decide) (by omega)
  rw [lotz] at rw1
  have e1 : ∀ a c : Int, item (lotD (a, c)) (PyData.int 0) = .ok (.int a) := fun a c => item0 _ _
  have e2 : ∀ a c : Int, item (lotD (a, c)) (PyData.int 1) = .ok (.int c) := fun a c => item1 _ _ _
  simp only [e1, e2, R.bind_ok, sub_i, t, other_ok, rw1, led_ok sA sS, det_ok sL, e]
/-- the point of a name -/
structure WorthAt (M : Tb) (ds : List Vc) (v : Vc) (ks js : List Nat) (X Y C : Int) : Prop where
  red : Red X Y C
  eq : E M js.length ks.length (M.row v (ks.map (dig ds))) (M.row zv (js.map (dig ds))) (X, Y) C = zv
  bx : nv (X, Y) < 2 ^ 200
  bc : C.natAbs < 2 ^ 200
theorem undo_run {M : Tb} {ds : List Vc} (b : Base M ds) (hM : M.det ≠ 0) {n : Nat} {W S : Vc} {f : D → D → R D} (hf : ∀ x p, f x p = ((item (baseD M ds) (PyData.int 0)).bind fun z12 => (m_point_undone z12 p).bind fun z13 => R.ok z13)) :
    ∀ (xs : List D) (i : Nat) (X Y C : Int), i + xs.length ≤ 12 → Red X Y C → E M n i W S (X, Y) C = zv → nv (X, Y) ≤ 2 ^ 110 * 6 ^ i → C.natAbs ≤ 2 ^ 90 * 18 ^ i →
      ∃ X' Y' C', forS xs (pointD ((X, Y), C)) f = .ok (pointD ((X', Y'), C')) ∧ Red X' Y' C' ∧ E M n (i + xs.length) W S (X', Y') C' = zv ∧ nv (X', Y') ≤ 2 ^ 110 * 6 ^ 12 ∧ C'.natAbs ≤ 2 ^ 90 * 18 ^ 12
  | [], i, X, Y, C, hl, r, e, b1, b2 => ⟨X, Y, C, rfl, r, e, Nat.le_trans b1 (Nat.mul_le_mul_left _ (Nat.pow_le_pow_right (by decide) (by simpa using hl))), Nat.le_trans b2 (Nat.mul_le_mul_left _ (Nat.pow_le_pow_right (by decide) (by simpa using hl)))⟩
  | x :: xs, i, X, Y, C, hl, r, e, b1, b2 => by
    rw [List.length_cons] at hl
    have q1 : 2 ^ 110 * 6 ^ i ≤ 2 ^ 110 * 6 ^ 12 := Nat.mul_le_mul_left _ (Nat.pow_le_pow_right (by decide) (by omega))
    have q2 : 2 ^ 90 * 18 ^ i ≤ 2 ^ 90 * 18 ^ 12 := Nat.mul_le_mul_left _ (Nat.pow_le_pow_right (by decide) (by omega))
    have w1 : 2 ^ 110 * 6 ^ 12 < 2 ^ 199 := by decide
    have w2 : 2 ^ 90 * 18 ^ 12 < 2 ^ 190 := by decide
    have d18 := det_bd b.rs
    have cp := r.pos
    have m1 : (C * M.det).natAbs ≤ 2 ^ 90 * 18 ^ i * 18 := by rw [Int.natAbs_mul]; exact Nat.mul_le_mul b2 d18
    have m2 : 2 ^ 90 * 18 ^ (i + 1) = 2 ^ 90 * 18 ^ i * 18 := by rw [Nat.pow_succ]; grind
    have m3 : 2 ^ 90 * 18 ^ i * 18 < 2 ^ 200 := by
      have : (2 : Nat) ^ 200 = 2 ^ 190 * 1024 := by decide
      omega
    obtain ⟨X', Y', C', e1, p⟩ := undone_pt (M := M) (x := X) (y := Y) (c := C) b.rs.sz ⟨szN (Nat.le_trans (nv1 (X, Y)) (Nat.le_trans b1 q1)) w1 (by decide), szN (Nat.le_trans (nv2 (X, Y)) (Nat.le_trans b1 q1)) w1 (by decide), szN (Nat.le_trans b2 q2) w2 (by decide)⟩
      (szN d18 (by decide : 18 < 2 ^ 5) (by decide)) (Int.mul_ne_zero (by omega) hM) (by omega)
    have e2 : f x (pointD ((X, Y), C)) = .ok (pointD ((X', Y'), C')) := by rw [hf]; unfold baseD; simp only [item0, R.bind_ok, e1]
    have en := (ent3 b.rs).adj.led (X, Y)
    have k1 : nv (X', Y') ≤ 2 ^ 110 * 6 ^ (i + 1) := by
      have h1 := p.bx; have h2 := p.by'
      have h3 := nv1 (M.adj.led (X, Y)); have h4 := nv2 (M.adj.led (X, Y))
      have h5 : 2 ^ 110 * 6 ^ (i + 1) = 6 * (2 ^ 110 * 6 ^ i) := by rw [Nat.pow_succ]; grind
      exact nv_le (by show X'.natAbs ≤ _; omega) (by show Y'.natAbs ≤ _; omega)
    have k2 : C'.natAbs ≤ 2 ^ 90 * 18 ^ (i + 1) := by have := p.bc; omega
    obtain ⟨X2, Y2, C2, r1, r2, r3, r4, r5⟩ := undo_run b hM hf xs (i + 1) X' Y' C' (by omega) p.red (E_low (Int.mul_ne_zero (by omega) hM) (E_undone e) p.low) k1 k2
    refine ⟨X2, Y2, C2, by rw [forS_cons, e2]; exact r1, r2, ?_, r4, r5⟩
    rw [List.length_cons, show i + (xs.length + 1) = i + 1 + xs.length by omega]
    exact r3
theorem worth_ok {M : Tb} {ds : List Vc} (b : Base M ds) (hM : M.det ≠ 0) {v : Vc} {ks js : List Nat} (hv : nv v ≤ 97) (hk : ∀ k ∈ ks, k < ds.length) (hj : ∀ k ∈ js, k < ds.length) (lk : ks.length ≤ 12) (lj : js.length ≤ 24) (hd : (M.pw js.length).less1.det ≠ 0) :
    ∃ X Y C, m_worth (baseD M ds) (nameD v ks js) = .ok (pointD ((X, Y), C)) ∧ WorthAt M ds v ks js X Y C := by
  obtain ⟨x, y, c, e1, ra⟩ := round_ok b hj lj hd
  have bW := nv_S b hk v
  have bS := nv_S b hj zv
  have z0 : nv zv = 0 := rfl
  rw [z0] at bS
  have p24 := pow24 lj
  have p12 := pow12 lk
  have cp := ra.red.pos
  have c1 : c.natAbs ≤ 2 * 282429536482 * 282429536482 := Nat.le_trans ra.bc (mul_bd (by omega) (by omega))
  have c2 : nv (x, y) ≤ 2 * 282429536482 * 847288609443 := Nat.le_trans ra.bx (mul_bd (by omega) (by omega))
  have c3 : nv (M.row v (ks.map (dig ds))) ≤ 531441 * 100 := Nat.le_trans bW (mul_bd p12 (by omega))
  have w1 : 2 * 282429536482 * 282429536482 < 2 ^ 90 := by decide
  have w2 : 2 * 282429536482 * 847288609443 < 2 ^ 90 := by decide
  have w3 : 531441 * 100 < 2 ^ 90 := by decide
  generalize hW : M.row v (ks.map (dig ds)) = W at *
  have nW1 := nv1 W; have nW2 := nv2 W
  have nx := nv1 (x, y); have ny := nv2 (x, y)
  obtain ⟨X, Y, C, e2, p⟩ := added_pt (x := W.1) (y := W.2) (c := 1) (u := x) (v := y) (d := c) ⟨szN (Nat.le_trans nW1 c3) w3 (by decide), szN (Nat.le_trans nW2 c3) w3 (by decide), szN (by decide : (1 : Int).natAbs ≤ 1) (by decide : 1 < 2 ^ 5) (by decide), szN (Nat.le_trans nx c2) w2 (by decide), szN (Nat.le_trans ny c2) w2 (by decide), szN c1 w1 (by decide)⟩
    (by omega) (by rw [Int.one_mul]; omega)
  have E0 : E M js.length 0 W (M.row zv (js.map (dig ds))) (W.1 * c + x * 1, W.2 * c + y * 1) (1 * c) = zv := by
    have h := ra.eq
    unfold E left at h ⊢
    have q1 : vsub (M.it 0 (W.1 * c + x * 1, W.2 * c + y * 1)) (vmul (1 * c) W) = (x, y) := by apply vext <;> simp only [Tb.it, vsub, vmul] <;> grind
    have q2 : vsub (M.it 0 (x, y)) (vmul c zv) = (x, y) := by rw [vmul_z]; apply vext <;> simp [Tb.it, vsub, zv]
    rw [q2] at h
    rw [q1, Int.one_mul]; exact h
  have hc : (1 : Int) * c ≠ 0 := by omega
  have k1 : nv (X, Y) ≤ 2 ^ 110 * 6 ^ 0 := by
    have h1 := p.bx; have h2 := p.by'
    have h3 : (W.1 * c).natAbs ≤ 531441 * 100 * (2 * 282429536482 * 282429536482) := by rw [Int.natAbs_mul]; exact mul_bd (Nat.le_trans nW1 c3) c1
    have h4 : (W.2 * c).natAbs ≤ 531441 * 100 * (2 * 282429536482 * 282429536482) := by rw [Int.natAbs_mul]; exact mul_bd (Nat.le_trans nW2 c3) c1
    have h5 : 531441 * 100 * (2 * 282429536482 * 282429536482) + 2 * 282429536482 * 847288609443 ≤ 2 ^ 110 := by decide
    have nx' : x.natAbs ≤ nv (x, y) := nx
    have ny' : y.natAbs ≤ nv (x, y) := ny
    refine nv_le ?_ ?_
    · show X.natAbs ≤ _
      have := Int.natAbs_add_le (W.1 * c) (x * 1)
      rw [Int.mul_one] at this h1
      omega
    · show Y.natAbs ≤ _
      have := Int.natAbs_add_le (W.2 * c) (y * 1)
      rw [Int.mul_one] at this h2
      omega
  have k2 : C.natAbs ≤ 2 ^ 90 * 18 ^ 0 := by have := p.bc; rw [Int.one_mul] at this; omega
  obtain ⟨X', Y', C', e3, r1, r2, r3, r4⟩ := undo_run b hM (n := js.length) (W := W) (S := M.row zv (js.map (dig ds))) (f := fun x9 s10 => (item (baseD M ds) (PyData.int 0)).bind fun z12 => (m_point_undone z12 s10).bind fun z13 => R.ok z13) (fun _ _ => rfl) (ks.map numD) 0 X Y C (by rw [List.length_map]; omega) p.red (E_low hc E0 p.low) k1 k2
  rw [List.length_map, Nat.zero_add] at r2
  refine ⟨X', Y', C', ?_, r1, by rw [hW]; exact r2, ?_, ?_⟩
  · unfold m_worth nameD
    have rw1 := rowW_ok b ks v hk hv (by omega)
    rw [hW] at rw1
    have po : m_point_of (lotD W) = .ok (pointD ((W.1, W.2), 1)) := by unfold m_point_of; rfl
    simp only [un3_t, R.bind_ok, rw1, po, e1, e2, iter_t, e3]
  · have : 2 ^ 110 * 6 ^ 12 < 2 ^ 200 := by decide
    omega
  · have : 2 ^ 90 * 18 ^ 12 < 2 ^ 200 := by decide
    omega
end Sm
end K11

set_option autoImplicit false
set_option linter.all false
set_option maxRecDepth 100000
set_option exponentiation.threshold 20000
namespace K11
open PySem L2 Z
/-- w is led from some lot -/
def Cg (M : Tb) (w : Vc) : Prop := M.det ∣ (M.adj.led w).1 ∧ M.det ∣ (M.adj.led w).2
instance (M : Tb) (w : Vc) : Decidable (Cg M w) := inferInstanceAs (Decidable (_ ∧ _))
theorem fmod_zero {i j : Int} : i.fmod j = 0 ↔ j ∣ i := ⟨Int.dvd_of_fmod_eq_zero, fun h => Int.fmod_eq_zero_of_dvd h⟩
def back (M : Tb) (w : Vc) : Vc := ((M.adj.led w).1.fdiv M.det, (M.adj.led w).2.fdiv M.det)
theorem back_led {M : Tb} {w : Vc} (hM : M.det ≠ 0) (h : Cg M w) : M.led (back M w) = w := by
  have e : vmul M.det (back M w) = M.adj.led w := vext (Int.mul_fdiv_cancel' h.1) (Int.mul_fdiv_cancel' h.2)
  have e2 := led_adj M w
  rw [← e, led_mul] at e2
  exact vext (Int.eq_of_mul_eq_mul_left hM (congrArg Prod.fst e2)) (Int.eq_of_mul_eq_mul_left hM (congrArg Prod.snd e2))
theorem undone_ok {M : Tb} {w : Vc} (r : RS M) (hM : M.det ≠ 0) (hw : SzV w) : m_lot_undone (tabD M) (lotD w) = .ok (if Cg M w then lotD (back M w) else .none) := by
  have hA : SzT M.adj := by
    obtain ⟨a1, a2, a3, a4⟩ := r.sz
    exact ⟨a4, by unfold Sz at *; simpa [Tb.adj] using a2, by unfold Sz at *; simpa [Tb.adj] using a3, a1⟩
  have bd : bigD M.det = true := bigD_of (k := 10) (Nat.lt_of_le_of_lt (det_bd r) (by decide)) (by decide)
  unfold m_lot_undone
  refine bok (det_ok r.sz) <| bok (other_ok M) <| bok (led_ok hA hw) ?_
  have f1 := fmod_zero (i := (M.adj.led w).1) (j := M.det)
  have f2 := fmod_zero (i := (M.adj.led w).2) (j := M.det)
  by_cases c1 : M.det ∣ (M.adj.led w).1
  · by_cases c2 : M.det ∣ (M.adj.led w).2
    · have c : Cg M w := ⟨c1, c2⟩
      rw [if_pos c]
      refine bok (a := false) (bok (item0 _ _) <| bok (fmod_i hM) <| bok (ne_i _ _) ?_) ?_
      · rw [f1.mpr c1, if_neg (by decide)]
        exact bok (item1 _ _ _) <| bok (fmod_i hM) <| bok (ne_i _ _) (by rw [f2.mpr c2]; rfl)
      · rw [if_neg Bool.false_ne_true]
        exact bok (item0 _ _) <| bok (fdiv_i hM bd) <| bok (item1 _ _ _) <| bok (fdiv_i hM bd) rfl
    · have c : ¬ Cg M w := fun h => c2 h.2
      rw [if_neg c]
      refine bok (a := true) (bok (item0 _ _) <| bok (fmod_i hM) <| bok (ne_i _ _) ?_) rfl
      rw [f1.mpr c1, if_neg (by decide)]
      exact bok (item1 _ _ _) <| bok (fmod_i hM) <| bok (ne_i _ _) (by rw [decide_eq_false (fun q => c2 (f2.mp q))]; rfl)
  · have c : ¬ Cg M w := fun h => c1 h.1
    rw [if_neg c]
    refine bok (a := true) (bok (item0 _ _) <| bok (fmod_i hM) <| bok (ne_i _ _) ?_) rfl
    rw [decide_eq_false (fun q => c1 (f1.mp q))]; rfl
theorem cg_self (M : Tb) (v : Vc) : Cg M (vsub v v) := by
  rw [vsub_self]
  have : M.adj.led zv = zv := by apply vext <;> simp [Tb.led, zv]
  unfold Cg; rw [this]; exact ⟨Int.dvd_zero _, Int.dvd_zero _⟩
theorem cg_trans {M : Tb} {u v w : Vc} (h1 : Cg M (vsub u v)) (h2 : Cg M (vsub v w)) : Cg M (vsub u w) := by
  have e : vsub u w = vadd (vsub u v) (vsub v w) := by apply vext <;> simp only [vsub, vadd] <;> omega
  unfold Cg at *
  rw [e, led_add]
  exact ⟨Int.dvd_add h1.1 h2.1, Int.dvd_add h1.2 h2.2⟩
/-- some found one is of the lot's rest -/
def hasCg (M : Tb) (v : Vc) (fs : List Vc) : Bool := fs.any fun d => decide (Cg M (vsub v d))
theorem notNone_lot (v : Vc) : isNone (lotD v) = false := rfl
theorem enum_lots (ds : List Vc) : enumD (ds.map lotD) = (List.range ds.length).map fun i => PyData.tuple [.int (i : Nat), lotD (dig ds i)] := by
  apply List.ext_getElem?
  intro i
  rw [enumD_at, List.getElem?_map, List.getElem?_map]
  by_cases h : i < ds.length
  · rw [List.getElem?_range h, List.getElem?_eq_getElem h]
    simp [dig, List.getD, List.getElem?_eq_getElem h]
  · rw [List.getElem?_eq_none (by omega), List.getElem?_eq_none (by simp; omega)]; rfl
theorem back_ok {M : Tb} {ds : List Vc} (r : RS M) (hM : M.det ≠ 0) (hd : ∀ d ∈ ds, nv d ≤ 3) (hl : ds.length ≤ 50) {v : Vc} (hv : nv v ≤ 100) (hc : ∃ d ∈ ds, Cg M (vsub v d)) :
    ∃ i, i < ds.length ∧ Cg M (vsub v (dig ds i)) ∧ m_lot_back (baseD M ds) (lotD v) = .ok (.tuple [.int (i : Nat), lotD (back M (vsub v (dig ds i)))]) := by
  have c1 : compL ((List.range ds.length).map fun i => PyData.tuple [.int (i : Nat), lotD (dig ds i)]) (fun x3 => (un2 x3).bind fun (p4, p5) => (item (baseD M ds) (PyData.int 0)).bind fun z6 => (m_lots_less (lotD v) p5).bind fun z7 => (m_lot_undone z6 z7).bind fun z8 => R.ok (some (PyData.tuple [p4, z8]))) =
      .ok ((List.range ds.length).map fun i => PyData.tuple [.int (i : Nat), if Cg M (vsub v (dig ds i)) then lotD (back M (vsub v (dig ds i))) else .none]) := by
    refine compL_all (by rw [List.length_range]; omega) fun i hi => ?_
    have hi' : i < ds.length := List.mem_range.mp hi
    have hs : SzV (vsub v (dig ds i)) := SzV.of (k := 10) (by have := nv_sub v (dig ds i); have := hd _ (dig_mem hi'); omega) (by decide)
    exact bok (un2_t _ _) <| bok (item0 _ _) <| bok (less_ok _ _) <| bok (undone_ok r hM hs) rfl
  have c2 : ∀ l : List Nat, (∀ i ∈ l, i < ds.length) → ∃ is : List Nat, compP (l.map fun i => PyData.tuple [.int (i : Nat), if Cg M (vsub v (dig ds i)) then lotD (back M (vsub v (dig ds i))) else .none]) (fun x11 => (item x11 (PyData.int 1)).bind fun z12 => if (!isNone z12) = true then R.ok (some x11) else R.ok none) =
      .ok (is.map fun i => PyData.tuple [.int (i : Nat), lotD (back M (vsub v (dig ds i)))]) ∧ (∀ i ∈ is, i < ds.length ∧ Cg M (vsub v (dig ds i))) ∧ (∀ i ∈ l, Cg M (vsub v (dig ds i)) → i ∈ is) := by
    intro l
    induction l with
    | nil => exact fun _ => ⟨[], rfl, by simp, by simp⟩
    | cons i l ih =>
      intro h
      obtain ⟨is, e, q1, q2⟩ := ih fun j hj => h j (by simp [hj])
      by_cases c : Cg M (vsub v (dig ds i))
      · refine ⟨i :: is, ?_, fun j hj => ?_, fun j hj hc => ?_⟩
        · rw [List.map_cons, if_pos c]
          exact bok (a := some (PyData.tuple [.int (i : Nat), lotD (back M (vsub v (dig ds i)))])) (bok (item1 _ _ _) (by rw [notNone_lot]; rfl)) <| bok e rfl
        · rcases List.mem_cons.mp hj with q | q
          · subst q; exact ⟨h j (by simp), c⟩
          · exact q1 j q
        · rcases List.mem_cons.mp hj with q | q
          · subst q; simp
          · simp [q2 j q hc]
      · refine ⟨is, ?_, q1, fun j hj hc => ?_⟩
        · rw [List.map_cons, if_neg c]
          exact bok (a := none) (bok (item1 _ _ _) rfl) <| bok e rfl
        · rcases List.mem_cons.mp hj with q | q
          · subst q; exact absurd hc c
          · exact q2 j q hc
  obtain ⟨is, e, q1, q2⟩ := c2 (List.range ds.length) fun i hi => List.mem_range.mp hi
  obtain ⟨d, hd1, hd2⟩ := hc
  obtain ⟨i0, hi0, ei0⟩ := List.getElem_of_mem hd1
  have m0 : i0 ∈ is := q2 i0 (List.mem_range.mpr hi0) (by
    have : dig ds i0 = d := by simp [dig, List.getD, List.getElem?_eq_getElem hi0, ei0]
    rw [this]; exact hd2)
  cases is with
  | nil => simp at m0
  | cons i is =>
    obtain ⟨a1, a2⟩ := q1 i (by simp)
    refine ⟨i, a1, a2, ?_⟩
    unfold m_lot_back
    refine bok (item1 _ _ _) <| bok (iterL_t _) <| bok (by rw [enum_lots]; exact c1) <| bok (iter_l _) <| bok (by rw [compL_of (by simp; omega)]; exact e) <| bok (item_l0 _ _) rfl

/-! ### dicts of lots by number -/
def dkA : Nat → List Vc → List (D × D)
  | _, [] => []
  | i, v :: l => (lotD v, .int (i : Int)) :: dkA (i + 1) l
def lotK (v : Vc) : NestedKey := .tup [.num v.1, .num v.2]
theorem nk_lot (v : Vc) : nk (lotD v) = some (lotK v) := rfl
theorem keyN_lot (v : Vc) : keyN (lotD v) = some (lotK v) := by
  have : keyN (lotD v) = (nk (lotD v)).bind fun k => if decide (k.depth ≤ 8) then some k else none := rfl
  rw [this, nk_lot]
  show (if decide ((lotK v).depth ≤ 8) then some (lotK v) else none) = _
  rw [if_pos]
  simp [lotK, NestedKey.depth, NestedKey.depthAll]
theorem lotK_inj {u v : Vc} (h : lotK u = lotK v) : u = v := by
  simp only [lotK, NestedKey.tup.injEq, List.cons.injEq, NestedKey.num.injEq, and_true] at h
  exact Prod.ext h.1 h.2
theorem dkA_len : ∀ (l : List Vc) (i : Nat), (dkA i l).length = l.length
  | [], _ => rfl
  | v :: l, i => by simp [dkA, dkA_len l]
theorem dkA_snoc (v : Vc) : ∀ (l : List Vc) (i : Nat), dkA i (l ++ [v]) = dkA i l ++ [(lotD v, .int ((i + l.length : Nat) : Int))]
  | [], i => by simp [dkA]
  | u :: l, i => by
    simp only [List.cons_append, dkA, dkA_snoc v l (i + 1), List.length_cons]
    rw [show i + 1 + l.length = i + (l.length + 1) by omega]
theorem dget_no {v : Vc} : ∀ {l : List Vc} {i : Nat}, v ∉ l → dGet (dkA i l) (lotK v) = none
  | [], _, _ => rfl
  | u :: l, i, h => by
    have h1 : ¬ v = u := fun e => h (by simp [e])
    have h2 : v ∉ l := fun e => h (by simp [e])
    have ih := dget_no (v := v) (l := l) (i := i + 1) h2
    unfold dGet at ih ⊢
    rw [dkA, List.find?_cons, decide_eq_false (show ¬ nk (lotD u) = some (lotK v) from fun e => h1 (lotK_inj (Option.some.inj (by rw [nk_lot] at e; exact e))).symm)]
    exact ih
theorem dget_at {v : Vc} : ∀ {l : List Vc} {i j : Nat}, l[j]? = some v → (∀ k, k < j → l[k]? ≠ some v) → dGet (dkA i l) (lotK v) = some (.int ((i + j : Nat) : Int))
  | [], _, _, h, _ => by simp at h
  | u :: l, i, 0, h, _ => by
    have : u = v := by simpa using h
    subst this
    unfold dGet
    rw [dkA, List.find?_cons, decide_eq_true (nk_lot u)]; rfl
  | u :: l, i, j + 1, h, hn => by
    have h1 : ¬ v = u := fun e => hn 0 (by omega) (by simp [e])
    have ih := dget_at (v := v) (l := l) (i := i + 1) (j := j) (by simpa using h) fun k hk => by simpa using hn (k + 1) (by omega)
    unfold dGet at ih ⊢
    rw [dkA, List.find?_cons, decide_eq_false (show ¬ nk (lotD u) = some (lotK v) from fun e => h1 (lotK_inj (Option.some.inj (by rw [nk_lot] at e; exact e))).symm)]
    rw [show i + (j + 1) = i + 1 + j by omega]
    exact ih
/-! ### sequences that come again -/
def sq (s : Nat → Vc) (n : Nat) : List Vc := (List.range n).map s
theorem sq_snoc (s : Nat → Vc) (n : Nat) : sq s (n + 1) = sq s n ++ [s n] := by simp [sq, List.range_succ]
theorem sq_len (s : Nat → Vc) (n : Nat) : (sq s n).length = n := by simp [sq]
theorem sq_get {s : Nat → Vc} {n i : Nat} (h : i < n) : (sq s n)[i]? = some (s i) := by simp [sq, h]
theorem sq_mem {s : Nat → Vc} {n : Nat} {v : Vc} : v ∈ sq s n ↔ ∃ i, i < n ∧ s i = v := by simp [sq]
/-- the first that was there before -/
theorem first_rep {s : Nat → Vc} : ∀ N, (∃ j, j < N ∧ s N = s j) → ∃ n j, j < n ∧ n ≤ N ∧ s n = s j ∧ ∀ i k, i < k → k < n → s k ≠ s i
  | N, ⟨j, h1, h2⟩ => by
    by_cases c : ∃ i k, i < k ∧ k < N ∧ s k = s i
    · obtain ⟨i, k, c1, c2, c3⟩ := c
      obtain ⟨n, j', a, b, d, e⟩ := first_rep k ⟨i, c1, c3⟩
      exact ⟨n, j', a, by omega, d, e⟩
    · exact ⟨N, j, h1, Nat.le_refl _, h2, fun i k a b e => c ⟨i, k, a, b, e⟩⟩
theorem notin_sq {s : Nat → Vc} {n m : Nat} (hm : m < n) (hn : ∀ i k, i < k → k < n → s k ≠ s i) : notInD (lotD (s m)) (.dict (dkA 0 (sq s m))) = .ok true := by
  have : inD (lotD (s m)) (.dict (dkA 0 (sq s m))) = .ok false := by
    show (match keyN (lotD (s m)) with | some k => R.ok (dGet (dkA 0 (sq s m)) k).isSome | none => .stuck) = _
    rw [keyN_lot]
    show R.ok (dGet (dkA 0 (sq s m)) (lotK (s m))).isSome = _
    rw [dget_no]; rfl
    intro h
    obtain ⟨i, h1, h2⟩ := sq_mem.mp h
    exact hn i m h1 hm h2.symm
  unfold notInD
  rw [this]; rfl
theorem get_sq {s : Nat → Vc} {n j : Nat} (hj : j < n) (hn : ∀ i k, i < k → k < n → s k ≠ s i) : dGet (dkA 0 (sq s n)) (lotK (s j)) = some (.int (j : Int)) := by
  have := dget_at (v := s j) (l := sq s n) (i := 0) (j := j) (sq_get hj) fun k hk e => by
    rw [sq_get (by omega)] at e
    exact hn k j hk hj (Option.some.inj e).symm
  rwa [Nat.zero_add] at this
theorem in_sq {s : Nat → Vc} {n j : Nat} (hj : j < n) (e : s n = s j) (hn : ∀ i k, i < k → k < n → s k ≠ s i) : notInD (lotD (s n)) (.dict (dkA 0 (sq s n))) = .ok false := by
  have : inD (lotD (s n)) (.dict (dkA 0 (sq s n))) = .ok true := by
    show (match keyN (lotD (s n)) with | some k => R.ok (dGet (dkA 0 (sq s n)) k).isSome | none => .stuck) = _
    rw [keyN_lot]
    show R.ok (dGet (dkA 0 (sq s n)) (lotK (s n))).isSome = _
    rw [e, get_sq hj hn]; rfl
  unfold notInD
  rw [this]; rfl
theorem item_sq {s : Nat → Vc} {n j : Nat} (hj : j < n) (e : s n = s j) (hn : ∀ i k, i < k → k < n → s k ≠ s i) : item (.dict (dkA 0 (sq s n))) (lotD (s n)) = .ok (.int (j : Int)) := by
  show (match keyN (lotD (s n)) with | some k => (match dGet (dkA 0 (sq s n)) k with | some v => R.ok v | none => .stuck) | none => .stuck) = _
  rw [keyN_lot]
  show (match dGet (dkA 0 (sq s n)) (lotK (s n)) with | some v => R.ok v | none => .stuck) = _
  rw [e, get_sq hj hn]
theorem set_sq {s : Nat → Vc} {n m : Nat} (hm : m < n) (hz : m < 10000) (hn : ∀ i k, i < k → k < n → s k ≠ s i) : setDM (dkA 0 (sq s m)) (lotD (s m)) (.int (m : Int)) = .ok (dkA 0 (sq s (m + 1))) := by
  have no : dGet (dkA 0 (sq s m)) (lotK (s m)) = none := dget_no fun h => by
    obtain ⟨i, h1, h2⟩ := sq_mem.mp h
    exact hn i m h1 hm h2.symm
  unfold setDM
  rw [keyN_lot]
  show (if decide ((dkA 0 (sq s m)).length < 16777216) = true then R.ok (dSet (dkA 0 (sq s m)) (lotD (s m)) (lotK (s m)) (.int (m : Int))) else .stuck) = _
  rw [if_pos (by rw [dkA_len, sq_len]; exact decide_eq_true (by omega)), sq_snoc, dkA_snoc, sq_len, Nat.zero_add]
  unfold dSet
  rw [no]; rfl
/-! ### one step back -/
theorem rback_ok {M : Tb} {ds : List Vc} (hM : M ∈ tables) (b : Base M ds) (hl : ds.length ≤ 50) (hc : ∀ v : Vc, ∃ d ∈ ds, Cg M (vsub v d)) {C : Int} (hC : 0 < C) (hb : C.natAbs < 2 ^ 200) {a r z : Vc} (h1 : 0 ≤ a.1) (h2 : a.1 < C) (h3 : 0 ≤ a.2) (h4 : a.2 < C)
    (hr : r.1.natAbs ≤ (11 * C).natAbs ∧ r.2.natAbs ≤ (11 * C).natAbs) (hz : vsub (M.led a) r = vmul C z) : ∃ (k : Nat) (r' l : Vc), m_remainder_back (baseD M ds) (.int C) (lotD a) (lotD r) = .ok (.tuple [numD k, lotD r']) ∧ k < ds.length ∧ M.led r' = vadd r (vmul C (dig ds k)) ∧ r' = vsub a (vmul C l) := by
  have rs := tables_rs M hM
  have hd := (tables_det M hM).1
  have na : nv a ≤ C.natAbs := nv_le (by omega) (by omega)
  have nla := nv_led rs a
  have z1 := congrArg Prod.fst hz
  have z2 := congrArg Prod.snd hz
  simp only [vsub, vmul] at z1 z2
  have l1 := nv1 (M.led a)
  have l2 := nv2 (M.led a)
  have bz : ∀ {x y w : Int}, x - y = C * w → x.natAbs ≤ 3 * C.natAbs → y.natAbs ≤ (11 * C).natAbs → w.natAbs ≤ 14 := fun {x y w} e q1 q2 => by
    have m : C.natAbs * w.natAbs ≤ C.natAbs * 14 := by
      rw [← Int.natAbs_mul, ← e]; omega
    exact Nat.le_of_mul_le_mul_left m (by omega)
  have w1 := bz z1 (by omega) hr.1
  have w2 := bz z2 (by omega) hr.2
  have nz : nv z ≤ 100 := nv_le (by omega) (by omega)
  obtain ⟨i, i1, i2, i3⟩ := back_ok rs hd b.dg hl nz (hc z)
  have bl := back_led hd i2
  have cn : C ≠ 0 := by omega
  have cb : bigD C = true := bigD_of (k := 200) hb (by decide)
  refine ⟨i, vsub a (vmul C (back M (vsub z (dig ds i)))), _, ?_, i1, ?_, rfl⟩
  · unfold m_remainder_back
    have sa : SzV a := SzV.of (k := 200) (Nat.lt_of_le_of_lt na hb) (by decide)
    have f1 : fdiv (.int (vsub (M.led a) r).1) (.int C) = .ok (.int z.1) := by
      rw [hz, fdiv_i cn cb]; congr 2; exact Int.mul_fdiv_cancel_left _ cn
    have f2 : fdiv (.int (vsub (M.led a) r).2) (.int C) = .ok (.int z.2) := by
      rw [hz, fdiv_i cn cb]; congr 2; exact Int.mul_fdiv_cancel_left _ cn
    have sC : Sz C := szN (Nat.le_of_lt hb) (by decide : 2 ^ 200 < 2 ^ 201) (by decide)
    have sl : Sz (back M (vsub z (dig ds i))).1 ∧ Sz (back M (vsub z (dig ds i))).2 := by
      have e1 := congrArg Prod.fst bl
      have nd := nv_sub z (dig ds i)
      have ndg := b.dg _ (dig_mem i1)
      have ad : ∀ {x : Int}, x.natAbs ≤ 6 * nv (vsub z (dig ds i)) → Sz (x.fdiv M.det) := fun {x} hx => by
        have : (x.fdiv M.det).natAbs ≤ x.natAbs := by
          rcases Int.lt_or_gt_of_ne hd with q | q
          · have e : x.fdiv M.det = (-x).fdiv (-M.det) := by rw [Int.neg_fdiv_neg]
            rw [e, Int.fdiv_eq_ediv_of_nonneg _ (by omega)]
            exact Nat.le_trans (Int.natAbs_ediv_le_natAbs _ _) (by rw [Int.natAbs_neg]; exact Nat.le_refl _)
          · rw [Int.fdiv_eq_ediv_of_nonneg _ (by omega)]; exact Int.natAbs_ediv_le_natAbs _ _
        exact szN (Nat.le_trans this hx) (show 6 * nv (vsub z (dig ds i)) < 2 ^ 20 by omega) (by decide)
      have en := (ent3 rs).adj.led (vsub z (dig ds i))
      exact ⟨ad (Nat.le_trans (nv1 _) en), ad (Nat.le_trans (nv2 _) en)⟩
    have u2 : ∀ v : Vc, un2 (lotD v) = .ok (.int v.1, .int v.2) := fun _ => rfl
    have it0 : ∀ v : Vc, item (lotD v) (PyData.int 0) = .ok (.int v.1) := fun _ => item0 _ _
    have it1 : ∀ v : Vc, item (lotD v) (PyData.int 1) = .ok (.int v.2) := fun _ => item1 _ _ _
    exact bok (item0 _ _) <| bok (led_ok rs.sz sa) <| bok (less_ok _ _) <| bok (u2 _) <| bok f1 <| bok f2 <| bok i3 <| bok (un2_t _ _) <| bok (it0 a) <| bok (it0 _) <| bok (mul_i sC sl.1) <| bok (sub_i _ _) <| bok (it1 a) <| bok (it1 _) <| bok (mul_i sC sl.2) <| bok (sub_i _ _) rfl
  · rw [led_sub, led_mul, bl]
    have e : M.led a = vadd r (vmul C z) := by rw [← hz]; apply vext <;> simp only [vsub, vadd] <;> omega
    rw [e]
    apply vext <;> simp only [vsub, vadd, vmul] <;> grind
end K11

set_option autoImplicit false
set_option linter.all false
set_option maxRecDepth 100000
set_option exponentiation.threshold 20000
namespace K11
open PySem L2 Z
def md (C : Int) (v : Vc) : Vc := (v.1.fmod C, v.2.fmod C)
def hs (M : Tb) (C : Int) (p : Vc) : Nat → Vc
  | 0 => md C p
  | n + 1 => md C (M.led (hs M C p n))
structure Rg (C : Int) (v : Vc) : Prop where
  a : 0 ≤ v.1
  b : v.1 < C
  c : 0 ≤ v.2
  d : v.2 < C
section
variable {M : Tb} {C : Int} {p : Vc}
theorem md_rg (hC : 0 < C) (v : Vc) : Rg C (md C v) := ⟨Int.fmod_nonneg_of_pos _ hC, Int.fmod_lt_of_pos _ hC, Int.fmod_nonneg_of_pos _ hC, Int.fmod_lt_of_pos _ hC⟩
theorem hs_rg (hC : 0 < C) : ∀ n, Rg C (hs M C p n)
  | 0 => md_rg hC _
  | n + 1 => md_rg hC _
theorem md_cg (C : Int) (v : Vc) : v = vadd (md C v) (vmul C (v.1.fdiv C, v.2.fdiv C)) := by
  have e : ∀ x : Int, C * x.fdiv C + x.fmod C = x := fun x => Int.mul_fdiv_add_fmod x C
  apply vext
  · have := e v.1; simp only [vadd, vmul, md]; omega
  · have := e v.2; simp only [vadd, vmul, md]; omega
theorem hs_cg : ∀ n, ∃ l, M.it n p = vadd (hs M C p n) (vmul C l)
  | 0 => ⟨_, md_cg C p⟩
  | n + 1 => by
    obtain ⟨l, e⟩ := hs_cg n
    refine ⟨vadd ((M.led (hs M C p n)).1.fdiv C, (M.led (hs M C p n)).2.fdiv C) (M.led l), ?_⟩
    show M.led (M.it n p) = _
    rw [e, led_add, led_mul]
    conv => lhs; rw [md_cg C (M.led (hs M C p n))]
    show _ = vadd (md C (M.led (hs M C p n))) _
    apply vext <;> simp only [vadd, vmul] <;> grind
theorem rg_uniq {u v l : Vc} (hu : Rg C u) (hv : Rg C v) (e : u = vadd v (vmul C l)) : u = v := by
  have e1 := congrArg Prod.fst e
  have e2 := congrArg Prod.snd e
  simp only [vadd, vmul] at e1 e2
  have one : ∀ {x y w : Int}, 0 ≤ x → x < C → 0 ≤ y → y < C → x = y + C * w → x = y := fun {x y w} a b c d h => by
    have w0 : w = 0 := by
      rcases Int.lt_trichotomy w 0 with q | q | q
      · have : C * w ≤ C * (-1) := Int.mul_le_mul_of_nonneg_left (by omega) (by omega)
        omega
      · exact q
      · have : C * 1 ≤ C * w := Int.mul_le_mul_of_nonneg_left (by omega) (by omega)
        omega
    rw [h, w0]; omega
  exact vext (one hu.a hu.b hv.a hv.b e1) (one hu.c hu.d hv.c hv.d e2)
theorem hs_shift {a b : Nat} (h : hs M C p a = hs M C p b) : ∀ i, hs M C p (a + i) = hs M C p (b + i)
  | 0 => h
  | i + 1 => by
    show md C (M.led (hs M C p (a + i))) = md C (M.led (hs M C p (b + i)))
    rw [hs_shift h i]
theorem hs_rep (hC : 0 < C) {n k : Nat} {W S : Vc} (h : E M n k W S p C = zv) : hs M C p (k + n) = hs M C p k := by
  rw [E_iff] at h
  unfold left at h
  rw [it_sub, it_mul, it_it] at h
  obtain ⟨l1, e1⟩ := hs_cg (M := M) (C := C) (p := p) (k + n)
  obtain ⟨l2, e2⟩ := hs_cg (M := M) (C := C) (p := p) k
  rw [Nat.add_comm n k, e1, e2] at h
  refine rg_uniq (l := vadd (vsub l2 l1) (vadd S (vsub (M.it n W) W))) (hs_rg hC _) (hs_rg hC _) ?_
  have h1 := congrArg Prod.fst h
  have h2 := congrArg Prod.snd h
  simp only [vsub, vadd, vmul] at h1 h2
  apply vext <;> simp only [vsub, vadd, vmul] <;> grind
/-- the classes come round soon -/
theorem hs_first (hC : 0 < C) {n k : Nat} {W S : Vc} (hn : 1 ≤ n) (h : E M n k W S p C = zv) : ∃ m j, j < m ∧ m ≤ k + n ∧ m ≤ j + n ∧ hs M C p m = hs M C p j ∧ ∀ i l, i < l → l < m → hs M C p l ≠ hs M C p i := by
  have rep := hs_rep hC h
  obtain ⟨m, j, h1, h2, h3, h4⟩ := first_rep (s := hs M C p) (k + n) ⟨k, by omega, rep⟩
  refine ⟨m, j, h1, h2, ?_, h3, h4⟩
  by_cases c : m ≤ j + n
  · exact c
  · exfalso
    have cyc : ∀ i, hs M C p (j + (m - j) * i) = hs M C p j := by
      intro i
      induction i with
      | zero => rfl
      | succ i ih =>
        have := hs_shift h3 ((m - j) * i)
        rw [show m + (m - j) * i = j + (m - j) * (i + 1) by rw [Nat.mul_add]; omega] at this
        rw [this, ih]
    have big : k ≤ j + (m - j) * k := by
      have : 1 * k ≤ (m - j) * k := Nat.mul_le_mul_right _ (by omega)
      omega
    have e1 := hs_shift (cyc k) n
    have e2 := hs_shift rep (j + (m - j) * k - k)
    rw [show k + n + (j + (m - j) * k - k) = j + (m - j) * k + n by omega, show k + (j + (m - j) * k - k) = j + (m - j) * k by omega] at e2
    rw [e2, cyc k] at e1
    exact h4 j (j + n) (by omega) (by omega) e1.symm
end
/-- the classes as the program tells them -/
theorem classes_ok {M : Tb} (hM : M ∈ tables) {C : Int} (hC : 0 < C) (hb : C.natAbs < 2 ^ 200) {p : Vc} {m j : Nat} (h1 : j < m) (h2 : m ≤ 150) (h3 : hs M C p m = hs M C p j) (h4 : ∀ i l, i < l → l < m → hs M C p l ≠ hs M C p i) :
    m_classes_of (tabD M) (pointD (p, C)) = .ok (.tuple [.list ((sq (hs M C p) m).map lotD), .int (j : Int)]) := by
  have rs := tables_rs M hM
  have cn : C ≠ 0 := by omega
  let s := hs M C p
  let st : Nat → D × List D × List (D × D) := fun i => (lotD (s i), (sq s i).map lotD, dkA 0 (sq s i))
  let f : D × List D × List (D × D) → R (Wl (D × List D × List (D × D))) := fun s7 =>
    ((notInD s7.1 (PyData.dict s7.2.2)).bind fun z10 =>
R.ok z10).bind fun t11 =>
if t11 = true then
((lenD (PyData.list s7.2.1)).bind fun z12 =>
(eqD z12 (PyData.int 200)).bind fun z13 =>
R.ok z13).bind fun t14 =>
if t14 = true then
.stuck
else
(flatR ((lenD (PyData.list s7.2.1)).bind fun z15 =>
R.ok z15)).bind fun z16 =>
(setDM s7.2.2 s7.1 z16).bind fun y17 =>
(pushM s7.2.1 [s7.1]).bind fun (z18, y19) =>
(m_lot_led (tabD M) s7.1).bind fun z20 =>
(un2 z20).bind fun (p21, p22) =>
(fmod p21 (.int C)).bind fun z23 =>
(fmod p22 (.int C)).bind fun z24 =>
R.ok (.go ((PyData.tuple [z23, z24]), y19, y17))
else
R.ok (.done (s7.1, s7.2.1, s7.2.2))
  have ln : ∀ i, lenD (.list ((sq s i).map lotD)) = .ok (.int (i : Int)) := fun i => by rw [len_l, List.length_map, sq_len]
  have run : ∀ (d i n : Nat), i + d = m → d < n → whileT n (st i) f = .ok (.nx (st m)) := by
    intro d
    induction d with
    | zero =>
      intro i n e1 e2
      obtain ⟨n, rfl⟩ : ∃ k, n = k + 1 := ⟨n - 1, by omega⟩
      have : i = m := by omega
      subst this
      rw [whileT]
      exact bok (a := Wl.done (st i)) (bokF (bok (in_sq h1 h3 h4) rfl) rfl) rfl
    | succ d ih =>
      intro i n e1 e2
      obtain ⟨n, rfl⟩ : ∃ k, n = k + 1 := ⟨n - 1, by omega⟩
      rw [whileT]
      refine bok (a := Wl.go (st (i + 1))) ?_ (by exact ih (i + 1) n (by omega) (by omega))
      have r := hs_rg (M := M) (p := p) hC i
      have sv : SzV (s i) := SzV.of (k := 200) (Nat.lt_of_le_of_lt (nv_le (n := C.natAbs) (by have := r.a; have := r.b; show (hs M C p i).1.natAbs ≤ _; omega) (by have := r.c; have := r.d; show (hs M C p i).2.natAbs ≤ _; omega)) hb) (by decide)
      have q200 : eqD (.int (i : Int)) (PyData.int 200) = .ok false := by rw [eq_i, decide_eq_false (by omega)]
      have fl : flatR ((lenD (.list ((sq s i).map lotD))).bind fun z15 => R.ok z15) = .ok (.int (i : Int)) := by rw [ln]; rfl
      have u2 : ∀ v : Vc, un2 (lotD v) = .ok (.int v.1, .int v.2) := fun _ => rfl
      refine bokT (bok (notin_sq (m := i) (by omega) h4) rfl) <| bokF (bok (ln i) <| bok q200 rfl) <| bok fl <| bok (set_sq (m := i) (by omega) (by omega) h4) <| bok (push1 _ _ (by rw [List.length_map, sq_len]; omega)) <| bok (led_ok rs.sz sv) <| bok (u2 _) <| bok (fmod_i cn) <| bok (fmod_i cn) ?_
      show R.ok (Wl.go (lotD (s (i + 1)), (sq s i).map lotD ++ [lotD (s i)], dkA 0 (sq s (i + 1)))) = R.ok (Wl.go (st (i + 1)))
      congr 2
      show _ = (lotD (s (i + 1)), (sq s (i + 1)).map lotD, dkA 0 (sq s (i + 1)))
      rw [sq_snoc s i, List.map_append, List.map_singleton]
  have go := run m 0 100000 (by omega) (by omega)
  unfold m_classes_of
  have u2 : un2 (pointD (p, C)) = .ok (lotD p, .int C) := rfl
  have u2' : un2 (lotD p) = .ok (.int p.1, .int p.2) := rfl
  refine bok u2 <| bok u2' <| bok (fmod_i cn) <| bok (fmod_i cn) <| bok (by exact go) ?_
  exact bok (item_sq h1 h3 h4) rfl
/-- back over classes -/
theorem cback_run {M : Tb} {ds : List Vc} (hM : M ∈ tables) (b : Base M ds) (hd2 : ∀ d ∈ ds, nv d ≤ 2) (hl : ds.length ≤ 50) (hc : ∀ v : Vc, ∃ d ∈ ds, Cg M (vsub v d)) {C : Int} (hC : 0 < C) (hb : C.natAbs < 2 ^ 200) {p : Vc} (s : Nat) {f : D → D × List D → R (D × List D)}
    (hf : ∀ x3 s4, f x3 s4 = (m_remainder_back (baseD M ds) (.int C) x3 s4.1).bind fun z6 => (un2 z6).bind fun (p7, p8) => (pushM s4.2 [p7]).bind fun (z9, y10) => R.ok (p8, y10)) :
    ∀ (m : Nat) (r : Vc) (fs0 : List Nat), fs0.length + m ≤ 1000 → (∃ l, r = vadd (hs M C p (s + m)) (vmul C l)) → (fm M).q r ≤ 6 * (C * C * dm M) → ∃ (fs : List Nat) (r' : Vc), forS (((List.range' s m).reverse.map (hs M C p)).map lotD) (lotD r, fs0.map numD) f = .ok (lotD r', (fs0 ++ fs).map numD) ∧ fs.length = m ∧ (∀ k ∈ fs, k < ds.length) ∧
      M.it m r' = vadd r (vmul C (M.row zv (fs.reverse.map (dig ds)))) ∧ (∃ l, r' = vadd (hs M C p s) (vmul C l)) ∧ (fm M).q r' ≤ 6 * (C * C * dm M)
  | 0, r, fs0, _, hr, hq => ⟨[], r, by simp [forS_nil], rfl, by simp, by
      show r = vadd r (vmul C zv)
      rw [vmul_z]; apply vext <;> simp [vadd, zv], hr, hq⟩
  | m + 1, r, fs0, hlen, ⟨l, hr⟩, hq => by
    have rg := hs_rg (M := M) (C := C) (p := p) hC (s + m)
    have hz : vsub (M.led (hs M C p (s + m))) r = vmul C (vsub ((M.led (hs M C p (s + m))).1.fdiv C, (M.led (hs M C p (s + m))).2.fdiv C) l) := by
      have e := md_cg C (M.led (hs M C p (s + m)))
      have e2 : r = vadd (md C (M.led (hs M C p (s + m)))) (vmul C l) := hr
      have e1 := congrArg Prod.fst e
      have e3 := congrArg Prod.snd e
      rw [e2]
      simp only [vadd, vmul, md] at e1 e3
      apply vext <;> simp only [vsub, vadd, vmul, md] <;> grind
    obtain ⟨k, r1, l1, e1, e2, e3, e4⟩ := rback_ok hM b hl hc hC hb rg.a rg.b rg.c rg.d (fq_coord hM (by omega) hq) hz
    have q1 := fq_step hM (hd2 _ (dig_mem e2)) hq e3
    obtain ⟨fs, r', g1, g2, g3, g4, g5, g6⟩ := cback_run (p := p) hM b hd2 hl hc hC hb s hf m r1 (fs0 ++ [k]) (by simp; omega) ⟨vmul (-1) l1, by rw [e4]; apply vext <;> simp only [vsub, vadd, vmul] <;> grind⟩ q1
    refine ⟨k :: fs, r', ?_, by simp [g2], fun x hx => ?_, ?_, g5, g6⟩
    · rw [List.range'_1_concat, List.reverse_append, List.reverse_singleton, List.singleton_append, List.map_cons, List.map_cons, forS_cons, hf]
      refine bok (a := (lotD r1, (fs0 ++ [k]).map numD)) ?_ ?_
      · exact bok e1 <| bok (un2_t _ _) <| bok (push1 _ _ (by rw [List.length_map]; omega)) (by rw [List.map_append]; rfl)
      · rw [g1, List.append_assoc]; rfl
    · rcases List.mem_cons.mp hx with rfl | hx
      · exact e2
      · exact g3 x hx
    · show M.led (M.it m r') = _
      rw [g4, led_add, led_mul, e3, List.reverse_cons, List.map_append, List.map_singleton, row_snoc]
      apply vext <;> simp only [vadd, vmul] <;> grind
theorem cback_ok {M : Tb} {ds : List Vc} (hM : M ∈ tables) (b : Base M ds) (hd2 : ∀ d ∈ ds, nv d ≤ 2) (hl : ds.length ≤ 50) (hc : ∀ v : Vc, ∃ d ∈ ds, Cg M (vsub v d)) {C : Int} (hC : 0 < C) (hb : C.natAbs < 2 ^ 200) {p : Vc} (s m : Nat) (hm : m ≤ 1000) {r : Vc} (hr : ∃ l, r = vadd (hs M C p (s + m)) (vmul C l)) (hq : (fm M).q r ≤ 6 * (C * C * dm M)) :
    ∃ (row : List Nat) (r' : Vc), m_classes_back (baseD M ds) (.int C) (.list (((List.range' s m).map (hs M C p)).map lotD)) (lotD r) = .ok (.tuple [nums row, lotD r']) ∧ row.length = m ∧ (∀ k ∈ row, k < ds.length) ∧
      M.it m r' = vadd r (vmul C (M.row zv (row.map (dig ds)))) ∧ (∃ l, r' = vadd (hs M C p s) (vmul C l)) ∧ (fm M).q r' ≤ 6 * (C * C * dm M) := by
  obtain ⟨fs, r', g1, g2, g3, g4, g5, g6⟩ := cback_run hM b hd2 hl hc hC hb (p := p) s (f := fun x3 s4 => (m_remainder_back (baseD M ds) (.int C) x3 s4.1).bind fun z6 => (un2 z6).bind fun (p7, p8) => (pushM s4.2 [p7]).bind fun (z9, y10) => R.ok (p8, y10)) (fun _ _ => rfl) m r [] (by simpa using hm) hr hq
  refine ⟨fs.reverse, r', ?_, by simpa using g2, fun k hk => g3 k (by simpa using hk), g4, g5, g6⟩
  unfold m_classes_back
  have rv : revL (.list (((List.range' s m).map (hs M C p)).map lotD)) = .ok (((List.range' s m).reverse.map (hs M C p)).map lotD) := by
    show R.ok _ = R.ok _
    rw [← List.map_reverse, ← List.map_reverse]
  have rv2 : revL (.list (([] ++ fs).map numD)) = .ok (fs.reverse.map numD) := by
    show R.ok _ = R.ok _
    rw [List.nil_append, ← List.map_reverse]
  exact bok rv <| bok (iter_l _) <| bok (by exact g1) <| bok rv2 <| bok (tuple_l _) rfl
end K11

set_option autoImplicit false
set_option linter.all false
set_option maxRecDepth 100000
set_option exponentiation.threshold 20000
namespace K11
open PySem L2 Z
theorem fq_step4 {M : Tb} (hM : M ∈ tables) {r r' d : Vc} {c : Int} (hd : nv d ≤ 2) (e : M.led r' = vadd r (vmul c d)) : 4 * (fm M).q r' ≤ 3 * (fm M).q r + 6 * (c * c * dm M) := by
  have h1 := fq_led hM r'
  rw [e] at h1
  have h2 := fq0 hM (vsub r (vmul 2 (vmul c d)))
  rw [Fm.par, Fm.q_mul] at h2
  have h3 := fq_dig hM hd
  have cc : 0 ≤ c * c := by
    rcases Int.le_total 0 c with q | q
    · exact Int.mul_nonneg q q
    · exact Int.mul_nonneg_of_nonpos_of_nonpos q q
  have h4 : c * c * (fm M).q d ≤ c * c * dm M := Int.mul_le_mul_of_nonneg_left h3 cc
  omega
theorem lf_led {M : Tb} {u : Nat → Vc} {v p : Vc} {c : Int} (m : Nat) : M.led (lf M u v p c m) = vadd (lf M u v p c (m + 1)) (vmul c (u m)) := by
  show _ = vadd (vsub (M.led (lf M u v p c m)) (vmul c (u m))) _
  apply vext <;> simp only [vadd, vsub] <;> omega
/-- a point is near its lot -/
theorem lf_near {M : Tb} (hM : M ∈ tables) {u : Nat → Vc} (hu : ∀ i, nv (u i) ≤ 2) {v p : Vc} {c : Int} {k n : Nat} (hn : 1 ≤ n) (h : lf M u v p c (k + n) = lf M u v p c k) : (fm M).q (vsub p (vmul c v)) ≤ 6 * (c * c * dm M) := by
  have atk : (fm M).q (lf M u v p c k) ≤ 6 * (c * c * dm M) := by
    by_cases g : (fm M).q (lf M u v p c k) ≤ 6 * (c * c * dm M)
    · exact g
    · exfalso
      have up : ∀ i, 1 ≤ i → (fm M).q (lf M u v p c k) < (fm M).q (lf M u v p c (k + i)) := by
        intro i
        induction i with
        | zero => intro h; omega
        | succ i ih =>
          intro _
          have s := fq_step4 hM (hu (k + i)) (lf_led (M := M) (v := v) (p := p) (c := c) (k + i))
          by_cases c0 : i = 0
          · subst c0
            show _ < (fm M).q (lf M u v p c (k + 0 + 1))
            have s' : 4 * (fm M).q (lf M u v p c k) ≤ 3 * (fm M).q (lf M u v p c (k + 0 + 1)) + 6 * (c * c * dm M) := s
            omega
          · have := ih (by omega)
            show _ < (fm M).q (lf M u v p c (k + i + 1))
            omega
      have := up n hn
      rw [h] at this
      omega
  have down : ∀ i, i ≤ k → (fm M).q (lf M u v p c (k - i)) ≤ 6 * (c * c * dm M) := by
    intro i
    induction i with
    | zero => intro _; exact atk
    | succ i ih =>
      intro hi
      have s := fq_step4 hM (hu (k - (i + 1))) (lf_led (M := M) (v := v) (p := p) (c := c) (k - (i + 1)))
      rw [show k - (i + 1) + 1 = k - i by omega] at s
      have := ih (by omega)
      omega
  have := down k (Nat.le_refl _)
  rw [Nat.sub_self] at this
  exact this
theorem nodup_le : ∀ (l m : List Vc), l.Nodup → (∀ x ∈ l, x ∈ m) → l.length ≤ m.length
  | [], m, _, _ => Nat.zero_le _
  | x :: l, m, hn, hs => by
    rw [List.nodup_cons] at hn
    have hx := hs x (by simp)
    have ih := nodup_le l (m.erase x) hn.2 fun y hy => (List.mem_erase_of_ne (fun e => hn.1 (by rw [← e]; exact hy))).mpr (hs y (by simp [hy]))
    rw [List.length_erase_of_mem hx] at ih
    have : 0 < m.length := List.length_pos_of_mem hx
    rw [List.length_cons]; omega
theorem sq_nodup {s : Nat → Vc} {n : Nat} (h : ∀ i k, i < k → k < n → s k ≠ s i) : (sq s n).Nodup := by
  induction n with
  | zero => simp [sq]
  | succ n ih =>
    rw [sq_snoc, List.nodup_append]
    refine ⟨ih fun i k a b => h i k a (by omega), by simp, fun a ha c hc => ?_⟩
    obtain ⟨i, i1, i2⟩ := sq_mem.mp ha
    have : c = s n := by simpa using hc
    subst this
    rw [← i2]
    exact fun e => h i n i1 (by omega) e.symm
theorem pigeon {s : Nat → Vc} {B : List Vc} (h : ∀ i, s i ∈ B) : ∃ n j, j < n ∧ n ≤ B.length ∧ s n = s j ∧ ∀ i k, i < k → k < n → s k ≠ s i := by
  by_cases c : ∃ N j, N ≤ B.length ∧ j < N ∧ s N = s j
  · obtain ⟨N, j, c1, c2, c3⟩ := c
    obtain ⟨n, j', a, b, d, e⟩ := first_rep (s := s) N ⟨j, c2, c3⟩
    exact ⟨n, j', a, by omega, d, e⟩
  · exfalso
    have nd : (sq s (B.length + 1)).Nodup := sq_nodup fun i k a b e => c ⟨k, i, by omega, a, e⟩
    have := nodup_le _ _ nd fun x hx => by
      obtain ⟨i, _, rfl⟩ := sq_mem.mp hx
      exact h i
    rw [sq_len] at this
    omega
def bx : List Vc := (List.range 625).map fun k => ((k / 25 : Nat) - (12 : Int), (k % 25 : Nat) - (12 : Int))
theorem bx_mem {l : Vc} (h1 : l.1.natAbs ≤ 12) (h2 : l.2.natAbs ≤ 12) : l ∈ bx := by
  unfold bx
  rw [List.mem_map]
  refine ⟨(l.1 + 12).toNat * 25 + (l.2 + 12).toNat, List.mem_range.mpr (by omega), ?_⟩
  apply vext
  · show (((_ / 25 : Nat) : Int)) - 12 = _
    omega
  · show (((_ % 25 : Nat) : Int)) - 12 = _
    omega
theorem small_lot_of {C : Int} (hC : 0 < C) {h l r : Vc} (rg : Rg C h) (e : r = vadd h (vmul C l)) (hr : r.1.natAbs ≤ (11 * C).natAbs ∧ r.2.natAbs ≤ (11 * C).natAbs) : l.1.natAbs ≤ 12 ∧ l.2.natAbs ≤ 12 := by
  have e1 := congrArg Prod.fst e
  have e2 := congrArg Prod.snd e
  simp only [vadd, vmul] at e1 e2
  have one : ∀ {x y w : Int}, 0 ≤ y → y < C → x = y + C * w → x.natAbs ≤ (11 * C).natAbs → w.natAbs ≤ 12 := fun {x y w} a b c d => by
    have m : C.natAbs * w.natAbs ≤ C.natAbs * 12 := by
      rw [← Int.natAbs_mul]; omega
    exact Nat.le_of_mul_le_mul_left m (by omega)
  exact ⟨one rg.a rg.b e1 hr.1, one rg.c rg.d e2 hr.2⟩
theorem lot_one {C : Int} (hC : 0 < C) {x y w z : Int} (q1 : x = y + C * w) (q2 : (x - C * z).natAbs ≤ (11 * C).natAbs) (q3 : y.natAbs ≤ (11 * C).natAbs) (q4 : z.natAbs ≤ 4) : w.natAbs ≤ 26 := by
  have e : C * (w - z) = (x - C * z) - y := by rw [q1]; grind
  have d : (C * (w - z)).natAbs ≤ C.natAbs * 22 := by
    rw [e]; clear e q1; omega
  rw [Int.natAbs_mul] at d
  have := Nat.le_of_mul_le_mul_left d (by omega)
  omega
set_option maxHeartbeats 0 in
/-- the name that the program finds -/
theorem name_ok {M : Tb} {ds : List Vc} (hM : M ∈ tables) (b : Base M ds) (hd2 : ∀ d ∈ ds, nv d ≤ 2) (hl : ds.length ≤ 50) (h0 : 0 < ds.length) (hc : ∀ v : Vc, ∃ d ∈ ds, Cg M (vsub v d)) {v : Vc} {ks js : List Nat} {X Y C : Int} (hv : nv v ≤ 4) (hk : ∀ k ∈ ks, k < ds.length) (hj : ∀ k ∈ js, k < ds.length) (lk : ks.length ≤ 4) (l1 : 1 ≤ js.length) (lj : js.length ≤ 4) (wa : WorthAt M ds v ks js X Y C) (hb : C.natAbs < 2 ^ 200) :
    ∃ (lot : Vc) (ks' js' : List Nat), m_name_of (baseD M ds) (pointD ((X, Y), C)) = .ok (nameD lot ks' js') ∧ nv lot ≤ 97 ∧ (∀ k ∈ ks', k < ds.length) ∧ (∀ k ∈ js', k < ds.length) ∧ ks'.length ≤ 12 ∧ 1 ≤ js'.length ∧ js'.length ≤ 2500 ∧
      m_least_name (nameD lot ks' js') = .ok (nameD lot ks' js') ∧ m_worth (baseD M ds) (nameD lot ks' js') = .ok (pointD ((X, Y), C)) := by
  have hC := wa.red.pos
  have cn : C ≠ 0 := by omega
  have cb : bigD C = true := bigD_of (k := 200) hb (by decide)
  obtain ⟨p, hp⟩ : ∃ p : Vc, p = (X, Y) := ⟨_, rfl⟩
  have eq := wa.eq
  rw [← hp] at eq
  obtain ⟨n, j, n1, n2, n3, n4, n5⟩ := hs_first hC l1 eq
  have cls := classes_ok hM hC hb n1 (by omega) n4 n5
  -- laps
  let good : Vc → Prop := fun r => (∃ l, r = vadd (hs M C p j) (vmul C l)) ∧ (fm M).q r ≤ 6 * (C * C * dm M)
  let cl : D := .list (((List.range' j (n - j)).map (hs M C p)).map lotD)
  obtain ⟨nx, hnx⟩ : ∃ nx : Vc → Vc × List Nat, ∀ r, good r → m_classes_back (baseD M ds) (.int C) cl (lotD r) = .ok (.tuple [nums (nx r).2, lotD (nx r).1]) ∧ (nx r).2.length = n - j ∧ (∀ k ∈ (nx r).2, k < ds.length) ∧ M.it (n - j) (nx r).1 = vadd r (vmul C (M.row zv ((nx r).2.map (dig ds)))) ∧ good (nx r).1 := by
    refine Classical.axiomOfChoice (r := fun r (q : Vc × List Nat) => good r → m_classes_back (baseD M ds) (.int C) cl (lotD r) = .ok (.tuple [nums q.2, lotD q.1]) ∧ q.2.length = n - j ∧ (∀ k ∈ q.2, k < ds.length) ∧ M.it (n - j) q.1 = vadd r (vmul C (M.row zv (q.2.map (dig ds)))) ∧ good q.1) fun r => ?_
    by_cases g : good r
    · obtain ⟨⟨l, g1⟩, g2⟩ := g
      obtain ⟨row, r', a1, a2, a3, a4, a5, a6⟩ := cback_ok hM b hd2 hl hc hC hb (p := p) j (n - j) (by omega) (r := r) ⟨l, by rw [show j + (n - j) = n by omega, n4]; exact g1⟩ g2
      exact ⟨(r', row), fun _ => ⟨a1, a2, a3, a4, a5, a6⟩⟩
    · exact ⟨(zv, []), fun k => absurd k g⟩
  let rr : Nat → Vc := fun i => Nat.rec (hs M C p j) (fun _ r => (nx r).1) i
  let ro : Nat → List Nat := fun i => (nx (rr i)).2
  have rg := hs_rg (M := M) (C := C) (p := p) hC
  have gr : ∀ i, good (rr i) := by
    intro i
    induction i with
    | zero => exact ⟨⟨zv, by show hs M C p j = vadd (hs M C p j) (vmul C zv); rw [vmul_z]; apply vext <;> simp [vadd, zv]⟩, fq_start hM (rg j).a (rg j).b (rg j).c (rg j).d⟩
    | succ i ih => exact (hnx _ ih).2.2.2.2
  have inB : ∀ i, rr i ∈ bx.map fun l => vadd (hs M C p j) (vmul C l) := fun i => by
    obtain ⟨⟨l, g1⟩, g2⟩ := gr i
    obtain ⟨q1, q2⟩ := small_lot_of hC (rg j) g1 (fq_coord hM (by omega) g2)
    exact List.mem_map.mpr ⟨l, bx_mem q1 q2, g1.symm⟩
  obtain ⟨N, m, m1, m2, m3, m4⟩ := pigeon inB
  rw [List.length_map, show bx.length = 625 by simp [bx]] at m2
  -- the loop over laps
  let st : Nat → D × List (D × D) × List D := fun i => (lotD (rr i), dkA 0 (sq rr i), (List.range i).map fun t => nums (ro t))
  let f : D × List (D × D) × List D → R (Wl (D × List (D × D) × List D)) := fun s10 =>
    ((notInD s10.1 (PyData.dict s10.2.1)).bind fun z13 =>
R.ok z13).bind fun t14 =>
if t14 = true then
(flatR ((lenD (PyData.list s10.2.2)).bind fun z15 =>
R.ok z15)).bind fun z16 =>
(setDM s10.2.1 s10.1 z16).bind fun y17 =>
(toI (.int (j : Int))).bind fun l18 =>
(slice (.list ((sq (hs M C p) n).map lotD)) (some l18) none).bind fun z19 =>
(m_classes_back (baseD M ds) (.int C) z19 s10.1).bind fun z20 =>
(un2 z20).bind fun (p21, p22) =>
(pushM s10.2.2 [p21]).bind fun (z23, y24) =>
R.ok (.go (p22, y17, y24))
else
R.ok (.done (s10.1, s10.2.1, s10.2.2))
  have ecl : slice (.list ((sq (hs M C p) n).map lotD)) (some (j : Int)) none = .ok cl := by
    show R.ok (PyData.list (cut _ _ _)) = R.ok cl
    rw [cut_drop, ← List.map_drop]
    show _ = R.ok (PyData.list _)
    congr 3
    unfold sq
    rw [← List.map_drop, List.range_eq_range', List.drop_range']
    congr 2 <;> omega
  have run : ∀ (d i fu : Nat), i + d = N → d < fu → whileT fu (st i) f = .ok (.nx (st N)) := by
    intro d
    induction d with
    | zero =>
      intro i fu e1 e2
      obtain ⟨fu, rfl⟩ : ∃ k, fu = k + 1 := ⟨fu - 1, by omega⟩
      have : i = N := by omega
      subst this
      rw [whileT]
      exact bok (a := Wl.done (st i)) (bokF (bok (in_sq m1 m3 m4) rfl) rfl) rfl
    | succ d ih =>
      intro i fu e1 e2
      obtain ⟨fu, rfl⟩ : ∃ k, fu = k + 1 := ⟨fu - 1, by omega⟩
      rw [whileT]
      refine bok (a := Wl.go (st (i + 1))) ?_ (by exact ih (i + 1) fu (by omega) (by omega))
      have fl : flatR ((lenD (.list ((List.range i).map fun t => nums (ro t)))).bind fun z15 => R.ok z15) = .ok (.int (i : Int)) := by rw [len_l, List.length_map, List.length_range]; rfl
      refine bokT (bok (notin_sq (m := i) (by omega) m4) rfl) <| bok fl <| bok (set_sq (m := i) (by omega) (by omega) m4) <| bok (toI_i _) <| bok ecl <| bok (hnx _ (gr i)).1 <| bok (un2_t _ _) <| bok (push1 _ _ (by rw [List.length_map, List.length_range]; omega)) ?_
      show R.ok (Wl.go (lotD (rr (i + 1)), dkA 0 (sq rr (i + 1)), ((List.range i).map fun t => nums (ro t)) ++ [nums (ro i)])) = R.ok (Wl.go (lotD (rr (i + 1)), dkA 0 (sq rr (i + 1)), (List.range (i + 1)).map fun t => nums (ro t)))
      rw [List.range_succ, List.map_append, List.map_singleton]
  have go := run N 0 100000 (by omega) (by omega)
  -- the rounds put together
  let lt : Nat → List Nat := fun i => Nat.rec [] (fun i l => ro (m + i) ++ l) i
  have ltl : ∀ i, (lt i).length = (n - j) * i := by
    intro i
    induction i with
    | zero => rfl
    | succ i ih =>
      show (ro (m + i) ++ lt i).length = _
      rw [List.length_append, ih, (hnx _ (gr (m + i))).2.1, Nat.mul_add]; omega
  have ltd : ∀ i, ∀ k ∈ lt i, k < ds.length := by
    intro i
    induction i with
    | zero =>
      intro k hk
      have hk' : k ∈ ([] : List Nat) := hk
      simp at hk'
    | succ i ih =>
      intro k hk
      have hk' : k ∈ ro (m + i) ++ lt i := hk
      rcases List.mem_append.mp hk' with q | q
      · exact (hnx _ (gr (m + i))).2.2.1 k q
      · exact ih k q
  have chain : ∀ i, M.it ((n - j) * i) (rr (m + i)) = vadd (rr m) (vmul C (M.row zv ((lt i).map (dig ds)))) := by
    intro i
    induction i with
    | zero =>
      show rr m = vadd (rr m) (vmul C zv)
      rw [vmul_z]; apply vext <;> simp [vadd, zv]
    | succ i ih =>
      have e := (hnx _ (gr (m + i))).2.2.2.1
      rw [show (n - j) * (i + 1) = (n - j) * i + (n - j) by rw [Nat.mul_add]; omega, ← it_it]
      show M.it ((n - j) * i) (M.it (n - j) (nx (rr (m + i))).1) = vadd (rr m) (vmul C (M.row zv ((ro (m + i) ++ lt i).map (dig ds))))
      rw [e, it_add, it_mul, ih, List.map_append, row_append, row_zero (v := M.row zv ((ro (m + i)).map (dig ds))), List.length_map, ltl]
      apply vext <;> simp only [vadd, vmul, zv] <;> grind
  have glue : ∀ (i t : Nat), m + t + i = N → forS ((List.range' (m + t) i).map fun t => nums (ro t)) (nums (lt t)) (fun x29 s30 => (add x29 s30).bind fun z32 => R.ok z32) = .ok (nums (lt (t + i))) := by
    intro i
    induction i with
    | zero => intro t _; rfl
    | succ i ih =>
      intro t ht
      rw [List.range'_succ, List.map_cons, forS_cons]
      have a := add_nums (a := ro (m + t)) (b := lt t) (by
        rw [(hnx _ (gr (m + t))).2.1, ltl]
        have : (n - j) * t ≤ 4 * 625 := Nat.mul_le_mul (by omega) (by omega)
        omega)
      refine bok (a := nums (lt (t + 1))) (bok a rfl) ?_
      have := ih (t + 1) (by omega)
      rw [show m + (t + 1) = m + t + 1 by omega, show t + 1 + i = t + (i + 1) by omega] at this
      exact this
  have glue0 := glue (N - m) 0 (by omega)
  rw [Nat.add_zero, Nat.zero_add] at glue0
  have chN := chain (N - m)
  rw [show m + (N - m) = N by omega, m3] at chN
  -- ahead
  obtain ⟨⟨l, g1⟩, g2⟩ := gr m
  obtain ⟨ah, fi, a1, a2, a3, a4, ⟨l5, a5⟩, a6⟩ := cback_ok hM b hd2 hl hc hC hb (p := p) 0 j (by omega) (r := rr m) ⟨l, by rw [Nat.zero_add]; exact g1⟩ g2
  obtain ⟨lp, ep⟩ := hs_cg (M := M) (C := C) (p := p) 0
  have e0 : p = vadd (hs M C p 0) (vmul C lp) := ep
  obtain ⟨lot, hlot⟩ : ∃ lot : Vc, lot = vsub lp l5 := ⟨_, rfl⟩
  have pf : p = vadd fi (vmul C lot) := by
    rw [hlot, a5]
    have e1 := congrArg Prod.fst e0
    have e2 := congrArg Prod.snd e0
    simp only [vadd, vmul] at e1 e2
    apply vext <;> simp only [vsub, vadd, vmul] <;> grind
  have E' : E M (lt (N - m)).length ah.length (M.row lot (ah.map (dig ds))) (M.row zv ((lt (N - m)).map (dig ds))) p C = zv := by
    rw [E_iff, a2, ltl]
    have lf' : left M j (M.row lot (ah.map (dig ds))) p C = rr m := by
      unfold left
      rw [row_zero (v := lot), List.length_map, a2]
      conv => lhs; rw [pf]
      rw [it_add, it_mul, a4]
      apply vext <;> simp only [vadd, vsub, vmul, zv] <;> grind
    rw [lf', chN]
    apply vext <;> simp only [vadd, vsub] <;> omega
  -- the lot is near
  have nl : nv lot ≤ 97 := by
    have h1 := (E_word (M := M) (ds := ds) (v := v) (p := p) (c := C) ks js).mp eq
    have near := lf_near hM (u := fun i => dig ds (wd ks js i)) (fun i => hd2 _ (dig_mem (wd_all hk hj l1 i))) l1 h1
    have c1 := fq_coord hM (by omega) near
    have c2 := fq_coord hM (by omega) a6
    have v1 := nv1 v
    have v2 := nv2 v
    have e1 := congrArg Prod.fst pf
    have e2 := congrArg Prod.snd pf
    simp only [vadd, vmul, vsub] at e1 e2 c1
    have one := @lot_one C hC
    exact nv_le (by have := one e1 c1.1 c2.1 (by omega); omega) (by have := one e2 c1.2 c2.2 (by omega); omega)
  have lL : 1 ≤ (lt (N - m)).length ∧ (lt (N - m)).length ≤ 2500 := by
    rw [ltl]
    have h1 : 1 * 1 ≤ (n - j) * (N - m) := Nat.mul_le_mul (by omega) (by omega)
    have h2 : (n - j) * (N - m) ≤ 4 * 625 := Nat.mul_le_mul (by omega) (by omega)
    omega
  obtain ⟨s, q, cn1, cs, cq, ce⟩ := least_ok (v := lot) (ks := ah) (js := lt (N - m)) lL.1 (by omega) (by omega)
  have dall := wd_all a3 (ltd (N - m)) lL.1
  have hq1 := cn1.pos
  have wseg := wd_seg hq1 cn1.per
  obtain ⟨s2, q2, cn2, _, _, ce2⟩ := least_ok (v := lot) (ks := seg (wd ah (lt (N - m))) 0 s) (js := seg (wd ah (lt (N - m))) s q) (by rw [seg_len]; exact hq1) (by rw [seg_len]; omega) (by rw [seg_len]; omega)
  rw [wseg] at cn2 ce2
  obtain ⟨u1, u2⟩ := cn1.uniq cn2
  subst u1 u2
  have wa' : WorthAt M ds lot ah (lt (N - m)) X Y C := ⟨wa.red, by rw [hp] at E'; exact E'⟩
  have ww := worth_word hM b nl lL.1 (js' := seg (wd ah (lt (N - m))) s q) (ks' := seg (wd ah (lt (N - m))) 0 s) (by rw [seg_len]; exact hq1) (seg_all dall) (seg_all dall) (by rw [seg_len]; omega) (by rw [seg_len]; omega) wseg wa'
  refine ⟨lot, _, _, ?_, nl, seg_all dall, seg_all dall, by rw [seg_len]; omega, by rw [seg_len]; exact hq1, by rw [seg_len]; omega, ce2, ww⟩
  unfold m_name_of
  rw [hp] at cls
  rw [← hp]
  have up : un2 (pointD (p, C)) = .ok (lotD p, .int C) := rfl
  have up1 : un2 (lotD p) = .ok (.int p.1, .int p.2) := rfl
  have ij : item (.list ((sq (hs M C p) n).map lotD)) (.int (j : Int)) = .ok (lotD (hs M C p j)) := item_ln (by rw [List.getElem?_map, sq_get n1]; rfl)
  have slm : slice (.list ((List.range N).map fun t => nums (ro t))) (some (m : Int)) none = .ok (.list ((List.range' m (N - m)).map fun t => nums (ro t))) := by
    show R.ok (PyData.list (cut _ _ _)) = _
    rw [cut_drop, ← List.map_drop, List.range_eq_range', List.drop_range']
    congr 3
    congr 1 <;> omega
  have slj : slice (.list ((sq (hs M C p) n).map lotD)) none (some (j : Int)) = .ok (.list (((List.range' 0 j).map (hs M C p)).map lotD)) := by
    show R.ok (PyData.list (cut _ _ _)) = _
    rw [cut_take, ← List.map_take]
    unfold sq
    rw [← List.map_take, List.take_range, Nat.min_eq_left (by omega), List.range_eq_range']
  have fd : ∀ x : Int, fdiv (.int x) (.int C) = .ok (.int (x.fdiv C)) := fun x => fdiv_i cn cb
  have f1 : (p.1 - fi.1).fdiv C = lot.1 := by
    have := congrArg Prod.fst pf
    simp only [vadd, vmul] at this
    rw [this, show fi.1 + C * lot.1 - fi.1 = C * lot.1 by omega]; exact Int.mul_fdiv_cancel_left _ cn
  have f2 : (p.2 - fi.2).fdiv C = lot.2 := by
    have := congrArg Prod.snd pf
    simp only [vadd, vmul] at this
    rw [this, show fi.2 + C * lot.2 - fi.2 = C * lot.2 by omega]; exact Int.mul_fdiv_cancel_left _ cn
  have it0 : item (lotD fi) (PyData.int 0) = .ok (.int fi.1) := item0 _ _
  have it1 : item (lotD fi) (PyData.int 1) = .ok (.int fi.2) := item1 _ _ _
  have cls' : m_classes_of (tabD M) (pointD (p, C)) = .ok (.tuple [.list ((sq (hs M C p) n).map lotD), .int (j : Int)]) := by rw [hp]; exact cls
  rw [← m3] at a1
  refine bok (item0 _ _) <| bok cls' <| bok (un2_t _ _) <| bok up <| bok up1 <| bok ij <| bok (by exact go) ?_
  refine bok (item_sq m1 m3 m4) <| bok (toI_i _) <| bok slm <| bok (iter_l _) <| bok (by exact glue0) <| bok (toI_i _) <| bok slj <| bok a1 <| bok (un2_t _ _) ?_
  refine bok it0 <| bok (sub_i _ _) <| bok (fd _) <| bok it1 <| bok (sub_i _ _) <| bok (fd _) ?_
  rw [f1, f2]
  exact bok ce rfl
end K11

set_option autoImplicit false
set_option linter.all false
set_option maxRecDepth 100000
set_option exponentiation.threshold 20000
namespace K11
open PySem L2 Z
theorem of_ok {n : Nat} {s : Src} {xs : List D} (h : Ok (n + 1) s) (h0 : 0 < xs.length) (hl : xs.length < 2 ^ 60) : ∃ (r : Nat) (d : D) (s' : Src), m__law_of s (.list xs) = .ok (d, s') ∧ xs[r]? = some d ∧ Ok n s' := by
  obtain ⟨r, s', e, hr, ho⟩ := pick_ok h (many := (xs.length : Int)) (by omega) (by omega)
  have hr' : r < xs.length := by omega
  refine ⟨r, xs[r], s', ?_, List.getElem?_eq_getElem hr', ho⟩
  unfold m__law_of
  exact bok (len_l _) <| bok e <| bok (item_ln (List.getElem?_eq_getElem hr')) rfl
theorem pop1_ok {ys : List D} {r : Nat} (h : r < ys.length) : pop1M ys [.int (r : Int)] = .ok (ys[r], ys.eraseIdx r) := by
  have : L2.ixN ys.length (r : Int) = some r := by unfold L2.ixN; rw [if_pos (by omega), if_pos (by omega)]; simp
  simp [pop1M, this, List.getElem?_eq_getElem h]
theorem erase_perm {l : List D} {i : Nat} (h : i < l.length) : (l[i] :: l.eraseIdx i).Perm l := by
  rw [List.eraseIdx_eq_take_drop_succ]
  have e : l = l.take i ++ l[i] :: l.drop (i + 1) := by rw [← List.drop_eq_getElem_cons h, List.take_append_drop]
  exact (List.perm_middle.symm).trans (List.Perm.of_eq e.symm)
theorem mixed_ok {n : Nat} {s : Src} {xs : List D} (h : Ok (n + xs.length) s) (hl : xs.length < 16777216) : ∃ ys s', m__law_mixed s (.list xs) = .ok (.list ys, s') ∧ ys.Perm xs ∧ Ok n s' := by
  obtain ⟨out, ⟨s2, rest⟩, e, hp, hlen, ho⟩ := compT_inv (τ := Src × List D) (xs := rangeD 0 (xs.length : Nat)) (st := (s, xs)) (f := fun x5 s6 => (flatR ((lenD (PyData.list s6.2)).bind fun z7 => R.ok z7)).bind fun z8 => (m__law_pick s6.1 z8).bind fun (z9, s10) => (pop1M s6.2 [z9]).bind fun (z11, y12) => R.ok (some z11, (s10, y12)))
    (fun walked out st => (out ++ st.2).Perm xs ∧ st.2.length + walked.length = xs.length ∧ Ok (n + (xs.length - walked.length)) st.1) ⟨by simp, by simp, by simpa using h⟩ (fun ws x st out ⟨zs, ez⟩ ⟨hp, hlen, ho⟩ => by
      have wl : ws.length < xs.length := by
        have := congrArg List.length ez
        rw [rangeD_eq] at this
        simp at this
        omega
      have e1 : n + (xs.length - ws.length) = n + (xs.length - (ws.length + 1)) + 1 := by omega
      rw [e1] at ho
      obtain ⟨r, s', e2, hr, ho'⟩ := pick_ok ho (many := (st.2.length : Int)) (by omega) (by omega)
      have hr' : r < st.2.length := by omega
      refine ⟨some st.2[r], (s', st.2.eraseIdx r), ?_, ?_, ?_, by simpa using ho'⟩
      · exact bok (a := PyData.int (st.2.length : Int)) rfl <| bok e2 <| bok (pop1_ok hr') rfl
      · refine List.Perm.trans ?_ hp
        simp only [Option.toList, List.append_assoc, List.cons_append, List.nil_append]
        exact List.Perm.append_left _ (erase_perm hr')
      · simp [List.length_eraseIdx, hr']; omega)
  have r0 : rest.length = 0 := by
    rw [rangeD_eq] at hlen
    simp at hlen
    simpa using hlen
  have r1 : rest = [] := List.eq_nil_of_length_eq_zero r0
  have hp' : out.Perm xs := by simpa [r1] using hp
  refine ⟨out, s2, ?_, hp', ?_⟩
  · unfold m__law_mixed
    refine bok (iterL_l _) <| bok (a := PyData.int (xs.length : Int)) rfl <| bok (range_i (by omega)) <| bok (a := (out, (s2, rest))) ?_ rfl
    rw [compS_of (by rw [rangeD_eq]; simpa using hl)]
    exact e
  · exact Ok.le ho (by omega)
theorem picks_ok {n cnt m : Nat} {s : Src} (h : Ok (n + cnt) s) (hc : cnt < 16777216) (hm : 1 ≤ m) (hm2 : m < 2 ^ 60) {f : D → Src → R (Option D × Src)} (hf : ∀ x s, f x s = ((m__law_pick s (.int (m : Int))).bind fun (z, s') => R.ok (some z, s'))) :
    ∃ (ks : List Nat) (s' : Src), compS (rangeD 0 (cnt : Int)) s f = .ok (ks.map numD, s') ∧ ks.length = cnt ∧ (∀ k ∈ ks, k < m) ∧ Ok n s' := by
  obtain ⟨out, s2, e, ⟨ks, rfl, hl, hk⟩, ho⟩ := compT_inv (xs := rangeD 0 (cnt : Int)) (st := s) (f := f)
    (fun walked out st => (∃ ks : List Nat, out = ks.map numD ∧ ks.length = walked.length ∧ ∀ k ∈ ks, k < m) ∧ Ok (n + (cnt - walked.length)) st) ⟨⟨[], rfl, rfl, by simp⟩, by simpa using h⟩ (fun ws x st out ⟨zs, ez⟩ ⟨⟨ks, e0, hl, hk⟩, ho⟩ => by
      have wl : ws.length < cnt := by
        have := congrArg List.length ez
        rw [rangeD_eq] at this
        simp at this
        omega
      have e1 : n + (cnt - ws.length) = n + (cnt - (ws.length + 1)) + 1 := by omega
      rw [e1] at ho
      obtain ⟨r, s', e2, hr, ho'⟩ := pick_ok ho (many := (m : Int)) (by omega) (by omega)
      refine ⟨some (numD r), s', by rw [hf]; exact bok e2 rfl, ⟨ks ++ [r], by rw [e0]; simp, by simp [hl], fun k hk' => ?_⟩, by simpa using ho'⟩
      rcases List.mem_append.mp hk' with q | q
      · exact hk k q
      · have : k = r := by simpa using q
        omega)
  refine ⟨ks, s2, by rw [compS_of (by rw [rangeD_eq]; simpa using hc)]; exact e, ?_, hk, Ok.le ho (by omega)⟩
  rw [hl, rangeD_eq]; simp
def span (n : Nat) : List Int := (List.range (2 * n + 1)).map fun (k : Nat) => (k : Int) - n
def box (n : Nat) : List Vc := (span n).flatMap fun x => (span n).map fun y => (x, y)
theorem perm_lots {ys : List D} {fs : List Vc} (h : ys.Perm (fs.map lotD)) : ∃ gs : List Vc, ys = gs.map lotD ∧ gs.Perm fs := by
  have key : ∀ {xs ys : List D}, ys.Perm xs → ∀ fs : List Vc, xs = fs.map lotD → ∃ gs : List Vc, ys = gs.map lotD ∧ gs.Perm fs := by
    intro xs ys h
    induction h with
    | nil => intro fs e; exact ⟨[], rfl, by cases fs <;> simp at e ⊢⟩
    | cons x _ ih =>
      intro fs e
      cases fs with
      | nil => simp at e
      | cons f fs =>
        rw [List.map_cons] at e
        obtain ⟨e1, e2⟩ := List.cons.inj e
        obtain ⟨gs, q1, q2⟩ := ih fs e2
        exact ⟨f :: gs, by rw [List.map_cons, ← e1, q1], q2.cons f⟩
    | swap x y l =>
      intro fs e
      match fs, e with
      | a :: b :: fs, e =>
        simp only [List.map_cons, List.cons.injEq] at e
        exact ⟨b :: a :: fs, by simp [e], List.Perm.swap _ _ _⟩
    | trans _ _ ih1 ih2 =>
      intro fs e
      obtain ⟨gs, q1, q2⟩ := ih2 fs e
      obtain ⟨hs, r1, r2⟩ := ih1 gs q1
      exact ⟨hs, r1, r2.trans q2⟩
  exact key h fs rfl
theorem box_run {n : Nat} (h1 : 1 ≤ n) (h2 : n < 4) {f : D → D → R D} (hf : ∀ x s, f x s = (sub (PyData.int 0) (.int (n : Int))).bind fun z7 => (add (.int (n : Int)) (PyData.int 1)).bind fun z8 => (range2 z7 z8).bind fun z9 => (compL z9 fun x10 => R.ok (some (PyData.tuple [x, x10]))).bind fun ys11 => (add s (PyData.list ys11)).bind fun z12 => R.ok z12) :
    range2 (.int (0 - (n : Int))) (.int ((n : Int) + 1)) = .ok ((span n).map PyData.int) ∧ forS ((span n).map PyData.int) (PyData.list []) f = .ok (.list ((box n).map lotD)) := by
  have c : n = 1 ∨ n = 2 ∨ n = 3 := by omega
  have ef : f = _ := funext fun x => funext fun s => hf x s
  subst ef
  rcases c with rfl | rfl | rfl <;> exact ⟨rfl, rfl⟩
theorem plain_lots : ∀ l : List Vc, PyData.plainAll (l.map lotD) = true
  | [] => rfl
  | v :: l => by simp [PyData.plainAll, plain_lots l, lotD, PyData.plain]
theorem depth_lots : ∀ l : List Vc, PyData.depthAll (l.map lotD) ≤ 5
  | [] => by simp [PyData.depthAll]
  | v :: l => by
    have := depth_lots l
    simp [PyData.depthAll, lotD, PyData.depth]
    omega
theorem ok_lots (l : List Vc) : okD (.list (l.map lotD)) = true := by
  have := depth_lots l
  have hd : (PyData.list (l.map lotD)).depth ≤ 40 := by simp only [PyData.depth]; omega
  unfold okD
  simp only [PyData.plain, plain_lots, Bool.true_and]
  exact decide_eq_true hd
theorem eq_empty (l : List Vc) : eqD (.list (l.map lotD)) (.list []) = .ok l.isEmpty := by
  unfold eqD
  rw [ok_lots l, show okD (.list []) = true from ok_lots [], Bool.and_self, if_pos rfl]
  cases l with
  | nil => rfl
  | cons v l => rfl
theorem filter_empty {α : Type} (p : α → Bool) : ∀ l : List α, (l.filter p).isEmpty = !l.any p
  | [] => rfl
  | x :: l => by
    have := filter_empty p l
    cases h : p x <;> simp [h, this]
theorem small_i {i : Int} {k : Nat} (h : i.natAbs < 2 ^ k) (hk : k ≤ 200 := by decide) : Small 0 200 (.int i) := Small.int (Nat.lt_of_lt_of_le h (Nat.pow_le_pow_right (by decide) hk))
theorem small_lot {v : Vc} {k : Nat} (h : nv v < 2 ^ k) (hk : k ≤ 200 := by decide) : Small 1 402 (lotD v) :=
  (SmallAll.tuple ((small_i (Nat.lt_of_le_of_lt (nv1 v) h) hk |>.mono (Nat.le_refl _) (Nat.le_refl _) |> fun a => SmallAll.cons a (SmallAll.cons (small_i (Nat.lt_of_le_of_lt (nv2 v) h) hk) SmallAll.nil)))).mono (by decide) (by decide)
theorem small_point {X Y C : Int} (h : nv (X, Y) < 2 ^ 200) (hc : C.natAbs < 2 ^ 200) : Small 2 604 (pointD ((X, Y), C)) :=
  (SmallAll.tuple (SmallAll.cons (small_lot h) (SmallAll.cons (small_i hc) SmallAll.nil))).mono (by decide) (by decide)
theorem small_tab {M : Tb} (r : RS M) : Small 2 806 (tabD M) := by
  have h1 := r.r1
  have h2 := r.r2
  have a1 : nv (M.a, M.b) < 2 ^ 10 := Nat.lt_of_le_of_lt (nv_le (n := 3) (by show M.a.natAbs ≤ 3; omega) (by show M.b.natAbs ≤ 3; omega)) (by decide)
  have a2 : nv (M.c, M.d) < 2 ^ 10 := Nat.lt_of_le_of_lt (nv_le (n := 3) (by show M.c.natAbs ≤ 3; omega) (by show M.d.natAbs ≤ 3; omega)) (by decide)
  exact (SmallAll.tuple (SmallAll.cons (small_lot a1) (SmallAll.cons (small_lot a2) SmallAll.nil))).mono (by decide) (by decide)
theorem small_nums {ks : List Nat} {n : Nat} (hk : ∀ k ∈ ks, k < n) (hn : n ≤ 1000) (hl : ks.length ≤ 24) : Small 1 4824 (.tuple (ks.map numD)) := by
  have h : SmallAll 0 ((ks.map numD).length * (200 + 1)) (ks.map numD) := SmallAll.all fun d hd => by
    obtain ⟨k, h1, rfl⟩ := List.mem_map.mp hd
    have := hk k h1
    exact small_i (k := 10) (by show ((k : Nat) : Int).natAbs < 2 ^ 10; have : (2 : Nat) ^ 10 = 1024 := by decide
                                omega)
  rw [List.length_map] at h
  exact h.tuple.mono (by decide) (by omega)
theorem small_digs {ds : List Vc} (hd : ∀ d ∈ ds, nv d ≤ 3) (hl : ds.length ≤ 50) : Small 2 20150 (.tuple (ds.map lotD)) := by
  have h : SmallAll 1 ((ds.map lotD).length * (402 + 1)) (ds.map lotD) := SmallAll.all fun d h => by
    obtain ⟨v, h1, rfl⟩ := List.mem_map.mp h
    exact small_lot (k := 10) (Nat.lt_of_le_of_lt (hd v h1) (by decide))
  rw [List.length_map] at h
  exact h.tuple.mono (by decide) (by omega)
theorem small_base {M : Tb} {ds : List Vc} (b : Base M ds) (hl : ds.length ≤ 50) : Small 3 20958 (baseD M ds) :=
  (SmallAll.tuple (SmallAll.cons (small_tab b.rs) (SmallAll.cons (small_digs b.dg hl) SmallAll.nil))).mono (by decide) (by decide)
theorem small_name {v : Vc} {ks js : List Nat} {n : Nat} (hv : nv v ≤ 97) (hn : n ≤ 1000) (hk : ∀ k ∈ ks, k < n) (hj : ∀ k ∈ js, k < n) (lk : ks.length ≤ 24) (lj : js.length ≤ 24) : Small 2 10053 (nameD v ks js) :=
  (SmallAll.tuple (SmallAll.cons (small_lot (k := 10) (Nat.lt_of_le_of_lt hv (by decide))) (SmallAll.cons (small_nums hk hn lk) (SmallAll.cons (small_nums hj hn lj) SmallAll.nil)))).mono (by decide) (by decide)

theorem rests_all {M : Tb} (hd : M.det ≠ 0) {L : List Vc} (h : ∀ x : Nat, x < M.det.natAbs → ∀ y : Nat, y < M.det.natAbs → ∃ d ∈ L, Cg M (vsub ((x : Int), (y : Int)) d)) (v : Vc) : ∃ d ∈ L, Cg M (vsub v d) := by
  have r1 := Int.emod_nonneg v.1 hd
  have r2 := Int.emod_nonneg v.2 hd
  have l1 : v.1 % M.det < M.det.natAbs := Int.emod_lt v.1 hd
  have l2 : v.2 % M.det < M.det.natAbs := Int.emod_lt v.2 hd
  obtain ⟨d, hd1, hd2⟩ := h (v.1 % M.det).toNat (by omega) (v.2 % M.det).toNat (by omega)
  refine ⟨d, hd1, cg_trans (v := (v.1 % M.det, v.2 % M.det)) ?_ (by rw [Int.toNat_of_nonneg r1, Int.toNat_of_nonneg r2] at hd2; exact hd2)⟩
  have e : vsub v (v.1 % M.det, v.2 % M.det) = vmul M.det (v.1 / M.det, v.2 / M.det) := by
    have q1 := Int.mul_ediv_add_emod v.1 M.det
    have q2 := Int.mul_ediv_add_emod v.2 M.det
    apply vext
    · show v.1 - v.1 % M.det = M.det * (v.1 / M.det); omega
    · show v.2 - v.2 % M.det = M.det * (v.2 / M.det); omega
  unfold Cg
  rw [e, led_mul]
  exact ⟨Int.dvd_mul_right _ _, Int.dvd_mul_right _ _⟩
theorem box_rests : ∀ M ∈ tables, ∀ n : Nat, n < 3 → 1 ≤ n → ∀ x : Nat, x < M.det.natAbs → ∀ y : Nat, y < M.det.natAbs → ∃ d ∈ box n, Cg M (vsub ((x : Int), (y : Int)) d) := by decide +kernel
def reps (M : Tb) : List Vc := if M.det.natAbs = 4 then [(0, 0), (1, 0), (0, 1), (1, 1)] else (List.range M.det.natAbs).map fun (i : Nat) => (((i : Int), (0 : Int)) : Vc)
theorem reps_rests : ∀ M ∈ tables, (reps M).length = M.det.natAbs ∧ ∀ x : Nat, x < M.det.natAbs → ∀ y : Nat, y < M.det.natAbs → ∃ d ∈ reps M, Cg M (vsub ((x : Int), (y : Int)) d) := by decide +kernel
theorem cg_symm {M : Tb} {u v : Vc} (h : Cg M (vsub u v)) : Cg M (vsub v u) := by
  have e : M.adj.led (vsub v u) = vmul (-1) (M.adj.led (vsub u v)) := by
    rw [← led_mul]; congr 1; apply vext <;> simp only [vsub, vmul] <;> omega
  unfold Cg at h ⊢
  rw [e]
  exact ⟨Int.dvd_trans h.1 (Int.dvd_mul_left _ _), Int.dvd_trans h.2 (Int.dvd_mul_left _ _)⟩
/-- as many lots of unlike rests as there are rests -/
theorem full_all {M : Tb} (hM : M ∈ tables) {gs : List Vc} (hp : gs.Pairwise fun a b => ¬ Cg M (vsub b a)) (hl : gs.length = M.det.natAbs) (v : Vc) : ∃ d ∈ gs, Cg M (vsub v d) := by
  by_cases c : ∃ d ∈ gs, Cg M (vsub v d)
  · exact c
  · exfalso
    obtain ⟨r1, r2⟩ := reps_rests M hM
    obtain ⟨f, hf⟩ := Classical.axiomOfChoice (r := fun (v : Vc) (d : Vc) => d ∈ reps M ∧ Cg M (vsub v d)) fun v => by
      obtain ⟨d, a, b⟩ := rests_all (tables_det M hM).1 r2 v
      exact ⟨d, a, b⟩
    have nd : ((gs ++ [v]).map f).Nodup := by
      show List.Pairwise _ _
      rw [List.pairwise_map, List.pairwise_append]
      refine ⟨hp.imp fun {a b} h e => h (cg_trans (hf b).2 (cg_symm (by rw [← e]; exact (hf a).2))), List.pairwise_singleton _ _, fun a ha b hb e => ?_⟩
      have : b = v := by simpa using hb
      subst this
      exact c ⟨a, ha, cg_trans (hf b).2 (cg_symm (by rw [← e]; exact (hf a).2))⟩
    have := nodup_le _ _ nd fun x hx => by
      obtain ⟨y, _, rfl⟩ := List.mem_map.mp hx
      exact (hf y).1
    rw [List.length_map, List.length_append, List.length_singleton, r1, hl] at this
    omega
theorem lundone_ok {M : Tb} {w : Vc} (r : RS M) (hM : M.det ≠ 0) (hw : SzV w) : m__law_undone (tabD M) (lotD w) = .ok (if Cg M w then lotD (back M w) else .none) := by
  have bd : bigD M.det = true := bigD_of (k := 10) (Nat.lt_of_le_of_lt (det_bd r) (by decide)) (by decide)
  obtain ⟨a1, a2, a3, a4⟩ := r.sz
  have e1 : M.d * w.1 - M.b * w.2 = (M.adj.led w).1 := by simp only [Tb.led, Tb.adj]; grind
  have e2 : M.a * w.2 - M.c * w.1 = (M.adj.led w).2 := by simp only [Tb.led, Tb.adj]; grind
  have s1 : sub (.int (M.d * w.1)) (.int (M.b * w.2)) = .ok (.int (M.adj.led w).1) := by rw [sub_i, e1]
  have s2 : sub (.int (M.a * w.2)) (.int (M.c * w.1)) = .ok (.int (M.adj.led w).2) := by rw [sub_i, e2]
  have sd : sub (.int (M.a * M.d)) (.int (M.b * M.c)) = .ok (.int M.det) := rfl
  unfold m__law_undone
  refine bok (un2_t _ _) <| bok (un2_t _ _) <| bok (un2_t _ _) <| bok (mul_i a1 a4) <| bok (mul_i a2 a3) <| bok sd <| bok (item0 _ _) <| bok (mul_i a4 hw.1) <| bok (item1 _ _ _) <| bok (mul_i a2 hw.2) <| bok s1 <| bok (item1 _ _ _) <| bok (mul_i a1 hw.2) <| bok (item0 _ _) <| bok (mul_i a3 hw.1) <| bok s2 ?_
  have f1 := fmod_zero (i := (M.adj.led w).1) (j := M.det)
  have f2 := fmod_zero (i := (M.adj.led w).2) (j := M.det)
  have nT : ∀ {i : Int}, i.fmod M.det = 0 → neD (.int (i.fmod M.det)) (PyData.int 0) = .ok false := fun h => by rw [ne_i, h]; rfl
  have nF : ∀ {i : Int}, ¬ i.fmod M.det = 0 → neD (.int (i.fmod M.det)) (PyData.int 0) = .ok true := fun h => by rw [ne_i, decide_eq_false h]; rfl
  by_cases c1 : M.det ∣ (M.adj.led w).1
  · by_cases c2 : M.det ∣ (M.adj.led w).2
    · have c : Cg M w := ⟨c1, c2⟩
      rw [if_pos c]
      exact bokF (bok (int_i _) <| bok (fmod_i hM) <| bokF (nT (f1.mpr c1)) <| bok (int_i _) <| bok (fmod_i hM) <| bok (nT (f2.mpr c2)) rfl) <| bok (fdiv_i hM bd) <| bok (fdiv_i hM bd) rfl
    · have c : ¬ Cg M w := fun h => c2 h.2
      rw [if_neg c]
      exact bokT (bok (int_i _) <| bok (fmod_i hM) <| bokF (nT (f1.mpr c1)) <| bok (int_i _) <| bok (fmod_i hM) <| bok (nF (fun q => c2 (f2.mp q))) rfl) rfl
  · have c : ¬ Cg M w := fun h => c1 h.1
    rw [if_neg c]
    exact bokT (bok (int_i _) <| bok (fmod_i hM) <| bokT (nF (fun q => c1 (f1.mp q))) rfl) rfl
/-- the lots are gone through -/
theorem found_run {M : Tb} (hM : M ∈ tables) {sr : Src} {f : D → Src × List D → R (Src × List D)}
    (hF : ∀ x28 s29, f x28 s29 = ((compL s29.2 fun x31 =>
(item x28 (PyData.int 0)).bind fun z32 =>
(item x31 (PyData.int 0)).bind fun z33 =>
(sub z32 z33).bind fun z34 =>
(item x28 (PyData.int 1)).bind fun z35 =>
(item x31 (PyData.int 1)).bind fun z36 =>
(sub z35 z36).bind fun z37 =>
(m__law_undone (tabD M) (PyData.tuple [z34, z37])).bind fun z38 =>
if (!isNone z38) = true then
R.ok (some x31)
else
R.ok none).bind fun ys39 =>
((eqD (PyData.list ys39) (PyData.list [])).bind fun z40 =>
if z40 = true then
((lenD (PyData.list s29.2)).bind fun z41 =>
(mul (.int M.a) (.int M.d)).bind fun z42 =>
(mul (.int M.b) (.int M.c)).bind fun z43 =>
(sub z42 z43).bind fun z44 =>
(absD z44).bind fun z45 =>
(ltD z41 z45).bind fun z46 =>
R.ok z46).bind fun t47 =>
R.ok t47
else
R.ok false : R Bool).bind fun t48 =>
if t48 = true then
(pushM s29.2 [x28]).bind fun (z49, y50) =>
R.ok (s29.1, y50)
else
R.ok (s29.1, s29.2))) :
    ∀ (ls fs : List Vc), (∀ d ∈ ls, nv d ≤ 2) → (∀ d ∈ fs, nv d ≤ 2) → (fs.Pairwise fun a b => ¬ Cg M (vsub b a)) → fs.length ≤ M.det.natAbs →
      ∃ gs : List Vc, forS (ls.map lotD) (sr, fs.map lotD) f = .ok (sr, gs.map lotD) ∧ (∀ d ∈ gs, nv d ≤ 2) ∧ (gs.Pairwise fun a b => ¬ Cg M (vsub b a)) ∧ gs.length ≤ M.det.natAbs ∧ fs.length ≤ gs.length ∧ (∀ d ∈ fs, d ∈ gs) ∧ (gs.length = M.det.natAbs ∨ ∀ v ∈ ls, ∃ d ∈ gs, Cg M (vsub v d))
  | [], fs, _, hf, hp, hn => ⟨fs, rfl, hf, hp, hn, Nat.le_refl _, fun d h => h, .inr fun v h => by simp at h⟩
  | v :: ls, fs, hl, hf, hp, hn => by
    have r := tables_rs M hM
    obtain ⟨hd, hd4, _⟩ := tables_det M hM
    have nv0 := hl v (by simp)
    have test : ∀ gs : List Vc, (∀ d ∈ gs, nv d ≤ 2) → compP (gs.map lotD) (fun x31 =>
(item (lotD v) (PyData.int 0)).bind fun z32 =>
(item x31 (PyData.int 0)).bind fun z33 =>
(sub z32 z33).bind fun z34 =>
(item (lotD v) (PyData.int 1)).bind fun z35 =>
(item x31 (PyData.int 1)).bind fun z36 =>
(sub z35 z36).bind fun z37 =>
(m__law_undone (tabD M) (PyData.tuple [z34, z37])).bind fun z38 =>
if (!isNone z38) = true then
R.ok (some x31)
else
R.ok none) = .ok ((gs.filter fun d => decide (Cg M (vsub v d))).map lotD) := fun gs hg => by
      refine compP_filter fun d hd' => ?_
      have hs : SzV (vsub v d) := SzV.of (k := 10) (by have := nv_sub v d; have := hg d hd'; omega) (by decide)
      have i0 : ∀ w : Vc, item (lotD w) (PyData.int 0) = .ok (.int w.1) := fun _ => item0 _ _
      have i1 : ∀ w : Vc, item (lotD w) (PyData.int 1) = .ok (.int w.2) := fun _ => item1 _ _ _
      refine bok (i0 v) <| bok (i0 d) <| bok (sub_i _ _) <| bok (i1 v) <| bok (i1 d) <| bok (sub_i _ _) <| bok (lundone_ok r hd hs) ?_
      by_cases c : Cg M (vsub v d)
      · rw [if_pos c, decide_eq_true c]; rfl
      · rw [if_neg c, decide_eq_false c]; rfl
    have hc := test fs hf
    have he := eq_empty (fs.filter fun d => decide (Cg M (vsub v d)))
    have hemp : (fs.filter fun d => decide (Cg M (vsub v d))).isEmpty = !hasCg M v fs := filter_empty _ fs
    obtain ⟨a1, a2, a3, a4⟩ := r.sz
    have sd : sub (.int (M.a * M.d)) (.int (M.b * M.c)) = .ok (.int M.det) := rfl
    by_cases h : hasCg M v fs = true
    · obtain ⟨gs, e, g1, g2, g3, g4, g5, g6⟩ := found_run hM (sr := sr) hF ls fs (fun d hd => hl d (by simp [hd])) hf hp hn
      refine ⟨gs, ?_, g1, g2, g3, g4, g5, ?_⟩
      · rw [List.map_cons, forS_cons]
        refine bok ?_ e
        rw [hF]
        exact bok (by rw [compL_of (by rw [List.length_map]; omega)]; exact hc) <| bokF (bokF (by rw [he, hemp, h]; rfl) rfl) rfl
      · rcases g6 with q | q
        · exact .inl q
        · refine .inr fun w hw => ?_
          rcases List.mem_cons.mp hw with q' | q'
          · subst q'
            obtain ⟨d, hd', hcg⟩ := List.any_eq_true.mp h
            exact ⟨d, g5 d hd', of_decide_eq_true hcg⟩
          · exact q w q'
    · have h' : hasCg M v fs = false := by simpa using h
      have hno : ∀ d ∈ fs, ¬ Cg M (vsub v d) := fun d hd' hcg => by
        have : hasCg M v fs = true := List.any_eq_true.mpr ⟨d, hd', decide_eq_true hcg⟩
        rw [this] at h'; cases h'
      by_cases g : fs.length < M.det.natAbs
      · obtain ⟨gs, e, g1, g2, g3, g4, g5, g6⟩ := found_run hM (sr := sr) hF ls (fs ++ [v]) (fun d hd => hl d (by simp [hd])) (fun d hd => by
          rcases List.mem_append.mp hd with q | q
          · exact hf d q
          · have : d = v := by simpa using q
            subst this; exact nv0) (by
          rw [List.pairwise_append]
          refine ⟨hp, List.pairwise_singleton _ _, fun a ha b hb => ?_⟩
          have : b = v := by simpa using hb
          subst this; exact hno a ha) (by rw [List.length_append, List.length_singleton]; omega)
        refine ⟨gs, ?_, g1, g2, g3, by rw [List.length_append, List.length_singleton] at g4; omega, fun d hd => g5 d (by simp [hd]), ?_⟩
        · rw [List.map_cons, forS_cons]
          refine bok ?_ e
          rw [hF]
          have hp' : pushM (fs.map lotD) [lotD v] = .ok (.none, (fs ++ [v]).map lotD) := by
            rw [push1 _ _ (by rw [List.length_map]; omega), List.map_append]; rfl
          exact bok (by rw [compL_of (by rw [List.length_map]; omega)]; exact hc) <| bokT (bokT (by rw [he, hemp, h']; rfl) <| bok (bok (len_l _) <| bok (mul_i a1 a4) <| bok (mul_i a2 a3) <| bok sd <| bok (abs_i _) <| bok (by rw [lt_i, List.length_map, decide_eq_true (Int.ofNat_lt.mpr g)]) rfl) rfl) <| bok hp' rfl
        · rcases g6 with q | q
          · exact .inl q
          · refine .inr fun w hw => ?_
            rcases List.mem_cons.mp hw with q' | q'
            · subst q'; exact ⟨w, g5 w (by simp), cg_self M w⟩
            · exact q w q'
      · obtain ⟨gs, e, g1, g2, g3, g4, g5, g6⟩ := found_run hM (sr := sr) hF ls fs (fun d hd => hl d (by simp [hd])) hf hp hn
        refine ⟨gs, ?_, g1, g2, g3, g4, g5, .inl (by omega)⟩
        rw [List.map_cons, forS_cons]
        refine bok ?_ e
        rw [hF]
        exact bok (by rw [compL_of (by rw [List.length_map]; omega)]; exact hc) <| bokF (bokT (by rw [he, hemp, h']; rfl) <| bok (bok (len_l _) <| bok (mul_i a1 a4) <| bok (mul_i a2 a3) <| bok sd <| bok (abs_i _) <| bok (by rw [lt_i, List.length_map, decide_eq_false (fun q => g (Int.ofNat_lt.mp q))]) rfl) rfl) rfl
theorem box_small {n : Nat} (h1 : 1 ≤ n) (h2 : n < 3) : (∀ d ∈ box n, nv d ≤ 2) ∧ (box n).length ≤ 25 := by
  have c : n = 1 ∨ n = 2 := by omega
  rcases c with rfl | rfl <;> decide
theorem add_lots {a b : List Vc} (h : a.length + b.length < 1000) : add (.list (a.map lotD)) (.list (b.map lotD)) = .ok (.list ((a ++ b).map lotD)) := by
  rw [add_l (by rw [List.length_map, List.length_map]; omega), List.map_append]
theorem digits_ok {n k : Nat} {M : Tb} {s : Src} (hM : M ∈ tables) (h1 : 1 ≤ n) (h2 : n < 3) (h : Ok (k + 60) s) : ∃ (ds : List Vc) (s' : Src), m__law_digits s (tabD M) (.int (n : Int)) = .ok (.tuple (ds.map lotD), s') ∧ (∀ d ∈ ds, nv d ≤ 2) ∧ ds.length ≤ 4 ∧ (∀ v : Vc, ∃ d ∈ ds, Cg M (vsub v d)) ∧ Ok k s' := by
  obtain ⟨b1, b2⟩ := box_small h1 h2
  obtain ⟨hd, hd4, _⟩ := tables_det M hM
  obtain ⟨r, s1, e1, hr, o1⟩ := pick_ok (n := k + 59) h (many := 5) (by decide) (by decide)
  obtain ⟨ys, s2, e2, p2, o2⟩ := mixed_ok (n := k) (xs := (box n).map lotD) (Ok.le o1 (by rw [List.length_map]; omega)) (by rw [List.length_map]; omega)
  obtain ⟨ls, rfl, pl⟩ := perm_lots p2
  have ll : ls.length ≤ 25 := by rw [pl.length_eq]; exact b2
  obtain ⟨fl, e3, f1, f2⟩ : ∃ fl : List Vc, mul (PyData.list [(PyData.tuple [(PyData.int 0), (PyData.int 0)])]) (.int (if decide ((0 : Int) < (r : Int)) then 1 else 0)) = .ok (.list (fl.map lotD)) ∧ (∀ d ∈ fl, nv d ≤ 2) ∧ fl.length ≤ 1 := by
    by_cases c : (0 : Int) < (r : Int)
    · rw [decide_eq_true c]; exact ⟨[zv], rfl, by decide, by decide⟩
    · rw [decide_eq_false c]; exact ⟨[], rfl, by simp, by simp⟩
  have l3 : ∀ d ∈ fl ++ ls, nv d ≤ 2 := fun d hd => by
    rcases List.mem_append.mp hd with q | q
    · exact f1 d q
    · exact b1 d (pl.mem_iff.mp q)
  obtain ⟨gs, e4, g1, g2, g3, _, _, g6⟩ := found_run hM (sr := s2) (fun _ _ => rfl) (fl ++ ls) [] l3 (by simp) (by simp) (by simp)
  refine ⟨gs, s2, ?_, g1, by omega, fun v => ?_, o2⟩
  · obtain ⟨r1, r2⟩ := box_run h1 (by omega) (f := fun x4 s5 => (sub (PyData.int 0) (.int (n : Int))).bind fun z7 => (add (.int (n : Int)) (PyData.int 1)).bind fun z8 => (range2 z7 z8).bind fun z9 => (compL z9 fun x10 => R.ok (some (PyData.tuple [x4, x10]))).bind fun ys11 => (add s5 (PyData.list ys11)).bind fun z12 => R.ok z12) (fun _ _ => rfl)
    unfold m__law_digits
    exact bok (un2_t _ _) <| bok (un2_t _ _) <| bok (un2_t _ _) <| bok (sub_i _ _) <| bok (add_i _ _) <| bok r1 <| bok r2 <| bok e1 <| bok (gt_i _ _) <| bok rfl <| bok e3 <| bok e2 <| bok (add_lots (by omega)) <| bok (iter_l _) <| bok e4 <| bok (tuple_l _) rfl
  · rcases g6 with q | q
    · exact full_all hM g2 q v
    · obtain ⟨d, hd1, c⟩ := rests_all hd (box_rests M hM n h2 h1) v
      obtain ⟨g, hg, c2⟩ := q d (List.mem_append.mpr (.inr (pl.mem_iff.mpr hd1)))
      exact ⟨g, hg, cg_trans c c2⟩
theorem base_ok {n k : Nat} {s : Src} (h1 : 1 ≤ n) (h2 : n < 3) (h : Ok (k + 61) s) : ∃ (M : Tb) (ds : List Vc) (s' : Src), m__law_base s (.int (n : Int)) = .ok (baseD M ds, s') ∧ M ∈ tables ∧ (∀ d ∈ ds, nv d ≤ 2) ∧ ds.length ≤ 4 ∧ 1 ≤ ds.length ∧ (∀ v : Vc, ∃ d ∈ ds, Cg M (vsub v d)) ∧ Ok k s' := by
  obtain ⟨r, d1, s1, e1, x1, o1⟩ := of_ok (n := k + 60) (xs := tables.map tabD) h (by decide) (by decide)
  obtain ⟨M, hM, rfl⟩ := List.mem_map.mp (List.mem_of_getElem? x1)
  obtain ⟨ds, s2, e2, q1, q2, q3, o2⟩ := digits_ok hM h1 h2 o1
  refine ⟨M, ds, s2, ?_, hM, q1, q2, ?_, q3, o2⟩
  · unfold m__law_base
    exact bok (a := .list (tables.map tabD)) rfl <| bok e1 <| bok e2 rfl
  · obtain ⟨d, hd, _⟩ := q3 (0, 0)
    exact List.length_pos_of_mem hd
end K11

set_option autoImplicit false
set_option linter.all false
set_option maxRecDepth 100000
set_option exponentiation.threshold 20000
namespace K11
open PySem L2 Z
theorem small_d {k : Nat} (h : k < 4) : Small 0 3 (numD k) := by
  have s := Small.int (i := (k : Int)) (by omega)
  refine ⟨s.plain, s.depth, s.show', s.nodict, s.leaf, ?_⟩
  have c : k = 0 ∨ k = 1 ∨ k = 2 ∨ k = 3 := by omega
  rcases c with rfl | rfl | rfl | rfl <;> decide
theorem small_ns {l : List Nat} (h : ∀ k ∈ l, k < 4) (hl : l.length ≤ 2500) : Small 1 10000 (nums l) := by
  have q : SmallAll 0 ((l.map numD).length * (3 + 1)) (l.map numD) := SmallAll.all fun d hd => by
    obtain ⟨k, h1, rfl⟩ := List.mem_map.mp hd
    exact small_d (h k h1)
  rw [List.length_map] at q
  exact q.tuple.mono (by decide) (by omega)
theorem small_nm {v : Vc} {ks js : List Nat} (hv : nv v ≤ 97) (hk : ∀ k ∈ ks, k < 4) (hj : ∀ k ∈ js, k < 4) (lk : ks.length ≤ 2500) (lj : js.length ≤ 2500) : Small 2 21000 (nameD v ks js) :=
  (SmallAll.tuple (SmallAll.cons (small_lot (k := 10) (Nat.lt_of_le_of_lt hv (by decide))) (SmallAll.cons (small_ns hk lk) (SmallAll.cons (small_ns hj lj) SmallAll.nil)))).mono (by decide) (by decide)
theorem rep_get' {l : List Nat} (h : 1 ≤ l.length) (m i : Nat) (hi : i < ((List.replicate m l).flatten).length) : ((List.replicate m l).flatten).getD i 0 = l.getD (i % l.length) 0 := rep_get l m i (by rwa [rep_len] at hi)
theorem rot_get {js : List Nat} {l i : Nat} (hl : l < js.length) (hi : i < js.length) : (js.drop l ++ js.take l).getD i 0 = js.getD ((l + i) % js.length) 0 := by
  rw [List.getD_eq_getElem?_getD, List.getD_eq_getElem?_getD]
  by_cases c : i < js.length - l
  · rw [List.getElem?_append_left (by rw [List.length_drop]; exact c), List.getElem?_drop, Nat.mod_eq_of_lt (by omega)]
  · rw [List.getElem?_append_right (by rw [List.length_drop]; omega), List.length_drop, List.getElem?_take_of_lt (by omega), Nat.mod_eq_sub_mod (by omega), Nat.mod_eq_of_lt (by omega)]
    congr 2; omega
/-- a longer telling of the same word -/
theorem longer_ok {n : Nat} {s : Src} (ho : Ok (n + 2) s) {v : Vc} {ks js : List Nat} (l1 : 1 ≤ js.length) (lj : js.length ≤ 4) (lk : ks.length ≤ 4) :
    ∃ (ks' js' : List Nat) (s' : Src), m__law_longer s (nameD v ks js) = .ok (nameD v ks' js', s') ∧ wd ks' js' = wd ks js ∧ ks'.length ≤ 12 ∧ 1 ≤ js'.length ∧ js'.length ≤ 12 ∧ Ok n s' := by
  obtain ⟨r1, s1, e1, h1, o1⟩ := pick_ok (n := n + 1) ho (many := 2 * (js.length : Int) + 1) (by omega) (by omega)
  obtain ⟨r2, s2, e2, h2, o2⟩ := pick_ok (n := n) o1 (many := 3) (by decide) (by decide)
  let w := wd ks js
  let A := ks.length
  let T := js.length
  have hw := wd_per ks js
  let rot := js.drop (r1 % T) ++ js.take (r1 % T)
  have lt : r1 % T < T := Nat.mod_lt _ l1
  have rl : rot.length = T := by
    show (js.drop (r1 % T) ++ js.take (r1 % T)).length = T
    rw [List.length_append, List.length_drop, List.length_take]; omega
  have ek : ks ++ seg (wd [] js) 0 r1 = seg w 0 (A + r1) := by
    rw [← seg_append w 0 A r1, Nat.zero_add]
    congr 1
    · exact (seg_ks ks js).symm
    · unfold seg
      refine List.map_congr_left fun i _ => ?_
      have a := wd_ge (ks := ([] : List Nat)) (js := js) i
      have b := wd_ge (ks := ks) (js := js) i
      rw [List.length_nil] at a
      rw [a]; exact b.symm
  have ej : (List.replicate (1 + r2) rot).flatten = seg w (A + r1) ((List.replicate (1 + r2) rot).flatten).length := by
    refine (list_seg fun i hi => ?_).symm
    rw [rep_get' (by omega) _ _ hi, rl]
    have im : i % T < T := Nat.mod_lt _ l1
    rw [rot_get lt im, Nat.add_assoc]
    show wd ks js (ks.length + (r1 + i)) = _
    rw [wd_ge]
    congr 1
    show (r1 + i) % T = (r1 % T + i % T) % T
    exact Nat.add_mod _ _ _
  have len : ((List.replicate (1 + r2) rot).flatten).length = (1 + r2) * T := by rw [rep_len, rl]
  have l12 : (1 + r2) * T ≤ 3 * 4 := Nat.mul_le_mul (by omega) lj
  have l11 : 1 * 1 ≤ (1 + r2) * T := Nat.mul_le_mul (by omega) l1
  refine ⟨ks ++ seg (wd [] js) 0 r1, (List.replicate (1 + r2) rot).flatten, s2, ?_, ?_, ?_, by rw [len]; omega, by rw [len]; omega, o2⟩
  · unfold m__law_longer nameD
    have ln : ∀ l : List Nat, lenD (nums l) = .ok (.int (l.length : Int)) := fun l => by
      show R.ok _ = R.ok _
      rw [List.length_map]
    have m2 : mul (PyData.int 2) (.int (js.length : Int)) = .ok (.int (2 * (js.length : Int))) := mul_l (by decide)
    have row : m__law_row (PyData.tuple [lotD v, PyData.tuple [], nums js]) (.int (r1 : Int)) = .ok (nums (seg (wd [] js) 0 r1)) := row_ok (ks := []) (lotD v) l1 (by omega) (by simp) (by omega)
    have fm : fmod (.int (r1 : Int)) (.int (js.length : Int)) = .ok (.int ((r1 % T : Nat) : Int)) := by
      rw [fmod_i (by omega), Int.fmod_eq_emod_of_nonneg _ (by omega)]; rfl
    have mm : mul (nums rot) (.int (1 + (r2 : Int))) = .ok (nums (List.replicate (1 + r2) rot).flatten) := by
      have := mul_nums (l := rot) (m := 1 + r2) (by omega) (by intro e; rw [e] at rl; simp at rl; omega) (by rw [rl]; have : T * (1 + r2) ≤ 4 * 3 := Nat.mul_le_mul lj (by omega); omega)
      rw [show ((1 + r2 : Nat) : Int) = 1 + (r2 : Int) by omega] at this
      exact this
    refine bok (un3_t _ _ _) <| bok (ln js) <| bok m2 <| bok (add_i _ _) <| bok e1 <| bok e2 <| bok (add_i _ _) <| bok row <| bok (int_i _) <| bok (ln js) <| bok fm <| bok (add_nums (by rw [seg_len]; omega)) <| bok (toI_i _) <| bok (nums_drop js (r1 % T)) <| bok (toI_i _) <| bok (nums_take js (r1 % T)) <| bok (add_nums (by rw [List.length_drop, List.length_take]; omega)) <| bok mm rfl
  · have P : Per w (A + r1) ((1 + r2) * T) := fun i hi => hw.mul (1 + r2) i (by show ks.length ≤ i; omega)
    rw [ek, ej, len]
    exact wd_seg (by omega) P
  · rw [List.length_append, seg_len]; omega
theorem end1 : m_least_name (nameD (0, 0) [0, 1, 1] [1, 1]) = .ok (nameD (0, 0) [0] [1]) := by unfold m_least_name; rfl
theorem end2 : m_least_name (nameD (1, 0) [1, 0] [0, 1, 0]) = .ok (nameD (1, 0) [] [1, 0, 0]) := by unfold m_least_name; rfl
theorem forT_inv {τ β : Type} {f : D → τ → R (Fl τ)} {k : Fl τ → R β} {r : R β} (I : Nat → τ → Prop) (h : ∀ n x st, I (n + 1) st → ∃ st', f x st = .ok (.nx st') ∧ I n st') : ∀ {xs : List D} {st : τ}, I xs.length st → (∀ st', I 0 st' → k (.nx st') = r) → (forT xs st f).bind k = r
  | [], st, i, hk => hk st i
  | x :: xs, st, i, hk => by
    obtain ⟨s1, e1, i1⟩ := h xs.length x st i
    show ((f x st).bind _).bind k = r
    rw [e1]
    exact forT_inv I h i1 hk
/-- one of the three longer ones -/
theorem turn_ok {M : Tb} {ds : List Vc} (hM : M ∈ tables) (b : Base M ds) (d4 : ds.length ≤ 4) {v : Vc} {ks js : List Nat} {s q : Nat} {X Y C : Int} (hv : nv v ≤ 4) (hk : ∀ k ∈ ks, k < ds.length) (hj : ∀ k ∈ js, k < ds.length) (l1 : 1 ≤ js.length) (lj : js.length ≤ 4) (lk : ks.length ≤ 4) (can : Can (wd ks js) s q) (hs : s ≤ 4) (hq : q ≤ 4) (wa : WorthAt M ds v ks js X Y C)
    (sP : Small 2 604 (pointD ((X, Y), C))) {f : D → Src → R (Fl Src)} (hf : ∀ x52 s53, f x52 s53 = ((m__law_longer s53 (nameD v ks js)).bind fun (z55, s56) =>
((m_least_name z55).bind fun z57 =>
(reprD z57).bind fun z58 =>
(reprD (nameD v (seg (wd ks js) 0 s) (seg (wd ks js) s q))).bind fun z59 =>
(neD z58 z59).bind fun z60 =>
if z60 = true then
R.ok true
else
(m_worth (baseD M ds) z55).bind fun z61 =>
(reprD z61).bind fun z62 =>
(reprD (pointD ((X, Y), C))).bind fun z63 =>
(neD z62 z63).bind fun z64 =>
R.ok z64 : R Bool).bind fun t65 =>
if t65 = true then
R.ok (.rt (PyData.bool false) s56)
else
(m__law_row z55 (PyData.int 40)).bind fun z66 =>
(m__law_row (nameD v ks js) (PyData.int 40)).bind fun z67 =>
(neD z66 z67).bind fun z68 =>
if z68 = true then
R.ok (.rt (PyData.bool false) s56)
else
R.ok (.nx s56))) {n : Nat} {sr : Src} (ho : Ok (n + 5) sr) (x : D) : ∃ s', f x sr = .ok (.nx s') ∧ Ok n s' := by
  obtain ⟨ks', js', s', e1, hw, k12, j1, j12, o1⟩ := longer_ok (n := n) (v := v) (Ok.le ho (by omega)) l1 lj lk
  have dall := wd_all hk hj l1
  have ek : ks' = seg (wd ks js) 0 ks'.length := by rw [← hw]; exact (seg_ks ks' js').symm
  have ej : js' = seg (wd ks js) ks'.length js'.length := by rw [← hw]; exact (seg_js ks' js').symm
  have vk : ∀ k ∈ ks', k < ds.length := by rw [ek]; exact seg_all dall
  have vj : ∀ k ∈ js', k < ds.length := by rw [ej]; exact seg_all dall
  obtain ⟨s2, q2, c2, _, _, le⟩ := least_ok (v := v) (ks := ks') (js := js') j1 (by omega) (by omega)
  rw [hw] at c2 le
  obtain ⟨u1, u2⟩ := can.uniq c2
  subst u1 u2
  have ww := worth_word hM b (by omega) l1 j1 vk vj k12 (by omega) hw wa
  have sd : ∀ {a c : Nat}, ∀ k ∈ seg (wd ks js) a c, k < 4 := fun {a c} k h => Nat.lt_of_lt_of_le (seg_all dall k h) d4
  have rL : reprD (nameD v (seg (wd ks js) 0 s) (seg (wd ks js) s q)) = _ := repr_t (small_nm (v := v) (ks := seg (wd ks js) 0 s) (js := seg (wd ks js) s q) (by omega) sd sd (by rw [seg_len]; omega) (by rw [seg_len]; omega))
  have rP : reprD (pointD ((X, Y), C)) = _ := repr_t sP
  have r1 : m__law_row (nameD v ks' js') (PyData.int 40) = .ok (nums (seg (wd ks' js') 0 40)) := row_ok (many := 40) (lotD v) j1 (by decide) (by omega) (by omega)
  have r2 : m__law_row (nameD v ks js) (PyData.int 40) = .ok (nums (seg (wd ks js) 0 40)) := row_ok (many := 40) (lotD v) l1 (by decide) (by omega) (by omega)
  rw [hw] at r1
  have ne : neD (nums (seg (wd ks js) 0 40)) (nums (seg (wd ks js) 0 40)) = .ok false := by rw [ne_nums, decide_eq_true rfl]; rfl
  refine ⟨s', ?_, o1⟩
  rw [hf]
  exact bok e1 <| bokF (bok le <| bok rL <| bok rL <| bokF (ne_s _) <| bok ww <| bok rP <| bok rP <| bok (ne_s _) rfl) <| bok r1 <| bok r2 <| bokF ne rfl
set_option maxHeartbeats 0 in
/-- one lap -/
theorem lap_ok {f : D → Src → R (Fl Src)} (hf : ∀ x3 s4, f x3 s4 = ((m__law_of s4 (PyData.list [(PyData.int 1), (PyData.int 1), (PyData.int 2)])).bind fun (z6, s7) =>
(m__law_base s7 z6).bind fun (z8, s9) =>
(item z8 (PyData.int 1)).bind fun z10 =>
(lenD z10).bind fun z11 =>
(m__law_pick s9 (PyData.int 9)).bind fun (z12, s13) =>
(sub z12 (PyData.int 4)).bind fun z14 =>
(m__law_pick s13 (PyData.int 9)).bind fun (z15, s16) =>
(sub z15 (PyData.int 4)).bind fun z17 =>
(m__law_pick s16 (PyData.int 5)).bind fun (z18, s19) =>
(range1 z18).bind fun z20 =>
(compS z20 s19 fun x21 s22 =>
(m__law_pick s22 z11).bind fun (z23, s24) =>
R.ok (some z23, s24)).bind fun (ys25, s26) =>
(tupleD (PyData.list ys25)).bind fun z27 =>
(m__law_pick s26 (PyData.int 4)).bind fun (z28, s29) =>
(add (PyData.int 1) z28).bind fun z30 =>
(range1 z30).bind fun z31 =>
(compS z31 s29 fun x32 s33 =>
(m__law_pick s33 z11).bind fun (z34, s35) =>
R.ok (some z34, s35)).bind fun (ys36, s37) =>
(tupleD (PyData.list ys36)).bind fun z38 =>
(m__law_least (PyData.tuple [(PyData.tuple [z14, z17]), z27, z38])).bind fun z39 =>
(reprD (PyData.list [z8, (PyData.tuple [(PyData.tuple [z14, z17]), z27, z38])])).bind fun z40 =>
(m_worth z8 (PyData.tuple [(PyData.tuple [z14, z17]), z27, z38])).bind fun z41 =>
((m_least_name (PyData.tuple [(PyData.tuple [z14, z17]), z27, z38])).bind fun z42 =>
(reprD z42).bind fun z43 =>
(reprD z39).bind fun z44 =>
(neD z43 z44).bind fun z45 =>
if z45 = true then
R.ok true
else
(m_least_name z39).bind fun z46 =>
(reprD z46).bind fun z47 =>
(reprD z39).bind fun z48 =>
(neD z47 z48).bind fun z49 =>
R.ok z49 : R Bool).bind fun t50 =>
if t50 = true then
R.ok (.rt (PyData.bool false) s37)
else
(range1 (PyData.int 3)).bind fun z51 =>
(forT z51 s37 fun x52 s53 =>
(m__law_longer s53 (PyData.tuple [(PyData.tuple [z14, z17]), z27, z38])).bind fun (z55, s56) =>
((m_least_name z55).bind fun z57 =>
(reprD z57).bind fun z58 =>
(reprD z39).bind fun z59 =>
(neD z58 z59).bind fun z60 =>
if z60 = true then
R.ok true
else
(m_worth z8 z55).bind fun z61 =>
(reprD z61).bind fun z62 =>
(reprD z41).bind fun z63 =>
(neD z62 z63).bind fun z64 =>
R.ok z64 : R Bool).bind fun t65 =>
if t65 = true then
R.ok (.rt (PyData.bool false) s56)
else
(m__law_row z55 (PyData.int 40)).bind fun z66 =>
(m__law_row (PyData.tuple [(PyData.tuple [z14, z17]), z27, z38]) (PyData.int 40)).bind fun z67 =>
(neD z66 z67).bind fun z68 =>
if z68 = true then
R.ok (.rt (PyData.bool false) s56)
else
R.ok (.nx s56)).bind fun
| .nx s54 =>
((m_name_of z8 z41).bind fun z69 =>
((m_least_name z69).bind fun z70 =>
(reprD z70).bind fun z71 =>
(reprD z69).bind fun z72 =>
(neD z71 z72).bind fun z73 =>
if z73 = true then
R.ok true
else
(m_worth z8 z69).bind fun z74 =>
(reprD z74).bind fun z75 =>
(reprD z41).bind fun z76 =>
(neD z75 z76).bind fun z77 =>
R.ok z77 : R Bool).bind fun t78 =>
if t78 = true then
R.ok (.rt (PyData.bool false) s54)
else
(reprD (PyData.list [z8, (PyData.tuple [(PyData.tuple [z14, z17]), z27, z38])])).bind fun z79 =>
(neD z79 z40).bind fun z80 =>
if z80 = true then
R.ok (.rt (PyData.bool false) s54)
else
R.ok (.nx s54))
| .bk _ => .stuck
| .rt r81 s54 =>
(R.ok (.rt r81 s54)))) {n : Nat} {s : Src} (ho : Ok (n + 100) s) (x : D) : ∃ s', f x s = .ok (.nx s') ∧ Ok n s' := by
  obtain ⟨r0, d0, s1, e1, h1, o1⟩ := of_ok (n := n + 99) (xs := [(PyData.int 1), (PyData.int 1), (PyData.int 2)]) ho (by decide) (by decide)
  obtain ⟨far, rfl, hf1, hf2⟩ : ∃ far : Nat, d0 = .int (far : Int) ∧ 1 ≤ far ∧ far < 3 := by
    have := List.mem_of_getElem? h1
    simp only [List.mem_cons, List.not_mem_nil, or_false] at this
    rcases this with rfl | rfl | rfl
    · exact ⟨1, rfl, by decide, by decide⟩
    · exact ⟨1, rfl, by decide, by decide⟩
    · exact ⟨2, rfl, by decide, by decide⟩
  obtain ⟨M, ds, s2, e2, hM, hd2, d4, d1, hc, o2⟩ := base_ok (k := n + 38) hf1 hf2 o1
  have b : Base M ds := ⟨tables_rs M hM, fun d hd => Nat.le_trans (hd2 d hd) (by decide)⟩
  obtain ⟨r1, s3, e3, h3, o3⟩ := pick_ok (n := n + 37) o2 (many := 9) (by decide) (by decide)
  obtain ⟨r2, s4, e4, h4, o4⟩ := pick_ok (n := n + 36) o3 (many := 9) (by decide) (by decide)
  obtain ⟨r3, s5, e5, h5, o5⟩ := pick_ok (n := n + 35) o4 (many := 5) (by decide) (by decide)
  obtain ⟨ks, s6, e6, lk, hk, o6⟩ := picks_ok (n := n + 31) (cnt := r3) (m := ds.length) (Ok.le o5 (by omega)) (by omega) d1 (by omega) (f := fun x21 s22 => (m__law_pick s22 (.int (ds.length : Int))).bind fun (z23, s24) => R.ok (some z23, s24)) (fun _ _ => rfl)
  obtain ⟨r4, s7, e7, h7, o7⟩ := pick_ok (n := n + 30) o6 (many := 4) (by decide) (by decide)
  obtain ⟨js, s8, e8, lj, hj, o8⟩ := picks_ok (n := n + 26) (cnt := 1 + r4) (m := ds.length) (Ok.le o7 (by omega)) (by omega) d1 (by omega) (f := fun x32 s33 => (m__law_pick s33 (.int (ds.length : Int))).bind fun (z34, s35) => R.ok (some z34, s35)) (fun _ _ => rfl)
  have lk4 : ks.length ≤ 4 := by omega
  have lj1 : 1 ≤ js.length := by omega
  have lj4 : js.length ≤ 4 := by omega
  obtain ⟨v, hv1, hv2, hv⟩ : ∃ v : Vc, (r1 : Int) - 4 = v.1 ∧ (r2 : Int) - 4 = v.2 ∧ nv v ≤ 4 := ⟨((r1 : Int) - 4, (r2 : Int) - 4), rfl, rfl, nv_le (by show ((r1 : Int) - 4).natAbs ≤ _; omega) (by show ((r2 : Int) - 4).natAbs ≤ _; omega)⟩
  have q1 : sub (.int (r1 : Int)) (PyData.int 4) = .ok (.int v.1) := by rw [sub_i, hv1]
  have q2 : sub (.int (r2 : Int)) (PyData.int 4) = .ok (.int v.2) := by rw [sub_i, hv2]
  obtain ⟨sc, qc, can, cs, cq, lle⟩ := lleast_ok (v := v) (ks := ks) (js := js) lj1 (by omega) (by omega)
  obtain ⟨sc2, qc2, can2, _, _, le⟩ := least_ok (v := v) (ks := ks) (js := js) lj1 (by omega) (by omega)
  obtain ⟨u1, u2⟩ := can.uniq can2
  subst u1 u2
  have qp := can.pos
  have wseg := wd_seg qp can.per
  obtain ⟨sc3, qc3, can3, _, _, le3⟩ := least_ok (v := v) (ks := seg (wd ks js) 0 sc) (js := seg (wd ks js) sc qc) (by rw [seg_len]; exact qp) (by rw [seg_len]; omega) (by rw [seg_len]; omega)
  rw [wseg] at can3 le3
  obtain ⟨u1, u2⟩ := can.uniq can3
  subst u1 u2
  have hdet := (tables_det M hM).1
  obtain ⟨X, Y, C, ew, wa0⟩ := Sm.worth_ok b hdet (v := v) (ks := ks) (js := js) (by omega) hk hj (by omega) (by omega) (less_det hM lj1)
  have wa : WorthAt M ds v ks js X Y C := ⟨wa0.red, wa0.eq⟩
  have sP : Small 2 604 (pointD ((X, Y), C)) := small_point wa0.bx wa0.bc
  have dall := wd_all hk hj lj1
  have sd : ∀ {a c : Nat}, ∀ k ∈ seg (wd ks js) a c, k < 4 := fun {a c} k h => Nat.lt_of_lt_of_le (seg_all dall k h) d4
  have sN : Small 2 21000 (nameD v ks js) := small_nm (by omega) (fun k h => Nat.lt_of_lt_of_le (hk k h) d4) (fun k h => Nat.lt_of_lt_of_le (hj k h) d4) (by omega) (by omega)
  have rBN := repr_l ((SmallAll.list (SmallAll.cons (small_base b (by omega)) (SmallAll.cons sN SmallAll.nil))).mono (dp' := 4) (w' := 50000) (by decide) (by decide))
  have rL : reprD (nameD v (seg (wd ks js) 0 sc) (seg (wd ks js) sc qc)) = _ := repr_t (small_nm (v := v) (ks := seg (wd ks js) 0 sc) (js := seg (wd ks js) sc qc) (by omega) sd sd (by rw [seg_len]; omega) (by rw [seg_len]; omega))
  have rP : reprD (pointD ((X, Y), C)) = _ := repr_t sP
  obtain ⟨lot, ks', js', n1, n2, n3, n4, n5, n6, n7, n8, n9⟩ := name_ok hM b hd2 (by omega) (by omega) hc hv hk hj lk4 lj1 lj4 wa wa0.bc
  have rF : reprD (nameD lot ks' js') = _ := repr_t (small_nm n2 (fun k h => Nat.lt_of_lt_of_le (n3 k h) d4) (fun k h => Nat.lt_of_lt_of_le (n4 k h) d4) (by omega) n7)
  have ib : item (baseD M ds) (PyData.int 1) = .ok (.tuple (ds.map lotD)) := item1 _ _ _
  have lb : lenD (.tuple (ds.map lotD)) = .ok (.int (ds.length : Int)) := by rw [len_t, List.length_map]
  have rg1 : range1 (.int (r3 : Int)) = .ok (rangeD 0 (r3 : Int)) := range_i (by omega)
  have rg2 : range1 (.int (1 + (r4 : Int))) = .ok (rangeD 0 ((1 + r4 : Nat) : Int)) := by
    have := range_i (n := 1 + r4) (by omega)
    rw [show ((1 + r4 : Nat) : Int) = 1 + (r4 : Int) by omega] at this ⊢
    exact this
  have three : ∀ (m : Nat) (xs : List D) (st : Src), xs.length = m → Ok (n + 5 * m) st → ∃ sE, forT xs st (fun x52 s53 => ((m__law_longer s53 (nameD v ks js)).bind fun (z55, s56) =>
((m_least_name z55).bind fun z57 =>
(reprD z57).bind fun z58 =>
(reprD (nameD v (seg (wd ks js) 0 sc) (seg (wd ks js) sc qc))).bind fun z59 =>
(neD z58 z59).bind fun z60 =>
if z60 = true then
R.ok true
else
(m_worth (baseD M ds) z55).bind fun z61 =>
(reprD z61).bind fun z62 =>
(reprD (pointD ((X, Y), C))).bind fun z63 =>
(neD z62 z63).bind fun z64 =>
R.ok z64 : R Bool).bind fun t65 =>
if t65 = true then
R.ok (.rt (PyData.bool false) s56)
else
(m__law_row z55 (PyData.int 40)).bind fun z66 =>
(m__law_row (nameD v ks js) (PyData.int 40)).bind fun z67 =>
(neD z66 z67).bind fun z68 =>
if z68 = true then
R.ok (.rt (PyData.bool false) s56)
else
R.ok (.nx s56))) = .ok (.nx sE) ∧ Ok n sE := by
      intro m
      induction m with
      | zero => intro xs st hx hst; cases xs with
        | nil => exact ⟨st, rfl, by simpa using hst⟩
        | cons a l => simp at hx
      | succ m ih =>
        intro xs st hx hst
        cases xs with
        | nil => simp at hx
        | cons a l =>
          obtain ⟨st', t1, t2⟩ := turn_ok hM b d4 hv hk hj lj1 lj4 lk4 can (by omega) (by omega) wa sP (fun _ _ => rfl) (n := n + 5 * m) (sr := st) (Ok.le hst (by omega)) a
          obtain ⟨sE, f1, f2⟩ := ih l st' (by simpa using hx) t2
          refine ⟨sE, ?_, f2⟩
          exact bok t1 f1
  obtain ⟨sE, loop, oE⟩ := three 3 (rangeD 0 3) s8 (by simp [rangeD]) (Ok.le o8 (by omega))
  refine ⟨sE, ?_, oE⟩
  rw [hf]
  refine bok e1 <| bok e2 <| bok ib <| bok lb <| bok e3 <| bok q1 <| bok e4 <| bok q2 <| bok e5 <| bok rg1 <| bok e6 <| bok (tuple_l _) <| bok e7 <| bok (add_i _ _) <| bok rg2 <| bok e8 <| bok (tuple_l _) ?_
  refine bok lle <| bok rBN <| bok ew <| bokF (bok le <| bok rL <| bok rL <| bokF (ne_s _) <| bok le3 <| bok rL <| bok rL <| bok (ne_s _) rfl) ?_
  refine bok (range_i (n := 3) (by decide)) <| bok (by exact loop) ?_
  refine bok n1 <| bokF (bok n8 <| bok rF <| bok rF <| bokF (ne_s _) <| bok n9 <| bok rP <| bok rP <| bok (ne_s _) rfl) <| bok rBN <| bokF (ne_s _) rfl
theorem holds : ∀ ns : List Int, ns.length ≤ 63 → m_law ns = .ok (.bool true) := by
  intro ns hl
  obtain ⟨s0, e0, o0⟩ := source_ok ns hl
  unfold m_law
  refine bok e0 <| bok (range_i (n := 3) (by decide)) <| forT_inv (fun n st => Ok (n * 100 + 100) st) ?_ (Ok.le o0 (by simp [rangeD])) ?_
  · intro n x st ho
    exact lap_ok (fun _ _ => rfl) (n := n * 100 + 100) (Ok.le ho (by omega)) x
  · intro st o1
    have r := repr_l ((SmallAll.list (SmallAll.cons (small_nm (v := (0, 0)) (ks := [0]) (js := [1]) (by decide) (by decide) (by decide) (by decide) (by decide)) (SmallAll.cons (small_nm (v := (1, 0)) (ks := []) (js := [1, 0, 0]) (by decide) (by decide) (by decide) (by decide) (by decide)) SmallAll.nil))).mono (dp' := 4) (w' := 50000) (by decide) (by decide))
    exact bok end1 <| bok end2 <| bok r <| bok r <| bok (eq_s _) rfl
end K11

open PySem PySem.W PyProof.Rows in
set_option maxRecDepth 100000 in
set_option maxHeartbeats 0 in
theorem PySem.Challenge.cw_touchingtiles_k11_least_tellings_holds : PySem.Challenge.rw_touchingtiles_k11_least_tellings.Holds := by
  w_on; o_law; k_head; (case hw => w_witness2)
  k_fill
  refine Z.walkG (l := PySem.Challenge.rw_touchingtiles_k11_least_tellings) (n := 63) (k := 7) (x := "script") (sp := Z.spLaw) rfl (by decide) rfl ⟨rfl, by decide, by decide⟩ (fun w h Y => PySem.W.kIn_of Y) ?F (fun _ H a ns hl hS => ⟨a, ns, rfl, hS, hl, fun _ => rfl⟩)
  case F =>
    intro w mg fa h KX G hmg
    refine' K11.all_mk KX G hmg ?a0 ?l0 ?c0 ?k0 ?a1 ?l1 ?c1 ?k1 ?a2 ?l2 ?c2 ?k2 ?a3 ?l3 ?c3 ?k3 ?a4 ?l4 ?c4 ?k4 ?a5 ?l5 ?c5 ?k5 ?a6 ?l6 ?c6 ?k6 ?a7 ?l7 ?c7 ?k7 ?a8 ?l8 ?c8 ?k8 ?a9 ?l9 ?c9 ?k9 ?a10 ?l10 ?c10 ?k10 ?a11 ?l11 ?c11 ?k11 ?a12 ?l12 ?c12 ?k12 ?a13 ?l13 ?c13 ?k13 ?a14 ?l14 ?c14 ?k14 ?a15 ?l15 ?c15 ?k15 ?a16 ?l16 ?c16 ?k16 ?a17 ?l17 ?c17 ?k17 ?a18 ?l18 ?c18 ?k18 ?a19 ?l19 ?c19 ?k19 ?a20 ?l20 ?c20 ?k20 ?a21 ?l21 ?c21 ?k21 ?a22 ?l22 ?c22 ?k22 ?a23 ?l23 ?c23 ?k23 ?a24 ?l24 ?c24 ?k24 ?a25 ?l25 ?c25 ?k25 ?a26 ?l26 ?c26 ?k26 ?a27 ?l27 ?c27 ?k27 ?a28 ?l28 ?c28 ?k28 ?a29 ?l29 ?c29 ?k29 ?z_range ?z_len ?z_enumerate ?z_tuple ?z_int ?z_abs ?z_max ?z_list ?z_repr ?m_gcd ?g_MOST_CLASSES K11.holds
    (case a0 => k_is)
    (case l0 => k_is)
    (case c0 => k_is)
    (case k0 => k_is)
    (case a1 => k_is)
    (case l1 => k_is)
    (case c1 => k_is)
    (case k1 => k_is)
    (case a2 => k_is)
    (case l2 => k_is)
    (case c2 => k_is)
    (case k2 => k_is)
    (case a3 => k_is)
    (case l3 => k_is)
    (case c3 => k_is)
    (case k3 => k_is)
    (case a4 => k_is)
    (case l4 => k_is)
    (case c4 => k_is)
    (case k4 => k_is)
    (case a5 => k_is)
    (case l5 => k_is)
    (case c5 => k_is)
    (case k5 => k_is)
    (case a6 => k_is)
    (case l6 => k_is)
    (case c6 => k_is)
    (case k6 => k_is)
    (case a7 => k_is)
    (case l7 => k_is)
    (case c7 => k_is)
    (case k7 => k_is)
    (case a8 => k_is)
    (case l8 => k_is)
    (case c8 => k_is)
    (case k8 => k_is)
    (case a9 => k_is)
    (case l9 => k_is)
    (case c9 => k_is)
    (case k9 => k_is)
    (case a10 => k_is)
    (case l10 => k_is)
    (case c10 => k_is)
    (case k10 => k_is)
    (case a11 => k_is)
    (case l11 => k_is)
    (case c11 => k_is)
    (case k11 => k_is)
    (case a12 => k_is)
    (case l12 => k_is)
    (case c12 => k_is)
    (case k12 => k_is)
    (case a13 => k_is)
    (case l13 => k_is)
    (case c13 => k_is)
    (case k13 => k_is)
    (case a14 => k_is)
    (case l14 => k_is)
    (case c14 => k_is)
    (case k14 => k_is)
    (case a15 => k_is)
    (case l15 => k_is)
    (case c15 => k_is)
    (case k15 => k_is)
    (case a16 => k_is)
    (case l16 => k_is)
    (case c16 => k_is)
    (case k16 => k_is)
    (case a17 => k_is)
    (case l17 => k_is)
    (case c17 => k_is)
    (case k17 => k_is)
    (case a18 => k_is)
    (case l18 => k_is)
    (case c18 => k_is)
    (case k18 => k_is)
    (case a19 => k_is)
    (case l19 => k_is)
    (case c19 => k_is)
    (case k19 => k_is)
    (case a20 => k_is)
    (case l20 => k_is)
    (case c20 => k_is)
    (case k20 => k_is)
    (case a21 => k_is)
    (case l21 => k_is)
    (case c21 => k_is)
    (case k21 => k_is)
    (case a22 => k_is)
    (case l22 => k_is)
    (case c22 => k_is)
    (case k22 => k_is)
    (case a23 => k_is)
    (case l23 => k_is)
    (case c23 => k_is)
    (case k23 => k_is)
    (case a24 => k_is)
    (case l24 => k_is)
    (case c24 => k_is)
    (case k24 => k_is)
    (case a25 => k_is)
    (case l25 => k_is)
    (case c25 => k_is)
    (case k25 => k_is)
    (case a26 => k_is)
    (case l26 => k_is)
    (case c26 => k_is)
    (case k26 => k_is)
    (case a27 => k_is)
    (case l27 => k_is)
    (case c27 => k_is)
    (case k27 => k_is)
    (case a28 => k_is)
    (case l28 => k_is)
    (case c28 => k_is)
    (case k28 => k_is)
    (case a29 => k_is)
    (case l29 => k_is)
    (case c29 => k_is)
    (case k29 => k_is)
    (case z_range => k_is)
    (case z_len => k_is)
    (case z_enumerate => k_is)
    (case z_tuple => k_is)
    (case z_int => k_is)
    (case z_abs => k_is)
    (case z_max => k_is)
    (case z_list => k_is)
    (case z_repr => k_is)
    (case m_gcd => k_is)
    (case g_MOST_CLASSES => k_is)

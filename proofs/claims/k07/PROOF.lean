import PyProof.Rows.All
import HandS.ForMost
import HandS.Wide
import KE.DataEq
import KE.DataCmp
import KE.DataMinMax
import KE.DataAny
import KE.DataFind
import KE.SortData
import PyProof.ReprRoads
import KE.KDictKeyed
import KE.KDictSum
import KE.KDictLaw
import HandS.Comp
import HandS.NoneIn
import HandS.Walk
import HandS.Zip
import HandS.Words
import HandS.Ends
import HandS.TupAny
import HandS.TupMul
import HandS.Gcd
import HandS.More
import HandS.IsInst
import PyProof.Rows.ReprR
import HandS.Style
import HandS.Iter
import KE.GoesMore
import KE.GoesEnum
import PyProof.ReprLen
import HandS.Flow
import HandS.Text
import PySem.Challenge.RW_touchingtiles_k07_powers_undone_by_elimi
set_option Elab.async false
set_option linter.all false
set_option maxRecDepth 100000
set_option maxHeartbeats 0
set_option autoImplicit false
set_option exponentiation.threshold 5000
set_option Elab.async false
set_option linter.all false
set_option maxRecDepth 100000
/-! # Z1: plain data, outcomes, the operations that the mirrors name -/
namespace Z
open PySem

abbrev D := PyData

/-- an outcome: a value; an exception, its class's name and what it was made of; nothing is said -/
inductive R (α : Type) where
  | ok (a : α) | exc (cls : Str) (args : List D) | stuck

namespace R
def bind {α β : Type} (m : R α) (f : α → R β) : R β :=
  match m with
  | ok a => f a
  | exc c a => exc c a
  | stuck => stuck
@[simp] theorem bind_ok {α β : Type} (a : α) (f : α → R β) : (ok a).bind f = f a := rfl
@[simp] theorem bind_stuck {α β : Type} (f : α → R β) : (stuck : R α).bind f = stuck := rfl
@[simp] theorem bind_exc {α β : Type} (c : Str) (a : List D) (f : α → R β) : (exc c a : R α).bind f = exc c a := rfl
theorem bind_assoc {α β γ : Type} (m : R α) (f : α → R β) (g : β → R γ) : (m.bind f).bind g = m.bind fun a => (f a).bind g := by
  cases m <;> rfl
theorem bind_eq_ok {α β : Type} {m : R α} {f : α → R β} {b : β} (h : m.bind f = ok b) : ∃ a, m = ok a ∧ f a = ok b := by
  cases m with
  | ok a => exact ⟨a, rfl, h⟩
  | exc c a => cases h
  | stuck => cases h
end R

/-- how a loop's turn, a block ends -/
inductive Fl (τ : Type) where
  | nx (st : τ) | bk (st : τ) | rt (d : D) (st : τ)

def forT {τ : Type} : List D → τ → (D → τ → R (Fl τ)) → R (Fl τ)
  | [], st, _ => .ok (.nx st)
  | x :: xs, st, f => (f x st).bind fun
    | .nx s => forT xs s f
    | .bk s => .ok (.nx s)
    | .rt d s => .ok (.rt d s)

/-- a loop without break and return -/
def forS {τ : Type} : List D → τ → (D → τ → R τ) → R τ
  | [], st, _ => .ok st
  | x :: xs, st, f => (f x st).bind fun s => forS xs s f

inductive Wl (τ : Type) where
  | go (st : τ) | done (st : τ) | rt (d : D) (st : τ)

def whileT {τ : Type} : Nat → τ → (τ → R (Wl τ)) → R (Fl τ)
  | 0, _, _ => .stuck
  | n + 1, st, f => (f st).bind fun
    | .go s => whileT n s f
    | .done s => .ok (.nx s)
    | .rt d s => .ok (.rt d s)

/-- a comprehension's list; the state is what its element changes -/
def compT {τ : Type} : List D → τ → (D → τ → R (Option D × τ)) → R (List D × τ)
  | [], st, _ => .ok ([], st)
  | x :: xs, st, f => (f x st).bind fun p => (compT xs p.2 f).bind fun q =>
    match p.1 with
    | some y => .ok (y :: q.1, q.2)
    | none => .ok (q.1, q.2)
/-- without a state -/
def compP : List D → (D → R (Option D)) → R (List D)
  | [], _ => .ok []
  | x :: xs, f => (f x).bind fun p => (compP xs f).bind fun q =>
    match p with
    | some y => .ok (y :: q)
    | none => .ok q

/-- .. of not too many items -/
def compL (xs : List D) (f : D → R (Option D)) : R (List D) := if decide (xs.length < 16777216) then compP xs f else .stuck
def compS {τ : Type} (xs : List D) (st : τ) (f : D → τ → R (Option D × τ)) : R (List D × τ) := if decide (xs.length < 16777216) then compT xs st f else .stuck

/-! ### operations -/
def okD (d : D) : Bool := d.plain && decide (d.depth ≤ 40)
def bigM (i j : Int) : Bool := decide (i.natAbs < 2 ^ 64) || decide (j.natAbs < 2 ^ 64) || decide (i.natAbs.log2 + j.natAbs.log2 < 1000000)
def bigD (j : Int) : Bool := decide (j.natAbs.log2 < 9000)
def szOk (n : Nat) : Bool := decide (n ≤ 16777216)

def add : D → D → R D
  | .int i, .int j => .ok (.int (i + j))
  | .str a, .str b => if szOk (a.length + b.length) then .ok (.str (a ++ b)) else .stuck
  | .list a, .list b => if szOk (a.length + b.length) then .ok (.list (a ++ b)) else .stuck
  | .tuple a, .tuple b => if szOk (a.length + b.length) then .ok (.tuple (a ++ b)) else .stuck
  | _, _ => .stuck
def sub : D → D → R D
  | .int i, .int j => .ok (.int (i - j))
  | _, _ => .stuck
def repl (xs : List D) (k : Int) : List D := (List.replicate k.toNat xs).flatten
def mul : D → D → R D
  | .int i, .int j => if bigM i j then .ok (.int (i * j)) else .stuck
  | .list a, .int k => if decide (-(2 ^ 63) ≤ k) && decide (k < 2 ^ 63) && szOk (a.length * k.toNat) then .ok (.list (repl a k)) else .stuck
  | .tuple a, .int k => if decide (2 ≤ k) && decide (k ≤ 1000) && !a.isEmpty && decide (a.length ≤ 1000) then .ok (.tuple (repl a k)) else .stuck
  | _, _ => .stuck
def fdiv : D → D → R D
  | .int i, .int j => if decide (j ≠ 0) && bigD j then .ok (.int (i.fdiv j)) else .stuck
  | _, _ => .stuck
def fmod : D → D → R D
  | .int i, .int j => if decide (j ≠ 0) then .ok (.int (i.fmod j)) else .stuck
  | _, _ => .stuck
def pow : D → D → R D
  | .int i, .int j => if decide (0 ≤ j) && decide (j ≤ 1000000) && decide (i.natAbs < 2 ^ 64) then .ok (.int (i ^ j.toNat)) else .stuck
  | _, _ => .stuck
def neg : D → R D
  | .int i => .ok (.int (-i))
  | _ => .stuck

def eqD (a b : D) : R Bool := if okD a && okD b then .ok (PyData.eqv a b) else .stuck
def isNone : D → Bool
  | .none => true
  | _ => false
/-- a < b -/
def ltD : D → D → R Bool
  | .int i, .int j => .ok (decide (i < j))
  | a, b => if W.alike a b && !isNone a && okD a && okD b then .ok (W.dataLt a b) else .stuck
def neD (a b : D) : R Bool := (eqD a b).bind fun t => .ok (!t)
/-- a <= b -/
def leD : D → D → R Bool
  | .int i, .int j => .ok (decide (i ≤ j))
  | a, b => if W.alike a b && !isNone a && okD a && okD b then .ok (!W.dataLt b a) else .stuck
def gtD (a b : D) : R Bool := ltD b a
def geD (a b : D) : R Bool := leD b a
mutual
/-- the library's name of such a key -/
def nk : D → Option NestedKey
  | .int i => some (.num i)
  | .tuple xs => (nkAll xs).map .tup
  | _ => none
def nkAll : List D → Option (List NestedKey)
  | [] => some []
  | x :: xs => (nk x).bind fun k => (nkAll xs).map (k :: ·)
end
/-- a key of a dict -/
def keyN : D → Option NestedKey
  | .tuple xs => (nk (.tuple xs)).bind fun k => if decide (k.depth ≤ 8) then some k else none
  | _ => none
def dGet (kvs : List (D × D)) (k : NestedKey) : Option D := (kvs.find? fun p => decide (nk p.1 = some k)).map (·.2)
def dSet (kvs : List (D × D)) (kd : D) (k : NestedKey) (v : D) : List (D × D) :=
  if (dGet kvs k).isSome then kvs.map fun p => if nk p.1 = some k then (p.1, v) else p else kvs ++ [(kd, v)]
def dMerge : List (D × D) → List (D × NestedKey × D) → List (D × D)
  | acc, [] => acc
  | acc, (kd, k, v) :: r => dMerge (dSet acc kd k v) r
def pairsK : List D → Option (List (D × NestedKey × D))
  | [] => some []
  | .tuple [kd, v] :: r => (keyN kd).bind fun k => (pairsK r).map ((kd, k, v) :: ·)
  | _ => none
/-- dict(pairs) -/
def dictL : D → R D
  | .list ps => match pairsK ps with
    | some qs => if szOk ps.length then .ok (.dict (dMerge [] qs)) else .stuck
    | none => .stuck
  | _ => .stuck
def inD (x : D) : D → R Bool
  | .list ys => if okD x && okD (.list ys) then .ok (ys.any fun y => PyData.eqv y x) else .stuck
  | .tuple ys => if okD x && okD (.tuple ys) then .ok (ys.any fun y => PyData.eqv y x) else .stuck
  | .str z => match x with
    | .str c => .ok (!(Builtin.Str.occurrences z c 0 z.length 1).isEmpty)
    | _ => .stuck
  | .dict kvs => match keyN x with
    | some k => .ok (dGet kvs k).isSome
    | none => .stuck
  | _ => .stuck

def notInD (x y : D) : R Bool := (inD x y).bind fun t => .ok (!t)

def truth : D → R Bool
  | .none => .ok false
  | .bool b => .ok b
  | .int i => .ok (i != 0)
  | .str x => if szOk x.length then .ok (x.length != 0) else .stuck
  | .list xs => .ok (!xs.isEmpty)
  | .tuple xs => .ok (!xs.isEmpty)
  | .dict _ => .stuck

/-- the item at a place, from the end below 0 -/
def atD (xs : List D) (i : Int) : R D :=
  match L2.atI xs i with
  | some x => .ok x
  | none => .stuck
def item : D → D → R D
  | .tuple xs, .int i => atD xs i
  | .list xs, .int i => atD xs i
  | .str s, .int i => if szOk s.length then match L2.atI s.cps.toList i with
    | some c => .ok (.str ⟨#[c]⟩)
    | none => .stuck
    else .stuck
  | .dict kvs, x => match keyN x with
    | some k => match dGet kvs k with
      | some v => .ok v
      | none => .stuck
    | none => .stuck
  | _, _ => .stuck
/-- an end of a slice -/
def toI : D → R Int
  | .int i => .ok i
  | _ => .stuck
def cut {α : Type} (xs : List α) (lo hi : Option Int) : List α := (xs.drop (HT.sIx xs.length 0 lo)).take (HT.sIx xs.length xs.length hi - HT.sIx xs.length 0 lo)
def slice (a : D) (l u : Option Int) : R D := match a with
  | .tuple xs => .ok (.tuple (cut xs l u))
  | .list xs => .ok (.list (cut xs l u))
  | .str s => if szOk s.length then .ok (.str (L2.cutS s l u)) else .stuck
  | _ => .stuck
/-- xs[::-1] -/
def backwards : D → R D
  | .list xs => .ok (.list xs.reverse)
  | _ => .stuck
/-- the items that a loop, a star, list(..) walk -/
def iter : D → R (List D)
  | .tuple xs => .ok xs
  | .list xs => .ok xs
  | .str s => .ok (s.cps.toList.map fun c => .str ⟨#[c]⟩)
  | _ => .stuck
def rangeD (lo hi : Int) : List D := (List.range (hi - lo).toNat).map fun (k : Nat) => .int (lo + k)
def range2 : D → D → R (List D)
  | .int lo, .int hi => if decide (-(2 ^ 62) ≤ lo) && decide (lo < 2 ^ 62) && decide (-(2 ^ 62) ≤ hi) && decide (hi < 2 ^ 62) then .ok (rangeD lo hi) else .stuck
  | _, _ => .stuck
def range1 (a : D) : R (List D) := range2 (.int 0) a
def enumD (xs : List D) : List D := xs.zipIdx.map fun p => .tuple [.int (p.2 : Nat), p.1]
def zipD (xs ys : List D) : List D := (xs.zip ys).map fun p => .tuple [p.1, p.2]

def lenD : D → R D
  | .tuple xs => .ok (.int xs.length)
  | .list xs => .ok (.int xs.length)
  | .str s => if szOk s.length then .ok (.int s.length) else .stuck
  | .dict kvs => .ok (.int kvs.length)
  | _ => .stuck
def absD : D → R D
  | .int i => .ok (.int (if i < 0 then -i else i))
  | _ => .stuck
def maxD2 : D → D → R D
  | .int i, .int j => .ok (.int (if j > i then j else i))
  | _, _ => .stuck
def minD2 : D → D → R D
  | .int i, .int j => .ok (.int (if j < i then j else i))
  | _, _ => .stuck
def maxL : D → R D
  | .list (x :: xs) => if okD (.list (x :: xs)) && (x :: xs).all (fun a => !isNone a && (x :: xs).all fun b => W.alike a b) then .ok (W.maxD x xs) else .stuck
  | .tuple (x :: xs) => if okD (.list (x :: xs)) && (x :: xs).all (fun a => !isNone a && (x :: xs).all fun b => W.alike a b) then .ok (W.maxD x xs) else .stuck
  | _ => .stuck
def minL : D → R D
  | .list (x :: xs) => if okD (.list (x :: xs)) && (x :: xs).all (fun a => !isNone a && (x :: xs).all fun b => W.alike a b) then .ok (W.minD x xs) else .stuck
  | .tuple (x :: xs) => if okD (.list (x :: xs)) && (x :: xs).all (fun a => !isNone a && (x :: xs).all fun b => W.alike a b) then .ok (W.minD x xs) else .stuck
  | _ => .stuck
def isTup1 : D → Bool
  | .tuple (_ :: _) => true
  | _ => false
def isTup : D → Bool
  | .tuple _ => true
  | _ => false
/-- sorted(xs) -/
def sortL (xs : List D) : R D := if okD (.list xs) && xs.all (fun a => xs.all fun b => W.alike a b) && (xs.all isTup1 || xs.all fun a => !isNone a && !isTup a) && szOk xs.length then .ok (.list (xs.mergeSort (W.dataLe false id))) else .stuck
def sortedL : D → R D
  | .list xs => sortL xs
  | .dict kvs => sortL (kvs.map (·.1))
  | _ => .stuck
def intsD : List D → Option (List Int)
  | [] => some []
  | .int i :: r => (intsD r).map (i :: ·)
  | _ => none
def boolsD : List D → Option (List Bool)
  | [] => some []
  | .bool i :: r => (boolsD r).map (i :: ·)
  | _ => none
def sumL : D → R D
  | .list xs => match intsD xs with
    | some ns => .ok (.int ns.sum)
    | none => .stuck
  | _ => .stuck
def allL : D → R D
  | .list xs => match boolsD xs with
    | some bs => .ok (.bool (bs.all id))
    | none => .stuck
  | _ => .stuck
def anyL : D → R D
  | .list xs => match boolsD xs with
    | some bs => .ok (.bool (bs.any id))
    | none => .stuck
  | _ => .stuck
def tupleD : D → R D
  | .list xs => .ok (.tuple xs)
  | .tuple xs => .ok (.tuple xs)
  | _ => .stuck
def listD : D → R D
  | .list xs => .ok (.list xs)
  | .tuple xs => .ok (.list xs)
  | .dict kvs => .ok (.list (kvs.map (·.1)))
  | _ => .stuck
def fn1 (f : D → R D) : List D → R D
  | [a] => f a
  | _ => .stuck
def fn2 (f : D → D → R D) : List D → R D
  | [a, b] => f a b
  | _ => .stuck
def fn3 (f : D → D → D → R D) : List D → R D
  | [a, b, c] => f a b c
  | _ => .stuck
def fn4 (f : D → D → D → D → R D) : List D → R D
  | [a, b, c, d] => f a b c d
  | _ => .stuck
def intD : D → R D
  | .int i => .ok (.int i)
  | .bool b => .ok (.int (if b then 1 else 0))
  | _ => .stuck
def gcdD : D → D → R D
  | .int i, .int j => .ok (.int ((Nat.gcd i.natAbs j.natAbs : Nat) : Int))
  | _, _ => .stuck
/-- the parts of a row that is unpacked -/
def unpack (n : Nat) : D → R (List D)
  | .tuple xs => if xs.length = n then .ok xs else .stuck
  | .list xs => if xs.length = n then .ok xs else .stuck
  | _ => .stuck

def iterL : D → R (List D)
  | .tuple xs => .ok xs
  | .list xs => .ok xs
  | _ => .stuck
/-! what changes a list of one's own: the answer, the list -/
def pushM (xs : List D) : List D → R (D × List D)
  | [d] => if decide (xs.length < 16777216) then .ok (.none, xs ++ [d]) else .stuck
  | _ => .stuck
def extendM (xs : List D) : List D → R (D × List D)
  | [.list ys] => if szOk (xs.length + ys.length) then .ok (.none, xs ++ ys) else .stuck
  | _ => .stuck
def pop0M (xs : List D) : List D → R (D × List D)
  | [] => match xs.getLast? with
    | some d => .ok (d, xs.dropLast)
    | none => .stuck
  | _ => .stuck
def pop1M (xs : List D) : List D → R (D × List D)
  | [.int i] => match L2.ixN xs.length i with
    | some j => match xs[j]? with
      | some d => .ok (d, xs.eraseIdx j)
      | none => .stuck
    | none => .stuck
  | _ => .stuck
def setM (xs : List D) (j d : D) : R (List D) := match j with
  | .int i => match L2.ixN xs.length i with
    | some j => .ok (xs.set j d)
    | none => .stuck
  | _ => .stuck
def flatB : D → Bool
  | .none => true
  | .bool _ => true
  | .int _ => true
  | .str _ => true
  | _ => false
/-- a value that has no parts -/
def flatR (r : R D) : R D := r.bind fun d => if flatB d then .ok d else .stuck

/-- what is shown fits -/
def reprOk (d : D) : Bool := okD d && d.showable && !d.hasDict && decide (d.shown.length ≤ 16777216)
def reprD : D → R D
  | .list xs => if reprOk (.list xs) then .ok (.str (PyData.list xs).shown) else .stuck
  | .tuple xs => if reprOk (.tuple xs) then .ok (.str (PyData.tuple xs).shown) else .stuck
  | _ => .stuck
/-- the law's source of choices -/
structure Src where
  cells : List Int
  left : Int
  mixed : Int
  turn : Int

/-- the source's last cell -/
def popC (cs : List Int) : R (Int × List Int) := match cs.getLast? with
  | some n => .ok (n, cs.dropLast)
  | none => .stuck
def mkSrc (ds : List D) (l mx t : D) : R Src := match intsD ds with
  | some ns => if decide (ns.length ≤ 63) then (toI l).bind fun l => (toI mx).bind fun mx => (toI t).bind fun t => .ok ⟨ns, l, mx, t⟩ else .stuck
  | none => .stuck
def revL : D → R (List D)
  | .list xs => .ok xs.reverse
  | _ => .stuck

/-- what a slot holds: a value that nobody changes; a list of its own; the source -/
inductive Sl where
  | val (d : D)
  | own (xs : List D)
  | src (a : Addr) (s : Src)
  | scr (ns : List Int)
abbrev Env := List (Option Sl)
end Z

set_option Elab.async false
set_option linter.all false
set_option maxRecDepth 100000
set_option autoImplicit false
/-! # Z2: data in the heap, the state of a body, the judgements -/
namespace Z
open PySem L2

/-! ### dicts whose keys are nested tuples of whole numbers -/
abbrev DEnt := NestedKey × Addr × V
def EntOk (w : World) (x : DEnt) (e : DictEntry) : Prop := e.hash = x.1.hash w ∧ e.key = .ref x.2.1 ∧ RelV x.2.2 e.val
/-- the dict at a whose entries are xs -/
def dctP (a : Addr) (xs : List DEnt) (h : Heap) : Prop := (a == sysModules) = false ∧ xs.length ≤ sizeLine ∧ (xs.map (·.1)).Nodup ∧ (∀ x ∈ xs, x.1.depth ≤ 8) ∧
  ∃ (w : World) (o : Obj) (es : Array DictEntry) (ep : Nat), h.get? a = some o ∧ o.ExactDict ∧ o.data = .dict es ep ∧ Paired (EntOk w) xs es.toList
def dctO (a : Addr) (xs : List DEnt) : HO := .ext (dctP a xs)

mutual
/-- v reads as the data d -/
inductive Rp (K : PySem.W.Frag) (F : Hp) : V → D → Prop
  | non : Rp K F .non .none
  | bl (b : Bool) : Rp K F (.bl b) (.bool b)
  | int (i : Int) : Rp K F (.int i) (.int i)
  | str (x : Str) : Rp K F (.str x) (.str x)
  | lst {a : Addr} {xs : List V} {ds : List D} : F a = some (.lst xs) → RpAll K F xs ds → Rp K F (.ref a) (.list ds)
  | tup {a : Addr} {xs : List V} {ds : List D} : SqT K F a xs → RpAll K F xs ds → Rp K F (.ref a) (.tuple ds)
  | dct {a : Addr} {xs : List DEnt} {ks ds : List D} : F a = some (dctO a xs) → RpAll K F (xs.map fun x => .ref x.2.1) ks → nkAll ks = some (xs.map (·.1)) → RpAll K F (xs.map fun x => x.2.2) ds → Rp K F (.ref a) (.dict (ks.zip ds))
inductive RpAll (K : PySem.W.Frag) (F : Hp) : List V → List D → Prop
  | nil : RpAll K F [] []
  | cons {v : V} {vs : List V} {d : D} {ds : List D} : Rp K F v d → RpAll K F vs ds → RpAll K F (v :: vs) (d :: ds)
end
theorem seqT {K : PySem.W.Frag} {H H' : Hp} {a : Addr} {xs : List V} (e : Same H H') (h : SqT K H a xs) : SqT K H' a xs := by
  rcases h with (h | ⟨o, h⟩) | h
  · exact .inl (.inl (e _ _ h))
  · exact .inl (.inr ⟨o, e _ _ h⟩)
  · exact .inr h
section
variable {K : PySem.W.Frag} {F F' : Hp}
mutual
theorem Rp.mono (e : Same F F') : ∀ {v : V} {d : D}, Rp K F v d → Rp K F' v d
  | _, _, .non => .non
  | _, _, .bl b => .bl b
  | _, _, .int i => .int i
  | _, _, .str x => .str x
  | _, _, .lst h r => .lst (e _ _ h) (RpAll.mono e r)
  | _, _, .tup h r => .tup (seqT e h) (RpAll.mono e r)
  | _, _, .dct h r i r' => .dct (e _ _ h) (RpAll.mono e r) i (RpAll.mono e r')
theorem RpAll.mono (e : Same F F') : ∀ {vs : List V} {ds : List D}, RpAll K F vs ds → RpAll K F' vs ds
  | _, _, .nil => .nil
  | _, _, .cons h r => .cons (Rp.mono e h) (RpAll.mono e r)
end
theorem RpAll.length : ∀ {vs : List V} {ds : List D}, RpAll K F vs ds → vs.length = ds.length
  | _, _, .nil => rfl
  | _, _, .cons _ r => by simp [RpAll.length r]
theorem RpAll.isEmpty : ∀ {vs : List V} {ds : List D}, RpAll K F vs ds → vs.isEmpty = ds.isEmpty
  | _, _, .nil => rfl
  | _, _, .cons _ r => rfl
theorem RpAll.append : ∀ {vs ws : List V} {ds es : List D}, RpAll K F vs ds → RpAll K F ws es → RpAll K F (vs ++ ws) (ds ++ es)
  | _, _, _, _, .nil, r => r
  | _, _, _, _, .cons h t, r => .cons h (RpAll.append t r)
theorem RpAll.at : ∀ {vs : List V} {ds : List D}, RpAll K F vs ds → ∀ {i : Nat} {d : D}, ds[i]? = some d → ∃ v, vs[i]? = some v ∧ Rp K F v d
  | _, _, .nil, i, d, h => by simp at h
  | _, _, .cons h t, 0, d, e => by simp at e; subst e; exact ⟨_, by simp, h⟩
  | _, _, .cons h t, i + 1, d, e => by
    obtain ⟨v, h1, h2⟩ := RpAll.at t (i := i) (d := d) (by simpa using e)
    exact ⟨v, by simpa using h1, h2⟩
theorem RpAll.at' : ∀ {vs : List V} {ds : List D}, RpAll K F vs ds → ∀ {i : Nat} {v : V}, vs[i]? = some v → ∃ d, ds[i]? = some d ∧ Rp K F v d
  | _, _, .nil, i, d, h => by simp at h
  | _, _, .cons h t, 0, d, e => by simp at e; subst e; exact ⟨_, by simp, h⟩
  | _, _, .cons h t, i + 1, d, e => by
    obtain ⟨v, h1, h2⟩ := RpAll.at' t (i := i) (v := d) (by simpa using e)
    exact ⟨v, by simpa using h1, h2⟩
mutual
/-- without a dict it is the library's reading -/
theorem Rp.dp : ∀ {v : V} {d : D}, Rp K F v d → d.plain = true → Dp K F v d
  | _, _, .non, _ => .non
  | _, _, .bl b, _ => .bl b
  | _, _, .int i, _ => .int i
  | _, _, .str x, _ => .str x
  | _, _, .lst h r, p => .lst (SqL.of h) (RpAll.dp r (by simpa [PyData.plain] using p))
  | _, _, .tup h r, p => .tup h (RpAll.dp r (by simpa [PyData.plain] using p))
theorem RpAll.dp : ∀ {vs : List V} {ds : List D}, RpAll K F vs ds → PyData.plainAll ds = true → DpAll K F vs ds
  | _, _, .nil, _ => .nil
  | _, _, .cons h r, p => by
    simp [PyData.plainAll] at p
    exact .cons (Rp.dp h p.1) (RpAll.dp r p.2)
end
end

theorem okD_plain {d : D} (h : okD d = true) : d.plain = true := by simp [okD] at h; exact h.1
theorem okD_depth {d : D} (h : okD d = true) : d.depth ≤ 40 := by simp [okD] at h; exact h.2
section
variable {X : Cx} {pins : List (Addr × Obj)} {σ : St} {H F : Hp} {s : Shared}
theorem Dp.up {K : PySem.W.Frag} {F H : Hp} (e : Same F H) : (∀ (v : V) (d : D), Rp K F v d → Rp K H v d) := fun v d h => h.mono e
/-- the reads of the library -/
theorem Rp.reads (I : Inv X pins σ H s) (e : Same F H) {v : V} {u : Value} {d : D} (h : Rp X.K F v d) (r : RelV v u) (p : d.plain = true) : ∃ as, Reads s.heap u d as :=
  L2.Dp.reads I d v u ((h.mono e).dp p) r
theorem RpAll.reads (I : Inv X pins σ H s) (e : Same F H) {vs : List V} {us : List Value} {ds : List D} (h : RpAll X.K F vs ds) (r : Vals vs us) (p : PyData.plainAll ds = true) : ∃ as, ReadsAll s.heap us ds as :=
  L2.Dp.readsAll I ds vs us ((h.mono e).dp p) r
end

/-! ### the state of a body -/
/-- what a slot holds, the addresses that it alone has -/
def SlR (K : PySem.W.Frag) (F H : Hp) : Sl → V → List Addr → Prop
  | .val d, v, as => Rp K F v d ∧ as = []
  | .own xs, v, as => ∃ (p : Addr) (vs : List V), v = .ref p ∧ as = [p] ∧ H p = some (.lst vs) ∧ F p = none ∧ RpAll K F vs xs
  | .src a s, v, as => ∃ (c : Addr), v = .ref a ∧ as = [a, c] ∧ a ≠ c ∧ F a = none ∧ F c = none ∧
      H a = some (.dK [(.inr "cells", .ref c), (.inr "left", .int s.left), (.inr "mixed", .int s.mixed), (.inr "turn", .int s.turn)]) ∧ H c = some (.lst (s.cells.map V.int)) ∧ s.cells.length ≤ 63
  | .scr ns, v, as => ∃ a, v = .ref a ∧ SqL K F a (ns.map V.int) ∧ ns.length ≤ 63 ∧ as = []

/-- what is handed out to its new owner -/
inductive Ow where
  | src (s : Src)
  | own (xs : List D)
def OwR (K : PySem.W.Frag) (F H : Hp) (ow : Ow) (v : V) (as : List Addr) : Prop := match ow with
  | .src s => ∃ a, SlR K F H (.src a s) v as
  | .own xs => SlR K F H (.own xs) v as

/-- the entry of a body: its heap, what nobody changes, the addresses that are handed in to be changed -/
structure Wd where
  K : PySem.W.Frag
  F0 : Hp
  H0 : Hp
  io : List Addr

structure Rel (W : Wd) (ρ : Env) (σ : St) (H F : Hp) : Prop where
  sub : Same F H
  sub0 : Same W.F0 F
  keep : ∀ b o, W.H0 b = some o → b ∉ W.io → H b = some o
  fresh : ∀ b o, F b = some o → W.F0 b = some o ∨ W.H0 b = none ∨ b ∈ W.io
  env : ∃ ad : Nat → List Addr, ∀ i sl, ρ[i]? = some (some sl) → ∃ v, σ[i]? = some (some v) ∧ SlR W.K F H sl v (ad i) ∧
    (∀ b ∈ ad i, b ∈ W.io ∨ W.H0 b = none) ∧ ∀ j sl', i ≠ j → ρ[j]? = some (some sl') → ∀ b ∈ ad i, b ∉ ad j
  len : ρ.length ≤ σ.length
  trk : ∀ b o, W.H0 b = some o → ∃ o', H b = some o'

/-- the text around: the program, its module, the names by slot, the scope, the room -/
structure Ct where
  P : Program
  w : World
  K : PySem.W.Frag
  mg : Str → Option Value
  base : Heap
  k : Nat
  N : List Str
  sc : Scope
  fn : Str → Bool

structure XOk (C : Ct) (X : Cx) : Prop where
  prog : X.prog = C.P
  w : X.w = C.w
  K : X.K = C.K
  mg : X.mg = C.mg
  base : X.base = C.base
  N : X.N = C.N
  nd : C.N.Nodup
  sc : X.env.scope = C.sc
  calm : X.calm = true
  room : Room C.k X.A
  grd : X.A.guards = some []
  own : PassesOwn (model X.prog X.w) X.A X.env X.xe
  /-- which names' cells are the body's own -/
  fnl : ∀ x, C.fn x = true → X.fn x = true

/-- what is known of a mirror: it tells a value -/
structure Cl {α : Type} (Z : R α → Prop) : Prop where
  st : ¬ Z .stuck
  ex : ∀ c a, ¬ Z (.exc c a)
theorem Cl.bind {α β : Type} {Z : R α → Prop} (c : Cl Z) {m : R β} {f : β → R α} (h : Z (m.bind f)) : ∃ b, m = .ok b ∧ Z (f b) := by
  cases m with
  | ok b => exact ⟨b, rfl, h⟩
  | exc x a => exact (c.ex x a h).elim
  | stuck => exact (c.st h).elim

/-! ### judgements -/
/-- e in ρ: m is what is reckoned from here; κ d ρ' m': m' is what is reckoned behind e, its value d -/
def DE {α : Type} (C : Ct) (ρ : Env) (e : Expr) (m : R α) (κ : D → Env → R α → Prop) : Prop :=
  ∀ (X : Cx) (W : Wd) (Z : R α → Prop), XOk C X → W.K = C.K → Cl Z → Z m →
    PE X e fun σ H Q => ∃ F, Rel W ρ σ H F ∧ ∀ d ρ' m' v H' F', κ d ρ' m' → Z m' → Rel W ρ' σ H' F' → Same F F' → Rp W.K F' v d → Q v H'
/-- a test -/
def DT {α : Type} (C : Ct) (ρ : Env) (e : Expr) (m : R α) (κ : Bool → Env → R α → Prop) : Prop :=
  ∀ (X : Cx) (W : Wd) (Z : R α → Prop), XOk C X → W.K = C.K → Cl Z → Z m →
    PT X e fun σ H Q => ∃ F, Rel W ρ σ H F ∧ ∀ b ρ' m' H' F', κ b ρ' m' → Z m' → Rel W ρ' σ H' F' → Same F F' → Q b H'
def DW {α : Type} (C : Ct) (ρ : Env) (e : Expr) (m : R α) (κ : Bool → Env → R α → Prop) : Prop :=
  ∀ (X : Cx) (W : Wd) (Z : R α → Prop), XOk C X → W.K = C.K → Cl Z → Z m →
    PW X e fun σ H Q => ∃ F, Rel W ρ σ H F ∧ ∀ b ρ' m' H' F', κ b ρ' m' → Z m' → Rel W ρ' σ H' F' → Same F F' → Q b H'
/-- arguments -/
def DA {α : Type} (C : Ct) (ρ : Env) (es : List Expr) (m : R α) (κ : List D → Env → R α → Prop) : Prop :=
  ∀ (X : Cx) (W : Wd) (Z : R α → Prop), XOk C X → W.K = C.K → Cl Z → Z m →
    PA X es fun σ H Q => ∃ F, Rel W ρ σ H F ∧ ∀ ds ρ' m' vs H' F', κ ds ρ' m' → Z m' → Rel W ρ' σ H' F' → Same F F' → RpAll W.K F' vs ds → Q vs H'

/-- what the mirror must be at each way out of a block -/
structure Jd (α : Type) where
  nx : Env → R α → Prop
  rt : D → Env → R α → Prop
  bk : Env → R α → Prop
  ct : Env → R α → Prop
  rn : Ow → Env → R α → Prop := fun _ _ _ => False
structure Lk {α : Type} (W : Wd) (J : Jd α) (Z : R α → Prop) (D : Ends) : Prop where
  nx : ∀ ρ m σ H F, J.nx ρ m → Z m → Rel W ρ σ H F → D.nx σ H
  rt : ∀ d ρ m v σ H F, J.rt d ρ m → Z m → Rel W ρ σ H F → Rp W.K F v d → D.rt v H
  bk : ∀ ρ m σ H F, J.bk ρ m → Z m → Rel W ρ σ H F → D.bk σ H
  ct : ∀ ρ m σ H F, J.ct ρ m → Z m → Rel W ρ σ H F → D.ct σ H
  rn : ∀ (ow : Ow) (ρ : Env) (m : R α) (v : V) (as : List Addr) (H F : Hp), J.rn ow ρ m → Z m → Rel W [] [] H F → OwR W.K F H ow v as → (∀ b ∈ as, W.H0 b = none) → D.rt v H
def DSs {α : Type} (C : Ct) (ρ : Env) (sts : List Stmt) (m : R α) (J : Jd α) : Prop :=
  ∀ (X : Cx) (W : Wd) (Z : R α → Prop), XOk C X → W.K = C.K → Cl Z → Z m →
    PSs X sts fun D σ H => ∃ F, Rel W ρ σ H F ∧ Lk W J Z D

/-! ### readings weakened -/
theorem PE_imp {X : Cx} {e : Expr} {t t' : TE} (h : PE X e t) (i : ∀ σ H Q, t' σ H Q → t σ H Q) : PE X e t' := ⟨fun p s σ H Q I q => h.run p s σ H Q I (i σ H Q q)⟩
theorem PT_imp {X : Cx} {e : Expr} {t t' : TT} (h : PT X e t) (i : ∀ σ H Q, t' σ H Q → t σ H Q) : PT X e t' := ⟨fun p s σ H Q I q => h.run p s σ H Q I (i σ H Q q)⟩
theorem PW_imp {X : Cx} {e : Expr} {t t' : TT} (h : PW X e t) (i : ∀ σ H Q, t' σ H Q → t σ H Q) : PW X e t' := ⟨fun wh p s σ H Q I q => h.run wh p s σ H Q I (i σ H Q q)⟩
theorem PA_imp {X : Cx} {e : List Expr} {t t' : TA} (h : PA X e t) (i : ∀ σ H Q, t' σ H Q → t σ H Q) : PA X e t' := ⟨fun po p s σ H Q I q => h.run po p s σ H Q I (i σ H Q q)⟩
theorem PS_imp {X : Cx} {e : Stmt} {t t' : TS} (h : PS X e t) (i : ∀ D σ H, t' D σ H → t D σ H) : PS X e t' := ⟨fun p s σ H D I q => h.run p s σ H D I (i D σ H q)⟩
theorem PSs_imp {X : Cx} {e : List Stmt} {t t' : TS} (h : PSs X e t) (i : ∀ D σ H, t' D σ H → t D σ H) : PSs X e t' := ⟨fun p s σ H D I q => h.run p s σ H D I (i D σ H q)⟩
/-- by what is known: a reading for each -/
theorem PE_any {ι : Type 1} {X : Cx} {e : Expr} {t : ι → TE} (h : ∀ i, PE X e (t i)) : PE X e fun σ H Q => ∃ i, t i σ H Q := ⟨fun p s σ H Q I ⟨i, q⟩ => (h i).run p s σ H Q I q⟩
theorem PE_if {X : Cx} {e : Expr} {t : TE} {c : Prop} (h : c → PE X e t) : PE X e fun σ H Q => c ∧ t σ H Q := ⟨fun p s σ H Q I ⟨i, q⟩ => (h i).run p s σ H Q I q⟩
end Z

set_option Elab.async false
set_option linter.all false
set_option maxRecDepth 100000
set_option autoImplicit false
/-! # Z3: the rules: names, constants, operators, tests, joins, blocks -/
namespace Z
open PySem L2

/-- a step: what nobody changes grows by new objects alone -/
structure Fx (F H F' H' : Hp) : Prop where
  ff : Same F F'
  fh : Same F' H'
  hh : Same H H'
  new : ∀ b o, F' b = some o → F b = some o ∨ H b = none
theorem Fx.refl {F H : Hp} (e : Same F H) : Fx F H F H := ⟨Same.refl _, e, Same.refl _, fun _ _ h => .inl h⟩
theorem Fx.alloc {F H : Hp} {p : Addr} {u : HO} (e : Same F H) (hp : H p = none) : Fx F H (upd F p u) (upd H p u) := by
  have hf : F p = none := e.free hp
  refine ⟨fun b o h => ?_, fun b o h => ?_, fun b o h => ?_, fun b o h => ?_⟩
  · rw [upd_ne (ne_of_none h hf)]; exact h
  · by_cases hb : b = p
    · subst hb; rw [upd_same] at h ⊢; exact h
    · rw [upd_ne hb] at h ⊢; exact e b o h
  · rw [upd_ne (ne_of_none h hp)]; exact h
  · by_cases hb : b = p
    · subst hb; exact .inr hp
    · rw [upd_ne hb] at h; exact .inl h
theorem Fx.trans {F H F1 H1 F2 H2 : Hp} (a : Fx F H F1 H1) (b : Fx F1 H1 F2 H2) : Fx F H F2 H2 :=
  ⟨a.ff.trans b.ff, b.fh, a.hh.trans b.hh, fun c o h => (b.new c o h).elim (fun q => a.new c o q) fun q => .inr (a.hh.free q)⟩

theorem Fx.none {F H F' H' : Hp} (x : Fx F H F' H') {p : Addr} {u : HO} (hf : F p = none) (h : H p = some u) : F' p = none := by
  cases q : F' p with
  | none => rfl
  | some o =>
    rcases x.new p o q with z | z
    · rw [hf] at z; cases z
    · rw [h] at z; cases z
theorem SlR.step {K : PySem.W.Frag} {F H F' H' : Hp} (x : Fx F H F' H') : ∀ {sl : Sl} {v : V} {as : List Addr}, SlR K F H sl v as → SlR K F' H' sl v as
  | .val d, v, as, ⟨h, e⟩ => ⟨h.mono x.ff, e⟩
  | .own xs, v, as, ⟨p, vs, e1, e2, h, hf, r⟩ => ⟨p, vs, e1, e2, x.hh _ _ h, x.none hf h, r.mono x.ff⟩
  | .src a s, v, as, ⟨c, e1, e2, ne, ha, hc, h1, h2, l⟩ => ⟨c, e1, e2, ne, x.none ha h1, x.none hc h2, x.hh _ _ h1, x.hh _ _ h2, l⟩
  | .scr ns, v, as, ⟨a, e1, h, l, e2⟩ => ⟨a, e1, x.ff.seq h, l, e2⟩

section
variable {W : Wd} {ρ : Env} {σ : L2.St} {H F F' H' : Hp}
theorem Rel.step (r : Rel W ρ σ H F) (x : Fx F H F' H') : Rel W ρ σ H' F' := by
  refine ⟨x.fh, r.sub0.trans x.ff, fun b o h n => x.hh _ _ (r.keep b o h n), fun b o h => ?_, ?_, r.len, fun b o h => ?_⟩
  · rcases x.new b o h with q | q
    · exact r.fresh b o q
    · refine .inr (.inl ?_)
      cases e : W.H0 b with
      | none => rfl
      | some u => obtain ⟨o', q'⟩ := r.trk b u e; rw [q] at q'; cases q'
  · obtain ⟨ad, h⟩ := r.env
    refine ⟨ad, fun i sl e => ?_⟩
    obtain ⟨v, h1, h2, h3, h4⟩ := h i sl e
    exact ⟨v, h1, h2.step x, h3, h4⟩
  · obtain ⟨o', q⟩ := r.trk b o h
    exact ⟨o', x.hh _ _ q⟩
theorem Rel.val (r : Rel W ρ σ H F) {i : Nat} {d : D} (e : ρ[i]? = some (some (.val d))) : ∃ v, σ[i]? = some (some v) ∧ Rp W.K F v d := by
  obtain ⟨ad, h⟩ := r.env
  obtain ⟨v, h1, ⟨h2, _⟩, _⟩ := h i _ e
  exact ⟨v, h1, h2⟩
theorem get_set {α : Type} {l : List α} {i j : Nat} {x y : α} (h : (l.set i x)[j]? = some y) : (i = j ∧ j < l.length ∧ y = x) ∨ (i ≠ j ∧ l[j]? = some y) := by
  rw [List.getElem?_set] at h
  split at h
  · rename_i e
    split at h
    · cases h; rename_i hl; exact .inl ⟨e, e ▸ hl, rfl⟩
    · cases h
  · rename_i e; exact .inr ⟨e, h⟩
theorem Rel.set (r : Rel W ρ σ H F) (i : Nat) {v : V} {d : D} (h : Rp W.K F v d) : Rel W (ρ.set i (some (.val d))) (σ.set i (some v)) H F := by
  refine ⟨r.sub, r.sub0, r.keep, r.fresh, ?_, by rw [List.length_set, List.length_set]; exact r.len, r.trk⟩
  obtain ⟨ad, k⟩ := r.env
  refine ⟨fun j => if j = i then [] else ad j, fun j sl e => ?_⟩
  rcases get_set e with ⟨e1, e2, e3⟩ | ⟨e1, e2⟩
  · subst e1
    cases e3
    refine ⟨v, by rw [List.getElem?_set_self (Nat.lt_of_lt_of_le e2 r.len)], ⟨h, by simp⟩, by simp, by simp⟩
  · obtain ⟨u, h1, h2, h3, h4⟩ := k j sl e2
    have ne : j ≠ i := fun z => e1 z.symm
    refine ⟨u, by rw [List.getElem?_set_ne e1]; exact h1, by simpa [ne] using h2, by simpa [ne] using h3, fun l sl' hl e' b hb => ?_⟩
    simp only [ne, if_false] at hb
    rcases get_set e' with ⟨z1, z2, z3⟩ | ⟨z1, z2⟩
    · subst z1; simp
    · have ne' : l ≠ i := fun z => z1 z.symm
      simp only [ne', if_false]
      exact h4 l sl' hl z2 b hb
/-- a slot is forgotten -/
theorem Rel.forget (r : Rel W ρ σ H F) (i : Nat) (x : Option V) : Rel W (ρ.set i none) (σ.set i x) H F := by
  refine ⟨r.sub, r.sub0, r.keep, r.fresh, ?_, by rw [List.length_set, List.length_set]; exact r.len, r.trk⟩
  obtain ⟨ad, k⟩ := r.env
  refine ⟨ad, fun j sl e => ?_⟩
  rcases get_set e with ⟨e1, e2, e3⟩ | ⟨e1, e2⟩
  · cases e3
  · obtain ⟨u, h1, h2, h3, h4⟩ := k j sl e2
    refine ⟨u, by rw [List.getElem?_set_ne e1]; exact h1, h2, h3, fun l sl' hl e' b hb => ?_⟩
    rcases get_set e' with ⟨z1, z2, z3⟩ | ⟨z1, z2⟩
    · cases z3
    · exact h4 l sl' hl z2 b hb
end

section
variable {α : Type} {C : Ct} {ρ : Env} {m : R α}

theorem XOk.vis {X : Cx} (x : XOk C X) {n : Str} (h : Vis C.sc n) : Vis X.env.scope n := by rw [x.sc]; exact h
theorem XOk.gl {X : Cx} (x : XOk C X) {n : Str} (h : C.sc.names.lookup n = some .globalImplicit) : Gl X n := by unfold Gl PySem.Env.kindOf; rw [x.sc]; exact h
theorem XOk.mg0 {X : Cx} (x : XOk C X) {n : Str} (h : C.mg n = none) : X.mg n = none := by rw [x.mg]; exact h

/-! ### names, constants -/
theorem de_var {κ : D → Env → R α → Prop} {n : Str} {pos : Pos} (i : Nat) {d : D} (hρ : ρ[i]? = some (some (.val d))) (k : κ d ρ m) (hN : C.N[i]? = some n := by rfl)
    (hv : Vis C.sc n := by first | exact Or.inl rfl | exact Or.inr (Or.inl rfl) | exact Or.inr (Or.inr rfl)) (hd : (n == ("__debug__" : Str)) = false := by decide) (hcd : (n == ("__classdict__" : Str)) = false := by decide) : DE C ρ (.Name n pos) m κ := by
  intro X W Z x hK c z
  refine PE_imp (pe_var (i := i) (by rw [x.N]; exact hN) (x.vis hv) hd hcd) fun σ H Q ⟨F, r, q⟩ => ?_
  obtain ⟨v, h1, h2⟩ := r.val hρ
  exact ⟨v, h1, q d ρ m v H F k z r (Same.refl _) h2⟩
theorem de_int {κ : D → Env → R α → Prop} {i : Int} {j : Nat} {pos : Pos} (k : κ (.int i) ρ m) : DE C ρ (.Constant (.int i) j pos) m κ := fun X W Z x hK c z =>
  PE_imp pe_int fun σ H Q ⟨F, r, q⟩ => q _ ρ m _ H F k z r (Same.refl _) (.int i)
theorem de_str {κ : D → Env → R α → Prop} {i : Str} {j : Nat} {pos : Pos} (k : κ (.str i) ρ m) : DE C ρ (.Constant (.str i) j pos) m κ := fun X W Z x hK c z =>
  PE_imp pe_str fun σ H Q ⟨F, r, q⟩ => q _ ρ m _ H F k z r (Same.refl _) (.str i)
theorem de_bool {κ : D → Env → R α → Prop} {i : Bool} {j : Nat} {pos : Pos} (k : κ (.bool i) ρ m) : DE C ρ (.Constant (.bool i) j pos) m κ := fun X W Z x hK c z =>
  PE_imp pe_bl fun σ H Q ⟨F, r, q⟩ => q _ ρ m _ H F k z r (Same.refl _) (.bl i)
theorem de_none {κ : D → Env → R α → Prop} {j : Nat} {pos : Pos} (k : κ .none ρ m) : DE C ρ (.Constant .none j pos) m κ := fun X W Z x hK c z =>
  PE_imp pe_non fun σ H Q ⟨F, r, q⟩ => q _ ρ m _ H F k z r (Same.refl _) .non
/-- a module's constant -/
structure ConD (C : Ct) (n : Str) (d : D) : Prop where
  ex : ∃ v u, C.mg n = some u ∧ RelV v u ∧ Rp C.K (fun _ => none) v d
theorem de_con {κ : D → Env → R α → Prop} {n : Str} {pos : Pos} {d : D} (h : ConD C n d) (k : κ d ρ m) (hg : C.sc.names.lookup n = some .globalImplicit := by rfl) (hd : (n == ("__debug__" : Str)) = false := by decide) : DE C ρ (.Name n pos) m κ := fun X W Z x hK c z => by
  obtain ⟨v, u, h1, h2, h3⟩ := h.ex
  refine PE_imp (pe_glob (x.gl hg) (by rw [x.mg]; exact h1) h2 hd) fun σ H Q ⟨F, r, q⟩ => ?_
  exact q _ ρ m _ H F k z r (Same.refl _) (by rw [hK]; exact h3.mono fun b o e => by cases e)

/-! ### operators -/
/-- what an operator of two values tells, by data -/
def r2D (K : PySem.W.Frag) (f : D → D → R D) : R2 := fun x y H Q => ∃ F a b c, Same F H ∧ Rp K F x a ∧ Rp K F y b ∧ f a b = .ok c ∧ ∀ v H' F', Fx F H F' H' → Rp K F' v c → Q v H'
def r2B (K : PySem.W.Frag) (f : D → D → R Bool) : R2 := fun x y H Q => ∃ F a b c, Same F H ∧ Rp K F x a ∧ Rp K F y b ∧ f a b = .ok c ∧ Q (.bl c) H
def r1D (K : PySem.W.Frag) (f : D → R D) : V → Hp → VK → Prop := fun x H Q => ∃ F a c, Same F H ∧ Rp K F x a ∧ f a = .ok c ∧ ∀ v H' F', Fx F H F' H' → Rp K F' v c → Q v H'
def BinS (op : Operator) (f : D → D → R D) : Prop := ∀ (X : Cx) (k : Nat), Room k X.A → OpR X (binaryOp op) (r2D X.K f)
def CmpS (op : CmpOp) (f : D → D → R Bool) : Prop := ∀ (X : Cx) (k : Nat), Room k X.A → OpR X (compareOp op) (r2B X.K f)
def UnS (op : UnaryOp) (f : D → R D) : Prop := ∀ (X : Cx) (k : Nat), Room k X.A → UnR X (unaryOp op) (r1D X.K f)

/-- two parts, then what is reckoned of both -/
theorem de_op {κ : D → Env → R α → Prop} {op : Operator} {f : D → D → R D} {a b : Expr} {pos : Pos} (ho : BinS op f)
    (h : DE C ρ a m fun x ρ1 m1 => DE C ρ1 b m1 fun y ρ2 m2 => ∃ g, m2 = (f x y).bind g ∧ ∀ z, κ z ρ2 (g z)) : DE C ρ (.BinOp a op b pos) m κ := by
  intro X W Z x hK c z
  refine ⟨fun pins s σ H Q I hq => ?_⟩
  obtain ⟨F, r, q⟩ := hq
  refine wpAny_BinOp (thn ((h X W Z x hK c z).run pins s σ H (fun vx H1 => ∃ F1 dx ρ1 m1, DE C ρ1 b m1 (fun y ρ2 m2 => ∃ g, m2 = (f dx y).bind g ∧ ∀ z, κ z ρ2 (g z)) ∧ Z m1 ∧ Rel W ρ1 σ H1 F1 ∧ Same F F1 ∧ Rp W.K F1 vx dx) I
    ⟨F, r, fun d ρ' m' v H' F' h1 h2 h3 h4 h5 => ⟨F', d, ρ', m', h1, h2, h3, h4, h5⟩⟩) fun v s1 ⟨vx, H1, I1, r1, F1, dx, ρ1, m1, h1, z1, rel1, s1', p1⟩ => ?_)
  refine thn ((h1 X W Z x hK c z1).run pins s1 σ H1 (fun vy H2 => ∃ F2 dy ρ2 m2, (∃ g, m2 = (f dx dy).bind g ∧ ∀ z, κ z ρ2 (g z)) ∧ Z m2 ∧ Rel W ρ2 σ H2 F2 ∧ Same F1 F2 ∧ Rp W.K F2 vy dy) I1
    ⟨F1, rel1, fun d ρ' m' v H' F' h1 h2 h3 h4 h5 => ⟨F', d, ρ', m', h1, h2, h3, h4, h5⟩⟩) fun u s2 ⟨vy, H2, I2, r2, F2, dy, ρ2, m2, ⟨g, e2, hg⟩, z2, rel2, s2', p2⟩ => ?_
  subst e2
  obtain ⟨w, ew, zw⟩ := c.bind z2
  refine ho X _ x.room pins s2 σ H2 vx vy v u Q I2 r1 r2 ⟨F2, dx, dy, w, rel2.sub, ?_, ?_, ew, fun v' H' F' fx p' => ?_⟩
  · rw [x.K, ← hK]; exact p1.mono s2'
  · rw [x.K, ← hK]; exact p2
  · exact q _ ρ2 _ v' H' F' (hg w) zw (rel2.step fx) ((s1'.trans s2').trans fx.ff) (by rw [hK, ← x.K]; exact p')

/-- a pair of parts in a test or a value, by the operator's reading -/
theorem cmp_run {X : Cx} {W : Wd} {Z : R α → Prop} (x : XOk C X) (hK : W.K = C.K) (c : Cl Z) (z : Z m) {op : CmpOp} {f : D → D → R Bool} {a b : Expr} (ho : CmpS op f) {κ : Bool → Env → R α → Prop}
    (h : DE C ρ a m fun x ρ1 m1 => DE C ρ1 b m1 fun y ρ2 m2 => ∃ g, m2 = (f x y).bind g ∧ ∀ t, κ t ρ2 (g t)) :
    PC X op a b fun σ H Q => ∃ F, Rel W ρ σ H F ∧ ∀ t ρ' m' H' F', κ t ρ' m' → Z m' → Rel W ρ' σ H' F' → Same F F' → Q (.bl t) H' := by
  refine ⟨fun pins s σ H Q I hq => ?_⟩
  obtain ⟨F, r, q⟩ := hq
  refine thn ((h X W Z x hK c z).run pins s σ H (fun vx H1 => ∃ F1 dx ρ1 m1, DE C ρ1 b m1 (fun y ρ2 m2 => ∃ g, m2 = (f dx y).bind g ∧ ∀ t, κ t ρ2 (g t)) ∧ Z m1 ∧ Rel W ρ1 σ H1 F1 ∧ Same F F1 ∧ Rp W.K F1 vx dx) I
    ⟨F, r, fun d ρ' m' v H' F' h1 h2 h3 h4 h5 => ⟨F', d, ρ', m', h1, h2, h3, h4, h5⟩⟩) fun v s1 ⟨vx, H1, I1, r1, F1, dx, ρ1, m1, h1, z1, rel1, s1', p1⟩ => ?_
  refine thn ((h1 X W Z x hK c z1).run pins s1 σ H1 (fun vy H2 => ∃ F2 dy ρ2 m2, (∃ g, m2 = (f dx dy).bind g ∧ ∀ t, κ t ρ2 (g t)) ∧ Z m2 ∧ Rel W ρ2 σ H2 F2 ∧ Same F1 F2 ∧ Rp W.K F2 vy dy) I1
    ⟨F1, rel1, fun d ρ' m' v H' F' h1 h2 h3 h4 h5 => ⟨F', d, ρ', m', h1, h2, h3, h4, h5⟩⟩) fun u s2 ⟨vy, H2, I2, r2, F2, dy, ρ2, m2, ⟨g, e2, hg⟩, z2, rel2, s2', p2⟩ => ?_
  subst e2
  obtain ⟨w, ew, zw⟩ := c.bind z2
  exact ho X _ x.room pins s2 σ H2 vx vy v u Q I2 r1 r2 ⟨F2, dx, dy, w, rel2.sub, by rw [x.K, ← hK]; exact p1.mono s2', by rw [x.K, ← hK]; exact p2, ew, q _ ρ2 _ H2 F2 (hg w) zw rel2 (s1'.trans s2')⟩
theorem de_cmp {κ : D → Env → R α → Prop} {op : CmpOp} {f : D → D → R Bool} {a b : Expr} {pos : Pos} (ho : CmpS op f)
    (h : DE C ρ a m fun x ρ1 m1 => DE C ρ1 b m1 fun y ρ2 m2 => ∃ g, m2 = (f x y).bind g ∧ ∀ t, κ (.bool t) ρ2 (g t)) (hm : behindInMarks op b = false := by first | exact nobehind _ (by decide) (by decide) | rfl) : DE C ρ (.Compare a [op] [b] pos) m κ := by
  intro X W Z x hK c z
  refine PE_imp (pe_cmp (cmp_run (κ := fun t => κ (.bool t)) x hK c z ho h) hm) fun σ H Q ⟨F, r, q⟩ => ⟨F, r, fun t ρ' m' H' F' h1 h2 h3 h4 => q _ ρ' m' _ H' F' h1 h2 h3 h4 (.bl t)⟩
theorem dt_cmp {κ : Bool → Env → R α → Prop} {op : CmpOp} {f : D → D → R Bool} {a b : Expr} {pos : Pos} (ho : CmpS op f)
    (h : DE C ρ a m fun x ρ1 m1 => DE C ρ1 b m1 fun y ρ2 m2 => ∃ g, m2 = (f x y).bind g ∧ ∀ t, κ t ρ2 (g t)) (hm : behindInMarks op b = false := by first | exact nobehind _ (by decide) (by decide) | rfl) : DT C ρ (.Compare a [op] [b] pos) m κ := by
  intro X W Z x hK c z
  refine PT_imp (pt_cmp (cmp_run x hK c z ho h) hm) fun σ H Q ⟨F, r, q⟩ => ⟨F, r, fun t ρ' m' H' F' h1 h2 h3 h4 => ⟨t, rfl, q t ρ' m' H' F' h1 h2 h3 h4⟩⟩
/-- is None, is not None -/
theorem dt_isN {κ : Bool → Env → R α → Prop} {a : Expr} {j : Nat} {p pos : Pos} (h : DE C ρ a m fun x ρ1 m1 => κ (isNone x) ρ1 m1) : DT C ρ (.Compare a [.Is] [.Constant .none j p] pos) m κ := by
  intro X W Z x hK c z
  refine PT_imp (pt_cmp (pc_isN (h X W Z x hK c z))) fun σ H Q ⟨F, r, q⟩ => ⟨F, r, fun d ρ' m' v H' F' h1 h2 h3 h4 h5 => ⟨_, rfl, ?_⟩⟩
  have e : decide (v = V.non) = isNone d := by cases h5 <;> rfl
  rw [e]; exact q _ ρ' m' H' F' h1 h2 h3 h4
theorem dt_notN {κ : Bool → Env → R α → Prop} {a : Expr} {j : Nat} {p pos : Pos} (h : DE C ρ a m fun x ρ1 m1 => κ (!isNone x) ρ1 m1) : DT C ρ (.Compare a [.IsNot] [.Constant .none j p] pos) m κ := by
  intro X W Z x hK c z
  refine PT_imp (pt_cmp (pc_notN (h X W Z x hK c z))) fun σ H Q ⟨F, r, q⟩ => ⟨F, r, fun d ρ' m' v H' F' h1 h2 h3 h4 h5 => ⟨_, rfl, ?_⟩⟩
  have e : decide (v = V.non) = isNone d := by cases h5 <;> rfl
  rw [e]; exact q _ ρ' m' H' F' h1 h2 h3 h4
theorem de_isN {κ : D → Env → R α → Prop} {a : Expr} {j : Nat} {p pos : Pos} (h : DE C ρ a m fun x ρ1 m1 => κ (.bool (isNone x)) ρ1 m1) : DE C ρ (.Compare a [.Is] [.Constant .none j p] pos) m κ := by
  intro X W Z x hK c z
  refine PE_imp (pe_cmp (pc_isN (h X W Z x hK c z))) fun σ H Q ⟨F, r, q⟩ => ⟨F, r, fun d ρ' m' v H' F' h1 h2 h3 h4 h5 => ?_⟩
  have e : decide (v = V.non) = isNone d := by cases h5 <;> rfl
  show Q (V.bl (decide (v = V.non))) H'
  rw [e]; exact q _ ρ' m' _ H' F' h1 h2 h3 h4 (.bl _)
theorem de_notN {κ : D → Env → R α → Prop} {a : Expr} {j : Nat} {p pos : Pos} (h : DE C ρ a m fun x ρ1 m1 => κ (.bool (!isNone x)) ρ1 m1) : DE C ρ (.Compare a [.IsNot] [.Constant .none j p] pos) m κ := by
  intro X W Z x hK c z
  refine PE_imp (pe_cmp (pc_notN (h X W Z x hK c z))) fun σ H Q ⟨F, r, q⟩ => ⟨F, r, fun d ρ' m' v H' F' h1 h2 h3 h4 h5 => ?_⟩
  have e : decide (v = V.non) = isNone d := by cases h5 <;> rfl
  show Q (V.bl (!decide (v = V.non))) H'
  rw [e]; exact q _ ρ' m' _ H' F' h1 h2 h3 h4 (.bl _)
theorem de_un {κ : D → Env → R α → Prop} {op : UnaryOp} {f : D → R D} {a : Expr} {pos : Pos} (ho : UnS op f)
    (h : DE C ρ a m fun x ρ1 m1 => ∃ g, m1 = (f x).bind g ∧ ∀ z, κ z ρ1 (g z)) : DE C ρ (.UnaryOp op a pos) m κ := by
  intro X W Z x hK c z
  refine PE_imp (pe_un (ho X _ x.room) (h X W Z x hK c z)) fun σ H Q ⟨F, r, q⟩ => ⟨F, r, fun d ρ' m' v H' F' ⟨g, e, hg⟩ h2 h3 h4 h5 => ?_⟩
  subst e
  obtain ⟨w, ew, zw⟩ := c.bind h2
  refine ⟨F', d, w, h3.sub, by rw [x.K, ← hK]; exact h5, ew, fun v' H2 F2 fx p' => ?_⟩
  exact q _ ρ' _ v' H2 F2 (hg w) zw (h3.step fx) (h4.trans fx.ff) (by rw [hK, ← x.K]; exact p')

/-! ### tests -/
/-- a value's truth, of a bool -/
theorem dt_bool {κ : Bool → Env → R α → Prop} {e : Expr} (h : DE C ρ e m fun d ρ1 m1 => ∃ t, d = .bool t ∧ κ t ρ1 m1)
    (he : ∀ (env : PySem.Env) (whole : Sem Value), isTrue e env whole = (do let v ← whole; standAt e.pos; holding [v] (truthy v)) := by intro _ _; rfl) : DT C ρ e m κ := by
  intro X W Z x hK c z
  refine PT_imp (pt_val (h X W Z x hK c z) (he _)) fun σ H Q ⟨F, r, q⟩ => ⟨F, r, fun d ρ' m' v H' F' ⟨t, e1, h1⟩ h2 h3 h4 h5 => ?_⟩
  subst e1
  cases h5
  exact ⟨t, rfl, q t ρ' m' H' F' h1 h2 h3 h4⟩
/-- any value's truth -/
theorem dt_truth {κ : Bool → Env → R α → Prop} {e : Expr} (h : DE C ρ e m fun d ρ1 m1 => ∃ g, m1 = (truth d).bind g ∧ ∀ t, κ t ρ1 (g t))
    (he : ∀ (env : PySem.Env) (whole : Sem Value), isTrue e env whole = (do let v ← whole; standAt e.pos; holding [v] (truthy v)) := by intro _ _; rfl) : DT C ρ e m κ := by
  intro X W Z x hK c z
  refine PT_imp (pt_truth (h X W Z x hK c z) (he _)) fun σ H Q ⟨F, r, q⟩ => ⟨F, r, fun d ρ' m' v H' F' ⟨g, e1, h1⟩ h2 h3 h4 h5 => ?_⟩
  subst e1
  obtain ⟨t, et, zt⟩ := c.bind h2
  refine ⟨t, ?_, q t ρ' _ H' F' (h1 t) zt h3 h4⟩
  have sub := h3.sub
  cases h5 with
  | non => cases et; rfl
  | bl b => cases et; rfl
  | int i => cases et; rfl
  | str y =>
    simp only [truth] at et
    split at et
    · rename_i hz
      cases et
      exact ⟨by rw [sizeLine_eq]; simpa [szOk] using hz, by cases hh : y.length <;> simp <;> omega⟩
    · cases et
  | lst a b =>
    have e0 := b.isEmpty
    cases et
    exact .inl ⟨_, .inl (.inl (sub _ _ a)), by rw [e0]⟩
  | tup a b =>
    have e0 := b.isEmpty
    cases et
    exact .inr (.inl ⟨_, by rw [x.K, ← hK]; exact seqT sub a, by rw [e0]⟩)
  | dct _ _ _ _ => cases et
theorem dt_not {κ : Bool → Env → R α → Prop} {e : Expr} {pos : Pos} (h : DT C ρ e m fun t ρ1 m1 => κ (!t) ρ1 m1) : DT C ρ (.UnaryOp .Not e pos) m κ := by
  intro X W Z x hK c z
  refine PT_imp (pt_not (h X W Z x hK c z)) fun σ H Q ⟨F, r, q⟩ => ⟨F, r, fun t ρ' m' H' F' h1 h2 h3 h4 => q _ ρ' m' H' F' h1 h2 h3 h4⟩
theorem dt_w {κ : Bool → Env → R α → Prop} {e : Expr} (h : DW C ρ e m κ) : DT C ρ e m κ := fun X W Z x hK c z => (h X W Z x hK c z).pt
theorem dw_and1 {κ : Bool → Env → R α → Prop} {e : Expr} {pos : Pos} (h : DT C ρ e m κ) : DW C ρ (.BoolOp .And [e] pos) m κ := fun X W Z x hK c z => pw_and1 (h X W Z x hK c z)
theorem dw_or1 {κ : Bool → Env → R α → Prop} {e : Expr} {pos : Pos} (h : DT C ρ e m κ) : DW C ρ (.BoolOp .Or [e] pos) m κ := fun X W Z x hK c z => pw_or1 (h X W Z x hK c z)
/-- readings chosen by what came -/
theorem PW_all {ι : Type 1} {X : Cx} {e : Expr} {P : ι → Prop} {t : ι → TT} (h : ∀ i, P i → PW X e (t i)) : PW X e fun σ H Q => ∃ i, P i ∧ t i σ H Q := ⟨fun wh p s σ H Q I ⟨i, pi, q⟩ => (h i pi).run wh p s σ H Q I q⟩
theorem dw_and {κ : Bool → Env → R α → Prop} {a b : Expr} {rest : List Expr} {pos : Pos}
    (h : DT C ρ a m fun t ρ1 m1 => ∃ A B, m1 = (if t = true then A else B) ∧ DW C ρ1 (.BoolOp .And (b :: rest) pos) A κ ∧ κ false ρ1 B) : DW C ρ (.BoolOp .And (a :: b :: rest) pos) m κ := by
  intro X W Z x hK c z
  have hb : PW X (.BoolOp .And (b :: rest) pos) fun σ H Q => ∃ i : R α × Env, (DW C i.2 (.BoolOp .And (b :: rest) pos) i.1 κ ∧ Z i.1) ∧ ∃ F, Rel W i.2 σ H F ∧ ∀ b ρ' m' H' F', κ b ρ' m' → Z m' → Rel W ρ' σ H' F' → Same F F' → Q b H' :=
    ⟨fun wh p s σ H Q I ⟨i, pi, q⟩ => (pi.1 X W Z x hK c pi.2).run wh p s σ H Q I q⟩
  refine PW_imp (pw_and (h X W Z x hK c z) hb) fun σ H Q ⟨F, r, q⟩ => ⟨F, r, fun t ρ' m' H' F' ⟨A, B, e, hA, hB⟩ h2 h3 h4 => ?_⟩
  subst e
  cases t with
  | true => exact ⟨(A, ρ'), ⟨hA, h2⟩, F', h3, fun b ρ2 m2 H2 F2 k1 k2 k3 k4 => q b ρ2 m2 H2 F2 k1 k2 k3 (h4.trans k4)⟩
  | false => exact q _ ρ' _ H' F' hB h2 h3 h4
theorem dw_or {κ : Bool → Env → R α → Prop} {a b : Expr} {rest : List Expr} {pos : Pos}
    (h : DT C ρ a m fun t ρ1 m1 => ∃ A B, m1 = (if t = true then A else B) ∧ κ true ρ1 A ∧ DW C ρ1 (.BoolOp .Or (b :: rest) pos) B κ) : DW C ρ (.BoolOp .Or (a :: b :: rest) pos) m κ := by
  intro X W Z x hK c z
  have hb : PW X (.BoolOp .Or (b :: rest) pos) fun σ H Q => ∃ i : R α × Env, (DW C i.2 (.BoolOp .Or (b :: rest) pos) i.1 κ ∧ Z i.1) ∧ ∃ F, Rel W i.2 σ H F ∧ ∀ b ρ' m' H' F', κ b ρ' m' → Z m' → Rel W ρ' σ H' F' → Same F F' → Q b H' :=
    ⟨fun wh p s σ H Q I ⟨i, pi, q⟩ => (pi.1 X W Z x hK c pi.2).run wh p s σ H Q I q⟩
  refine PW_imp (pw_or (h X W Z x hK c z) hb) fun σ H Q ⟨F, r, q⟩ => ⟨F, r, fun t ρ' m' H' F' ⟨A, B, e, hA, hB⟩ h2 h3 h4 => ?_⟩
  subst e
  cases t with
  | true => exact q _ ρ' _ H' F' hA h2 h3 h4
  | false => exact ⟨(B, ρ'), ⟨hB, h2⟩, F', h3, fun b ρ2 m2 H2 F2 k1 k2 k3 k4 => q b ρ2 m2 H2 F2 k1 k2 k3 (h4.trans k4)⟩

/-! ### joins: a part reckoned by itself -/
theorem Cl.at {β : Type} {Z : R α → Prop} (c : Cl Z) (g : β → R α) : Cl fun r : R β => ∃ p, r = .ok p ∧ Z (g p) := ⟨(fun ⟨_, e, _⟩ => nomatch e), (fun _ _ ⟨_, e, _⟩ => nomatch e)⟩
theorem de_join {τ : Type} {κ : D → Env → R α → Prop} {e : Expr} (pack : τ → Env) {r : R (D × τ)} {g : D × τ → R α}
    (h : DE C ρ e r fun d ρ' m' => ∃ st, ρ' = pack st ∧ m' = .ok (d, st)) (k : ∀ d st, κ d (pack st) (g (d, st))) : DE C ρ e (r.bind g) κ := by
  intro X W Z x hK c z
  obtain ⟨p, e1, z1⟩ := c.bind z
  refine PE_imp (h X W _ x hK (c.at g) ⟨p, e1, z1⟩) fun σ H Q ⟨F, rl, q⟩ => ⟨F, rl, fun d ρ' m' v H' F' ⟨st, e2, e3⟩ ⟨p', e4, z2⟩ h3 h4 h5 => ?_⟩
  subst e2 e3; cases e4
  exact q _ _ _ v H' F' (k _ _) z2 h3 h4 h5
/-- .. that changes nothing -/
theorem de_dir {κ : D → Env → R α → Prop} {e : Expr} {r : R D} {g : D → R α} (h : DE C ρ e r fun d ρ' m' => ρ' = ρ ∧ m' = .ok d) (k : ∀ d, κ d ρ (g d)) : DE C ρ e (r.bind g) κ := by
  intro X W Z x hK c z
  obtain ⟨p, e1, z1⟩ := c.bind z
  refine PE_imp (h X W _ x hK (c.at g) ⟨p, e1, z1⟩) fun σ H Q ⟨F, rl, q⟩ => ⟨F, rl, fun d ρ' m' v H' F' ⟨e2, e3⟩ ⟨p', e4, z2⟩ h3 h4 h5 => ?_⟩
  subst e2 e3; cases e4
  exact q _ _ _ v H' F' (k _) z2 h3 h4 h5
theorem dt_join {τ : Type} {κ : Bool → Env → R α → Prop} {e : Expr} (pack : τ → Env) {r : R (Bool × τ)} {g : Bool × τ → R α}
    (h : DT C ρ e r fun d ρ' m' => ∃ st, ρ' = pack st ∧ m' = .ok (d, st)) (k : ∀ d st, κ d (pack st) (g (d, st))) : DT C ρ e (r.bind g) κ := by
  intro X W Z x hK c z
  obtain ⟨p, e1, z1⟩ := c.bind z
  refine PT_imp (h X W _ x hK (c.at g) ⟨p, e1, z1⟩) fun σ H Q ⟨F, rl, q⟩ => ⟨F, rl, fun d ρ' m' H' F' ⟨st, e2, e3⟩ ⟨p', e4, z2⟩ h3 h4 => ?_⟩
  subst e2 e3; cases e4
  exact q _ _ _ H' F' (k _ _) z2 h3 h4
theorem dt_dir {κ : Bool → Env → R α → Prop} {e : Expr} {r : R Bool} {g : Bool → R α} (h : DT C ρ e r fun d ρ' m' => ρ' = ρ ∧ m' = .ok d) (k : ∀ d, κ d ρ (g d)) : DT C ρ e (r.bind g) κ := by
  intro X W Z x hK c z
  obtain ⟨p, e1, z1⟩ := c.bind z
  refine PT_imp (h X W _ x hK (c.at g) ⟨p, e1, z1⟩) fun σ H Q ⟨F, rl, q⟩ => ⟨F, rl, fun d ρ' m' H' F' ⟨e2, e3⟩ ⟨p', e4, z2⟩ h3 h4 => ?_⟩
  subst e2 e3; cases e4
  exact q _ _ _ H' F' (k _) z2 h3 h4
/-- a if t else b -/
theorem de_ifx {κ : D → Env → R α → Prop} {t a b : Expr} {pos : Pos} (h : DT C ρ t m fun t ρ1 m1 => ∃ A B, m1 = (if t = true then A else B) ∧ DE C ρ1 a A κ ∧ DE C ρ1 b B κ) : DE C ρ (.IfExp t a b pos) m κ := by
  intro X W Z x hK c z
  have each : ∀ e : Expr, PE X e fun σ H Q => ∃ i : R α × Env, (DE C i.2 e i.1 κ ∧ Z i.1) ∧ ∃ F, Rel W i.2 σ H F ∧ ∀ d ρ' m' v H' F', κ d ρ' m' → Z m' → Rel W ρ' σ H' F' → Same F F' → Rp W.K F' v d → Q v H' := fun e =>
    ⟨fun p s σ H Q I ⟨i, pi, q⟩ => (pi.1 X W Z x hK c pi.2).run p s σ H Q I q⟩
  refine PE_imp (pe_ifExp (h X W Z x hK c z) (each a) (each b)) fun σ H Q ⟨F, r, q⟩ => ⟨F, r, fun t ρ' m' H' F' ⟨A, B, e, hA, hB⟩ h2 h3 h4 => ?_⟩
  subst e
  cases t with
  | true => exact ⟨(A, ρ'), ⟨hA, h2⟩, F', h3, fun d ρ2 m2 v H2 F2 k1 k2 k3 k4 k5 => q d ρ2 m2 v H2 F2 k1 k2 k3 (h4.trans k4) k5⟩
  | false => exact ⟨(B, ρ'), ⟨hB, h2⟩, F', h3, fun d ρ2 m2 v H2 F2 k1 k2 k3 k4 k5 => q d ρ2 m2 v H2 F2 k1 k2 k3 (h4.trans k4) k5⟩

/-! ### arguments, displays -/
theorem da_nil {κ : List D → Env → R α → Prop} (k : κ [] ρ m) : DA C ρ [] m κ := fun X W Z x hK c z =>
  PA_imp pa_nil fun σ H Q ⟨F, r, q⟩ => q _ ρ m _ H F k z r (Same.refl _) .nil
theorem da_cons {κ : List D → Env → R α → Prop} {e : Expr} {es : List Expr} (h : DE C ρ e m fun d ρ1 m1 => DA C ρ1 es m1 fun ds ρ2 m2 => κ (d :: ds) ρ2 m2)
    (hs : ∀ env : PySem.Env, starEach (e :: es) env = (false, eval e env) :: starEach es env := by intro _; rfl) : DA C ρ (e :: es) m κ := by
  intro X W Z x hK c z
  have rest : PA X es fun σ H Q => ∃ i : R α × Env × D, (DA C i.2.1 es i.1 (fun ds ρ2 m2 => κ (i.2.2 :: ds) ρ2 m2) ∧ Z i.1) ∧ ∃ F, Rel W i.2.1 σ H F ∧ ∀ ds ρ' m' vs H' F', κ (i.2.2 :: ds) ρ' m' → Z m' → Rel W ρ' σ H' F' → Same F F' → RpAll W.K F' vs ds → Q vs H' :=
    ⟨fun po p s σ H Q I ⟨i, pi, q⟩ => (pi.1 X W Z x hK c pi.2).run po p s σ H Q I q⟩
  refine PA_imp (pa_cons (h X W Z x hK c z) rest (hs _)) fun σ H Q ⟨F, r, q⟩ => ⟨F, r, fun d ρ' m' v H' F' h1 h2 h3 h4 h5 => ?_⟩
  exact ⟨(m', ρ', d), ⟨h1, h2⟩, F', h3, fun ds ρ2 m2 vs H2 F2 k1 k2 k3 k4 k5 => q _ ρ2 m2 _ H2 F2 k1 k2 k3 (h4.trans k4) (.cons (h5.mono k4) k5)⟩
theorem de_tup {κ : D → Env → R α → Prop} {es : List Expr} {k : Nat} {pos : Pos} (h : DA C ρ es m fun ds ρ1 m1 => ds.length ≤ 16777216 ∧ κ (.tuple ds) ρ1 m1) : DE C ρ (.Tuple es k pos) m κ := by
  intro X W Z x hK c z
  refine PE_imp (pe_tup (h X W Z x hK c z)) fun σ H Q ⟨F, r, q⟩ => ⟨F, r, fun ds ρ' m' vs H' F' ⟨hz, h1⟩ h2 h3 h4 h5 => ⟨by rw [h5.length, sizeLine_eq]; exact hz, fun p hp => ?_⟩⟩
  have fx : Fx F' H' _ _ := Fx.alloc (u := .tup vs) h3.sub hp
  exact q _ ρ' m' _ _ _ h1 h2 (h3.step fx) (h4.trans fx.ff) (.tup (.inl (.inl upd_same)) (h5.mono fx.ff))
theorem de_lst {κ : D → Env → R α → Prop} {es : List Expr} {pos : Pos} (h : DA C ρ es m fun ds ρ1 m1 => ds.length ≤ 16777216 ∧ κ (.list ds) ρ1 m1) : DE C ρ (.List es pos) m κ := by
  intro X W Z x hK c z
  refine PE_imp (pe_lst (h X W Z x hK c z)) fun σ H Q ⟨F, r, q⟩ => ⟨F, r, fun ds ρ' m' vs H' F' ⟨hz, h1⟩ h2 h3 h4 h5 => ⟨by rw [h5.length, sizeLine_eq]; exact hz, fun p hp => ?_⟩⟩
  have fx : Fx F' H' _ _ := Fx.alloc (u := .lst vs) h3.sub hp
  exact q _ ρ' m' _ _ _ h1 h2 (h3.step fx) (h4.trans fx.ff) (.lst upd_same (h5.mono fx.ff))
end
end Z

set_option Elab.async false
set_option linter.all false
set_option maxRecDepth 100000
set_option autoImplicit false
/-! # Z4: targets, blocks, loops, a def by its mirror -/
namespace Z
open PySem L2

/-! ### less is known -/
def Le : Env → Env → Prop
  | [], [] => True
  | none :: r, _ :: r' => Le r r'
  | some a :: r, some b :: r' => a = b ∧ Le r r'
  | _, _ => False
theorem Le.refl : ∀ ρ : Env, Le ρ ρ
  | [] => trivial
  | none :: r => Le.refl r
  | some a :: r => ⟨rfl, Le.refl r⟩
theorem Le.len : ∀ {ρ ρ' : Env}, Le ρ ρ' → ρ.length = ρ'.length
  | [], [], _ => rfl
  | none :: r, _ :: r', h => by simp [Le.len (ρ := r) (ρ' := r') h]
  | some a :: r, some b :: r', h => by simp [Le.len (ρ := r) (ρ' := r') h.2]
  | [], _ :: _, h => h.elim
  | some a :: r, [], h => h.elim
  | none :: r, [], h => h.elim
  | some a :: r, none :: r', h => h.elim
theorem Le.get : ∀ {ρ ρ' : Env}, Le ρ ρ' → ∀ {i : Nat} {sl : Sl}, ρ[i]? = some (some sl) → ρ'[i]? = some (some sl)
  | [], [], _, i, sl, e => by simp at e
  | none :: r, _ :: r', h, 0, sl, e => by simp at e
  | none :: r, _ :: r', h, i + 1, sl, e => by
    have := Le.get (ρ := r) (ρ' := r') h (i := i) (sl := sl) (by simpa using e)
    simpa using this
  | some a :: r, some b :: r', h, 0, sl, e => by
    have h1 := h.1
    subst h1; simpa using e
  | some a :: r, some b :: r', h, i + 1, sl, e => by
    have := Le.get (ρ := r) (ρ' := r') h.2 (i := i) (sl := sl) (by simpa using e)
    simpa using this
  | [], _ :: _, h, _, _, _ => h.elim
  | some a :: r, [], h, _, _, _ => h.elim
  | none :: r, [], h, _, _, _ => h.elim
  | some a :: r, none :: r', h, _, _, _ => h.elim
theorem Rel.le {W : Wd} {ρ ρ' : Env} {σ : L2.St} {H F : Hp} (r : Rel W ρ' σ H F) (h : Le ρ ρ') : Rel W ρ σ H F := by
  refine ⟨r.sub, r.sub0, r.keep, r.fresh, ?_, by rw [h.len]; exact r.len, r.trk⟩
  obtain ⟨ad, k⟩ := r.env
  refine ⟨ad, fun i sl e => ?_⟩
  obtain ⟨v, h1, h2, h3, h4⟩ := k i sl (h.get e)
  exact ⟨v, h1, h2, h3, fun j sl' ne e' => h4 j sl' ne (h.get e')⟩

section
variable {α : Type} {C : Ct} {ρ : Env} {m : R α}

/-! ### targets -/
theorem set_wipe {σ : L2.St} {i : Nat} {x : Option V} : ∀ {vs : List Nat}, i ∈ vs → wipe (σ.set i x) vs = wipe σ vs
  | v :: vs, h => by
    unfold wipe
    by_cases hv : i ∈ vs
    · rw [set_wipe hv]
    · have e : v = i := by
        rcases List.mem_cons.mp h with q | q
        · exact q.symm
        · exact absurd q hv
      subst e
      refine List.ext_getElem? fun j => ?_
      have key : ∀ (us : List Nat) (τ : L2.St) (k : Nat), (wipe τ us)[k]? = if k ∈ us then (τ[k]?.map fun _ => none) else τ[k]? := by
        intro us τ k
        induction us with
        | nil => simp [wipe]
        | cons u us ih =>
          unfold wipe
          rw [List.getElem?_set, ih]
          by_cases e : u = k
          · subst e
            have hl : (wipe τ us).length = τ.length := wipe_length τ us
            by_cases hk : u < τ.length
            · simp [hl, hk]
            · simp [hl, hk]
          · have e' : ¬ k = u := fun q => e q.symm
            simp [e, e']
      rw [List.getElem?_set, List.getElem?_set, key, key]
      by_cases e : v = j
      · subst e
        simp [wipe_length]
      · simp only [if_neg e, List.getElem?_set_ne e]
/-- L tells the slots that the target may set -/
def DG {α : Type} (C : Ct) (L : Nat → Prop) (ρ : Env) (tg : Expr) (d : D) (m : R α) (κ : Env → R α → Prop) : Prop :=
  ∀ (X : Cx) (W : Wd) (Z : R α → Prop), XOk C X → W.K = C.K → Cl Z → Z m →
    PG X tg fun v σ H Q => ∃ F, Rel W ρ σ H F ∧ Rp W.K F v d ∧ ∀ ρ' m' σ' H' F', κ ρ' m' → Z m' → Rel W ρ' σ' H' F' → Same F F' → (∀ vs, (∀ i, L i → i ∈ vs) → wipe σ' vs = wipe σ vs) → Q σ' H'
def DGs {α : Type} (C : Ct) (L : Nat → Prop) (ρ : Env) (tgs : List Expr) (ds : List D) (m : R α) (κ : Env → R α → Prop) : Prop :=
  ∀ (X : Cx) (W : Wd) (Z : R α → Prop), XOk C X → W.K = C.K → Cl Z → Z m →
    PGs X tgs fun vs σ H Q => ∃ F, Rel W ρ σ H F ∧ RpAll W.K F vs ds ∧ ∀ ρ' m' σ' H' F', κ ρ' m' → Z m' → Rel W ρ' σ' H' F' → Same F F' → (∀ vs, (∀ i, L i → i ∈ vs) → wipe σ' vs = wipe σ vs) → Q σ' H'
theorem PG_imp {X : Cx} {e : Expr} {t t' : TG} (h : PG X e t) (i : ∀ v σ H Q, t' v σ H Q → t v σ H Q) : PG X e t' := ⟨fun p s σ H v u Q I r q => h.run p s σ H v u Q I r (i v σ H Q q)⟩
theorem PGs_imp {X : Cx} {e : List Expr} {t t' : TGs} (h : PGs X e t) (i : ∀ v σ H Q, t' v σ H Q → t v σ H Q) : PGs X e t' := ⟨fun p s σ H v u Q I r q => h.run p s σ H v u Q I r (i v σ H Q q)⟩
theorem dg_name {L : Nat → Prop} {κ : Env → R α → Prop} {n : Str} {pos : Pos} {d : D} (i : Nat) (k : κ (ρ.set i (some (.val d))) m) (hN : C.N[i]? = some n := by rfl)
    (hx : Loc C.sc n := by first | exact Or.inl rfl | exact Or.inr rfl) (hfn : C.fn n = true ∨ C.sc.names.lookup n = some .local := by first | exact Or.inl rfl | exact Or.inr rfl) (hL : L i := by first | trivial | simp) : DG C L ρ (.Name n pos) d m κ := by
  intro X W Z x hK c z
  have hf : X.fn n = true ∨ X.env.scope.names.lookup n = some .local := hfn.elim (fun h => .inl (x.fnl n h)) fun h => .inr (by rw [x.sc]; exact h)
  refine PG_imp (pg_name (i := i) (by rw [x.N]; exact x.nd) (by rw [x.N]; exact hN) (by rw [x.sc]; exact hx) hf) fun v σ H Q ⟨F, r, p, q⟩ => ?_
  exact q _ m _ H F k z (r.set i p) (Same.refl _) fun vs hv => set_wipe (hv i hL)
theorem dgs_nil {L : Nat → Prop} {κ : Env → R α → Prop} (k : κ ρ m) : DGs C L ρ [] [] m κ := fun X W Z x hK c z =>
  PGs_imp pgs_nil fun v σ H Q ⟨F, r, p, q⟩ => ⟨by cases p; rfl, q _ m _ H F k z r (Same.refl _) fun _ _ => rfl⟩
theorem dgs_cons {L : Nat → Prop} {κ : Env → R α → Prop} {e : Expr} {es : List Expr} {d : D} {ds : List D} (h : DG C L ρ e d m fun ρ1 m1 => DGs C L ρ1 es ds m1 κ)
    (hs : ∀ env : PySem.Env, (assignEach (e :: es) env).map (·.2) = assign e env :: (assignEach es env).map (·.2) := by intro _; rfl) : DGs C L ρ (e :: es) (d :: ds) m κ := by
  intro X W Z x hK c z
  have rest : PGs X es fun vs σ H Q => ∃ i : R α × Env, (DGs C L i.2 es ds i.1 κ ∧ Z i.1) ∧ ∃ F, Rel W i.2 σ H F ∧ RpAll W.K F vs ds ∧ ∀ ρ' m' σ' H' F', κ ρ' m' → Z m' → Rel W ρ' σ' H' F' → Same F F' → (∀ vs, (∀ i, L i → i ∈ vs) → wipe σ' vs = wipe σ vs) → Q σ' H' :=
    ⟨fun p s σ H v u Q I r ⟨i, pi, q⟩ => (pi.1 X W Z x hK c pi.2).run p s σ H v u Q I r q⟩
  refine PGs_imp (pgs_cons (h X W Z x hK c z) rest (hs _)) fun vs σ H Q ⟨F, r, p, q⟩ => ?_
  cases p with
  | cons p ps =>
    refine ⟨_, _, rfl, F, r, p, fun ρ1 m1 σ1 H1 F1 k1 k2 k3 k4 k5 => ?_⟩
    exact ⟨(m1, ρ1), ⟨k1, k2⟩, F1, k3, ps.mono k4, fun ρ' m' σ' H' F' h1 h2 h3 h4 h5 => q ρ' m' σ' H' F' h1 h2 h3 (k4.trans h4) fun vs hv => (h5 vs hv).trans (k5 vs hv)⟩
theorem dg_tup {L : Nat → Prop} {κ : Env → R α → Prop} {es : List Expr} {k n : Nat} {pos : Pos} {d : D} {g : List D → R α} (hm : m = (unpack n d).bind g) (h : ∀ ds, ds.length = n → DGs C L ρ es ds (g ds) κ)
    (hn : ∀ env : PySem.Env, (assignEach es env).length = n := by intro _; rfl) (hst : ∀ env : PySem.Env, (assignEach es env).findIdx? (·.1) = none := by intro _; rfl) : DG C L ρ (.Tuple es k pos) d m κ := by
  intro X W Z x hK c z
  subst hm
  obtain ⟨ds, e1, z1⟩ := c.bind z
  have hd : ds.length = n ∧ (d = .tuple ds ∨ d = .list ds) := by
    unfold unpack at e1
    split at e1
    · split at e1
      · cases e1; rename_i hl; exact ⟨hl, .inl rfl⟩
      · cases e1
    · split at e1
      · cases e1; rename_i hl; exact ⟨hl, .inr rfl⟩
      · cases e1
    · cases e1
  obtain ⟨hl, rfl | rfl⟩ := hd
  · refine PG_imp (pg_tup (n := n) x.calm (h ds hl X W Z x hK c z1) (hn _) (hst _)) fun v σ H Q ⟨F, r, p, q⟩ => ?_
    cases p with
    | tup a b => exact ⟨_, _, rfl, by rw [x.K, ← hK]; exact seqT r.sub a, by rw [b.length]; exact hl, F, r, b, q⟩
  · refine PG_imp (pg_unl (n := n) x.calm (h ds hl X W Z x hK c z1) (hn _) (hst _)) fun v σ H Q ⟨F, r, p, q⟩ => ?_
    cases p with
    | lst a b => exact ⟨_, _, rfl, SqL.of (r.sub _ _ a), by rw [b.length]; exact hl, F, r, b, q⟩
/-- two, three parts -/
def un2 (d : D) : R (D × D) := (unpack 2 d).bind fun
  | [a, b] => .ok (a, b)
  | _ => .stuck
def un3 (d : D) : R (D × D × D) := (unpack 3 d).bind fun
  | [a, b, c] => .ok (a, b, c)
  | _ => .stuck
theorem dg_tup2 {L : Nat → Prop} {κ : Env → R α → Prop} {e1 e2 : Expr} {k : Nat} {pos : Pos} {d : D} {g : D × D → R α} (hm : m = (un2 d).bind g) (h : ∀ a b, DGs C L ρ [e1, e2] [a, b] (g (a, b)) κ)
    (hn : ∀ env : PySem.Env, (assignEach [e1, e2] env).length = 2 := by intro _; rfl) (hst : ∀ env : PySem.Env, (assignEach [e1, e2] env).findIdx? (·.1) = none := by intro _; rfl) : DG C L ρ (.Tuple [e1, e2] k pos) d m κ := by
  unfold un2 at hm
  rw [R.bind_assoc] at hm
  refine dg_tup hm (fun ds hl => ?_) hn hst
  match ds, hl with
  | [a, b], _ => exact h a b
theorem dg_tup3 {L : Nat → Prop} {κ : Env → R α → Prop} {e1 e2 e3 : Expr} {k : Nat} {pos : Pos} {d : D} {g : D × D × D → R α} (hm : m = (un3 d).bind g) (h : ∀ a b c, DGs C L ρ [e1, e2, e3] [a, b, c] (g (a, b, c)) κ)
    (hn : ∀ env : PySem.Env, (assignEach [e1, e2, e3] env).length = 3 := by intro _; rfl) (hst : ∀ env : PySem.Env, (assignEach [e1, e2, e3] env).findIdx? (·.1) = none := by intro _; rfl) : DG C L ρ (.Tuple [e1, e2, e3] k pos) d m κ := by
  unfold un3 at hm
  rw [R.bind_assoc] at hm
  refine dg_tup hm (fun ds hl => ?_) hn hst
  match ds, hl with
  | [a, b, c], _ => exact h a b c

/-! ### blocks -/
def Jd.sq (C : Ct) (J : Jd α) (rest : List Stmt) : Jd α := { J with nx := fun ρ' m' => DSs C ρ' rest m' J }
theorem rest_run {J : Jd α} {rest : List Stmt} {X : Cx} {W : Wd} {Z : R α → Prop} (x : XOk C X) (hK : W.K = C.K) (c : Cl Z) :
    PSs X rest fun D σ H => ∃ i : R α × Env, (DSs C i.2 rest i.1 J ∧ Z i.1) ∧ ∃ F, Rel W i.2 σ H F ∧ Lk W J Z D :=
  ⟨fun p s σ H D I ⟨i, pi, q⟩ => (pi.1 X W Z x hK c pi.2).run p s σ H D I q⟩
theorem Lk.sq {J : Jd α} {rest : List Stmt} {W : Wd} {Z : R α → Prop} {D : Ends} (l : Lk W J Z D) :
    Lk W (J.sq C rest) Z { D with nx := fun σ H => ∃ i : R α × Env, (DSs C i.2 rest i.1 J ∧ Z i.1) ∧ ∃ F, Rel W i.2 σ H F ∧ Lk W J Z D } :=
  ⟨fun ρ m σ H F h1 h2 h3 => ⟨(m, ρ), ⟨h1, h2⟩, F, h3, l⟩, l.rt, l.bk, l.ct, l.rn⟩
theorem ds_nil {J : Jd α} (k : J.nx ρ m) : DSs C ρ [] m J := fun X W Z x hK c z => PSs_imp pss_nil fun D σ H ⟨F, r, l⟩ => l.nx ρ m σ H F k z r
theorem ds_le {ρ' : Env} {J : Jd α} {sts : List Stmt} (l : Le ρ ρ') (h : DSs C ρ sts m J) : DSs C ρ' sts m J := fun X W Z x hK c z => PSs_imp (h X W Z x hK c z) fun D σ H ⟨F, r, k⟩ => ⟨F, r.le l, k⟩
theorem ds_set {J : Jd α} {n : Str} {e : Expr} {p pos : Pos} {rest : List Stmt} (i : Nat) (h : DE C ρ e m fun d ρ1 m1 => DSs C (ρ1.set i (some (.val d))) rest m1 J) (hN : C.N[i]? = some n := by rfl)
    (hx : Loc C.sc n := by first | exact Or.inl rfl | exact Or.inr rfl) (hfn : C.fn n = true ∨ C.sc.names.lookup n = some .local := by first | exact Or.inl rfl | exact Or.inr rfl) (hs : ∀ env : PySem.Env, env.scope = C.sc → swapsWith e (some (.Name n p)) pos.line env = pure false := by intro env he; rfl) : DSs C ρ (.Assign [.Name n p] e pos :: rest) m J := by
  intro X W Z x hK c z
  have hf : X.fn n = true ∨ X.env.scope.names.lookup n = some .local := hfn.elim (fun h => .inl (x.fnl n h)) fun h => .inr (by rw [x.sc]; exact h)
  refine PSs_imp (pss_cons (ps_set (i := i) (by rw [x.N]; exact x.nd) (by rw [x.N]; exact hN) (by rw [x.sc]; exact hx) (h X W Z x hK c z) (hs _ x.sc) hf) (rest_run (J := J) x hK c)) fun D σ H ⟨F, r, l⟩ => ?_
  exact ⟨F, r, fun d ρ' m' v H' F' h1 h2 h3 h4 h5 => ⟨(m', _), ⟨h1, h2⟩, F', h3.set i h5, l⟩⟩
theorem ds_asg {J : Jd α} {tg e : Expr} {pos : Pos} {rest : List Stmt} (h : DE C ρ e m fun d ρ1 m1 => DG C (fun _ => True) ρ1 tg d m1 fun ρ2 m2 => DSs C ρ2 rest m2 J)
    (hs : ∀ env : PySem.Env, env.scope = C.sc → swapsWithSole [tg] e pos.line env = pure false := by intro env he; rfl) (hw : ∀ env : PySem.Env, env.scope = C.sc → swappedStores [tg] e env = pure none := by intro env he; first | rfl | (cases env; cases he; rfl))
    (h1 : ∀ env : PySem.Env, (assignEach [tg] env).map (·.2) = [assign tg env] := by intro _; rfl) : DSs C ρ (.Assign [tg] e pos :: rest) m J := by
  intro X W Z x hK c z
  have hg : PG X tg fun v σ H Q => ∃ i : R α × Env × D, (DG C (fun _ => True) i.2.1 tg i.2.2 i.1 (fun ρ2 m2 => DSs C ρ2 rest m2 J) ∧ Z i.1) ∧ ∃ F, Rel W i.2.1 σ H F ∧ Rp W.K F v i.2.2 ∧ ∀ ρ' m' σ' H' F', DSs C ρ' rest m' J → Z m' → Rel W ρ' σ' H' F' → Same F F' → (∀ vs, (∀ i, (fun _ : Nat => True) i → i ∈ vs) → wipe σ' vs = wipe σ vs) → Q σ' H' :=
    ⟨fun p s σ H v u Q I r ⟨i, pi, q⟩ => (pi.1 X W Z x hK c pi.2).run p s σ H v u Q I r q⟩
  refine PSs_imp (pss_cons (ps_asg (h X W Z x hK c z) hg (hs _ x.sc) (hw _ x.sc) (h1 _)) (rest_run (J := J) x hK c)) fun D σ H ⟨F, r, l⟩ => ?_
  exact ⟨F, r, fun d ρ' m' v H' F' h1 h2 h3 h4 h5 => ⟨(m', ρ', d), ⟨h1, h2⟩, F', h3, h5, fun ρ2 m2 σ2 H2 F2 k1 k2 k3 k4 _ => ⟨(m2, ρ2), ⟨k1, k2⟩, F2, k3, l⟩⟩⟩
/-- a, b = e1, e2, both plain locals: no tuple is made -/
theorem ds_par {J : Jd α} {n1 n2 : Str} {e1 e2 : Expr} {px py pt pt2 pos : Pos} {kt k2 : Nat} {rest : List Stmt} (i j : Nat)
    (h : DE C ρ e1 m fun d1 ρ1 m1 => DE C ρ1 e2 m1 fun d2 ρ2 m2 => DSs C ((ρ2.set i (some (.val d1))).set j (some (.val d2))) rest m2 J) (hN : C.N[i]? = some n1 := by rfl) (hN2 : C.N[j]? = some n2 := by rfl) (hij : i ≠ j := by decide)
    (hx : C.sc.names.lookup n1 = some .local := by rfl) (hy : C.sc.names.lookup n2 = some .local := by rfl)
    (hst : ∀ env : PySem.Env, starEach [e1, e2] env = (false, eval e1 env) :: starEach [e2] env := by intro _; rfl) (hst2 : ∀ env : PySem.Env, starEach [e2] env = (false, eval e2 env) :: starEach [] env := by intro _; rfl)
    (hw : ∀ env : PySem.Env, env.scope = C.sc → swappedStores [.Tuple [.Name n1 px, .Name n2 py] kt pt] (.Tuple [e1, e2] k2 pt2) env = pure (some [n1, n2])) : DSs C ρ (.Assign [.Tuple [.Name n1 px, .Name n2 py] kt pt] (.Tuple [e1, e2] k2 pt2) pos :: rest) m J := by
  intro X W Z x hK c z
  have ha : DA C ρ [e1, e2] m fun ds ρ2 m2 => ∃ d1 d2, ds = [d1, d2] ∧ DSs C ((ρ2.set i (some (.val d1))).set j (some (.val d2))) rest m2 J := by
    refine da_cons (fun X W Z x hK c z => PE_imp (h X W Z x hK c z) fun σ H Q ⟨F, r, q⟩ => ⟨F, r, fun d ρ' m' v H' F' k1 => q d ρ' m' v H' F' (da_cons (fun X W Z x hK c z => PE_imp (k1 X W Z x hK c z) fun σ H Q ⟨F, r, q⟩ => ⟨F, r, fun d' ρ2 m2 v H' F' k2 => q d' ρ2 m2 v H' F' (da_nil ⟨d, d', rfl, k2⟩)⟩) hst2)⟩) hst
  refine PSs_imp (pss_cons (ps_par (i := i) (j := j) x.calm (by rw [x.N]; exact x.nd) (by rw [x.N]; exact hN) (by rw [x.N]; exact hN2) hij (by rw [x.sc]; exact hx) (by rw [x.sc]; exact hy) (ha X W Z x hK c z) (hw _ x.sc)) (rest_run (J := J) x hK c)) fun D σ H ⟨F, r, l⟩ => ?_
  refine ⟨F, r, fun ds ρ' m' vs H' F' ⟨d1, d2, e, h1⟩ h2 h3 h4 h5 => ?_⟩
  subst e
  cases h5 with
  | cons p1 t => cases t with
    | cons p2 t => cases t; exact ⟨_, _, rfl, (m', _), ⟨h1, h2⟩, F', (h3.set i p1).set j p2, l⟩
theorem ds_ret {J : Jd α} {e : Expr} {pos : Pos} {rest : List Stmt} (h : DE C ρ e m fun d ρ1 m1 => J.rt d ρ1 m1) : DSs C ρ (.Return (some e) pos :: rest) m J := by
  intro X W Z x hK c z
  refine PSs_imp (pss_cons (ps_ret (h X W Z x hK c z)) pss_never) fun D σ H ⟨F, r, l⟩ => ?_
  exact ⟨F, r, fun d ρ' m' v H' F' h1 h2 h3 h4 h5 => l.rt d ρ' m' v σ H' F' h1 h2 h3 h5⟩
theorem ds_brk {J : Jd α} {pos : Pos} {rest : List Stmt} (k : J.bk ρ m) : DSs C ρ (.Break pos :: rest) m J := fun X W Z x hK c z =>
  PSs_imp (pss_cons ps_break pss_never) fun D σ H ⟨F, r, l⟩ => l.bk ρ m σ H F k z r
theorem ds_cnt {J : Jd α} {pos : Pos} {rest : List Stmt} (k : J.ct ρ m) : DSs C ρ (.Continue pos :: rest) m J := fun X W Z x hK c z =>
  PSs_imp (pss_cons ps_continue pss_never) fun D σ H ⟨F, r, l⟩ => l.ct ρ m σ H F k z r
theorem ds_if {J : Jd α} {t : Expr} {a b rest : List Stmt} {pos : Pos} (h : DT C ρ t m fun t ρ1 m1 => ∃ A B, m1 = (if t = true then A else B) ∧ DSs C ρ1 a A (J.sq C rest) ∧ DSs C ρ1 b B (J.sq C rest)) : DSs C ρ (.If t a b pos :: rest) m J := by
  intro X W Z x hK c z
  refine PSs_imp (pss_cons (ps_if (h X W Z x hK c z) (rest_run (J := J.sq C rest) x hK c) (rest_run (J := J.sq C rest) x hK c)) (rest_run (J := J) x hK c)) fun D σ H ⟨F, r, l⟩ => ?_
  refine ⟨F, r, fun t ρ' m' H' F' ⟨A, B, e, hA, hB⟩ h2 h3 h4 => ?_⟩
  subst e
  cases t with
  | true => exact ⟨(A, ρ'), ⟨hA, h2⟩, F', h3, l.sq⟩
  | false => exact ⟨(B, ρ'), ⟨hB, h2⟩, F', h3, l.sq⟩

/-- a part's ends as data: what the packed state is -/
def Jq {τ : Type} (pack : τ → Env) : Jd τ := { nx := fun ρ m => ∃ st, Le (pack st) ρ ∧ m = .ok st, rt := fun _ _ _ => False, bk := fun _ _ => False, ct := fun ρ m => ∃ st, Le (pack st) ρ ∧ m = .ok st }
def Jl {τ : Type} (pack : τ → Env) : Jd (Fl τ) := { nx := fun ρ m => ∃ st, Le (pack st) ρ ∧ m = .ok (.nx st), rt := fun d ρ m => ∃ st, Le (pack st) ρ ∧ m = .ok (.rt d st), bk := fun ρ m => ∃ st, Le (pack st) ρ ∧ m = .ok (.bk st), ct := fun ρ m => ∃ st, Le (pack st) ρ ∧ m = .ok (.nx st) }
def Jw {τ : Type} (pack : τ → Env) : Jd (Wl τ) := { nx := fun ρ m => ∃ st, Le (pack st) ρ ∧ m = .ok (.go st), rt := fun d ρ m => ∃ st, Le (pack st) ρ ∧ m = .ok (.rt d st), bk := fun ρ m => ∃ st, Le (pack st) ρ ∧ m = .ok (.done st), ct := fun ρ m => ∃ st, Le (pack st) ρ ∧ m = .ok (.go st) }
def Jn {τ : Type} (pack : τ → Env) : Jd τ := { nx := fun ρ m => ∃ st, Le (pack st) ρ ∧ m = .ok st, rt := fun _ _ _ => False, bk := fun _ _ => False, ct := fun _ _ => False }
/-- an if whose ways meet -/
theorem ds_ifq {J : Jd α} {τ : Type} {t : Expr} {a b rest : List Stmt} {pos : Pos} (pack : τ → Env) {r : R τ} {g : τ → R α} (hm : m = r.bind g)
    (h : DT C ρ t r fun t ρ1 m1 => ∃ A B, m1 = (if t = true then A else B) ∧ DSs C ρ1 a A (Jn pack) ∧ DSs C ρ1 b B (Jn pack)) (k : ∀ st, DSs C (pack st) rest (g st) J) : DSs C ρ (.If t a b pos :: rest) m J := by
  intro X W Z x hK c z
  subst hm
  obtain ⟨st0, e1, z1⟩ := c.bind z
  refine PSs_imp (pss_cons (ps_if (h X W _ x hK (c.at g) ⟨st0, e1, z1⟩) (rest_run (J := Jn pack) x hK (c.at g)) (rest_run (J := Jn pack) x hK (c.at g))) (rest_run (J := J) x hK c)) fun D σ H ⟨F, rl, l⟩ => ?_
  have lk : Lk W (Jn pack) (fun r : R τ => ∃ p, r = .ok p ∧ Z (g p)) { D with nx := fun σ H => ∃ i : R α × Env, (DSs C i.2 rest i.1 J ∧ Z i.1) ∧ ∃ F, Rel W i.2 σ H F ∧ Lk W J Z D } :=
    ⟨fun ρ m σ H F ⟨st, hl, e⟩ ⟨p, e2, zp⟩ h3 => by subst e; cases e2; exact ⟨(g st, pack st), ⟨k st, zp⟩, F, h3.le hl, l⟩, fun _ _ _ _ _ _ _ h => h.elim, fun _ _ _ _ _ h => h.elim,
     fun _ _ _ _ _ h => h.elim, fun _ _ _ _ _ _ _ h => h.elim⟩
  refine ⟨F, rl, fun t ρ' m' H' F' ⟨A, B, e, hA, hB⟩ h2 h3 h4 => ?_⟩
  subst e
  cases t with
  | true => exact ⟨(A, ρ'), ⟨hA, h2⟩, F', h3, lk⟩
  | false => exact ⟨(B, ρ'), ⟨hB, h2⟩, F', h3, lk⟩
end
end Z

set_option Elab.async false
set_option linter.all false
set_option maxRecDepth 100000
set_option autoImplicit false
/-! # Z5: what is walked, loops, comprehensions -/
namespace Z
open PySem L2

/-- the iterator J yields these data, whatever grows meanwhile -/
structure ItD (K : PySem.W.Frag) (J : It) (items : List D) (F0 : Hp) : Prop where
  goes : ∀ i F H, i < items.length → Same F0 F → Same F H → J.go i H
  stops : ∀ F H, Same F0 F → Same F H → J.stop items.length H
  yields : ∀ i F H x H', i < items.length → Same F0 F → Same F H → J.yld i H x H' → ∃ F' d, items[i]? = some d ∧ Fx F H F' H' ∧ Rp K F' x d
theorem ItD.mono {K : PySem.W.Frag} {J : It} {items : List D} {F0 F1 : Hp} (x : ItD K J items F0) (e : Same F0 F1) : ItD K J items F1 :=
  ⟨fun i F H h a b => x.goes i F H h (e.trans a) b, fun F H a b => x.stops F H (e.trans a) b, fun i F H y H' h a b c => x.yields i F H y H' h (e.trans a) b c⟩

theorem itd_list {K : PySem.W.Frag} {a : Addr} {xs : List V} {items : List D} {F : Hp} (h : SqL K F a xs) (r : RpAll K F xs items) : ItD K (Itl K a) items F where
  goes := fun i F1 H hi e1 e2 => walk_list.goes i H (by rw [r.length]; exact hi) (e2.seq (e1.seq h))
  stops := fun F1 H e1 e2 => by rw [← r.length]; exact walk_list.stops H (e2.seq (e1.seq h))
  yields := fun i F1 H x H' hi e1 e2 y => by
    obtain ⟨e, hx⟩ := walk_list.yields i H x H' (by rw [r.length]; exact hi) (e2.seq (e1.seq h)) y
    subst e
    obtain ⟨d, h1, h2⟩ := r.at' hx
    exact ⟨F1, d, h1, Fx.refl e2, h2.mono e1⟩
theorem itd_tup {K : PySem.W.Frag} {a : Addr} {xs : List V} {items : List D} {F : Hp} (h : SqT K F a xs) (r : RpAll K F xs items) : ItD K (Itt K a) items F where
  goes := fun i F1 H hi e1 e2 => walk_tup.goes i H (by rw [r.length]; exact hi) (seqT e2 (seqT e1 h))
  stops := fun F1 H e1 e2 => by rw [← r.length]; exact walk_tup.stops H (seqT e2 (seqT e1 h))
  yields := fun i F1 H x H' hi e1 e2 y => by
    obtain ⟨e, hx⟩ := walk_tup.yields i H x H' (by rw [r.length]; exact hi) (seqT e2 (seqT e1 h)) y
    subst e
    obtain ⟨d, h1, h2⟩ := r.at' hx
    exact ⟨F1, d, h1, Fx.refl e2, h2.mono e1⟩
theorem rangeD_at {lo hi : Int} {i : Nat} (h : i < (hi - lo).toNat) : (rangeD lo hi)[i]? = some (.int (lo + i)) := by
  unfold rangeD
  rw [List.getElem?_map, List.getElem?_range h]
  rfl
theorem rangeD_len {lo hi : Int} : (rangeD lo hi).length = (hi - lo).toNat := by simp [rangeD]
theorem itd_range {K : PySem.W.Frag} {lo hi : Int} {F : Hp} : ItD K (Itr lo (hi - lo).toNat) (rangeD lo hi) F where
  goes := fun i F1 H hh e1 e2 => by rw [rangeD_len] at hh; exact hh
  stops := fun F1 H e1 e2 => by rw [rangeD_len]; exact Nat.le_refl _
  yields := fun i F1 H x H' hh e1 e2 y => by
    obtain ⟨e, hx⟩ := y
    subst e hx
    rw [rangeD_len] at hh
    exact ⟨F1, _, rangeD_at hh, Fx.refl e2, .int _⟩
theorem itd_str {K : PySem.W.Frag} {z : Str} {F : Hp} : ItD K (Its z) (z.cps.toList.map fun c => .str ⟨#[c]⟩) F where
  goes := fun i F1 H hi e1 e2 => by
    show i < z.cps.size
    simpa using hi
  stops := fun F1 H e1 e2 => by show z.cps.size ≤ _; simp
  yields := fun i F1 H x H' hi e1 e2 y => by
    obtain ⟨e, c, hc, hx⟩ := y
    subst e hx
    refine ⟨F1, .str ⟨#[c]⟩, ?_, Fx.refl e2, .str _⟩
    rw [List.getElem?_map, Array.getElem?_toList, hc]
    rfl

section
variable {α : Type} {C : Ct} {ρ : Env} {m : R α} {tg : Expr}
def DI {α : Type} (C : Ct) (ρ : Env) (tg it : Expr) (m : R α) (κ : List D → Env → R α → Prop) : Prop :=
  ∀ (X : Cx) (W : Wd) (Z : R α → Prop), XOk C X → W.K = C.K → Cl Z → Z m →
    PI X tg it fun σ H Rr => ∃ F, Rel W ρ σ H F ∧ ∀ items ρ' m' J H' F', κ items ρ' m' → Z m' → Rel W ρ' σ H' F' → Same F F' → ItD W.K J items F' → Rr J H'
theorem PI_imp {X : Cx} {it : Expr} {t t' : TI} (h : PI X tg it t) (i : ∀ σ H Q, t' σ H Q → t σ H Q) : PI X tg it t' := ⟨fun p s σ H Q I q => h.run p s σ H Q I (i σ H Q q)⟩
/-- a list, a tuple, a text is walked -/
theorem di_val {κ : List D → Env → R α → Prop} {it : Expr} (h : DE C ρ it m fun d ρ1 m1 => ∃ g, m1 = (iter d).bind g ∧ ∀ items, κ items ρ1 (g items)) : DI C ρ tg it m κ := by
  intro X W Z x hK c z
  refine ⟨fun pins s σ H Rr I ⟨F, r, q⟩ => ?_⟩
  refine thn ((h X W Z x hK c z).run pins s σ H (fun v H1 => ∃ (J : It) (t : TI), PI X tg it t ∧ True ∧ ∃ F1 d ρ1 m1, (∃ g, m1 = (iter d).bind g ∧ ∀ items, κ items ρ1 (g items)) ∧ Z m1 ∧ Rel W ρ1 σ H1 F1 ∧ Same F F1 ∧ Rp W.K F1 v d) I
    ⟨F, r, fun d ρ' m' v H' F' h1 h2 h3 h4 h5 => ⟨⟨fun _ _ => True, fun _ _ _ _ => True, fun _ _ => True⟩, fun _ _ _ => False, ⟨fun _ _ _ _ _ _ q => q.elim⟩, trivial, F', d, ρ', m', h1, h2, h3, h4, h5⟩⟩) fun v s1 ⟨vx, H1, I1, r1, _, _, _, _, F1, d, ρ1, m1, ⟨g, e, hg⟩, z1, rel1, ss, p⟩ => ?_
  subst e
  obtain ⟨items, ei, zi⟩ := c.bind z1
  cases p with
  | lst a b =>
    cases ei
    cases r1
    rename_i ad xs _x0
    have aX : SqL X.K H1 ad xs := SqL.of (rel1.sub _ _ a)
    obtain ⟨its, rv, p, hz⟩ := I1.list aX
    refine wpAny_pyIter_list p.isList (pi_one (tk := s1.toks) I1 _ (turn_list _ _) ⟨_, Heap.get?_push_size _ rfl, rfl, rfl⟩ ?_)
    refine q _ ρ1 _ _ H1 F1 (hg _) zi rel1 ss ?_
    rw [x.K, ← hK]; exact itd_list (SqL.of a) b
  | tup a b =>
    cases ei
    cases r1
    rename_i ad xs _x0
    have aX : SqT X.K H1 ad xs := by rw [x.K, ← hK]; exact seqT rel1.sub a
    obtain ⟨its, rv, p, hz⟩ := I1.tuple aX
    refine wpAny_pyIter_tuple (show s1.heap.IsTuple ad its.toArray from p) (pi_one (tk := s1.toks) I1 _ (turn_tuple _ _) ⟨_, Heap.get?_push_size _ rfl, rfl, rfl⟩ ?_)
    refine q _ ρ1 _ _ H1 F1 (hg _) zi rel1 ss ?_
    rw [x.K, ← hK]; exact itd_tup a b
  | str y =>
    cases ei
    obtain ⟨t, rfl⟩ := r1
    have fin := q _ ρ1 _ (Its y) H1 F1 (hg _) zi rel1 ss itd_str
    cases ha : y.cps.all (· < 128)
    · exact wpAny_pyIter_wide ha (pi_one (tk := s1.toks) I1 _ (turn_str _ y t "str_iterator" (.inr rfl)) ⟨_, Heap.get?_push_size _ rfl, rfl, rfl⟩ fin)
    · exact wpAny_pyIter_ascii ha (pi_one (tk := s1.toks) I1 _ (turn_str _ y t "str_ascii_iterator" (.inl rfl)) ⟨_, Heap.get?_push_size _ rfl, rfl, rfl⟩ fin)
  | _ => cases ei
theorem range2_ok {a b : D} {items : List D} (h : range2 a b = .ok items) : ∃ lo hi : Int, a = .int lo ∧ b = .int hi ∧ -(2 ^ 62) ≤ lo ∧ lo < 2 ^ 62 ∧ -(2 ^ 62) ≤ hi ∧ hi < 2 ^ 62 ∧ items = rangeD lo hi := by
  unfold range2 at h
  split at h
  · split at h
    · rename_i lo hi hh
      simp only [Bool.and_eq_true, decide_eq_true_eq] at hh
      cases h
      exact ⟨lo, hi, rfl, rfl, hh.1.1.1, hh.1.1.2, hh.1.2, hh.2, rfl⟩
    · cases h
  · cases h
theorem di_range1 {κ : List D → Env → R α → Prop} {a : Expr} {p pos : Pos} (hm : C.mg ("range" : Str) = none) (h : DE C ρ a m fun d ρ1 m1 => ∃ g, m1 = (range1 d).bind g ∧ ∀ items, κ items ρ1 (g items))
    (hg : C.sc.names.lookup ("range" : Str) = some .globalImplicit := by rfl) (hs : ∀ env : PySem.Env, starEach [a] env = [(false, eval a env)] := by intro _; rfl) : DI C ρ tg (.Call (.Name "range" p) [a] [] pos) m κ := by
  intro X W Z x hK c z
  have ha : DA C ρ [a] m fun ds ρ1 m1 => ∃ d, ds = [d] ∧ ∃ g, m1 = (range1 d).bind g ∧ ∀ items, κ items ρ1 (g items) :=
    da_cons (fun X W Z x hK c z => PE_imp (h X W Z x hK c z) fun σ H Q ⟨F, r, q⟩ => ⟨F, r, fun d ρ' m' v H' F' k1 => q d ρ' m' v H' F' (da_nil ⟨d, rfl, k1⟩)⟩) hs
  refine PI_imp (pi_range1 (x.gl hg) (x.mg0 hm) (ha X W Z x hK c z) (hs _)) fun σ H Rr ⟨F, r, q⟩ => ⟨F, r, fun ds ρ' m' vs H' F' ⟨d, e1, g, e2, hgg⟩ h2 h3 h4 h5 => ?_⟩
  subst e1 e2
  obtain ⟨items, ei, zi⟩ := c.bind h2
  obtain ⟨lo, hi, e3, e4, b1, b2, b3, b4, e5⟩ := range2_ok ei
  cases e3; subst e4 e5
  cases h5 with
  | cons p1 t =>
    cases t; cases p1
    refine ⟨hi, rfl, b3, b4, ?_⟩
    have := q _ ρ' _ _ H' F' (hgg _) zi h3 h4 (itd_range (K := W.K) (lo := 0) (hi := hi) (F := F'))
    simpa using this
theorem di_range2 {κ : List D → Env → R α → Prop} {a b : Expr} {p pos : Pos} (hm : C.mg ("range" : Str) = none) (h : DE C ρ a m fun d ρ1 m1 => DE C ρ1 b m1 fun e ρ2 m2 => ∃ g, m2 = (range2 d e).bind g ∧ ∀ items, κ items ρ2 (g items))
    (hg : C.sc.names.lookup ("range" : Str) = some .globalImplicit := by rfl) (hs : ∀ env : PySem.Env, starEach [a, b] env = [(false, eval a env), (false, eval b env)] := by intro _; rfl) (hs2 : ∀ env : PySem.Env, starEach [b] env = [(false, eval b env)] := by intro _; rfl) : DI C ρ tg (.Call (.Name "range" p) [a, b] [] pos) m κ := by
  intro X W Z x hK c z
  have ha : DA C ρ [a, b] m fun ds ρ1 m1 => ∃ d e, ds = [d, e] ∧ ∃ g, m1 = (range2 d e).bind g ∧ ∀ items, κ items ρ1 (g items) :=
    da_cons (fun X W Z x hK c z => PE_imp (h X W Z x hK c z) fun σ H Q ⟨F, r, q⟩ => ⟨F, r, fun d ρ' m' v H' F' k1 => q d ρ' m' v H' F' (da_cons (fun X W Z x hK c z => PE_imp (k1 X W Z x hK c z) fun σ H Q ⟨F, r, q⟩ => ⟨F, r, fun e ρ' m' v H' F' k2 => q e ρ' m' v H' F' (da_nil ⟨d, e, rfl, k2⟩)⟩) (fun env => by rw [hs2]; rfl))⟩) (fun env => by rw [hs, hs2])
  refine PI_imp (pi_range2 (x.gl hg) (x.mg0 hm) (ha X W Z x hK c z) (hs _) (hs2 _)) fun σ H Rr ⟨F, r, q⟩ => ⟨F, r, fun ds ρ' m' vs H' F' ⟨d, e, e1, g, e2, hgg⟩ h2 h3 h4 h5 => ?_⟩
  subst e1 e2
  obtain ⟨items, ei, zi⟩ := c.bind h2
  obtain ⟨lo, hi, e3, e4, b1, b2, b3, b4, e5⟩ := range2_ok ei
  subst e3 e4 e5
  cases h5 with
  | cons p1 t =>
    cases t with
    | cons p2 t =>
      cases t; cases p1; cases p2
      exact ⟨lo, hi, rfl, ⟨b1, b2, b3, b4⟩, q _ ρ' _ _ H' F' (hgg _) zi h3 h4 itd_range⟩

/-! ### a later beginning -/
theorem Rel.up {W : Wd} {F1 H1 F H : Hp} {ρ ρ1 : Env} {σ σ1 : L2.St} (r : Rel { W with F0 := F1 } ρ σ H F) (r1 : Rel W ρ1 σ1 H1 F1) : Rel W ρ σ H F :=
  ⟨r.sub, r1.sub0.trans r.sub0, r.keep, fun b o h => (r.fresh b o h).elim (fun q => r1.fresh b o q) .inr, r.env, r.len, r.trk⟩
theorem Rel.down {W : Wd} {F1 H1 F H : Hp} {ρ ρ1 : Env} {σ σ1 : L2.St} (r : Rel W ρ σ H F) (e : Same F1 F) (r1 : Rel W ρ1 σ1 H1 F1) : Rel { W with F0 := F1 } ρ σ H F :=
  ⟨r.sub, e, r.keep, fun b o h => (r.fresh b o h).elim (fun q => .inl (r1.sub0 b o q)) .inr, r.env, r.len, r.trk⟩

/-! ### for -/
theorem forS_step {τ : Type} {items : List D} {i : Nat} {d : D} (h : items[i]? = some d) (st : τ) (f : D → τ → R τ) : forS (items.drop i) st f = (f d st).bind fun s => forS (items.drop (i + 1)) s f := by
  have : items.drop i = d :: items.drop (i + 1) := by
    obtain ⟨hl, e⟩ := List.getElem?_eq_some_iff.mp h
    rw [List.drop_eq_getElem_cons hl, e]
  rw [this]; rfl
theorem forT_step {τ : Type} {items : List D} {i : Nat} {d : D} (h : items[i]? = some d) (st : τ) (f : D → τ → R (Fl τ)) : forT (items.drop i) st f = (f d st).bind fun
    | .nx s => forT (items.drop (i + 1)) s f
    | .bk s => .ok (.nx s)
    | .rt d s => .ok (.rt d s) := by
  have : items.drop i = d :: items.drop (i + 1) := by
    obtain ⟨hl, e⟩ := List.getElem?_eq_some_iff.mp h
    rw [List.drop_eq_getElem_cons hl, e]
  rw [this]; rfl

theorem ds_forT {J : Jd α} {it : Expr} {body rest : List Stmt} {pos : Pos} {τ : Type} (pack : τ → Env)
    (h : DI C ρ tg it m fun items ρ1 m1 => ∃ st0 f g, Le (pack st0) ρ1 ∧ m1 = (forT items st0 f).bind g ∧
      (∀ x st, DG C (fun _ => True) (pack st) tg x (f x st) fun ρ2 m2 => DSs C ρ2 body m2 (Jl pack)) ∧ (∀ st, DSs C (pack st) rest (g (.nx st)) J) ∧ (∀ d st ρ', Le (pack st) ρ' → J.rt d ρ' (g (.rt d st))))
    (hs : ∀ (env : PySem.Env) (x : Value), foldedSetIterable it env x = pure x := by intro _ _; rfl) : DSs C ρ (.For tg it body [] pos :: rest) m J := by
  intro X W Z x hK c z
  have hg : PG X tg fun v σ H Q => ∃ (W' : Wd) (τ' : Type) (Z' : R τ' → Prop) (i : R τ' × Env × D) (κ : Env → R τ' → Prop), (DG C (fun _ => True) i.2.1 tg i.2.2 i.1 κ ∧ W'.K = C.K ∧ Cl Z' ∧ Z' i.1) ∧ ∃ F, Rel W' i.2.1 σ H F ∧ Rp W'.K F v i.2.2 ∧ ∀ ρ' m' σ' H' F', κ ρ' m' → Z' m' → Rel W' ρ' σ' H' F' → Same F F' → (∀ vs, (∀ i, (fun _ : Nat => True) i → i ∈ vs) → wipe σ' vs = wipe σ vs) → Q σ' H' :=
    ⟨fun p s σ H v u Q I r ⟨W', _, Z', i, κ, ⟨pi, hK', c', z'⟩, q⟩ => (pi X W' Z' x hK' c' z').run p s σ H v u Q I r q⟩
  have hb : PSs X body fun D σ H => ∃ (W' : Wd) (τ' : Type) (Z' : R τ' → Prop) (i : R τ' × Env) (J' : Jd τ'), (DSs C i.2 body i.1 J' ∧ W'.K = C.K ∧ Cl Z' ∧ Z' i.1) ∧ ∃ F, Rel W' i.2 σ H F ∧ Lk W' J' Z' D :=
    ⟨fun p s σ H D I ⟨W', _, Z', i, J', ⟨pi, hK', c', z'⟩, q⟩ => (pi X W' Z' x hK' c' z').run p s σ H D I q⟩
  refine PSs_imp (pss_cons (ps_for x.own x.calm (h X W Z x hK c z) hg hb (hs _)) (rest_run (J := J) x hK c)) fun Dn σ H ⟨F, rl, lk⟩ => ?_
  refine ⟨F, rl, fun items ρ' m' Jt H1 F1 ⟨st0, f, g, hle, em, hf, hnx, hrt⟩ zm rel1 ss itd => ?_⟩
  subst em
  refine ⟨fun i n σ H => n = items.length - i ∧ i ≤ items.length ∧ ∃ st F2, Rel { W with F0 := F1 } (pack st) σ H F2 ∧ Z ((forT (items.drop i) st f).bind g), ⟨items.length, by simp, Nat.zero_le _, st0, F1, (rel1.le hle).down (Same.refl _) rel1, by simpa using zm⟩, ?_⟩
  rintro i n σ2 H2 ⟨rfl, hi, st, F2, rel2, z2⟩
  by_cases hlt : i < items.length
  · refine .inr ⟨itd.goes i F2 H2 hlt rel2.sub0 rel2.sub, fun σ H => ∃ st F3, Rel { W with F0 := F1 } (pack st) σ H F3 ∧ Z ((forT (items.drop (i + 1)) st f).bind g), fun σ3 H3 ⟨st3, F3, b, c3⟩ => ⟨_, by omega, rfl, hlt, st3, F3, b, c3⟩, fun v H3 y => ?_⟩
    obtain ⟨F3, d, hd, fx, pd⟩ := itd.yields i F2 H2 v H3 hlt rel2.sub0 rel2.sub y
    rw [forT_step hd, R.bind_assoc] at z2
    obtain ⟨fl, ef, zf⟩ := c.bind z2
    refine ⟨{ W with F0 := F1 }, Fl τ, fun r => ∃ p, r = .ok p ∧ Z ((match p with | .nx s => forT (items.drop (i + 1)) s f | .bk s => .ok (.nx s) | .rt d s => .ok (.rt d s)).bind g), (f d st, pack st, d), _, ⟨hf d st, hK, c.at _, fl, ef, zf⟩, F3, rel2.step fx, pd, fun ρ4 m4 σ4 H4 F4 h1 h2 h3 h4 _ => ?_⟩
    refine ⟨{ W with F0 := F1 }, Fl τ, _, (m4, ρ4), Jl pack, ⟨h1, hK, c.at _, h2⟩, F4, h3, ⟨fun ρ m σ H F ⟨st', hl, e⟩ ⟨p, e2, zp⟩ h3 => ?_, fun d ρ m v σ H F ⟨st', hl, e⟩ ⟨p, e2, zp⟩ h3 h5 => ?_, fun ρ m σ H F ⟨st', hl, e⟩ ⟨p, e2, zp⟩ h3 => ?_, fun ρ m σ H F ⟨st', hl, e⟩ ⟨p, e2, zp⟩ h3 => ?_, fun _ _ _ _ _ _ _ h => h.elim⟩⟩
    · subst e; cases e2; exact ⟨st', F, h3.le hl, zp⟩
    · subst e; cases e2; exact lk.rt d ρ _ v σ H F (hrt d st' ρ hl) zp (h3.up rel1) h5
    · subst e; cases e2; exact ⟨(g (.nx st'), pack st'), ⟨hnx st', zp⟩, F, (h3.up rel1).le hl, lk⟩
    · subst e; cases e2; exact ⟨st', F, h3.le hl, zp⟩
  · have e : i = items.length := by omega
    subst e
    rw [List.drop_length] at z2
    exact .inl ⟨itd.stops F2 H2 rel2.sub0 rel2.sub, (g (.nx st), pack st), ⟨hnx st, z2⟩, F2, rel2.up rel1, lk⟩
theorem ds_forS {J : Jd α} {it : Expr} {body rest : List Stmt} {pos : Pos} {τ : Type} (pack : τ → Env)
    (h : DI C ρ tg it m fun items ρ1 m1 => ∃ st0 f g, Le (pack st0) ρ1 ∧ m1 = (forS items st0 f).bind g ∧
      (∀ x st, DG C (fun _ => True) (pack st) tg x (f x st) fun ρ2 m2 => DSs C ρ2 body m2 (Jq pack)) ∧ (∀ st, DSs C (pack st) rest (g st) J))
    (hs : ∀ (env : PySem.Env) (x : Value), foldedSetIterable it env x = pure x := by intro _ _; rfl) : DSs C ρ (.For tg it body [] pos :: rest) m J := by
  intro X W Z x hK c z
  have hg : PG X tg fun v σ H Q => ∃ (W' : Wd) (τ' : Type) (Z' : R τ' → Prop) (i : R τ' × Env × D) (κ : Env → R τ' → Prop), (DG C (fun _ => True) i.2.1 tg i.2.2 i.1 κ ∧ W'.K = C.K ∧ Cl Z' ∧ Z' i.1) ∧ ∃ F, Rel W' i.2.1 σ H F ∧ Rp W'.K F v i.2.2 ∧ ∀ ρ' m' σ' H' F', κ ρ' m' → Z' m' → Rel W' ρ' σ' H' F' → Same F F' → (∀ vs, (∀ i, (fun _ : Nat => True) i → i ∈ vs) → wipe σ' vs = wipe σ vs) → Q σ' H' :=
    ⟨fun p s σ H v u Q I r ⟨W', _, Z', i, κ, ⟨pi, hK', c', z'⟩, q⟩ => (pi X W' Z' x hK' c' z').run p s σ H v u Q I r q⟩
  have hb : PSs X body fun D σ H => ∃ (W' : Wd) (τ' : Type) (Z' : R τ' → Prop) (i : R τ' × Env) (J' : Jd τ'), (DSs C i.2 body i.1 J' ∧ W'.K = C.K ∧ Cl Z' ∧ Z' i.1) ∧ ∃ F, Rel W' i.2 σ H F ∧ Lk W' J' Z' D :=
    ⟨fun p s σ H D I ⟨W', _, Z', i, J', ⟨pi, hK', c', z'⟩, q⟩ => (pi X W' Z' x hK' c' z').run p s σ H D I q⟩
  refine PSs_imp (pss_cons (ps_for x.own x.calm (h X W Z x hK c z) hg hb (hs _)) (rest_run (J := J) x hK c)) fun Dn σ H ⟨F, rl, lk⟩ => ?_
  refine ⟨F, rl, fun items ρ' m' Jt H1 F1 ⟨st0, f, g, hle, em, hf, hnx⟩ zm rel1 ss itd => ?_⟩
  subst em
  refine ⟨fun i n σ H => n = items.length - i ∧ i ≤ items.length ∧ ∃ st F2, Rel { W with F0 := F1 } (pack st) σ H F2 ∧ Z ((forS (items.drop i) st f).bind g), ⟨items.length, by simp, Nat.zero_le _, st0, F1, (rel1.le hle).down (Same.refl _) rel1, by simpa using zm⟩, ?_⟩
  rintro i n σ2 H2 ⟨rfl, hi, st, F2, rel2, z2⟩
  by_cases hlt : i < items.length
  · refine .inr ⟨itd.goes i F2 H2 hlt rel2.sub0 rel2.sub, fun σ H => ∃ st F3, Rel { W with F0 := F1 } (pack st) σ H F3 ∧ Z ((forS (items.drop (i + 1)) st f).bind g), fun σ3 H3 ⟨st3, F3, b, c3⟩ => ⟨_, by omega, rfl, hlt, st3, F3, b, c3⟩, fun v H3 y => ?_⟩
    obtain ⟨F3, d, hd, fx, pd⟩ := itd.yields i F2 H2 v H3 hlt rel2.sub0 rel2.sub y
    rw [forS_step hd, R.bind_assoc] at z2
    obtain ⟨fl, ef, zf⟩ := c.bind z2
    refine ⟨{ W with F0 := F1 }, τ, fun r => ∃ p, r = .ok p ∧ Z ((forS (items.drop (i + 1)) p f).bind g), (f d st, pack st, d), _, ⟨hf d st, hK, c.at _, fl, ef, zf⟩, F3, rel2.step fx, pd, fun ρ4 m4 σ4 H4 F4 h1 h2 h3 h4 _ => ?_⟩
    refine ⟨{ W with F0 := F1 }, τ, _, (m4, ρ4), Jq pack, ⟨h1, hK, c.at _, h2⟩, F4, h3, ⟨fun ρ m σ H F ⟨st', hl, e⟩ ⟨p, e2, zp⟩ h3 => ?_, fun _ _ _ _ _ _ _ h => h.elim, fun _ _ _ _ _ h => h.elim, fun ρ m σ H F ⟨st', hl, e⟩ ⟨p, e2, zp⟩ h3 => ?_, fun _ _ _ _ _ _ _ h => h.elim⟩⟩
    · subst e; cases e2; exact ⟨st', F, h3.le hl, zp⟩
    · subst e; cases e2; exact ⟨st', F, h3.le hl, zp⟩
  · have e : i = items.length := by omega
    subst e
    rw [List.drop_length] at z2
    exact .inl ⟨itd.stops F2 H2 rel2.sub0 rel2.sub, (g st, pack st), ⟨hnx st, z2⟩, F2, rel2.up rel1, lk⟩

/-! ### while -/
theorem ds_while {J : Jd α} {t : Expr} {body rest : List Stmt} {pos : Pos} {τ : Type} (pack : τ → Env) (n : Nat) (st0 : τ) {f : τ → R (Wl τ)} {g : Fl τ → R α} (hle : Le (pack st0) ρ) (hm : m = (whileT n st0 f).bind g)
    (h : ∀ st, DT C (pack st) t (f st) fun t ρ1 m1 => ∃ A B, m1 = (if t = true then A else B) ∧ DSs C ρ1 body A (Jw pack) ∧ ∃ st', Le (pack st') ρ1 ∧ B = .ok (.done st'))
    (hnx : ∀ st, DSs C (pack st) rest (g (.nx st)) J) (hrt : ∀ d st ρ', Le (pack st) ρ' → J.rt d ρ' (g (.rt d st)) ∨ g (.rt d st) = .stuck) : DSs C ρ (.While t body [] pos :: rest) m J := by
  intro X W Z x hK c z
  subst hm
  have ht : PT X t fun σ H Q => ∃ (W' : Wd) (τ' : Type) (Z' : R τ' → Prop) (i : R τ' × Env) (κ : Bool → Env → R τ' → Prop), (DT C i.2 t i.1 κ ∧ W'.K = C.K ∧ Cl Z' ∧ Z' i.1) ∧ ∃ F, Rel W' i.2 σ H F ∧ ∀ b ρ' m' H' F', κ b ρ' m' → Z' m' → Rel W' ρ' σ H' F' → Same F F' → Q b H' :=
    ⟨fun p s σ H Q I ⟨W', _, Z', i, κ, ⟨pi, hK', c', z'⟩, q⟩ => (pi X W' Z' x hK' c' z').run p s σ H Q I q⟩
  have hb : PSs X body fun D σ H => ∃ (W' : Wd) (τ' : Type) (Z' : R τ' → Prop) (i : R τ' × Env) (J' : Jd τ'), (DSs C i.2 body i.1 J' ∧ W'.K = C.K ∧ Cl Z' ∧ Z' i.1) ∧ ∃ F, Rel W' i.2 σ H F ∧ Lk W' J' Z' D :=
    ⟨fun p s σ H D I ⟨W', _, Z', i, J', ⟨pi, hK', c', z'⟩, q⟩ => (pi X W' Z' x hK' c' z').run p s σ H D I q⟩
  refine PSs_imp (pss_cons (ps_while x.own ht hb) (rest_run (J := J) x hK c)) fun Dn σ H ⟨F, rl, lk⟩ => ?_
  refine ⟨fun k σ H => ∃ st F2, Rel W (pack st) σ H F2 ∧ Z ((whileT k st f).bind g), ⟨n, st0, F, rl.le hle, z⟩, ?_⟩
  rintro k σ2 H2 ⟨st, F2, rel2, z2⟩
  cases k with
  | zero => exact (c.st z2).elim
  | succ k =>
    rw [whileT, R.bind_assoc] at z2
    obtain ⟨wl, ef, zf⟩ := c.bind z2
    refine ⟨W, Wl τ, fun r => ∃ p, r = .ok p ∧ Z ((match p with | .go s => whileT k s f | .done s => .ok (.nx s) | .rt d s => .ok (.rt d s)).bind g), (f st, pack st), _, ⟨h st, hK, c.at _, wl, ef, zf⟩, F2, rel2, fun b ρ3 m3 H3 F3 ⟨A, B, e, hA, st', hl, hB⟩ z3 rel3 s3 => ?_⟩
    subst e
    cases b with
    | false =>
      rw [if_neg Bool.false_ne_true] at z3
      obtain ⟨p, e2, zp⟩ := z3
      rw [hB] at e2
      cases e2
      rw [if_neg Bool.false_ne_true]
      exact ⟨(g (.nx st'), pack st'), ⟨hnx st', zp⟩, F3, rel3.le hl, lk⟩
    | true =>
      rw [if_pos rfl] at z3 ⊢
      refine ⟨fun σ H => ∃ st F2, Rel W (pack st) σ H F2 ∧ Z ((whileT k st f).bind g), fun σ' H' q => ⟨k, Nat.lt_succ_self k, q⟩, W, Wl τ, _, (A, ρ3), Jw pack, ⟨hA, hK, c.at _, z3⟩, F3, rel3, ⟨fun ρ m σ H F ⟨st', hl, e⟩ ⟨p, e2, zp⟩ h3 => ?_, fun d ρ m v σ H F ⟨st', hl, e⟩ ⟨p, e2, zp⟩ h3 h5 => ?_, fun ρ m σ H F ⟨st', hl, e⟩ ⟨p, e2, zp⟩ h3 => ?_, fun ρ m σ H F ⟨st', hl, e⟩ ⟨p, e2, zp⟩ h3 => ?_, fun _ _ _ _ _ _ _ h => h.elim⟩⟩
      · subst e; cases e2; exact ⟨st', F, h3.le hl, zp⟩
      · subst e; cases e2; rcases hrt d st' ρ hl with h | h
        · exact lk.rt d ρ _ v σ H F h zp h3 h5
        · have zp' : Z (g (.rt d st')) := zp
          rw [h] at zp'
          exact (c.st zp').elim
      · subst e; cases e2; exact ⟨(g (.nx st'), pack st'), ⟨hnx st', zp⟩, F, h3.le hl, lk⟩
      · subst e; cases e2; exact ⟨st', F, h3.le hl, zp⟩
end
end Z

set_option Elab.async false
set_option linter.all false
set_option maxRecDepth 100000
set_option autoImplicit false
/-! # Z6: comprehensions -/
namespace Z
open PySem L2

/-- the slots of a block's own names are empty -/
def wipeE (ρ : Env) : List Nat → Env
  | [] => ρ
  | v :: vs => (wipeE ρ vs).set v none
theorem wipeE_get {ρ : Env} {i : Nat} {sl : Sl} : ∀ {vs : List Nat}, (wipeE ρ vs)[i]? = some (some sl) → ρ[i]? = some (some sl) ∧ i ∉ vs
  | [], h => ⟨h, by simp⟩
  | v :: vs, h => by
    unfold wipeE at h
    rcases get_set h with ⟨_, _, e⟩ | ⟨e, h'⟩
    · cases e
    · obtain ⟨a, b⟩ := wipeE_get h'
      exact ⟨a, by simp only [List.mem_cons, not_or]; exact ⟨fun q => e q.symm, b⟩⟩
theorem Rel.wipe {W : Wd} {ρ : Env} {σ : L2.St} {H F : Hp} (r : Rel W ρ σ H F) : ∀ vs : List Nat, Rel W (wipeE ρ vs) (wipe σ vs) H F
  | [] => r
  | v :: vs => (r.wipe vs).forget v none

/-- the state at a turn, by itself: io are the addresses that the slots alone have -/
theorem Rel.turn {W : Wd} {ρ : Env} {σ : L2.St} {H F : Hp} (r : Rel W ρ σ H F) : ∃ io, Rel ⟨W.K, F, H, io⟩ ρ σ H F ∧ (∀ b ∈ io, b ∈ W.io ∨ W.H0 b = none) ∧ ∀ b ∈ io, ∃ o, H b = some o := by
  obtain ⟨ad, k⟩ := r.env
  refine ⟨((List.range ρ.length).filter fun i => (match ρ[i]? with | some (some _) => true | _ => false)).flatMap ad, ⟨r.sub, Same.refl _, fun b o h _ => h, fun b o h => .inl h, ⟨ad, fun i sl e => ?_⟩, r.len, fun b o h => ⟨o, h⟩⟩, fun b hb => ?_, fun b hb => ?_⟩
  · obtain ⟨v, h1, h2, h3, h4⟩ := k i sl e
    refine ⟨v, h1, h2, fun b hb => .inl (List.mem_flatMap.mpr ⟨i, List.mem_filter.mpr ⟨List.mem_range.mpr (List.getElem?_eq_some_iff.mp e).1, by rw [e]⟩, hb⟩), h4⟩
  · obtain ⟨i, hi, hb⟩ := List.mem_flatMap.mp hb
    obtain ⟨_, h2⟩ := List.mem_filter.mp hi
    cases e : ρ[i]? with
    | none => rw [e] at h2; cases h2
    | some q =>
      cases q with
      | none => rw [e] at h2; cases h2
      | some sl =>
        obtain ⟨v, _, _, h3, _⟩ := k i sl e
        exact h3 b hb
  · obtain ⟨i, hi, hb⟩ := List.mem_flatMap.mp hb
    obtain ⟨_, h2⟩ := List.mem_filter.mp hi
    cases e : ρ[i]? with
    | none => rw [e] at h2; cases h2
    | some q =>
      cases q with
      | none => rw [e] at h2; cases h2
      | some sl =>
        obtain ⟨v, _, h2, _, _⟩ := k i sl e
        cases sl with
        | val d => rw [h2.2] at hb; cases hb
        | own xs =>
          obtain ⟨p, vs, _, e2, h, _⟩ := h2
          rw [e2] at hb
          have : b = p := by simpa using hb
          subst this; exact ⟨_, h⟩
        | src a s =>
          obtain ⟨c, _, e2, _, _, _, h1, h3, _⟩ := h2
          rw [e2] at hb
          have : b = a ∨ b = c := by simpa using hb
          rcases this with rfl | rfl
          · exact ⟨_, h1⟩
          · exact ⟨_, h3⟩
        | scr ns =>
          obtain ⟨_, _, _, _, e2⟩ := h2
          rw [e2] at hb; cases hb
theorem Rel.unturn {W : Wd} {ρ ρ' : Env} {σ σ' : L2.St} {H F H' F' : Hp} {io : List Addr} (r' : Rel ⟨W.K, F, H, io⟩ ρ' σ' H' F') (r : Rel W ρ σ H F) (hio : ∀ b ∈ io, b ∈ W.io ∨ W.H0 b = none) : Rel W ρ' σ' H' F' := by
  have up : ∀ b, H b = none → W.H0 b = none := fun b h => by
    cases e : W.H0 b with
    | none => rfl
    | some u => obtain ⟨o, q⟩ := r.trk b u e; rw [h] at q; cases q
  refine ⟨r'.sub, r.sub0.trans r'.sub0, fun b o h hn => ?_, fun b o h => ?_, ?_, r'.len, fun b o h => ?_⟩
  · refine r'.keep b o (r.keep b o h hn) fun hb => ?_
    rcases hio b hb with q | q
    · exact hn q
    · rw [h] at q; cases q
  · rcases r'.fresh b o h with q | q | q
    · exact r.fresh b o q
    · exact .inr (.inl (up b q))
    · exact .inr ((hio b q).elim .inr .inl)
  · obtain ⟨ad, k⟩ := r'.env
    refine ⟨ad, fun i sl e => ?_⟩
    obtain ⟨v, h1, h2, h3, h4⟩ := k i sl e
    exact ⟨v, h1, h2, fun b hb => (h3 b hb).elim (hio b) fun q => .inr (up b q), h4⟩
  · obtain ⟨o', q⟩ := r.trk b o h
    exact r'.trk b o' q
/-- values alone -/
def ValOnly (ρ : Env) : Prop := ∀ (i : Nat) (sl : Sl), ρ[i]? = some (some sl) → ∃ d, sl = .val d
def valB : Env → Bool
  | [] => true
  | none :: r => valB r
  | some (.val _) :: r => valB r
  | _ => false
theorem valOnly_of : ∀ {ρ : Env}, valB ρ = true → ValOnly ρ
  | [], _, i, sl, e => by simp at e
  | none :: r, h, 0, sl, e => by simp at e
  | none :: r, h, i + 1, sl, e => valOnly_of (ρ := r) h i sl (by simpa using e)
  | some (.val d) :: r, h, 0, sl, e => by simp at e; exact ⟨d, e.symm⟩
  | some (.val d) :: r, h, i + 1, sl, e => valOnly_of (ρ := r) h i sl (by simpa using e)
  | some (.own _) :: r, h, _, _, _ => by cases h
  | some (.src _ _) :: r, h, _, _, _ => by cases h
  | some (.scr _) :: r, h, _, _, _ => by cases h
/-- values alone: nothing else is changed -/
theorem Rel.pure {W : Wd} {ρ : Env} {σ : L2.St} {H F : Hp} (r : Rel W ρ σ H F) (h : ValOnly ρ) : Rel ⟨W.K, F, H, []⟩ ρ σ H F := by
  refine ⟨r.sub, Same.refl _, fun b o h _ => h, fun b o h => .inl h, ⟨fun _ => [], fun i sl e => ?_⟩, r.len, fun b o h => ⟨o, h⟩⟩
  obtain ⟨ad, k⟩ := r.env
  obtain ⟨d, rfl⟩ := h i sl e
  obtain ⟨v, h1, h2, _, _⟩ := k i _ e
  exact ⟨v, h1, ⟨h2.1, rfl⟩, by simp, by simp⟩
theorem Rel.fx {K : PySem.W.Frag} {ρ' : Env} {σ' : L2.St} {H F H' F' : Hp} (r' : Rel ⟨K, F, H, []⟩ ρ' σ' H' F') : Fx F H F' H' :=
  ⟨r'.sub0, r'.sub, fun b o h => r'.keep b o h (by simp), fun b o h => (r'.fresh b o h).elim .inl fun q => q.elim .inr fun z => absurd z (by simp)⟩

section
variable {α : Type} {C : Ct} {ρ : Env} {m : R α}
def Ct.blk (C : Ct) (scope : Scope) : Ct := { C with sc := relS scope C.sc, fn := fun x => scope.names.lookup x == some .cell }
theorem XOk.blk {X : Cx} (x : XOk C X) {scope : Scope} (s : Shared) (H : Hp) (Ca : Addr) (cl : List (Str × Addr)) (fp : List Addr) : XOk (C.blk scope) (X.blk s H scope (compEnvC scope cl Ca X.env) fp) :=
  ⟨x.prog, x.w, x.K, x.mg, x.base, x.N, x.nd, by show relS scope X.env.scope = _; rw [x.sc]; rfl, x.calm, x.room, x.grd, PassesOwn.never, fun _ h => h⟩

def DTs {α : Type} (C : Ct) (ρ : Env) (es : List Expr) (m : R α) (κ : Bool → Env → R α → Prop) : Prop :=
  ∀ (X : Cx) (W : Wd) (Z : R α → Prop), XOk C X → W.K = C.K → Cl Z → Z m →
    PTs X es fun σ H Q => ∃ F, Rel W ρ σ H F ∧ ∀ b ρ' m' H' F', κ b ρ' m' → Z m' → Rel W ρ' σ H' F' → Same F F' → Q b H'
theorem PTs_imp {X : Cx} {e : List Expr} {t t' : TT} (h : PTs X e t) (i : ∀ σ H Q, t' σ H Q → t σ H Q) : PTs X e t' := ⟨fun p s σ H Q I q => h.run p s σ H Q I (i σ H Q q)⟩
theorem dts_nil {κ : Bool → Env → R α → Prop} (k : κ true ρ m) : DTs C ρ [] m κ := fun X W Z x hK c z => PTs_imp pts_nil fun σ H Q ⟨F, r, q⟩ => q _ ρ m H F k z r (Same.refl _)
theorem dts_one {κ : Bool → Env → R α → Prop} {e : Expr} (h : DT C ρ e m κ) : DTs C ρ [e] m κ := fun X W Z x hK c z => pts_one (h X W Z x hK c z)
theorem tsplit {P Q : R α → Prop} {t : Bool} {m1 A B : R α} (h : m1 = (if t = true then A else B)) (hA : P A) (hB : Q B) : (t = true → P m1) ∧ (t = false → Q m1) := by
  subst h
  cases t with
  | true => exact ⟨(fun _ => hA), (fun e => nomatch e)⟩
  | false => exact ⟨(fun e => nomatch e), (fun _ => hB)⟩

theorem compP_step {items : List D} {i : Nat} {d : D} (h : items[i]? = some d) (f : D → R (Option D)) : compP (items.drop i) f = (f d).bind fun p => (compP (items.drop (i + 1)) f).bind fun q =>
    match p with
    | some y => .ok (y :: q)
    | none => .ok q := by
  have : items.drop i = d :: items.drop (i + 1) := by
    obtain ⟨hl, e⟩ := List.getElem?_eq_some_iff.mp h
    rw [List.drop_eq_getElem_cons hl, e]
  rw [this]; rfl
theorem compT_step {τ : Type} {items : List D} {i : Nat} {d : D} (h : items[i]? = some d) (st : τ) (f : D → τ → R (Option D × τ)) : compT (items.drop i) st f = (f d st).bind fun p => (compT (items.drop (i + 1)) p.2 f).bind fun q =>
    match p.1 with
    | some y => .ok (y :: q.1, q.2)
    | none => .ok (q.1, q.2) := by
  have : items.drop i = d :: items.drop (i + 1) := by
    obtain ⟨hl, e⟩ := List.getElem?_eq_some_iff.mp h
    rw [List.drop_eq_getElem_cons hl, e]
  rw [this]; rfl

theorem wipe_wipe {σ : L2.St} {vs : List Nat} : wipe (wipe σ vs) vs = wipe σ vs := by
  have key : ∀ (us : List Nat) (τ : L2.St) (k : Nat), (wipe τ us)[k]? = if k ∈ us then (τ[k]?.map fun _ => none) else τ[k]? := by
    intro us τ k
    induction us with
    | nil => simp [wipe]
    | cons u us ih =>
      unfold wipe
      rw [List.getElem?_set, ih]
      by_cases e : u = k
      · subst e
        have hl : (wipe τ us).length = τ.length := wipe_length τ us
        by_cases hk : u < τ.length
        · simp [hl, hk]
        · simp [hl, hk]
      · have e' : ¬ k = u := fun q => e q.symm
        simp [e, e']
  refine List.ext_getElem? fun j => ?_
  rw [key, key]
  by_cases h : j ∈ vs
  · simp only [h, if_true, Option.map_map]; rfl
  · simp only [h, if_false]
/-- the values of a row of slots -/
structure VRel (K : PySem.W.Frag) (F : Hp) (ρ : Env) (σ : L2.St) : Prop where
  ref : ∀ (i : Nat) (d : D), ρ[i]? = some (some (.val d)) → ∃ v, σ[i]? = some (some v) ∧ Rp K F v d
  len : ρ.length ≤ σ.length
theorem Rel.vrel {W : Wd} {ρ : Env} {σ : L2.St} {H F : Hp} (r : Rel W ρ σ H F) : VRel W.K F ρ σ := ⟨fun i d e => r.val e, r.len⟩
theorem VRel.mono {K : PySem.W.Frag} {F F' : Hp} {ρ : Env} {σ : L2.St} (r : VRel K F ρ σ) (e : Same F F') : VRel K F' ρ σ := ⟨fun i d h => let ⟨v, a, b⟩ := r.ref i d h; ⟨v, a, b.mono e⟩, r.len⟩
theorem VRel.rel {K : PySem.W.Frag} {F H : Hp} {ρ : Env} {σ : L2.St} (r : VRel K F ρ σ) (h : ValOnly ρ) (e : Same F H) : Rel ⟨K, F, H, []⟩ ρ σ H F := by
  refine ⟨e, Same.refl _, fun b o h _ => h, fun b o h => .inl h, ⟨fun _ => [], fun i sl q => ?_⟩, r.len, fun b o h => ⟨o, h⟩⟩
  obtain ⟨d, rfl⟩ := h i sl q
  obtain ⟨v, a, b⟩ := r.ref i d q
  exact ⟨v, a, ⟨b, rfl⟩, by simp, by simp⟩
theorem RpAll.snoc {K : PySem.W.Frag} {F : Hp} {vs : List V} {ds : List D} {v : V} {d : D} (r : RpAll K F vs ds) (h : Rp K F v d) : RpAll K F (vs ++ [v]) (ds ++ [d]) := r.append (.cons h .nil)

theorem compL_ok {xs : List D} {f : D → R (Option D)} {q : List D} (h : compL xs f = .ok q) : xs.length < 16777216 ∧ compP xs f = .ok q := by
  unfold compL at h
  split at h
  · rename_i e; exact ⟨of_decide_eq_true e, h⟩
  · cases h
theorem compS_ok {τ : Type} {xs : List D} {st : τ} {f : D → τ → R (Option D × τ)} {q : List D × τ} (h : compS xs st f = .ok q) : xs.length < 16777216 ∧ compT xs st f = .ok q := by
  unfold compS at h
  split at h
  · rename_i e; exact ⟨of_decide_eq_true e, h⟩
  · cases h
/-- the readings of a comprehension whose element changes nothing, and what they ask -/
theorem lcP_main {κ : D → Env → R α → Prop} {tg it elt : Expr} {ifs : List Expr} {scope : Scope} {vs : List Nat} {X : Cx} {W : Wd} {Z : R α → Prop} (x : XOk C X) (hK : W.K = C.K) (c : Cl Z) (z : Z m)
    (h : DI C ρ tg it m fun items ρ1 m1 => ∃ ρb f g, Le ρb (wipeE ρ1 vs) ∧ valB ρb = true ∧ m1 = (compL items f).bind g ∧
      (∀ y, DG (C.blk scope) (fun i => i ∈ vs) ρb tg y (f y) fun ρ2 m2 => DTs (C.blk scope) ρ2 ifs m2 fun t ρ3 m3 =>
        (t = true → DE (C.blk scope) ρ3 elt m3 fun d ρ4 m4 => m4 = .ok (some d)) ∧ (t = false → m3 = .ok none)) ∧
      ∀ ys, κ (.list ys) ρ1 (g ys)) :
    ∃ wi g tt te, PI X tg it wi ∧ (∀ (s : Shared) (H : Hp) (Ca : Addr) (cl : List (Str × Addr)) (fp : List Addr), PG (X.blk s H scope (compEnvC scope cl Ca X.env) fp) tg g) ∧
      (∀ (s : Shared) (H : Hp) (Ca : Addr) (cl : List (Str × Addr)) (fp : List Addr), PTs (X.blk s H scope (compEnvC scope cl Ca X.env) fp) ifs tt) ∧
      (∀ (s : Shared) (H : Hp) (Ca : Addr) (cl : List (Str × Addr)) (fp : List Addr), PE (X.blk s H scope (compEnvC scope cl Ca X.env) fp) elt te) ∧
      ∀ σ H Q, (∃ F, Rel W ρ σ H F ∧ ∀ d ρ' m' v H' F', κ d ρ' m' → Z m' → Rel W ρ' σ H' F' → Same F F' → Rp W.K F' v d → Q v H') → tLc wi g tt te vs σ H Q := by
  refine ⟨_, fun v σ H Q => ∃ (W' : Wd) (τ' : Type) (Z' : R τ' → Prop) (i : R τ' × Env × D) (κ : Env → R τ' → Prop), (DG (C.blk scope) (fun i => i ∈ vs) i.2.1 tg i.2.2 i.1 κ ∧ W'.K = C.K ∧ Cl Z' ∧ Z' i.1) ∧ ∃ F, Rel W' i.2.1 σ H F ∧ Rp W'.K F v i.2.2 ∧ ∀ ρ' m' σ' H' F', κ ρ' m' → Z' m' → Rel W' ρ' σ' H' F' → Same F F' → (∀ us, (∀ i, i ∈ vs → i ∈ us) → wipe σ' us = wipe σ us) → Q σ' H',
    fun σ H Q => ∃ (W' : Wd) (τ' : Type) (Z' : R τ' → Prop) (i : R τ' × Env) (κ : Bool → Env → R τ' → Prop), (DTs (C.blk scope) i.2 ifs i.1 κ ∧ W'.K = C.K ∧ Cl Z' ∧ Z' i.1) ∧ ∃ F, Rel W' i.2 σ H F ∧ ∀ b ρ' m' H' F', κ b ρ' m' → Z' m' → Rel W' ρ' σ H' F' → Same F F' → Q b H',
    fun σ H Q => ∃ (W' : Wd) (τ' : Type) (Z' : R τ' → Prop) (i : R τ' × Env) (κ : D → Env → R τ' → Prop), (DE (C.blk scope) i.2 elt i.1 κ ∧ W'.K = C.K ∧ Cl Z' ∧ Z' i.1) ∧ ∃ F, Rel W' i.2 σ H F ∧ ∀ d ρ' m' v H' F', κ d ρ' m' → Z' m' → Rel W' ρ' σ H' F' → Same F F' → Rp W'.K F' v d → Q v H', h X W Z x hK c z, ?_, ?_, ?_, ?_⟩
  · exact fun s H Ca cl fp => ⟨fun p s' σ H v u Q I r ⟨W', _, Z', i, κ, ⟨pi, hK', c', z'⟩, q⟩ => (pi _ W' Z' (x.blk s _ Ca cl fp) hK' c' z').run p s' σ H v u Q I r q⟩
  · exact fun s H Ca cl fp => ⟨fun p s' σ H Q I ⟨W', _, Z', i, κ, ⟨pi, hK', c', z'⟩, q⟩ => (pi _ W' Z' (x.blk s _ Ca cl fp) hK' c' z').run p s' σ H Q I q⟩
  · exact fun s H Ca cl fp => ⟨fun p s' σ H Q I ⟨W', _, Z', i, κ, ⟨pi, hK', c', z'⟩, q⟩ => (pi _ W' Z' (x.blk s _ Ca cl fp) hK' c' z').run p s' σ H Q I q⟩
  rintro σ H Q ⟨F, rl, q⟩
  refine ⟨F, rl, fun items ρ1 m1 J H1 F1 ⟨ρb, f, g, hle, hv, em, hf, hk⟩ zm rel1 ss itd Da hDa => ?_⟩
  subst em
  obtain ⟨qs0, eq0, zq0⟩ := c.bind zm
  obtain ⟨hlen, eq0⟩ := compL_ok eq0
  have vo := valOnly_of hv
  have hF1D : F1 Da = none := rel1.sub.free hDa
  have v1 : VRel W.K F1 ρb (wipe σ vs) := ((rel1.wipe vs).le hle).vrel
  refine ⟨fun i n H => n = items.length - i ∧ i ≤ items.length ∧ ∃ Fi acc ds qs, H Da = some (.lst acc) ∧ Fi Da = none ∧ RpAll W.K Fi acc ds ∧ acc.length ≤ i ∧ Same F1 Fi ∧ Same Fi H ∧ Same H1 H ∧ (∀ b o, Fi b = some o → F1 b = some o ∨ H1 b = none) ∧ compP (items.drop i) f = .ok qs ∧ Z (g (ds ++ qs)),
    ⟨items.length, by simp, Nat.zero_le _, F1, [], [], qs0, upd_same, hF1D, .nil, Nat.le_refl _, Same.refl _, fun b o e => by rw [upd_ne (ne_of_none e hF1D)]; exact rel1.sub b o e, fun b o e => by rw [upd_ne (ne_of_none e hDa)]; exact e, fun _ _ e => .inl e, by simpa using eq0, by simpa using zq0⟩, ?_⟩
  rintro i n H2 ⟨rfl, hi, Fi, acc, ds, qs, hD, hFD, racc, hal, s1i, sih, s1h, fri, eqs, zqs⟩
  by_cases hlt : i < items.length
  · refine .inr ⟨itd.goes i Fi H2 hlt s1i sih, fun H => ∃ Fi acc ds qs, H Da = some (.lst acc) ∧ Fi Da = none ∧ RpAll W.K Fi acc ds ∧ acc.length ≤ i + 1 ∧ Same F1 Fi ∧ Same Fi H ∧ Same H1 H ∧ (∀ b o, Fi b = some o → F1 b = some o ∨ H1 b = none) ∧ compP (items.drop (i + 1)) f = .ok qs ∧ Z (g (ds ++ qs)),
      fun H' hh => ⟨_, by omega, rfl, hlt, hh⟩, fun v H3 y => ?_⟩
    obtain ⟨F3, d, hd, fx, pd⟩ := itd.yields i Fi H2 v H3 hlt s1i sih y
    rw [compP_step hd] at eqs
    obtain ⟨p, ep, eqs⟩ := R.bind_eq_ok eqs
    obtain ⟨q2, eq2, eqs⟩ := R.bind_eq_ok eqs
    have clp : Cl fun r : R (Option D) => r = .ok p := ⟨(fun e => nomatch e), (fun _ _ e => nomatch e)⟩
    refine ⟨⟨W.K, F3, H3, []⟩, Option D, fun r => r = .ok p, (f d, ρb, d), _, ⟨hf d, hK, clp, ep⟩, F3, (v1.mono (s1i.trans fx.ff)).rel vo fx.fh, pd, fun ρ2 m2 σ4 H4 F4 h1 h2 h3 h4 hw => ⟨(hw vs fun _ h => h).trans wipe_wipe, ?_⟩⟩
    refine ⟨⟨W.K, F3, H3, []⟩, Option D, fun r => r = .ok p, (m2, ρ2), _, ⟨h1, hK, clp, h2⟩, F4, h3, fun b ρ3 m3 H5 F5 k1 k2 k3 k4 => ?_⟩
    have grow : ∀ {H6 F6 : Hp}, Fx F3 H3 F6 H6 → H6 Da = some (.lst acc) ∧ F6 Da = none ∧ Same F1 F6 ∧ Same H1 H6 ∧ (∀ b o, F6 b = some o → F1 b = some o ∨ H1 b = none) ∧ Same Fi F6 := fun {H6 F6} f6 => by
      have fa := fx.trans f6
      exact ⟨fa.hh _ _ hD, fa.none hFD hD, s1i.trans fa.ff, s1h.trans fa.hh, fun b o e => (fa.new b o e).elim (fun q => fri b o q) fun q => .inr (s1h.free q), fa.ff⟩
    cases b with
    | false =>
      show (if false = true then _ else _)
      rw [if_neg Bool.false_ne_true]
      obtain ⟨g1, g2, g3, g4, g5, g6⟩ := grow k3.fx
      have e3 := k1.2 rfl
      rw [k2] at e3
      cases e3
      cases eqs
      exact ⟨F5, acc, ds, _, g1, g2, racc.mono g6, Nat.le_succ_of_le hal, g3, k3.sub, g4, g5, eq2, zqs⟩
    | true =>
      show (if true = true then _ else _)
      rw [if_pos rfl]
      refine ⟨⟨W.K, F3, H3, []⟩, Option D, fun r => r = .ok p, (m3, ρ3), _, ⟨k1.1 rfl, hK, clp, k2⟩, F5, k3, fun dd ρ4 m4 vv H6 F6 j1 j2 j3 j4 j5 => ?_⟩
      obtain ⟨g1, g2, g3, g4, g5, g6⟩ := grow j3.fx
      rw [j2] at j1
      cases j1
      cases eqs
      have hz : acc.length < 16777216 := by omega
      refine ⟨acc, g1, by rw [sizeLine_eq]; exact hz, F6, acc ++ [vv], ds ++ [dd], q2, upd_same, g2, (racc.mono g6).snoc j5, by simp; omega, g3, fun b o e => by rw [upd_ne (ne_of_none e g2)]; exact j3.sub b o e, fun b o e => by rw [upd_ne (ne_of_none e hDa)]; exact g4 b o e, g5, eq2, by simpa using zqs⟩
  · have e : i = items.length := by omega
    subst e
    rw [List.drop_length] at eqs
    cases eqs
    rw [List.append_nil] at zqs
    refine .inl ⟨itd.stops Fi H2 s1i sih, ?_⟩
    have fx : Fx F1 H1 (upd Fi Da (.lst acc)) H2 := ⟨fun b o e => by rw [upd_ne (ne_of_none e hF1D)]; exact s1i b o e, fun b o e => by
      by_cases hb : b = Da
      · subst hb; rw [upd_same] at e; rw [hD]; exact e
      · rw [upd_ne hb] at e; exact sih b o e, s1h, fun b o e => by
      by_cases hb : b = Da
      · subst hb; exact .inr hDa
      · rw [upd_ne hb] at e; exact fri b o e⟩
    exact q _ ρ1 _ _ H2 _ (hk ds) zqs (rel1.step fx) (ss.trans fx.ff) (.lst upd_same (racc.mono fun b o e => by rw [upd_ne (ne_of_none e hFD)]; exact e))

/-- [e for tg in it if ..], the element changes nothing -/
theorem de_lcP {κ : D → Env → R α → Prop} {tg it elt : Expr} {ifs : List Expr} {scope : Scope} {pos : Pos} (own : List (Str × Nat)) (ok : blkC C.N C.sc scope own = true)
    (h : DI C ρ tg it m fun items ρ1 m1 => ∃ ρb f g, Le ρb (wipeE ρ1 (own.map (·.2))) ∧ valB ρb = true ∧ m1 = (compL items f).bind g ∧
      (∀ y, DG (C.blk scope) (fun i => i ∈ own.map (·.2)) ρb tg y (f y) fun ρ2 m2 => DTs (C.blk scope) ρ2 ifs m2 fun t ρ3 m3 =>
        (t = true → DE (C.blk scope) ρ3 elt m3 fun d ρ4 m4 => m4 = .ok (some d)) ∧ (t = false → m3 = .ok none)) ∧
      ∀ ys, κ (.list ys) ρ1 (g ys)) (hs : ∀ (env : PySem.Env) (x : Value), foldedSetIterable it env x = pure x := by intro _ _; rfl) : DE C ρ (.ListComp elt [⟨tg, it, ifs, 0⟩] scope pos) m κ := by
  intro X W Z x hK c z
  obtain ⟨wi, g, tt, te, h1, h2, h3, h4, h5⟩ := lcP_main (vs := own.map (·.2)) x hK c z h
  exact PE_imp (pe_lc x.calm (by rw [x.N]; exact x.nd) h1 (blkOk_by (by rw [x.N, x.sc]; exact ok)) h2 h3 h4 (hs _)) h5
/-- y = [..], y a local, on one line -/
theorem ds_setLcP {J : Jd α} {n : Str} {tg it elt : Expr} {ifs : List Expr} {scope : Scope} {p pos cpos : Pos} {rest : List Stmt} (i : Nat) (own : List (Str × Nat)) (ok : blkC C.N C.sc scope own = true)
    (h : DI C ρ tg it m fun items ρ1 m1 => ∃ ρb f g, Le ρb (wipeE ρ1 (own.map (·.2))) ∧ valB ρb = true ∧ m1 = (compL items f).bind g ∧
      (∀ y, DG (C.blk scope) (fun i => i ∈ own.map (·.2)) ρb tg y (f y) fun ρ2 m2 => DTs (C.blk scope) ρ2 ifs m2 fun t ρ3 m3 =>
        (t = true → DE (C.blk scope) ρ3 elt m3 fun d ρ4 m4 => m4 = .ok (some d)) ∧ (t = false → m3 = .ok none)) ∧
      ∀ ys, DSs C (ρ1.set i (some (.val (.list ys)))) rest (g ys) J) (hN : C.N[i]? = some n := by rfl) (hy : C.sc.names.lookup n = some .local := by rfl)
    (hsw : ∀ env : PySem.Env, env.scope = C.sc → swapsWith (.ListComp elt [⟨tg, it, ifs, 0⟩] scope cpos) (some (.Name n p)) pos.line env = pure true)
    (hs : ∀ (env : PySem.Env) (x : Value), foldedSetIterable it env x = pure x := by intro _ _; rfl) : DSs C ρ (.Assign [.Name n p] (.ListComp elt [⟨tg, it, ifs, 0⟩] scope cpos) pos :: rest) m J := by
  intro X W Z x hK c z
  obtain ⟨wi, g, tt, te, h1, h2, h3, h4, h5⟩ := lcP_main (κ := fun d ρ1 m1 => DSs C (ρ1.set i (some (.val d))) rest m1 J) (vs := own.map (·.2)) x hK c z h
  refine PSs_imp (pss_cons (ps_setLc (i := i) x.calm (by rw [x.N]; exact x.nd) (by rw [x.N]; exact hN) (by rw [x.sc]; exact hy) (hsw _ x.sc) h1 (blkOk_by (by rw [x.N, x.sc]; exact ok)) h2 h3 h4 (hs _)) (rest_run (J := J) x hK c)) fun Dn σ H ⟨F, r, l⟩ => ?_
  exact h5 σ H (fun y H1 => ∃ j : R α × Env, (DSs C j.2 rest j.1 J ∧ Z j.1) ∧ ∃ F, Rel W j.2 (σ.set i (some y)) H1 F ∧ Lk W J Z Dn) ⟨F, r, fun d ρ' m' v H' F' k1 k2 k3 k4 k5 => ⟨(m', _), ⟨k1, k2⟩, F', k3.set i k5, l⟩⟩
end
end Z

set_option Elab.async false
set_option linter.all false
set_option maxRecDepth 100000
set_option autoImplicit false
/-! # ZG: defs where nothing is being shown (repr), the head of the law with it -/
namespace Z
open PySem L2 PySem.Spec PyProof.Rows

/-- what a def promises to a caller for whom no repr is under way -/
structure FnG (P : Program) (w : World) (K : PySem.W.Frag) (mg : Str → Option Value) (base : Heap) (Cx : CXT) (k : Nat) (f : Addr) (fd : FuncData) (ps : List Str) (sp : Sp) : Prop where
  len : ∀ vs H Q E, sp vs H Q E → vs.length = ps.length
  run : ∀ (A : Around) (out : List PySem.Env) (s : Shared) (H : Hp) (ar : Args) (us : List Value) (vs : List V) (Q : VK) (E : XK),
    A.guards = some [] → Room k A → Env0 P w K mg base A out s H → BindsTo s fd ar (ps.zip us) → Vals vs us → sp vs H Q E → codeAny (model P w) A (.call (.ref f) ar) (CR Cx out P w H s Q E) s
theorem FnG.mono {P : Program} {w : World} {K : PySem.W.Frag} {mg : Str → Option Value} {base : Heap} {Cx : CXT} {i j : Nat} {f : Addr} {fd : FuncData} {ps : List Str} {sp : Sp} (G : FnG P w K mg base Cx i f fd ps sp) (le : i ≤ j) : FnG P w K mg base Cx j f fd ps sp where
  len := G.len
  run := fun A out s H ar us vs Q E gd rm => G.run A out s H ar us vs Q E gd (rm.mono le)

/-- by the body -/
theorem okG {P : Program} {w : World} {K : PySem.W.Frag} {mg : Str → Option Value} {base : Heap} {Cx : CXT} {nm qual : Str} {st : Stmt} {f : Addr} {fd : FuncData} {N ps : List Str} {k : Nat} {sp : Sp} (F : Fun K nm qual st f fd) (S : FnScope N ps (defScope st))
    (ln : ∀ vs H Q E, sp vs H Q E → vs.length = ps.length)
    (body : ∀ (cv : Value) (A : Around) (out : List PySem.Env) (s : Shared) (H : Hp) (vs : List V) (Q : VK) (E : XK), A.guards = some [] → Room k (A.deeper (envOfC qual (defScope st) s.heap.objs.size f cv)) → sp vs H Q E →
      ∃ t, PSs (cxOf Cx P w K mg base N qual (defScope st) f cv A out s H E) (defBody st) t ∧ t { nx := fun _ H' => Q .non H', rt := Q } (L2.start N vs) H) : FnG P w K mg base Cx (k + 1) f fd ps sp := by
  obtain ⟨_, _, _, _, _, _, cv, _, _, rfl, look, hc⟩ := F.ex
  refine ⟨ln, fun A out s H ar us vs Q E gd rm e0 bd rel hp => ?_⟩
  have nvs := ln _ _ _ _ hp
  have there : ∀ b o, base.get? b = some o → s.heap.get? b = some o := fun b o e => (e0.bs b o e).1
  have kin : K.In s.heap := e0.mod.kin.keeps there
  have nolim := e0.mod.nolimit.keeps there
  have kinds : ∀ z ∈ ps.zip us, (defScope st).names.lookup z.1 = some .local ∨ ((defScope st).names.lookup z.1 = some .cell ∧ ((cellsFrom (s.heap.objs.size + 1) (defScope st).names []).lookup z.1).isSome = true) := by
    intro ⟨a, b⟩ hz
    exact (S.par a (List.of_mem_zip hz).1).imp id fun q => ⟨q, PySem.W.cellsFrom_some _ _ _ (.inl q)⟩
  refine codeAny_call_function rm.depth (kin _ _ look) rfl S.co S.gen rfl (PySem.W.codeRec_of kin hc) (bd _ _ _ _ (wpAny_newFunctionEnv_cells S.kind kinds fun env eq s1 ic => ?_))
  subst eq
  obtain ⟨t, run, ask⟩ := body cv A out s H vs Q E gd (rm.deeper _) hp
  refine ⟨nolim.keeps ic.toInCall.keep, codeAny_func (wpAny_mono (run.run [] s1 (L2.start N vs) H _ (inv_start S rm.hd e0 nvs rel ic) ask) (fun fl s2 done => ?_) fun _ _ z => z)⟩
  match fl, done with
  | .ret u, ⟨v, τ, H2, J, rv, q⟩ => exact ⟨v, H2, J.os, J.bare, J.base, J.hok, rv, q⟩
  | .next, ⟨τ, H2, J, q⟩ => exact ⟨V.non, H2, J.os, J.bare, J.base, J.hok, rfl, q⟩
  | .brk, ⟨_, _, _, q⟩ => exact q.elim
  | .cont, ⟨_, _, _, q⟩ => exact q.elim

section
variable {X : Cx} {Cy : CXT} {k : Nat} {f : Addr} {fd : FuncData} {ps : List Str} {sp : Sp} {E : XK} {x : Str} {p pos : Pos} {e : Expr} {es : List Expr} {t : TA}
theorem runG {pins : List (Addr × Obj)} {σ : L2.St} {H : Hp} {s : Shared} {Q : VK} {us : List Value} {vs : List V} (G : FnG X.prog X.w X.K X.mg X.base Cy k f fd ps sp) (gd : X.A.guards = some []) (rm : Room k X.A) (bd : Binds X.K fd ps []) (pass : Passes Cy X E)
    (I : Inv X pins σ H s) (rel : Vals vs us) (ask : sp vs H Q E) : wpAny (model X.prog X.w) X.A (call (.ref f) us) (EP X pins σ Q) X.xe s := by
  have nus : us.length = ps.length := by rw [← rel.length]; exact G.len _ _ _ _ ask
  have bs := bd s us I.kIn (by rw [List.append_nil]; exact nus)
  rw [List.append_nil] at bs
  refine wpAny_call (codeAny_mono (G.run X.A X.stack s H ⟨us, []⟩ us vs Q E gd rm I.env0 bs rel ask) fun r s2 done => ?_)
  match r, done with
  | .error e, z => exact pass pins σ H s e s2 I z
  | .ok (.ret u), z => exact I.after z
/-- f(e, ..) -/
theorem pe_callG (G : FnG X.prog X.w X.K X.mg X.base Cy k f fd ps sp) (gd : X.A.guards = some []) (rm : Room k X.A) (hg : Gl X x) (hm : X.mg x = some (.ref f)) (kp : PySem.W.keepIn X.K (.ref f) = true) (bd : Binds X.K fd ps []) (pass : Passes Cy X E)
    (ha : PA X (e :: es) t) (nd : (x == ("__debug__" : Str)) = false) (he : starEach (e :: es) X.env = (false, eval e X.env) :: starEach es X.env) (hpl : (backTo pos (starEach es X.env)).any (·.1) = false) :
    PE X (.Call (.Name x p) (e :: es) [] pos) (fun σ H Q => t σ H fun vs H1 => sp vs H1 Q E) where
  run := fun pins s σ H Q I ask => wpAny_Call_Name_kw (ld_glob I hg hm (PySem.W.callWith_K (h₀ := X.base) I.ok.mod.kin kp (thn (ha.run pos pins s σ H _ I ask) fun us s1 ⟨vs, H1, I1, rel, q⟩ => ⟨I1.kIn, runG G gd rm bd pass I1 rel q⟩) he hpl) nd)
end

/-! ### the head -/
/-- the heap in which the law is entered: of what is tracked there is the script alone, if it is no object of the module -/
def entryH (K : PySem.W.Frag) (a : Addr) (o : Obj) (ns : List Int) : Hp := fun b => if b = a ∧ K.lookup a = none then some (.frz o (.lst (ns.map V.int))) else none
theorem entryH_some {K : PySem.W.Frag} {a b : Addr} {o : Obj} {ns : List Int} {u : HO} (h : entryH K a o ns b = some u) : b = a ∧ K.lookup a = none ∧ u = .frz o (.lst (ns.map V.int)) := by
  unfold entryH at h
  split at h
  · rename_i e; cases h; exact ⟨e.1, e.2, rfl⟩
  · cases h
theorem headG {P : Program} {w : World} {K : PySem.W.Frag} {mg mb : Str → Option Value} {k : Nat} {fa a : Addr} {fd : FuncData} {x : Str} {sp : Sp} {s : Shared} {us : List Value} {ns : List Int}
    (kin : K.In s.heap) (nm : s.heap.Ns mainGlobals mg) (nb : s.heap.Ns builtinsNs mb) (bb : ∀ x : Str, x ≠ "__name__" → mb x = bootBuiltins x) (nl : s.heap.NoLimit) (ng : s.gens = #[])
    (obj : s.heap.get? a = some { cls := .type "list", data := .seq us.toArray }) (ia : IntsAre us ns) (hl : ns.length ≤ sizeLine) (rm : Room k callerA)
    (G : ∀ base : Heap, K.In base → base.Ns mainGlobals mg → FnG P w K mg base CX0 k fa fd [x] sp) (bd : ∀ (s : Shared) (u : Value), BindsTo s fd ⟨[u], []⟩ [(x, u)])
    (hsp : ∀ H : Hp, SqL K H a (ns.map V.int) → sp [.ref a] H (fun v _ => v = .bl true) E0) :
    codeAny (model P w) callerA (.call (.ref fa) ⟨[.ref a], []⟩) (fun r s' => r = .ok (.ret (.bool true)) ∧ OldK s.heap s'.heap ∧ s'.os = s.os ∧ AllBare s'.gens) s := by
  have rv : Vals (ns.map V.int) us := vals_ints ia
  have lu := ia.length
  generalize ho : ({ cls := .type "list", data := .seq us.toArray } : Obj) = o at obj
  have sq : SqL K (entryH K a o ns) a (ns.map V.int) := by
    cases hk : K.lookup a with
    | none => exact .inl (.inr ⟨o, by unfold entryH; rw [if_pos ⟨rfl, hk⟩]⟩)
    | some o2 =>
      have e := kin a o2 hk
      rw [obj] at e
      cases e
      subst ho
      exact .inr ⟨_, us.toArray, _, hk, rfl, rfl, rfl, by rw [List.size_toArray, lu]; exact hl, by simpa using rv⟩
  have hok : HOk P w (entryH K a o ns) s.heap := fun b u z => by
    obtain ⟨rfl, _, rfl⟩ := entryH_some z
    subst ho
    show s.heap.get? b = some _ ∧ _
    exact ⟨obj, by rw [List.length_map]; exact hl, us, _, rv, obj⟩
  have keep : ∀ {b : Addr} {o' : Obj}, s.heap.get? b = some o' → entryH K a o ns b = none → (hidT s.heap (entryH K a o ns)).get? b = some o' := fun e n => hidT_get e n
  have nodict : ∀ {b : Addr} {o' : Obj} {es : Array DictEntry} {ep : Nat}, s.heap.get? b = some o' → o'.data = .dict es ep → entryH K a o ns b = none := fun {b o' es ep} e d => by
    cases q : entryH K a o ns b with
    | none => rfl
    | some u =>
      obtain ⟨rfl, _, _⟩ := entryH_some q
      rw [obj] at e
      cases e
      subst ho
      cases d
  have ns' : ∀ {b : Addr} {m : Str → Option Value}, s.heap.Ns b m → (hidT s.heap (entryH K a o ns)).Ns b m := fun ⟨o', es, ep, e, d, r⟩ => ⟨o', es, ep, keep e (nodict e d), d, r⟩
  have kb : K.In (hidT s.heap (entryH K a o ns)) := fun b o' e => keep (kin b o' e) (by
    cases q : entryH K a o ns b with
    | none => rfl
    | some u =>
      obtain ⟨rfl, z, _⟩ := entryH_some q
      rw [z] at e; cases e)
  have md : Mod K mg (hidT s.heap (entryH K a o ns)) := ⟨kb, ns' nm, ⟨mb, ns' nb, bb⟩, let ⟨m, h1, h2⟩ := nl; ⟨m, ns' h1, h2⟩⟩
  have e0 : Env0 P w K mg (hidT s.heap (entryH K a o ns)) callerA [] s (entryH K a o ns) := ⟨rfl, md, fun b o' e => of_hidT e, Nat.le_of_eq (hidT_size _ _), trivial, fun b hb => absurd (show b ∈ ([] : List Addr) from hb) (by simp), hok, .of_eq ng⟩
  refine codeAny_mono ((G _ kb (ns' nm)).run callerA [] s (entryH K a o ns) ⟨[.ref a], []⟩ [.ref a] [.ref a] _ _ rfl rm e0 (bd s (.ref a)) (.cons rfl .nil) (hsp _ sq)) fun r s2 done => ?_
  match r, done with
  | .ok (.ret u), ⟨v, H2, os, bare, un, hok2, ru, q⟩ =>
    replace q : v = .bl true := q
    subst q
    cases ru
    refine ⟨rfl, OldK.of_keep fun b o' e => ?_, os, bare⟩
    cases q : entryH K a o ns b with
    | none => exact un.keep b o' e q (fun z => by cases z) (by simp)
    | some u =>
      obtain ⟨rfl, _, rfl⟩ := entryH_some q
      obtain ⟨e1, _⟩ := hok2 b _ (un.frzs b o _ q)
      rw [obj] at e; cases e
      exact e1
/-- the goal that k_head leaves -/
theorem walkG {l : PySem.W.OpenLaw} {n k : Nat} {q : Program} {loose : List Str} {XP : (Str → Option Value) → Heap → Prop} {YP : World → Heap → Prop} {d : DefRec} {K : Params → PySem.W.Frag} {sp : PySem.W.Frag → Sp} {x : Str}
    (hn : l.most = some n) (hn2 : n ≤ sizeLine) (hdf : d.params.defaults = []) (rm : Room k callerA) (hY : ∀ (w : World) (h : Heap), YP w h → (K w.params).In h)
    (F : ∀ (w : World) (mg : Str → Option Value) (fa : Addr) (h : Heap), (K w.params).In h → h.Ns mainGlobals mg → mg d.name = some (.ref fa) →
      ∃ fd : FuncData, (∀ (s : Shared) (u : Value), BindsTo s fd ⟨[u], []⟩ [(x, u)]) ∧ ∀ base : Heap, (K w.params).In base → base.Ns mainGlobals mg → FnG l.prog w (K w.params) mg base CX0 k fa fd [x] (sp (K w.params)))
    (hsp : ∀ (w : World) (H : Hp) (a : Addr) (ns : List Int), ns.length ≤ n → SqL (K w.params) H a (ns.map V.int) → sp (K w.params) [.ref a] H (fun v _ => v = .bl true) E0) :
    PySem.W.WalkO q loose XP YP l.row.toRowW d [] (fun f vs => PySem.call f vs) :=
  Att.attach_call hn hdf fun w _ s1 mg mb fa o pm cd doc a vs ns G Y _ _ _ hmg hobj hints hlen hg =>
    have kin := hY w _ Y
    let ⟨_, hb, hF⟩ := F w mg fa _ kin G.T.g hmg
    headG kin G.T.g G.T.b G.T.builtins G.T.nolimit hg hobj hints (Nat.le_trans hlen hn2) rm hF hb fun H hS => hsp w H a ns hlen hS
end Z

set_option Elab.async false
set_option linter.all false
set_option maxRecDepth 100000
set_option autoImplicit false
/-! # Z7: defs by their mirrors, calls of them; the source of choices handed on -/
namespace Z
open PySem L2

/-- the promise of a def that changes nothing -/
def spP (K : PySem.W.Frag) (n : Nat) (fm : List D → R D) : Sp := fun vs H Q _ => ∃ F ds r, vs.length = n ∧ Same F H ∧ RpAll K F vs ds ∧ fm ds = .ok r ∧ ∀ v H' F', Fx F H F' H' → Rp K F' v r → Q v H'
structure FnP (C : Ct) (n : Str) (k : Nat) (fm : List D → R D) : Prop where
  ex : ∃ f fd ps j, j ≤ C.k ∧ FnG C.P C.w C.K C.mg C.base CX0 j f fd ps (spP C.K k fm) ∧ C.mg n = some (.ref f) ∧ PySem.W.keepIn C.K (.ref f) = true ∧ Binds C.K fd ps []

/-- what is changed lies at as alone -/
structure Gx (F H F' H' : Hp) (as : List Addr) : Prop where
  ff : Same F F'
  fh : Same F' H'
  hh : ∀ b o, H b = some o → b ∉ as → H' b = some o
  trk : ∀ b o, H b = some o → ∃ o', H' b = some o'
  new : ∀ b o, F' b = some o → F b = some o ∨ H b = none ∨ b ∈ as
theorem Gx.none {F H F' H' : Hp} {as : List Addr} (x : Gx F H F' H' as) {p : Addr} {u : HO} (hf : F p = none) (h : H p = some u) (hn : p ∉ as) : F' p = none := by
  cases q : F' p with
  | none => rfl
  | some o =>
    rcases x.new p o q with z | z | z
    · rw [hf] at z; cases z
    · rw [h] at z; cases z
    · exact absurd z hn
theorem SlR.gstep {K : PySem.W.Frag} {F H F' H' : Hp} {bs : List Addr} (x : Gx F H F' H' bs) : ∀ {sl : Sl} {v : V} {as : List Addr}, SlR K F H sl v as → (∀ b ∈ as, b ∉ bs) → SlR K F' H' sl v as
  | .val d, v, as, ⟨h, e⟩, _ => ⟨h.mono x.ff, e⟩
  | .own xs, v, as, ⟨p, vs, e1, e2, h, hf, r⟩, n => ⟨p, vs, e1, e2, x.hh _ _ h (n p (by rw [e2]; simp)), x.none hf h (n p (by rw [e2]; simp)), r.mono x.ff⟩
  | .src a s, v, as, ⟨c, e1, e2, ne, ha, hc, h1, h2, l⟩, n => ⟨c, e1, e2, ne, x.none ha h1 (n a (by rw [e2]; simp)), x.none hc h2 (n c (by rw [e2]; simp)), x.hh _ _ h1 (n a (by rw [e2]; simp)), x.hh _ _ h2 (n c (by rw [e2]; simp)), l⟩
  | .scr ns, v, as, ⟨a, e1, h, l, e2⟩, n => ⟨a, e1, x.ff.seq h, l, e2⟩
theorem SlR.there {K : PySem.W.Frag} {F H : Hp} {sl : Sl} {v : V} {as : List Addr} (h : SlR K F H sl v as) : ∀ b ∈ as, F b = none ∧ ∃ o, H b = some o := by
  intro b hb
  cases sl with
  | val d => rw [h.2] at hb; cases hb
  | own xs =>
    obtain ⟨p, vs, _, e2, h1, hf, _⟩ := h
    rw [e2] at hb
    have : b = p := by simpa using hb
    subst this; exact ⟨hf, _, h1⟩
  | src a s =>
    obtain ⟨c, _, e2, _, ha, hc, h1, h3, _⟩ := h
    rw [e2] at hb
    have : b = a ∨ b = c := by simpa using hb
    rcases this with rfl | rfl
    · exact ⟨ha, _, h1⟩
    · exact ⟨hc, _, h3⟩
  | scr ns =>
    obtain ⟨_, _, _, _, e2⟩ := h
    rw [e2] at hb; cases hb
theorem Rel.slot {W : Wd} {ρ : Env} {σ : L2.St} {H F : Hp} (r : Rel W ρ σ H F) {i : Nat} {sl : Sl} (e : ρ[i]? = some (some sl)) : ∃ v as, σ[i]? = some (some v) ∧ SlR W.K F H sl v as ∧ (∀ b ∈ as, b ∈ W.io ∨ W.H0 b = none) ∧
    ∀ {F' H' : Hp} {sl' : Sl} {as' : List Addr} , Gx F H F' H' as → SlR W.K F' H' sl' v as' → (∀ b ∈ as', b ∈ as ∨ H b = none) → Rel W (ρ.set i (some sl')) σ H' F' := by
  obtain ⟨ad, k⟩ := r.env
  obtain ⟨v, h1, h2, h3, h4⟩ := k i sl e
  have up : ∀ b, H b = none → W.H0 b = none := fun b h => by
    cases e : W.H0 b with
    | none => rfl
    | some u => obtain ⟨o, q⟩ := r.trk b u e; rw [h] at q; cases q
  refine ⟨v, ad i, h1, h2, h3, fun {F' H' sl' as'} gx hs hn => ?_⟩
  refine ⟨gx.fh, r.sub0.trans gx.ff, fun b o h n => gx.hh b o (r.keep b o h n) fun hb => ?_, fun b o h => ?_, ⟨fun j => if j = i then as' else ad j, fun j slj ej => ?_⟩, by rw [List.length_set]; exact r.len, fun b o h => ?_⟩
  · rcases h3 b hb with q | q
    · exact n q
    · rw [h] at q; cases q
  · rcases gx.new b o h with q | q | q
    · exact r.fresh b o q
    · exact .inr (.inl (up b q))
    · exact .inr ((h3 b q).elim .inr .inl)
  · rcases get_set ej with ⟨e1, e2, e3⟩ | ⟨e1, e2⟩
    · subst e1; cases e3
      simp only [if_true]
      refine ⟨v, h1, hs, fun b hb => (hn b hb).elim (h3 b) fun q => .inr (up b q), fun l sl'' hl e' b hb => ?_⟩
      have ne : l ≠ i := fun q => hl q.symm
      simp only [if_neg ne]
      rcases get_set e' with ⟨z1, _, _⟩ | ⟨z1, z2⟩
      · exact absurd z1 hl
      · intro hbl
        obtain ⟨v', k1, k2, _, k4⟩ := k l sl'' z2
        rcases hn b hb with q | q
        · exact h4 l sl'' hl z2 b q hbl
        · obtain ⟨_, o, q'⟩ := k2.there b hbl
          rw [q] at q'; cases q'
    · have ne : j ≠ i := fun q => e1 q.symm
      simp only [if_neg ne]
      obtain ⟨v', k1, k2, k3, k4⟩ := k j slj e2
      refine ⟨v', k1, k2.gstep gx (k4 i sl ne e), k3, fun l sl'' hl e' b hb => ?_⟩
      rcases get_set e' with ⟨z1, z2, z3⟩ | ⟨z1, z2⟩
      · subst z1; cases z3
        simp only [if_true]
        intro hbl
        rcases hn b hbl with q | q
        · exact k4 i sl ne e b hb q
        · obtain ⟨_, o, q'⟩ := k2.there b hb
          rw [q] at q'; cases q'
      · have ne' : l ≠ i := fun q => z1 q.symm
        simp only [if_neg ne']
        exact k4 l sl'' hl z2 b hb
  · obtain ⟨o', q⟩ := r.trk b o h
    exact gx.trk b o' q
/-- the promise of a def whose first argument is the source -/
def spS (K : PySem.W.Frag) (n : Nat) (fm : Src → List D → R (D × Src)) : Sp := fun vs H Q _ => ∃ F a s as ws ds r s', vs = .ref a :: ws ∧ ws.length = n ∧ Same F H ∧ SlR K F H (.src a s) (.ref a) as ∧ RpAll K F ws ds ∧ fm s ds = .ok (r, s') ∧
  ∀ v H' F' as', Gx F H F' H' as → SlR K F' H' (.src a s') (.ref a) as' → (∀ b ∈ as', b ∈ as ∨ H b = none) → Rp K F' v r → Q v H'
structure FnS (C : Ct) (n : Str) (k : Nat) (fm : Src → List D → R (D × Src)) : Prop where
  ex : ∃ f fd ps j, j ≤ C.k ∧ FnG C.P C.w C.K C.mg C.base CX0 j f fd ps (spS C.K k fm) ∧ C.mg n = some (.ref f) ∧ PySem.W.keepIn C.K (.ref f) = true ∧ Binds C.K fd ps []

section
variable {α : Type} {C : Ct} {ρ : Env} {m : R α}
theorem fnAt {C : Ct} {X : Cx} (x : XOk C X) {CX : CXT} {j : Nat} {f : Addr} {fd : FuncData} {ps : List Str} {sp : Sp} (h : FnG C.P C.w C.K C.mg C.base CX j f fd ps sp) (hj : j ≤ C.k) : FnG X.prog X.w X.K X.mg X.base CX C.k f fd ps sp := by
  rw [x.prog, x.w, x.K, x.mg, x.base]; exact h.mono hj
theorem de_call {κ : D → Env → R α → Prop} {n : Str} {k : Nat} {fm : List D → R D} {p pos : Pos} {e : Expr} {es : List Expr} (G : FnP C n k fm)
    (h : DA C ρ (e :: es) m fun ds ρ1 m1 => ds.length = k ∧ ∃ (rr : R D) (g : D → R α), fm ds = rr ∧ m1 = rr.bind g ∧ ∀ r, κ r ρ1 (g r)) (hg : C.sc.names.lookup n = some .globalImplicit := by rfl) (hdb : (n == ("__debug__" : Str)) = false := by decide)
    (he : ∀ env : PySem.Env, starEach (e :: es) env = (false, eval e env) :: starEach es env := by intro _; rfl) (hpl : ∀ env : PySem.Env, (backTo pos (starEach es env)).any (·.1) = false := by intro _; rfl) : DE C ρ (.Call (.Name n p) (e :: es) [] pos) m κ := by
  intro X W Z x hK c z
  obtain ⟨f, fd, ps, j, hj, ok, hm, kp, b⟩ := G.ex
  refine PE_imp (pe_callG (fnAt x ok hj) x.grd x.room (x.gl hg) (by rw [x.mg]; exact hm) (by rw [x.K]; exact kp) (by rw [x.K]; exact b) pass0 (h X W Z x hK c z) hdb (he _) (hpl _)) fun σ H Q ⟨F, r, q⟩ => ⟨F, r, fun ds ρ' m' vs H' F' ⟨hl, r0, g, e0, e1, hg⟩ h2 h3 h4 h5 => ?_⟩
  subst e0 e1
  obtain ⟨rr, er, zr⟩ := c.bind h2
  show spP C.K k fm vs H' Q E0
  exact ⟨F', ds, rr, by rw [h5.length]; exact hl, h3.sub, by rw [← hK]; exact h5, er, fun v H2 F2 fx p => q _ ρ' _ v H2 F2 (hg rr) zr (h3.step fx) (h4.trans fx.ff) (by rw [hK]; exact p)⟩
/-- f(source, ..) -/
theorem de_callS {κ : D → Env → R α → Prop} {n x0 : Str} {k : Nat} {fm : Src → List D → R (D × Src)} {p p0 pos : Pos} {es : List Expr} (i : Nat) {a0 : Addr} {s0 : Src} (G : FnS C n k fm) (hρ : ρ[i]? = some (some (.src a0 s0)))
    (h : DA C ρ es m fun ds ρ1 m1 => ds.length = k ∧ ∃ (s : Src) (r0 : R (D × Src)) (g : D × Src → R α), ρ1[i]? = some (some (.src a0 s)) ∧ fm s ds = r0 ∧ m1 = r0.bind g ∧ ∀ r s', κ r (ρ1.set i (some (.src a0 s'))) (g (r, s'))) (hN : C.N[i]? = some x0 := by rfl)
    (hv : Vis C.sc x0 := by first | exact Or.inl rfl | exact Or.inr (Or.inl rfl) | exact Or.inr (Or.inr rfl)) (hg : C.sc.names.lookup n = some .globalImplicit := by rfl) (hdb : (n == ("__debug__" : Str)) = false := by decide) (hd : (x0 == ("__debug__" : Str)) = false := by decide) (hcd : (x0 == ("__classdict__" : Str)) = false := by decide)
    (he : ∀ env : PySem.Env, starEach (.Name x0 p0 :: es) env = (false, eval (.Name x0 p0) env) :: starEach es env := by intro _; rfl) (hpl : ∀ env : PySem.Env, (backTo pos (starEach es env)).any (·.1) = false := by intro _; rfl) : DE C ρ (.Call (.Name n p) (.Name x0 p0 :: es) [] pos) m κ := by
  intro X W Z x hK c z
  obtain ⟨f, fd, ps, j, hj, ok, hm, kp, b⟩ := G.ex
  have pa := pa_cons (pe_var (i := i) (pos := p0) (by rw [x.N]; exact hN) (x.vis hv) hd hcd) (h X W Z x hK c z) (he _)
  refine PE_imp (pe_callG (fnAt x ok hj) x.grd x.room (x.gl hg) (by rw [x.mg]; exact hm) (by rw [x.K]; exact kp) (by rw [x.K]; exact b) pass0 pa hdb (he _) (hpl _)) fun σ H Q ⟨F, r, q⟩ => ?_
  obtain ⟨v0, as0, e0, _, _, _⟩ := r.slot hρ
  refine ⟨v0, e0, F, r, fun ds ρ' m' vs H' F' ⟨hl, s, r0, g, es', e00, e1, hg⟩ h2 h3 h4 h5 => ?_⟩
  subst e00 e1
  obtain ⟨⟨rr, s'⟩, er, zr⟩ := c.bind h2
  show spS C.K k fm (v0 :: vs) H' Q E0
  obtain ⟨v1, as, e2, hsl, _, up⟩ := h3.slot es'
  rw [e0] at e2; cases e2
  obtain ⟨cc, ev, rest⟩ := id hsl
  subst ev
  refine ⟨F', a0, s, as, vs, ds, rr, s', rfl, by rw [h5.length]; exact hl, h3.sub, by rw [← hK]; exact hsl, by rw [← hK]; exact h5, er, fun v H2 F2 as' gx hs hn pv => ?_⟩
  exact q _ _ _ v H2 F2 (hg rr s') zr (up gx (by rw [hK]; exact hs) hn) (h4.trans gx.ff) (by rw [hK]; exact pv)

/-! ### a def's body -/
def Jf : Jd D := { nx := fun _ m => m = .ok .none, rt := fun d _ m => m = .ok d, bk := fun _ _ => False, ct := fun _ _ => False }
def JfS (a : Addr) : Jd (D × Src) := { nx := fun ρ m => ∃ s, ρ[0]? = some (some (.src a s)) ∧ m = .ok (.none, s), rt := fun d ρ m => ∃ s, ρ[0]? = some (some (.src a s)) ∧ m = .ok (d, s), bk := fun _ _ => False, ct := fun _ _ => False }
def startE (N : List Str) (sls : List Sl) : Env := sls.map some ++ List.replicate (N.length - sls.length) none
theorem startE_get {N : List Str} {sls : List Sl} {i : Nat} {sl : Sl} (h : (startE N sls)[i]? = some (some sl)) : sls[i]? = some sl := by
  unfold startE at h
  by_cases hi : i < sls.length
  · rw [List.getElem?_append_left (by simpa using hi), List.getElem?_map] at h
    cases e : sls[i]? with
    | none => rw [e] at h; cases h
    | some u => rw [e] at h; cases h; rfl
  · rw [List.getElem?_append_right (by simpa using hi), List.getElem?_replicate] at h
    split at h <;> cases h
theorem start_get {N : List Str} {vs : List V} {i : Nat} {v : V} (h : vs[i]? = some v) : (start N vs)[i]? = some (some v) := by
  unfold L2.start
  obtain ⟨hl, e⟩ := List.getElem?_eq_some_iff.mp h
  rw [List.getElem?_append_left (by simpa using hl), List.getElem?_map, h]; rfl
theorem fnP_of {P : Program} {w : World} {K : PySem.W.Frag} {mg : Str → Option Value} {base : Heap} {x qual : Str} {st : Stmt} {f : Addr} {fd : FuncData} {N ps : List Str} {k n : Nat} {fm : List D → R D} (F : Fun K x qual st f fd) (S : FnScope N ps (defScope st)) (hn : ps.length = n)
    (h : ∀ ds : List D, ds.length = n → DSs ⟨P, w, K, mg, base, k, N, defScope st, fun _ => true⟩ (startE N (ds.map .val)) (defBody st) (fm ds) Jf) : FnG P w K mg base CX0 (k + 1) f fd ps (spP K n fm) := by
  refine okG F S (fun vs H Q E h => ?_) (fun cdv A outer s H vs Q E gd hr hsp => ?_)
  · obtain ⟨_, _, _, hl, _⟩ := h
    rw [hl, hn]
  · obtain ⟨F0, ds, r, hl, sub, rd, er, q⟩ := hsp
    have hds : ds.length = n := by rw [← rd.length]; exact hl
    have xo : XOk ⟨P, w, K, mg, base, k, N, defScope st, fun _ => true⟩ (cxOf CX0 P w K mg base N qual (defScope st) f cdv A outer s H E).nox :=
      ⟨rfl, rfl, rfl, rfl, rfl, rfl, S.nd, rfl, rfl, hr, gd, PassesOwn.never, fun _ _ => rfl⟩
    have cl : Cl fun r' : R D => r' = .ok r := ⟨(fun e => nomatch e), (fun _ _ e => nomatch e)⟩
    refine ⟨_, (h ds hds _ ⟨K, F0, H, []⟩ _ xo rfl cl er).nox, F0, ?_, ⟨fun ρ m σ H' F' h1 h2 h3 => ?_, fun d ρ m v σ H' F' h1 h2 h3 h4 => ?_, fun _ _ _ _ _ h => h.elim, fun _ _ _ _ _ h => h.elim, fun _ _ _ _ _ _ _ h => h.elim⟩⟩
    · refine VRel.rel (K := K) ⟨fun i d e => ?_, ?_⟩ (fun i sl e => ?_) sub
      · have e1 := startE_get e
        rw [List.getElem?_map] at e1
        cases e2 : ds[i]? with
        | none => rw [e2] at e1; cases e1
        | some d' =>
          rw [e2] at e1; cases e1
          obtain ⟨v, h1, h2⟩ := rd.at e2
          exact ⟨v, start_get h1, h2⟩
      · unfold startE L2.start; simp; omega
      · have e1 := startE_get e
        rw [List.getElem?_map] at e1
        cases e2 : ds[i]? with
        | none => rw [e2] at e1; cases e1
        | some d' => rw [e2] at e1; cases e1; exact ⟨d', rfl⟩
    · rw [h2] at h1; cases h1
      exact q .non H' F' h3.fx .non
    · rw [h2] at h1; cases h1
      exact q v H' F' h3.fx h4
theorem fnS_of {P : Program} {w : World} {K : PySem.W.Frag} {mg : Str → Option Value} {base : Heap} {x qual : Str} {st : Stmt} {f : Addr} {fd : FuncData} {N ps : List Str} {k n : Nat} {fm : Src → List D → R (D × Src)} (F : Fun K x qual st f fd) (S : FnScope N ps (defScope st)) (hn : ps.length = n + 1)
    (h : ∀ (a : Addr) (s : Src) (ds : List D), ds.length = n → DSs ⟨P, w, K, mg, base, k, N, defScope st, fun _ => true⟩ (startE N (.src a s :: ds.map .val)) (defBody st) (fm s ds) (JfS a)) : FnG P w K mg base CX0 (k + 1) f fd ps (spS K n fm) := by
  refine okG F S (fun vs H Q E h => ?_) (fun cdv A outer s H vs Q E gd hr hsp => ?_)
  · obtain ⟨_, _, _, _, ws, _, _, _, e, hl, _⟩ := h
    rw [e, List.length_cons, hl, hn]
  · obtain ⟨F0, a, so, as, ws, ds, r, s', e0, hl, sub, hsl, rd, er, q⟩ := hsp
    subst e0
    have hds : ds.length = n := by rw [← rd.length]; exact hl
    have xo : XOk ⟨P, w, K, mg, base, k, N, defScope st, fun _ => true⟩ (cxOf CX0 P w K mg base N qual (defScope st) f cdv A outer s H E).nox :=
      ⟨rfl, rfl, rfl, rfl, rfl, rfl, S.nd, rfl, rfl, hr, gd, PassesOwn.never, fun _ _ => rfl⟩
    have cl : Cl fun r' : R (D × Src) => r' = .ok (r, s') := ⟨(fun e => nomatch e), (fun _ _ e => nomatch e)⟩
    have fin : ∀ {ρ : Env} {σ : L2.St} {H' F' : Hp} {v : V}, Rel ⟨K, F0, H, as⟩ ρ σ H' F' → ρ[0]? = some (some (.src a s')) → Rp K F' v r → Q v H' := fun {ρ σ H' F' v} rl e pv => by
      obtain ⟨v1, as', e1, h1, h2, _⟩ := rl.slot e
      obtain ⟨_, ev, _⟩ := id h1
      subst ev
      exact q v H' F' as' ⟨rl.sub0, rl.sub, fun b o h n => rl.keep b o h n, rl.trk, rl.fresh⟩ h1 h2 pv
    refine ⟨_, (h a so ds hds _ ⟨K, F0, H, as⟩ _ xo rfl cl er).nox, F0, ?_, ⟨fun ρ m σ H' F' ⟨s2, e1, e2⟩ h2 h3 => ?_, fun d ρ m v σ H' F' ⟨s2, e1, e2⟩ h2 h3 h4 => ?_, fun _ _ _ _ _ h => h.elim, fun _ _ _ _ _ h => h.elim, fun _ _ _ _ _ _ _ h => h.elim⟩⟩
    · refine ⟨sub, Same.refl _, fun b o h _ => h, fun b o h => .inl h, ⟨fun i => if i = 0 then as else [], fun i sl e => ?_⟩, by unfold startE L2.start; simp; omega, fun b o h => ⟨o, h⟩⟩
      have e1 := startE_get e
      cases i with
      | zero =>
        have e2 : sl = .src a so := by simpa using e1.symm
        subst e2
        refine ⟨.ref a, start_get rfl, hsl, fun b hb => .inl hb, fun j sl' hj e' b hb => ?_⟩
        have ne : j ≠ 0 := fun q => hj q.symm
        simp [ne]
      | succ i =>
        have e2 : (ds.map Sl.val)[i]? = some sl := by simpa using e1
        rw [List.getElem?_map] at e2
        cases e3 : ds[i]? with
        | none => rw [e3] at e2; cases e2
        | some d' =>
          rw [e3] at e2; cases e2
          obtain ⟨v, h1, h2⟩ := rd.at e3
          refine ⟨v, start_get (by simpa using h1), ⟨h2, by simp⟩, by simp, by simp⟩
    · rw [h2] at e2; cases e2
      exact fin h3 e1 .non
    · rw [h2] at e2; cases e2
      exact fin h3 e1 h4
end
end Z

set_option Elab.async false
set_option linter.all false
set_option maxRecDepth 100000
set_option autoImplicit false
/-! # ZD: dicts whose keys are nested tuples of whole numbers -/
namespace Z
open PySem L2

/-! ### keys -/
mutual
theorem nk_hash (w w' : World) : ∀ (d : D) (k : NestedKey), nk d = some k → k.hash w = k.hash w'
  | .int i, k, h => by simp only [nk, Option.some.injEq] at h; subst h; rfl
  | .tuple xs, k, h => by
    simp only [nk] at h
    obtain ⟨ks, e, rfl⟩ := Option.map_eq_some_iff.mp h
    simp only [NestedKey.hash]
    rw [nkAll_hash w w' xs ks e]
  | .none, k, h => by simp [nk] at h
  | .bool _, k, h => by simp [nk] at h
  | .str _, k, h => by simp [nk] at h
  | .list _, k, h => by simp [nk] at h
  | .dict _, k, h => by simp [nk] at h
theorem nkAll_hash (w w' : World) : ∀ (ds : List D) (ks : List NestedKey), nkAll ds = some ks → NestedKey.hashes w ks = NestedKey.hashes w' ks
  | [], ks, h => by simp only [nkAll, Option.some.injEq] at h; subst h; rfl
  | d :: ds, ks, h => by
    simp only [nkAll] at h
    obtain ⟨k, e1, h2⟩ := Option.bind_eq_some_iff.mp h
    obtain ⟨ks', e2, rfl⟩ := Option.map_eq_some_iff.mp h2
    simp only [NestedKey.hashes]
    rw [nk_hash w w' d k e1, nkAll_hash w w' ds ks' e2]
end
mutual
theorem nk_inj : ∀ (d e : D) (k : NestedKey), nk d = some k → nk e = some k → d = e
  | .int i, e, k, h, h' => by
    simp only [nk, Option.some.injEq] at h; subst h
    cases e with
    | int j => simp only [nk, Option.some.injEq, NestedKey.num.injEq] at h'; rw [h']
    | tuple ys =>
      simp only [nk] at h'
      obtain ⟨_, _, q⟩ := Option.map_eq_some_iff.mp h'
      cases q
    | _ => simp [nk] at h'
  | .tuple xs, e, k, h, h' => by
    simp only [nk] at h
    obtain ⟨ks, e1, rfl⟩ := Option.map_eq_some_iff.mp h
    cases e with
    | tuple ys =>
      simp only [nk] at h'
      obtain ⟨ks', e2, q⟩ := Option.map_eq_some_iff.mp h'
      cases q
      rw [nkAll_inj xs ys ks e1 e2]
    | int j => simp [nk] at h'
    | _ => simp [nk] at h'
  | .none, _, k, h, _ => by simp [nk] at h
  | .bool _, _, k, h, _ => by simp [nk] at h
  | .str _, _, k, h, _ => by simp [nk] at h
  | .list _, _, k, h, _ => by simp [nk] at h
  | .dict _, _, k, h, _ => by simp [nk] at h
theorem nkAll_inj : ∀ (ds es : List D) (ks : List NestedKey), nkAll ds = some ks → nkAll es = some ks → ds = es
  | [], es, ks, h, h' => by
    simp only [nkAll, Option.some.injEq] at h; subst h
    cases es with
    | nil => rfl
    | cons e es =>
      simp only [nkAll] at h'
      obtain ⟨_, _, h2⟩ := Option.bind_eq_some_iff.mp h'
      obtain ⟨_, _, q⟩ := Option.map_eq_some_iff.mp h2
      cases q
  | d :: ds, es, ks, h, h' => by
    simp only [nkAll] at h
    obtain ⟨k, e1, h2⟩ := Option.bind_eq_some_iff.mp h
    obtain ⟨ks', e2, rfl⟩ := Option.map_eq_some_iff.mp h2
    cases es with
    | nil => simp [nkAll] at h'
    | cons e es =>
      simp only [nkAll] at h'
      obtain ⟨_, f1, g2⟩ := Option.bind_eq_some_iff.mp h'
      obtain ⟨_, f2, q⟩ := Option.map_eq_some_iff.mp g2
      cases q
      rw [nk_inj d e k e1 f1, nkAll_inj ds es ks' e2 f2]
end
theorem keyN_nk {d : D} {k : NestedKey} (h : keyN d = some k) : nk d = some k ∧ k.depth ≤ 8 ∧ ∃ xs, d = .tuple xs := by
  unfold keyN at h
  split at h
  · obtain ⟨k', e1, h2⟩ := Option.bind_eq_some_iff.mp h
    split at h2
    · rename_i hz; cases h2
      exact ⟨e1, by simpa using hz, _, rfl⟩
    · cases h2
  · cases h

section
variable {X : Cx} {pins : List (Addr × Obj)} {σ : L2.St} {H F : Hp} {s : Shared}
mutual
theorem nkIs (I : Inv X pins σ H s) (e : Same F H) : ∀ {v : V} {d : D}, Rp X.K F v d → ∀ {u : Value} {k : NestedKey}, RelV v u → nk d = some k → NestedIs s.heap k u
  | _, _, .int i, u, k, r, h => by
    simp only [nk, Option.some.injEq] at h; subst h
    obtain ⟨t, rfl⟩ := r
    exact .int _ _
  | _, _, .tup ha ra, u, k, r, h => by
    simp only [nk] at h
    obtain ⟨ks, e1, rfl⟩ := Option.map_eq_some_iff.mp h
    cases r
    obtain ⟨its, rv, ⟨o, ho, hc, n, hd⟩, _⟩ := I.tuple (seqT e ha)
    exact .tup ho hc hd (by simpa using nkIsAll I e ra rv e1)
  | _, _, .non, u, k, r, h => by simp [nk] at h
  | _, _, .bl b, u, k, r, h => by simp [nk] at h
  | _, _, .str x, u, k, r, h => by simp [nk] at h
  | _, _, .lst _ _, u, k, r, h => by simp [nk] at h
  | _, _, .dct _ _ _ _, u, k, r, h => by simp [nk] at h
theorem nkIsAll (I : Inv X pins σ H s) (e : Same F H) : ∀ {vs : List V} {ds : List D}, RpAll X.K F vs ds → ∀ {us : List Value} {ks : List NestedKey}, Vals vs us → nkAll ds = some ks → NestedAll s.heap ks us
  | _, _, .nil, us, ks, r, h => by
    simp only [nkAll, Option.some.injEq] at h; subst h
    cases r; exact .nil
  | _, _, .cons ra rt, us, ks, r, h => by
    simp only [nkAll] at h
    obtain ⟨k, e1, h2⟩ := Option.bind_eq_some_iff.mp h
    obtain ⟨ks', e2, rfl⟩ := Option.map_eq_some_iff.mp h2
    cases r with
    | cons r1 r2 => exact .cons (nkIs I e ra r1 e1) (nkIsAll I e rt r2 e2)
end
theorem key_is (I : Inv X pins σ H s) (e : Same F H) {b : Addr} {d : D} {k : NestedKey} (h : Rp X.K F (.ref b) d) (hk : nk d = some k) (hd : k.depth ≤ 8) : (nestedKind X.prog X.w).is s.heap k b := ⟨nkIs I e h rfl hk, hd⟩
theorem key_ref {K : PySem.W.Frag} {v : V} {d : D} {k : NestedKey} (h : Rp K F v d) (hk : keyN d = some k) : ∃ b, v = .ref b := by
  obtain ⟨_, _, xs, rfl⟩ := keyN_nk hk
  cases h with | tup a b => exact ⟨_, rfl⟩
end

/-! ### entries -/
/-- an item (key, value) as data, an entry of the library's -/
def DR (K : PySem.W.Frag) (F : Hp) (p : D × D) (x : NestedKey × Addr × Value) : Prop := Rp K F (.ref x.2.1) p.1 ∧ nk p.1 = some x.1 ∧ ∃ v, RelV v x.2.2 ∧ Rp K F v p.2
theorem DR.mono {K : PySem.W.Frag} {F F' : Hp} (e : Same F F') {p : D × D} {x : NestedKey × Addr × Value} (h : DR K F p x) : DR K F' p x := by
  obtain ⟨a, b, v, c, d⟩ := h
  exact ⟨a.mono e, b, v, c, d.mono e⟩
theorem paired_imp {α β : Type} {R S : α → β → Prop} (f : ∀ a b, R a b → S a b) : ∀ {l : List α} {m : List β}, Paired R l m → Paired S l m
  | _, _, .nil => .nil
  | _, _, .cons h t => .cons (f _ _ h) (paired_imp f t)
theorem paired_len {α β : Type} {R : α → β → Prop} : ∀ {l : List α} {m : List β}, Paired R l m → l.length = m.length
  | _, _, .nil => rfl
  | _, _, .cons _ t => by simp [paired_len t]
theorem dget_rel {K : PySem.W.Frag} {F : Hp} {k : NestedKey} : ∀ {kvs : List (D × D)} {xs : List (NestedKey × Addr × Value)}, Paired (DR K F) kvs xs →
    (dGet kvs k = none ∧ atKey xs k = none) ∨ ∃ d b u v, dGet kvs k = some d ∧ atKey xs k = some (b, u) ∧ RelV v u ∧ Rp K F v d
  | _, _, .nil => .inl ⟨rfl, rfl⟩
  | _, _, .cons (a := p) (b := x) (l₁ := l1) (l₂ := l2) h t => by
    obtain ⟨h1, h2, v, h3, h4⟩ := h
    unfold dGet atKey
    rw [List.find?_cons, List.find?_cons]
    by_cases c : x.1 = k
    · subst c
      rw [decide_eq_true h2, decide_eq_true rfl]
      exact .inr ⟨p.2, x.2.1, x.2.2, v, rfl, rfl, h3, h4⟩
    · rw [decide_eq_false (show ¬ nk p.1 = some k from fun q => c (by rw [h2] at q; exact Option.some.inj q)), decide_eq_false c]
      exact dget_rel t
theorem dget_some {K : PySem.W.Frag} {F : Hp} {k : NestedKey} {kvs : List (D × D)} {xs : List (NestedKey × Addr × Value)} (r : Paired (DR K F) kvs xs) : (dGet kvs k).isSome = (atKey xs k).isSome := by
  rcases dget_rel (k := k) r with ⟨a, b⟩ | ⟨d, b, u, v, e1, e2, _, _⟩
  · rw [a, b]; rfl
  · rw [e1, e2]; rfl
theorem dset_rel {K : PySem.W.Frag} {F : Hp} {kvs : List (D × D)} {xs : List (NestedKey × Addr × Value)} {kd : D} {k : NestedKey} {b : Addr} {v : V} {u : Value} {d : D} (r : Paired (DR K F) kvs xs) (hb : Rp K F (.ref b) kd) (hk : nk kd = some k) (hv : RelV v u) (hd : Rp K F v d) :
    Paired (DR K F) (dSet kvs kd k d) (storedH xs k b u) := by
  unfold dSet storedH
  rw [dget_some r]
  split
  · have h0 : True := trivial
    clear hb hk h0
    rename_i hc; clear hc
    induction r with
    | nil => exact .nil
    | cons h t ih =>
      rename_i p x _ _
      obtain ⟨h1, h2, w, h3, h4⟩ := h
      rw [List.map_cons, List.map_cons]
      refine .cons ?_ ih
      unfold putAt
      by_cases c : x.1 = k
      · rw [if_pos c, if_pos (by rw [h2, c])]
        exact ⟨h1, h2, v, hv, hd⟩
      · rw [if_neg c, if_neg (fun q => c (by rw [h2] at q; exact Option.some.inj q))]
        exact ⟨h1, h2, w, h3, h4⟩
  · exact Paired.snoc r ⟨hb, hk, v, hv, hd⟩
theorem dset_length (kvs : List (D × D)) (kd : D) (k : NestedKey) (v : D) : (dSet kvs kd k v).length ≤ kvs.length + 1 := by
  unfold dSet; split <;> simp

section
variable {X : Cx} {pins : List (Addr × Obj)} {σ : L2.St} {H F : Hp} {s : Shared}
theorem ents (I : Inv X pins σ H s) (e : Same F H) (w : World) : ∀ {xs : List DEnt} {ks ds : List D} {es : List DictEntry}, RpAll X.K F (xs.map fun x => .ref x.2.1) ks → nkAll ks = some (xs.map (·.1)) → RpAll X.K F (xs.map fun x => x.2.2) ds → Paired (EntOk w) xs es → (∀ x ∈ xs, x.1.depth ≤ 8) →
    ∃ ys : List (NestedKey × Addr × Value), es = ys.map (entryOfKey (nestedKind X.prog X.w)) ∧ ys.map (·.1) = xs.map (·.1) ∧ Paired (DR X.K F) (ks.zip ds) ys ∧ ∀ x ∈ ys, (nestedKind X.prog X.w).is s.heap x.1 x.2.1
  | [], ks, ds, es, hk, hn, hd, hp, hz => by
    cases hk; cases hd; cases hp
    exact ⟨[], rfl, rfl, .nil, by simp⟩
  | x :: xs, ks, ds, es, hk, hn, hd, hp, hz => by
    simp only [List.map_cons] at hk hn hd
    cases hk with
    | cons k1 k2 =>
      rename_i kd ks
      cases hd with
      | cons d1 d2 =>
        rename_i dd ds
        cases hp with
        | cons p1 p2 =>
          rename_i en es
          simp only [nkAll] at hn
          obtain ⟨k, e1, h2⟩ := Option.bind_eq_some_iff.mp hn
          obtain ⟨ks', e2, q⟩ := Option.map_eq_some_iff.mp h2
          cases q
          obtain ⟨ys, y1, y2, y3, y4⟩ := ents I e w k2 e2 d2 p2 fun x hx => hz x (by simp [hx])
          obtain ⟨q1, q2, q3⟩ := p1
          have ki := key_is I e k1 e1 (hz x (by simp))
          refine ⟨(x.1, x.2.1, en.val) :: ys, ?_, by rw [List.map_cons, y2, List.map_cons], ?_, fun z hz' => ?_⟩
          · rw [List.map_cons, ← y1]
            congr 1
            cases en
            simp only at q1 q2
            subst q1 q2
            unfold entryOfKey nestedKind
            simp only
            rw [nk_hash w X.w _ _ e1]
          · rw [List.zip_cons_cons]
            exact .cons ⟨k1, e1, x.2.2, q3, d1⟩ y3
          · rcases List.mem_cons.mp hz' with rfl | hz'
            · exact ki
            · exact y4 z hz'
/-- a dict that is read -/
theorem dct_get (I : Inv X pins σ H s) (e : Same F H) {v : V} {kvs : List (D × D)} (h : Rp X.K F v (.dict kvs)) : ∃ a, v = .ref a ∧ (a == sysModules) = false ∧ kvs.length ≤ sizeLine ∧
    ∃ ys : List (NestedKey × Addr × Value), s.heap.DictOfH (nestedKind X.prog X.w) a ys ∧ Paired (DR X.K F) kvs ys ∧ ys.length = kvs.length := by
  generalize hd : PyData.dict kvs = d at h
  cases h with
  | non | bl | int | str | lst | tup => cases hd
  | dct hF hk hn hv =>
    rename_i a xs ks ds
    cases hd
    obtain ⟨⟨z1, z2, z3, z4, w, o, es, ep, ho, hx, hd, pr⟩, _⟩ := (show ObjOk X.prog X.w H s.heap a (dctO a xs) from I.hok a _ (e _ _ hF))
    obtain ⟨ys, y1, y2, y3, y4⟩ := ents I e w hk hn hv pr z4
    have l1 := paired_len y3
    have l2 : ys.length = xs.length := by rw [← List.length_map (f := (·.1)), y2, List.length_map]
    exact ⟨a, rfl, z1, by omega, ys, ⟨o, es, ep, ho, hx, hd, y1, y4, by rw [y2]; exact z3⟩, y3, l1.symm⟩
end
theorem zip_self (kvs : List (D × D)) : (kvs.map (·.1)).zip (kvs.map (·.2)) = kvs := by
  induction kvs with
  | nil => rfl
  | cons p kvs ih => simp [ih]
/-- what is told of a dict as it stands is what is tracked -/
theorem dct_put {P : Program} {w : World} {h : Heap} {K : PySem.W.Frag} {F : Hp} {a : Addr} {kvs : List (D × D)} {ys : List (NestedKey × Addr × Value)} (hs : (a == sysModules) = false) (hz : kvs.length ≤ sizeLine) (hd : h.DictOfH (nestedKind P w) a ys) (r : Paired (DR K F) kvs ys) :
    ∃ xs : List DEnt, dctP a xs h ∧ RpAll K F (xs.map fun x => .ref x.2.1) (kvs.map (·.1)) ∧ nkAll (kvs.map (·.1)) = some (xs.map (·.1)) ∧ RpAll K F (xs.map fun x => x.2.2) (kvs.map (·.2)) := by
  obtain ⟨o, es, ep, ho, hx, hdt, he, hi, hn⟩ := hd
  have l := paired_len r
  have key : ∀ {kvs : List (D × D)} {ys : List (NestedKey × Addr × Value)}, Paired (DR K F) kvs ys → ∃ xs : List DEnt, RpAll K F (xs.map fun x => .ref x.2.1) (kvs.map (·.1)) ∧ nkAll (kvs.map (·.1)) = some (xs.map (·.1)) ∧ RpAll K F (xs.map fun x => x.2.2) (kvs.map (·.2)) ∧
      xs.map (·.1) = ys.map (·.1) ∧ Paired (EntOk w) xs (ys.map (entryOfKey (nestedKind P w))) := by
    intro kvs ys r
    induction r with
    | nil => exact ⟨[], .nil, rfl, .nil, rfl, .nil⟩
    | cons h t ih =>
      rename_i p y _ _
      obtain ⟨xs, a1, a2, a3, a4, a5⟩ := ih
      obtain ⟨b1, b2, v, b3, b4⟩ := h
      refine ⟨(y.1, y.2.1, v) :: xs, .cons b1 a1, ?_, .cons b4 a3, by simp [a4], .cons ⟨rfl, rfl, b3⟩ a5⟩
      simp only [List.map_cons, nkAll, b2, a2]; rfl
  obtain ⟨xs, a1, a2, a3, a4, a5⟩ := key r
  have l2 : xs.length = ys.length := by rw [← List.length_map (f := (·.1)), a4, List.length_map]
  refine ⟨xs, ⟨hs, by omega, by rw [a4]; exact hn, fun x hx' => ?_, w, o, es, ep, ho, hx, hdt, by rw [he]; exact a5⟩, a1, a2, a3⟩
  have m : x.1 ∈ ys.map (·.1) := by rw [← a4]; exact List.mem_map_of_mem hx'
  obtain ⟨y, hy, e⟩ := List.mem_map.mp m
  rw [← e]; exact (hi y hy).2
theorem dctO_ok {P : Program} {w : World} {H : Hp} {h : Heap} {a : Addr} {xs : List DEnt} (d : dctP a xs h) : ObjOk P w H h a (dctO a xs) := by
  refine ⟨d, ?_, fun h1 h2 d1 k => ?_⟩
  · obtain ⟨_, _, _, _, _, o, _, _, ho, _⟩ := d
    exact ⟨o, ho⟩
  · obtain ⟨z1, z2, z3, z4, w', o, es, ep, ho, r⟩ := d1
    exact ⟨z1, z2, z3, z4, w', o, es, ep, k o ho, r⟩
/-- a new dict that nobody changes -/
theorem newD {X : Cx} {pins : List (Addr × Obj)} {σ : L2.St} {H F : Hp} {s : Shared} {Q : VK} {h' : Heap} {tk : Nat} {kvs : List (D × D)} {ys : List (NestedKey × Addr × Value)} (I : Inv X pins σ H s) (sub : Same F H) (kp : ∀ b o, s.heap.get? b = some o → h'.get? b = some o) (hz : kvs.length ≤ sizeLine)
    (hd : h'.DictOfH (nestedKind X.prog X.w) s.heap.objs.size ys) (r : Paired (DR X.K F) kvs ys) (q : ∀ v H' F', Fx F H F' H' → Rp X.K F' v (.dict kvs) → Q v H') : EP X pins σ Q (.ref s.heap.objs.size) { s with heap := h', toks := tk } := by
  have hs : (s.heap.objs.size == sysModules) = false := beq_eq_false_iff_ne.mpr (Nat.ne_of_gt I.big)
  obtain ⟨xs, d, a1, a2, a3⟩ := dct_put hs hz hd r
  have hp := I.hok.fresh (Nat.le_refl s.heap.objs.size)
  have fx : Fx F H _ _ := Fx.alloc (u := dctO s.heap.objs.size xs) sub hp
  have e : PyData.dict kvs = .dict ((kvs.map (·.1)).zip (kvs.map (·.2))) := by rw [zip_self]
  refine ⟨.ref s.heap.objs.size, _, I.laid (t' := tk) kp (Nat.le_refl _) (dctO_ok d), rfl, q _ _ _ fx ?_⟩
  rw [e]
  exact .dct upd_same (a1.mono fx.ff) a2 (a3.mono fx.ff)
end Z

set_option Elab.async false
set_option linter.all false
set_option maxRecDepth 100000
set_option autoImplicit false
/-! # Z8: the operations are the model's -/
namespace Z
open PySem L2

theorem szOk_line {n : Nat} (h : szOk n = true) : n ≤ sizeLine := by rw [sizeLine_eq]; simpa [szOk] using h
section
variable {K : PySem.W.Frag} {F H : Hp}
theorem Rp.toInt {v : V} {i : Int} (h : Rp K F v (.int i)) : v = .int i := by cases h; rfl
theorem Rp.toStr {v : V} {i : Str} (h : Rp K F v (.str i)) : v = .str i := by cases h; rfl
theorem Rp.toBool {v : V} {i : Bool} (h : Rp K F v (.bool i)) : v = .bl i := by cases h; rfl
theorem Rp.toList {v : V} {ds : List D} (h : Rp K F v (.list ds)) : ∃ a xs, v = .ref a ∧ F a = some (.lst xs) ∧ RpAll K F xs ds := by cases h with | lst a b => exact ⟨_, _, rfl, a, b⟩
theorem Rp.toTup {v : V} {ds : List D} (h : Rp K F v (.tuple ds)) : ∃ a xs, v = .ref a ∧ SqT K F a xs ∧ RpAll K F xs ds := by cases h with | tup a b => exact ⟨_, _, rfl, a, b⟩
theorem RpAll.one {vs : List V} {d : D} (h : RpAll K F vs [d]) : ∃ v, vs = [v] ∧ Rp K F v d := by
  cases h with | cons a b => cases b; exact ⟨_, rfl, a⟩
theorem RpAll.two {vs : List V} {d e : D} (h : RpAll K F vs [d, e]) : ∃ v u, vs = [v, u] ∧ Rp K F v d ∧ Rp K F u e := by
  cases h with | cons a b => cases b with | cons c d => cases d; exact ⟨_, _, rfl, a, c⟩
theorem RpAll.drop : ∀ {vs : List V} {ds : List D} (n : Nat), RpAll K F vs ds → RpAll K F (vs.drop n) (ds.drop n)
  | _, _, 0, r => r
  | _, _, _ + 1, .nil => .nil
  | _, _, n + 1, .cons _ t => RpAll.drop n t
theorem RpAll.take : ∀ {vs : List V} {ds : List D} (n : Nat), RpAll K F vs ds → RpAll K F (vs.take n) (ds.take n)
  | _, _, 0, _ => .nil
  | _, _, _ + 1, .nil => .nil
  | _, _, n + 1, .cons r t => .cons r (RpAll.take n t)
theorem RpAll.rep {vs : List V} {ds : List D} (r : RpAll K F vs ds) : ∀ n : Nat, RpAll K F (List.replicate n vs).flatten (List.replicate n ds).flatten
  | 0 => .nil
  | n + 1 => by rw [List.replicate_succ, List.replicate_succ, List.flatten_cons, List.flatten_cons]; exact r.append (RpAll.rep r n)
theorem RpAll.reverse : ∀ {vs : List V} {ds : List D}, RpAll K F vs ds → RpAll K F vs.reverse ds.reverse
  | _, _, .nil => .nil
  | _, _, .cons r t => by rw [List.reverse_cons, List.reverse_cons]; exact (RpAll.reverse t).append (.cons r .nil)
theorem RpAll.atI {vs : List V} {ds : List D} (r : RpAll K F vs ds) {i : Int} {d : D} (h : L2.atI ds i = some d) : ∃ v, L2.atI vs i = some v ∧ Rp K F v d := by
  unfold L2.atI at h ⊢
  rw [r.length]
  cases e : ixN ds.length i with
  | none => rw [e] at h; cases h
  | some j => rw [e] at h; exact r.at h
theorem RpAll.cut {vs : List V} {ds : List D} (r : RpAll K F vs ds) (lo hi : Option Int) : RpAll K F (cutV vs lo hi) (cut ds lo hi) := by
  unfold cutV Z.cut
  rw [r.length]
  exact (r.drop _).take _
/-- a new list, a new tuple -/
theorem newL {vs : List V} {ds : List D} {Q : VK} (sub : Same F H) (r : RpAll K F vs ds) (q : ∀ v H' F', Fx F H F' H' → Rp K F' v (.list ds) → Q v H') : ∀ p, H p = none → Q (.ref p) (upd H p (.lst vs)) := fun p hp => by
  have fx : Fx F H _ _ := Fx.alloc (u := .lst vs) sub hp
  exact q _ _ _ fx (.lst upd_same (r.mono fx.ff))
theorem newT {vs : List V} {ds : List D} {Q : VK} (sub : Same F H) (r : RpAll K F vs ds) (q : ∀ v H' F', Fx F H F' H' → Rp K F' v (.tuple ds) → Q v H') : ∀ p, H p = none → Q (.ref p) (upd H p (.tup vs)) := fun p hp => by
  have fx : Fx F H _ _ := Fx.alloc (u := .tup vs) sub hp
  exact q _ _ _ fx (.tup (.inl (.inl upd_same)) (r.mono fx.ff))
end

theorem bs_add : BinS .Add add := by
  intro X k hr pins s σ H x y v u Q I rx ry ⟨F, a, b, c, sub, ra, rb, e, q⟩
  unfold add at e
  split at e
  · cases e
    rw [ra.toInt] at rx; rw [rb.toInt] at ry
    exact op_add pins s σ H _ _ v u Q I rx ry ⟨_, _, rfl, rfl, q _ H F (Fx.refl sub) (.int _)⟩
  · split at e
    · rename_i hz; cases e
      rw [ra.toStr] at rx; rw [rb.toStr] at ry
      exact op_add_str pins s σ H _ _ v u Q I rx ry ⟨_, _, rfl, rfl, szOk_line hz, q _ H F (Fx.refl sub) (.str _)⟩
    · cases e
  · split at e
    · rename_i hz; cases e
      obtain ⟨p, xs, rfl, hp, rxs⟩ := ra.toList
      obtain ⟨p2, ys, rfl, hp2, rys⟩ := rb.toList
      refine op_cat pins s σ H _ _ v u Q I rx ry ⟨_, _, xs, ys, rfl, rfl, sub _ _ hp, sub _ _ hp2, ?_, newL sub (rxs.append rys) q⟩
      rw [rxs.length, rys.length]; exact szOk_line hz
    · cases e
  · split at e
    · rename_i hz; cases e
      obtain ⟨p, xs, rfl, hp, rxs⟩ := ra.toTup
      obtain ⟨p2, ys, rfl, hp2, rys⟩ := rb.toTup
      refine op_catA pins s σ H _ _ v u Q I rx ry ⟨_, _, xs, ys, rfl, rfl, seqT sub hp, seqT sub hp2, ?_, fun ex => ?_, fun _ ey => ?_, fun _ _ => newT sub (rxs.append rys) q⟩
      · rw [rxs.length, rys.length]; exact szOk_line hz
      · subst ex; cases rxs; exact q _ H F (Fx.refl sub) (.tup hp2 rys)
      · subst ey; cases rys; rw [List.append_nil] at q; exact q _ H F (Fx.refl sub) (.tup hp rxs)
    · cases e
  · cases e
theorem bs_sub : BinS .Sub sub := by
  intro X k hr pins s σ H x y v u Q I rx ry ⟨F, a, b, c, sub, ra, rb, e, q⟩
  unfold Z.sub at e
  split at e
  · cases e
    rw [ra.toInt] at rx; rw [rb.toInt] at ry
    exact op_sub pins s σ H _ _ v u Q I rx ry ⟨_, _, rfl, rfl, q _ H F (Fx.refl sub) (.int _)⟩
  · cases e
theorem bs_mul : BinS .Mult mul := by
  intro X k hr pins s σ H x y v u Q I rx ry ⟨F, a, b, c, sub, ra, rb, e, q⟩
  unfold mul at e
  split at e
  · split at e
    · rename_i hz; cases e
      rw [ra.toInt] at rx; rw [rb.toInt] at ry
      have fin := q _ H F (Fx.refl sub) (.int _)
      simp only [bigM, Bool.or_eq_true, decide_eq_true_eq] at hz
      rcases hz with (hz | hz) | hz
      · exact op_mul pins s σ H _ _ v u Q I rx ry ⟨_, _, rfl, rfl, .inl ⟨by omega, by omega⟩, fin⟩
      · exact op_mul pins s σ H _ _ v u Q I rx ry ⟨_, _, rfl, rfl, .inr ⟨by omega, by omega⟩, fin⟩
      · exact op_mulW pins s σ H _ _ v u Q I rx ry ⟨_, _, rfl, rfl, hz, fin⟩
    · cases e
  · split at e
    · rename_i hz; cases e
      simp only [Bool.and_eq_true, decide_eq_true_eq] at hz
      obtain ⟨p, xs, rfl, hp, rxs⟩ := ra.toList
      rw [rb.toInt] at ry
      refine op_rep pins s σ H _ _ v u Q I rx ry ⟨_, _, xs, rfl, rfl, sub _ _ hp, hz.1.1, hz.1.2, ?_, newL sub (rxs.rep _) q⟩
      rw [rxs.length]; exact szOk_line hz.2
    · cases e
  · split at e
    · rename_i hz; cases e
      simp only [Bool.and_eq_true, decide_eq_true_eq] at hz
      obtain ⟨p, xs, rfl, hp, rxs⟩ := ra.toTup
      rw [rb.toInt] at ry
      refine op_repT pins s σ H _ _ v u Q I rx ry ⟨_, _, xs, rfl, rfl, seqT sub hp, ?_, hz.1.1.1, hz.1.1.2, by rw [rxs.length]; exact hz.2, newT sub (rxs.rep _) q⟩
      intro ex; subst ex; cases rxs; exact absurd hz.1.2 (by simp)
    · cases e
  · cases e
theorem bs_fdiv : BinS .FloorDiv fdiv := by
  intro X k hr pins s σ H x y v u Q I rx ry ⟨F, a, b, c, sub, ra, rb, e, q⟩
  unfold fdiv at e
  split at e
  · split at e
    · rename_i hz; cases e
      simp only [Bool.and_eq_true, decide_eq_true_eq, bigD] at hz
      rw [ra.toInt] at rx; rw [rb.toInt] at ry
      obtain ⟨t, rfl⟩ := rx
      obtain ⟨t', rfl⟩ := ry
      exact PyProof.Rows.floordiv_int hz.1 ⟨.int _, H, I.tok _, ⟨_, rfl⟩, q _ H F (Fx.refl sub) (.int _)⟩ (.inl (PyProof.noPylong_of_log2 hz.2))
    · cases e
  · cases e
theorem bs_fmod : BinS .Mod fmod := by
  intro X k hr pins s σ H x y v u Q I rx ry ⟨F, a, b, c, sub, ra, rb, e, q⟩
  unfold fmod at e
  split at e
  · split at e
    · rename_i hz; cases e
      simp only [decide_eq_true_eq] at hz
      rw [ra.toInt] at rx; rw [rb.toInt] at ry
      exact op_modN pins s σ H _ _ v u Q I rx ry ⟨_, _, rfl, rfl, hz, q _ H F (Fx.refl sub) (.int _)⟩
    · cases e
  · cases e
theorem bs_pow : BinS .Pow pow := by
  intro X k hr pins s σ H x y v u Q I rx ry ⟨F, a, b, c, sub, ra, rb, e, q⟩
  unfold pow at e
  split at e
  · split at e
    · rename_i hz; cases e
      simp only [Bool.and_eq_true, decide_eq_true_eq] at hz
      rw [ra.toInt] at rx; rw [rb.toInt] at ry
      exact op_pow pins s σ H _ _ v u Q I rx ry ⟨_, _, rfl, rfl, ⟨hz.1.1, hz.1.2, hz.2⟩, q _ H F (Fx.refl sub) (.int _)⟩
    · cases e
  · cases e
theorem us_neg : UnS .USub neg := by
  intro X k hr pins s σ H x v Q I rx ⟨F, a, c, sub, ra, e, q⟩
  unfold neg at e
  split at e
  · cases e
    rw [ra.toInt] at rx
    exact un_neg pins s σ H _ v Q I rx ⟨_, rfl, q _ H F (Fx.refl sub) (.int _)⟩
  · cases e

/-! ### comparisons -/
theorem room_ok {k : Nat} {A : Around} (hr : Room k A) {a b : D} (h : a.depth ≤ 40) : A.units + min a.depth b.depth < cLine := by
  have := hr.units
  have h2 : min a.depth b.depth ≤ a.depth := Nat.min_le_left _ _
  omega
theorem cs_eq : CmpS .Eq eqD := by
  intro X k hr pins s σ H x y v u Q I rx ry ⟨F, a, b, c, sub, ra, rb, e, q⟩
  unfold eqD at e
  split at e
  · rename_i h; cases e
    simp only [Bool.and_eq_true] at h
    obtain ⟨as, r1⟩ := ra.reads I sub rx (okD_plain h.1)
    obtain ⟨bs, r2⟩ := rb.reads I sub ry (okD_plain h.2)
    exact SeqAt.eq_plain r1 r2 (okD_plain h.1) (okD_plain h.2) (room_ok hr (okD_depth h.1)) ⟨.bl _, H, I, rfl, q⟩
  · cases e
theorem cs_ne : CmpS .NotEq neD := by
  intro X k hr pins s σ H x y v u Q I rx ry ⟨F, a, b, c, sub, ra, rb, e, q⟩
  unfold neD eqD at e
  split at e
  · rename_i h; cases e
    simp only [Bool.and_eq_true] at h
    obtain ⟨as, r1⟩ := ra.reads I sub rx (okD_plain h.1)
    obtain ⟨bs, r2⟩ := rb.reads I sub ry (okD_plain h.2)
    exact SeqAt.ne_plain r1 r2 (okD_plain h.1) (okD_plain h.2) (room_ok hr (okD_depth h.1)) ⟨.bl _, H, I, rfl, q⟩
  · cases e

theorem notNone {a : D} (h : isNone a = false) : a ≠ .none := fun e => by subst e; cases h
theorem lt_main {op : CmpOp} {X : Cx} {k : Nat} (hr : Room k X.A) {t : D → D → Bool} {pins : List (Addr × Obj)} {s : Shared} {σ : L2.St} {H F : Hp} {x y : V} {v u : Value} {Q : VK} {a b : D} {c : Bool} (I : Inv X pins σ H s) (rx : RelV x v) (ry : RelV y u)
    (sub : Same F H) (ra : Rp X.K F x a) (rb : Rp X.K F y b) (h : (W.alike a b && !isNone a && okD a && okD b) = true) (hq : Q (.bl (t a b)) H)
    (rule : ∀ {prog : Program} {w : World} {A : Around} {E : Value → Shared → Prop} {s : Shared} {v u : Value} {as bs : List Addr} {Q : Value → Shared → Prop}, Reads s.heap v a as → Reads s.heap u b bs → W.alike a b = true → a ≠ .none → A.units + min a.depth b.depth < cLine → Q (.bool (t a b)) s → wpAny (model prog w) A (compareOp op v u) Q E s) :
    wpAny (model X.prog X.w) X.A (compareOp op v u) (EP X pins σ Q) X.xe s := by
  simp only [Bool.and_eq_true, Bool.not_eq_true'] at h
  obtain ⟨as, r1⟩ := ra.reads I sub rx (okD_plain h.1.2)
  obtain ⟨bs, r2⟩ := rb.reads I sub ry (okD_plain h.2)
  exact rule r1 r2 h.1.1.1 (notNone h.1.1.2) (room_ok hr (okD_depth h.1.2)) ⟨.bl _, H, I, rfl, hq⟩
theorem cs_lt : CmpS .Lt ltD := by
  intro X k hr pins s σ H x y v u Q I rx ry ⟨F, a, b, c, sub, ra, rb, e, q⟩
  unfold ltD at e
  split at e
  · cases e
    rw [ra.toInt] at rx; rw [rb.toInt] at ry
    exact op_lt pins s σ H _ _ v u Q I rx ry ⟨_, _, rfl, rfl, q⟩
  · split at e
    · rename_i h; cases e
      exact lt_main (c := true) (t := W.dataLt) hr I rx ry sub ra rb h q fun r1 r2 h1 h2 h3 h4 => W.lt_data r1 r2 h1 h2 h3 h4
    · cases e
theorem cs_gt : CmpS .Gt gtD := by
  intro X k hr pins s σ H x y v u Q I rx ry ⟨F, a, b, c, sub, ra, rb, e, q⟩
  replace e : ltD b a = .ok c := e
  unfold ltD at e
  split at e
  · cases e
    rw [ra.toInt] at rx; rw [rb.toInt] at ry
    exact op_gt pins s σ H _ _ v u Q I rx ry ⟨_, _, rfl, rfl, q⟩
  · split at e
    · rename_i h; cases e
      have h' : (W.alike a b && !isNone a && okD a && okD b) = true := by
        simp only [Bool.and_eq_true, Bool.not_eq_true'] at h ⊢
        have h1 : W.alike a b = true := by rw [W.alike_comm]; exact h.1.1.1
        refine ⟨⟨⟨h1, ?_⟩, h.2⟩, h.1.2⟩
        have n1 := W.ne_none_both h.1.1.1 (notNone h.1.1.2)
        cases a <;> first | rfl | exact absurd rfl n1
      exact lt_main (c := true) (t := fun a b => W.dataLt b a) hr I rx ry sub ra rb h' q fun r1 r2 h1 h2 h3 h4 => W.gt_data r1 r2 h1 h2 h3 h4
    · cases e
theorem cs_le : CmpS .LtE leD := by
  intro X k hr pins s σ H x y v u Q I rx ry ⟨F, a, b, c, sub, ra, rb, e, q⟩
  unfold leD at e
  split at e
  · cases e
    rw [ra.toInt] at rx; rw [rb.toInt] at ry
    exact op_le pins s σ H _ _ v u Q I rx ry ⟨_, _, rfl, rfl, q⟩
  · split at e
    · rename_i h; cases e
      exact lt_main (c := true) (t := fun a b => !W.dataLt b a) hr I rx ry sub ra rb h q fun r1 r2 h1 h2 h3 h4 => W.le_data r1 r2 h1 h2 h3 h4
    · cases e
theorem cs_ge : CmpS .GtE geD := by
  intro X k hr pins s σ H x y v u Q I rx ry ⟨F, a, b, c, sub, ra, rb, e, q⟩
  replace e : leD b a = .ok c := e
  unfold leD at e
  split at e
  · cases e
    rw [ra.toInt] at rx; rw [rb.toInt] at ry
    exact op_ge pins s σ H _ _ v u Q I rx ry ⟨_, _, rfl, rfl, q⟩
  · split at e
    · rename_i h; cases e
      have h' : (W.alike a b && !isNone a && okD a && okD b) = true := by
        simp only [Bool.and_eq_true, Bool.not_eq_true'] at h ⊢
        have h1 : W.alike a b = true := by rw [W.alike_comm]; exact h.1.1.1
        refine ⟨⟨⟨h1, ?_⟩, h.2⟩, h.1.2⟩
        have n1 := W.ne_none_both h.1.1.1 (notNone h.1.1.2)
        cases a <;> first | rfl | exact absurd rfl n1
      exact lt_main (c := true) (t := fun a b => !W.dataLt a b) hr I rx ry sub ra rb h' q fun r1 r2 h1 h2 h3 h4 => W.ge_data r1 r2 h1 h2 h3 h4
    · cases e
theorem plain_list {xs : List D} (h : okD (.list xs) = true) : PyData.plainAll xs = true := by simpa [PyData.plain] using okD_plain h
theorem plain_tup {xs : List D} (h : okD (.tuple xs) = true) : PyData.plainAll xs = true := by simpa [PyData.plain] using okD_plain h
theorem depth_list {xs : List D} (h : okD (.list xs) = true) : PyData.depthAll xs ≤ 40 := by
  have := okD_depth h
  simp only [PyData.depth] at this
  omega
theorem depth_tup {xs : List D} (h : okD (.tuple xs) = true) : PyData.depthAll xs ≤ 40 := by
  have := okD_depth h
  simp only [PyData.depth] at this
  omega
theorem room_in {k : Nat} {A : Around} (hr : Room k A) {n d : Nat} (h : n ≤ 40) : A.units + 1 + min n d < cLine := by
  have := hr.units
  have h2 : min n d ≤ n := Nat.min_le_left _ _
  omega
theorem cs_in : CmpS .In inD := by
  intro X k hr pins s σ H x y v u Q I rx ry ⟨F, a, b, c, sub, ra, rb, e, q⟩
  unfold inD at e
  split at e
  · split at e
    · rename_i h; cases e
      simp only [Bool.and_eq_true] at h
      obtain ⟨as, r1⟩ := ra.reads I sub rx (okD_plain h.1)
      obtain ⟨bs, r2⟩ := rb.reads I sub ry (okD_plain h.2)
      exact SeqAt.in_list_data r2 r1 (plain_list h.2) (okD_plain h.1) (room_in hr (depth_list h.2)) ⟨.bl _, H, I, rfl, q⟩
    · cases e
  · split at e
    · rename_i h; cases e
      simp only [Bool.and_eq_true] at h
      obtain ⟨as, r1⟩ := ra.reads I sub rx (okD_plain h.1)
      obtain ⟨bs, r2⟩ := rb.reads I sub ry (okD_plain h.2)
      exact SeqAt.in_tuple_data r2 r1 (plain_tup h.2) (okD_plain h.1) (room_in hr (depth_tup h.2)) ⟨.bl _, H, I, rfl, q⟩
    · cases e
  · split at e
    · cases e
      rw [ra.toStr] at rx; rw [rb.toStr] at ry
      exact op_in_str pins s σ H _ _ v u Q I rx ry ⟨_, _, rfl, rfl, q⟩
    · cases e
  · split at e
    · rename_i k hk; cases e
      obtain ⟨b, rfl⟩ := key_ref ra hk
      obtain ⟨hk1, hk2, _⟩ := keyN_nk hk
      cases rx
      obtain ⟨a, rfl, hs, hz, ys, hd, r, _⟩ := dct_get I sub rb
      cases ry
      refine in_keyed (knd := nestedKind X.prog X.w) (by have := hr.units; show X.A.units + 1 + 8 < cLine; omega) (key_is I sub ra hk1 hk2) hs ⟨ys, hd, rfl⟩ ?_
      rw [valueAt_pairsH, Option.isSome_map, ← dget_some r]
      exact ⟨.bl _, H, I.tok _, rfl, q⟩
    · cases e
  · cases e
theorem cs_notIn : CmpS .NotIn notInD := by
  intro X k hr pins s σ H x y v u Q I rx ry ⟨F, a, b, c, sub, ra, rb, e, q⟩
  unfold notInD inD at e
  split at e
  · split at e
    · rename_i h; cases e
      simp only [Bool.and_eq_true] at h
      obtain ⟨as, r1⟩ := ra.reads I sub rx (okD_plain h.1)
      obtain ⟨bs, r2⟩ := rb.reads I sub ry (okD_plain h.2)
      exact SeqAt.notIn_list_data r2 r1 (plain_list h.2) (okD_plain h.1) (room_in hr (depth_list h.2)) ⟨.bl _, H, I, rfl, q⟩
    · cases e
  · split at e
    · rename_i h; cases e
      simp only [Bool.and_eq_true] at h
      obtain ⟨as, r1⟩ := ra.reads I sub rx (okD_plain h.1)
      obtain ⟨bs, r2⟩ := rb.reads I sub ry (okD_plain h.2)
      exact SeqAt.notIn_tuple_data r2 r1 (plain_tup h.2) (okD_plain h.1) (room_in hr (depth_tup h.2)) ⟨.bl _, H, I, rfl, q⟩
    · cases e
  · split at e
    · cases e
      rw [ra.toStr] at rx; rw [rb.toStr] at ry
      exact op_notin_str pins s σ H _ _ v u Q I rx ry ⟨_, _, rfl, rfl, q⟩
    · cases e
  · split at e
    · rename_i k hk; cases e
      obtain ⟨b, rfl⟩ := key_ref ra hk
      obtain ⟨hk1, hk2, _⟩ := keyN_nk hk
      cases rx
      obtain ⟨a, rfl, hs, hz, ys, hd, r, _⟩ := dct_get I sub rb
      cases ry
      refine notIn_keyed (knd := nestedKind X.prog X.w) (by have := hr.units; show X.A.units + 1 + 8 < cLine; omega) (key_is I sub ra hk1 hk2) hs ⟨ys, hd, rfl⟩ ?_
      rw [valueAt_pairsH, Option.isSome_map, ← dget_some r]
      exact ⟨.bl _, H, I.tok _, rfl, q⟩
    · cases e
  · cases e

/-! ### subscripts, slices -/
section
variable {α : Type} {C : Ct} {ρ : Env} {m : R α}
theorem ix_main {X : Cx} {kk : Nat} (hr : Room kk X.A) {a b : D} {c : D} {F : Hp} {pins : List (Addr × Obj)} {s : Shared} {σ : L2.St} {H : Hp} {x y : V} {v u : Value} {Q : VK} {value slice : Expr} (I : Inv X pins σ H s) (rx : RelV x v) (ry : RelV y u) (sub : Same F H) (ra : Rp X.K F x a) (rb : Rp X.K F y b)
    (e : item a b = .ok c) (q : ∀ v', Rp X.K F v' c → Q v' H) (hs : subscripted slice false v u = operate [v, u] (getItem v u)) : wpAny (model X.prog X.w) X.A (PyProof.Rows.subscriptTail value slice v u) (EP X pins σ Q) X.xe s := by
  unfold item at e
  split at e
  · unfold atD at e
    split at e
    · rename_i h; cases e
      obtain ⟨p, xs, rfl, hp, rxs⟩ := ra.toTup
      rw [rb.toInt] at ry
      obtain ⟨v', h1, h2⟩ := rxs.atI h
      exact ix_tup value slice pins s σ H _ _ v u Q I rx ry ⟨p, xs, _, v', rfl, rfl, seqT sub hp, h1, q v' h2⟩ hs
    · cases e
  · unfold atD at e
    split at e
    · rename_i h; cases e
      obtain ⟨p, xs, rfl, hp, rxs⟩ := ra.toList
      rw [rb.toInt] at ry
      obtain ⟨v', h1, h2⟩ := rxs.atI h
      exact ix_list value slice pins s σ H _ _ v u Q I rx ry ⟨p, xs, _, v', rfl, rfl, SqL.of (sub _ _ hp), h1, q v' h2⟩ hs
    · cases e
  · split at e
    · rename_i hz
      split at e
      · rename_i h; cases e
        rw [ra.toStr] at rx; rw [rb.toInt] at ry
        exact ix_str value slice pins s σ H _ _ v u Q I rx ry ⟨_, _, _, rfl, rfl, szOk_line hz, h, q _ (.str _)⟩ hs
      · cases e
    · cases e
  · split at e
    · rename_i k hk
      split at e
      · rename_i d hg; cases e
        obtain ⟨bb, rfl⟩ := key_ref rb hk
        obtain ⟨hk1, hk2, _⟩ := keyN_nk hk
        cases ry
        obtain ⟨aa, rfl, hsm, hz, ys, hd, r, _⟩ := dct_get I sub ra
        cases rx
        rcases dget_rel (k := k) r with ⟨n1, _⟩ | ⟨d', b', u', v', e1, e2, e3, e4⟩
        · rw [n1] at hg; cases hg
        · rw [e1] at hg; cases hg
          refine PyProof.Rows.tail_any (Heap.DictOfH.typeIs hd) slot_dict_getitem.lookup (getItem_keyed (knd := nestedKind X.prog X.w) (v := u') (by have := hr.units; show X.A.units + 1 + 8 < cLine; omega) (key_is I sub rb hk1 hk2) ⟨ys, hd, rfl⟩ ?_ ?_) hs
          · rw [valueAt_pairsH, e2]; rfl
          · exact ⟨v', H, I.tok _, e3, q v' e4⟩
      · cases e
    · cases e
  · cases e
theorem de_ix {κ : D → Env → R α → Prop} {a b : Expr} {pos : Pos} (h : DE C ρ a m fun x ρ1 m1 => DE C ρ1 b m1 fun y ρ2 m2 => ∃ g, m2 = (item x y).bind g ∧ ∀ z, κ z ρ2 (g z)) (hs : PlainIx b := by intro _ _; rfl) : DE C ρ (.Subscript a b pos) m κ := by
  intro X W Z x hK c z
  have x0 := x
  have hb : PE X b fun σ H Q => ∃ i : R α × Env × D, (DE C i.2.1 b i.1 (fun y ρ2 m2 => ∃ g, m2 = (item i.2.2 y).bind g ∧ ∀ z, κ z ρ2 (g z)) ∧ Z i.1) ∧ ∃ F, Rel W i.2.1 σ H F ∧ ∀ d ρ' m' v H' F', (∃ g, m' = (item i.2.2 d).bind g ∧ ∀ z, κ z ρ' (g z)) → Z m' → Rel W ρ' σ H' F' → Same F F' → Rp W.K F' v d → Q v H' :=
    ⟨fun p s σ H Q I ⟨i, pi, q⟩ => (pi.1 X W Z x hK c pi.2).run p s σ H Q I q⟩
  have hix : IxR X fun x y H Q => ∃ (F : Hp) (a b c : D), Same F H ∧ Rp X.K F x a ∧ Rp X.K F y b ∧ item a b = .ok c ∧ ∀ v', Rp X.K F v' c → Q v' H :=
    fun value slice pins s σ H x y v u Q I rx ry ⟨F, a, b, c, sub, ra, rb, e, q⟩ hs => ix_main x0.room I rx ry sub ra rb e q hs
  refine PE_imp (pe_ix hix (h X W Z x hK c z) hb hs) fun σ H Q ⟨F, r, q⟩ => ⟨F, r, fun dx ρ1 m1 vx H1 F1 h1 h2 h3 h4 h5 => ?_⟩
  refine ⟨(m1, ρ1, dx), ⟨h1, h2⟩, F1, h3, fun dy ρ2 m2 vy H2 F2 ⟨g, e, hg⟩ k2 k3 k4 k5 => ?_⟩
  subst e
  obtain ⟨w, ew, zw⟩ := c.bind k2
  refine ⟨F2, dx, dy, w, k3.sub, by rw [x.K, ← hK]; exact h5.mono k4, by rw [x.K, ← hK]; exact k5, ew, fun v' p' => ?_⟩
  exact q _ ρ2 _ v' H2 F2 (hg w) zw k3 (h4.trans k4) (by rw [hK, ← x.K]; exact p')
/-- an end of a slice: none, or a part -/
def DO {α : Type} (C : Ct) (ρ : Env) (e : Option Expr) (m : R α) (κ : Option Int → Env → R α → Prop) : Prop :=
  match e with
  | none => κ none ρ m
  | some e => DE C ρ e m fun d ρ1 m1 => (∃ i, d = .int i ∧ κ (some i) ρ1 m1) ∨ ∃ g, m1 = (toI d).bind g ∧ ∀ l, κ (some l) ρ1 (g l)
theorem po_of {X : Cx} {W : Wd} {Z : R α → Prop} (x : XOk C X) (hK : W.K = C.K) (c : Cl Z) {e : Option Expr} : PO X e fun σ H (Q : Option Int → Hp → Prop) => ∃ (i : R α × Env) (κ : Option Int → Env → R α → Prop), (DO C i.2 e i.1 κ ∧ Z i.1) ∧ ∃ F, Rel W i.2 σ H F ∧
    ∀ d ρ' m' H' F', κ d ρ' m' → Z m' → Rel W ρ' σ H' F' → Same F F' → Q d H' := by
  cases e with
  | none =>
    refine ⟨fun pins s σ H Q I ⟨i, κ, ⟨h, z⟩, F, r, q⟩ => ?_⟩
    exact po_none.run pins s σ H Q I (q none i.2 i.1 H F h z r (Same.refl _))
  | some e =>
    refine ⟨fun pins s σ H Q I ⟨i, κ, ⟨h, z⟩, F, r, q⟩ => ?_⟩
    refine (po_some (h X W Z x hK c z)).run pins s σ H Q I ⟨F, r, fun d ρ' m' v H' F' h1 h2 h3 h4 h5 => ?_⟩
    rcases h1 with ⟨i, e, h1⟩ | ⟨g, e, h1⟩
    · subst e; exact ⟨i, h5.toInt, q _ ρ' m' H' F' h1 h2 h3 h4⟩
    · subst e
      obtain ⟨l, el, zl⟩ := c.bind h2
      unfold toI at el
      split at el
      · cases el; exact ⟨_, h5.toInt, q _ ρ' _ H' F' (h1 _) zl h3 h4⟩
      · cases el
end
end Z

set_option Elab.async false
set_option linter.all false
set_option maxRecDepth 100000
set_option autoImplicit false
/-! # Z9: slices, built-in functions, isinstance, repr -/
namespace Z
open PySem L2
section
variable {α : Type} {C : Ct} {ρ : Env} {m : R α}

/-! ### slices -/
def rSlZ (K : PySem.W.Frag) : V → Option Int → Option Int → Hp → VK → Prop := fun x lo hi H Q => ∃ (F : Hp) (a c : D), Same F H ∧ Rp K F x a ∧ slice a lo hi = .ok c ∧ ∀ v H' F', Fx F H F' H' → Rp K F' v c → Q v H'
theorem cut_whole {α : Type} {xs : List α} {lo hi : Option Int} (h : HT.sIx xs.length 0 lo = 0 ∧ HT.sIx xs.length xs.length hi = xs.length) : cut xs lo hi = xs := by
  unfold Z.cut
  rw [h.1, h.2]
  simp
theorem sl_z {X : Cx} : L2.SlR X (rSlZ X.K) := by
  intro pins s σ H x v vl vu lo hi sl Q I rx hs pl pu ⟨F, a, c, sub, ra, e, q⟩
  unfold slice at e
  split at e
  · cases e
    obtain ⟨p, xs, rfl, hp, rxs⟩ := ra.toTup
    refine sl_tupA pins s σ H _ v vl vu lo hi sl Q I rx hs pl pu ⟨p, xs, rfl, seqT sub hp, fun hw => ?_, fun _ => newT sub (rxs.cut lo hi) q⟩
    rw [rxs.length] at hw
    rw [cut_whole hw] at q
    exact q _ H F (Fx.refl sub) (.tup hp rxs)
  · cases e
    obtain ⟨p, xs, rfl, hp, rxs⟩ := ra.toList
    exact sl_list pins s σ H _ v vl vu lo hi sl Q I rx hs pl pu ⟨p, xs, rfl, SqL.of (sub _ _ hp), newL sub (rxs.cut lo hi) q⟩
  · split at e
    · rename_i hz; cases e
      rw [ra.toStr] at rx
      exact sl_str pins s σ H _ v vl vu lo hi sl Q I rx hs pl pu ⟨_, rfl, szOk_line hz, q _ H F (Fx.refl sub) (.str _)⟩
    · cases e
  · cases e
theorem de_slice {κ : D → Env → R α → Prop} {a : Expr} {lo hi : Option Expr} {p pos : Pos} (h : DE C ρ a m fun x ρ1 m1 => DO C ρ1 lo m1 fun l ρ2 m2 => DO C ρ2 hi m2 fun u ρ3 m3 => ∃ g, m3 = (slice x l u).bind g ∧ ∀ z, κ z ρ3 (g z)) :
    DE C ρ (.Subscript a (.Slice lo hi none p) pos) m κ := by
  intro X W Z x hK c z
  refine PE_imp (pe_slice sl_z (h X W Z x hK c z) (po_of x hK c) (po_of x hK c)) fun σ H Q ⟨F, r, q⟩ => ⟨F, r, fun dx ρ1 m1 vx H1 F1 h1 h2 h3 h4 h5 => ?_⟩
  refine ⟨(m1, ρ1), _, ⟨h1, h2⟩, F1, h3, fun dl ρ2 m2 H2 F2 k1 k2 k3 k4 => ?_⟩
  refine ⟨(m2, ρ2), _, ⟨k1, k2⟩, F2, k3, fun du ρ3 m3 H3 F3 ⟨g, e, hg⟩ j2 j3 j4 => ?_⟩
  subst e
  obtain ⟨w, ew, zw⟩ := c.bind j2
  refine ⟨F3, dx, w, j3.sub, by rw [x.K, ← hK]; exact (h5.mono k4).mono j4, ew, fun v' H' F' fx p' => ?_⟩
  exact q _ ρ3 _ v' H' F' (hg w) zw (j3.step fx) (((h4.trans k4).trans j4).trans fx.ff) (by rw [hK, ← x.K]; exact p')
theorem de_negc {κ : D → Env → R α → Prop} {i : Int} {j : Nat} {p pos : Pos} (k : κ (.int (-i)) ρ m) : DE C ρ (.UnaryOp .USub (.Constant (.int i) j p) pos) m κ := by
  intro X W Z x hK c z
  refine PE_imp (pe_un un_neg pe_int) fun σ H Q ⟨F, r, q⟩ => ⟨_, rfl, q _ ρ m _ H F k z r (Same.refl _) (.int _)⟩

/-! ### built-in functions, by data -/
def rD (K : PySem.W.Frag) (f : List D → R D) : List V → Hp → VK → Prop := fun vs H Q => ∃ F ds c, Same F H ∧ RpAll K F vs ds ∧ f ds = .ok c ∧ ∀ v H' F', Fx F H F' H' → Rp K F' v c → Q v H'
def CallS (u : Value) (f : List D → R D) : Prop := ∀ (X : Cx) (k : Nat), X.calm = true → Room k X.A → X.A.guards = some [] → CallR X u (rD X.K f)
theorem da_call {κ : D → Env → R α → Prop} {X : Cx} {W : Wd} {Z : R α → Prop} {f : List D → R D} {es : List Expr} (x : XOk C X) (hK : W.K = C.K) (c : Cl Z) {σ : L2.St} {H : Hp} {Q : VK} {F : Hp} (r : Rel W ρ σ H F)
    (q : ∀ d ρ' m' v H' F', κ d ρ' m' → Z m' → Rel W ρ' σ H' F' → Same F F' → Rp W.K F' v d → Q v H') : ∀ ds ρ' m' vs H' F', (∃ (r0 : R D) (g : D → R α), f ds = r0 ∧ m' = r0.bind g ∧ ∀ z, κ z ρ' (g z)) → Z m' → Rel W ρ' σ H' F' → Same F F' → RpAll W.K F' vs ds → rD X.K f vs H' Q := by
  intro ds ρ' m' vs H' F' ⟨r0, g, e0, e, hg⟩ h2 h3 h4 h5
  subst e0 e
  obtain ⟨w, ew, zw⟩ := c.bind h2
  exact ⟨F', ds, w, h3.sub, by rw [x.K, ← hK]; exact h5, ew, fun v' H2 F2 fx p => q _ ρ' _ v' H2 F2 (hg w) zw (h3.step fx) (h4.trans fx.ff) (by rw [hK, ← x.K]; exact p)⟩
theorem de_blt {κ : D → Env → R α → Prop} {n : Str} {id : String} {f : List D → R D} {p pos : Pos} {e : Expr} {es : List Expr} (hc : CallS (.builtin id) f) (hm : C.mg n = none) (hv : bootBuiltins n = some (.builtin id))
    (h : DA C ρ (e :: es) m fun ds ρ1 m1 => ∃ (r0 : R D) (g : D → R α), f ds = r0 ∧ m1 = r0.bind g ∧ ∀ z, κ z ρ1 (g z)) (hg : C.sc.names.lookup n = some .globalImplicit := by rfl) (hn : n ≠ "__name__" := by decide) (hdb : (n == ("__debug__" : Str)) = false := by decide)
    (he : ∀ env : PySem.Env, starEach (e :: es) env = (false, eval e env) :: starEach es env := by intro _; rfl) (hpl : ∀ env : PySem.Env, (backTo pos (starEach es env)).any (·.1) = false := by intro _; rfl) : DE C ρ (.Call (.Name n p) (e :: es) [] pos) m κ := by
  intro X W Z x hK c z
  refine PE_imp (pe_callB (hc X _ x.calm x.room x.grd) (x.gl hg) (x.mg0 hm) hv (h X W Z x hK c z) hn hdb (he _) (hpl _)) fun σ H Q ⟨F, r, q⟩ => ⟨F, r, da_call (κ := κ) (es := es) x hK c r q⟩
theorem de_bty {κ : D → Env → R α → Prop} {n : Str} {T : String} {f : List D → R D} {p pos : Pos} {e : Expr} {es : List Expr} (hc : CallS (.type T) f) (hm : C.mg n = none) (hv : bootBuiltins n = some (.type T))
    (h : DA C ρ (e :: es) m fun ds ρ1 m1 => ∃ (r0 : R D) (g : D → R α), f ds = r0 ∧ m1 = r0.bind g ∧ ∀ z, κ z ρ1 (g z)) (hg : C.sc.names.lookup n = some .globalImplicit := by rfl) (hn : n ≠ "__name__" := by decide) (hdb : (n == ("__debug__" : Str)) = false := by decide)
    (he : ∀ env : PySem.Env, starEach (e :: es) env = (false, eval e env) :: starEach es env := by intro _; rfl) (hpl : ∀ env : PySem.Env, (backTo pos (starEach es env)).any (·.1) = false := by intro _; rfl) : DE C ρ (.Call (.Name n p) (e :: es) [] pos) m κ := by
  intro X W Z x hK c z
  refine PE_imp (pe_callTy (hc X _ x.calm x.room x.grd) (x.gl hg) (x.mg0 hm) hv (h X W Z x hK c z) hn hdb (he _) (hpl _)) fun σ H Q ⟨F, r, q⟩ => ⟨F, r, da_call (κ := κ) (es := es) x hK c r q⟩
/-- a module's name for a built-in function (gcd) -/
theorem de_bfn {κ : D → Env → R α → Prop} {n : Str} {id : String} {f : List D → R D} {p pos : Pos} {e : Expr} {es : List Expr} (hc : CallS (.builtin id) f) (hm : C.mg n = some (.builtin id))
    (h : DA C ρ (e :: es) m fun ds ρ1 m1 => ∃ (r0 : R D) (g : D → R α), f ds = r0 ∧ m1 = r0.bind g ∧ ∀ z, κ z ρ1 (g z)) (hg : C.sc.names.lookup n = some .globalImplicit := by rfl) (hdb : (n == ("__debug__" : Str)) = false := by decide)
    (he : ∀ env : PySem.Env, starEach (e :: es) env = (false, eval e env) :: starEach es env := by intro _; rfl) (hpl : ∀ env : PySem.Env, (backTo pos (starEach es env)).any (·.1) = false := by intro _; rfl) : DE C ρ (.Call (.Name n p) (e :: es) [] pos) m κ := by
  intro X W Z x hK c z
  refine PE_imp (pe_callBfun (hc X _ x.calm x.room x.grd) (x.gl hg) (by rw [x.mg]; exact hm) (h X W Z x hK c z) hdb (he _) (hpl _)) fun σ H Q ⟨F, r, q⟩ => ⟨F, r, da_call (κ := κ) (es := es) x hK c r q⟩
end

theorem fn1_ok {f : D → R D} {ds : List D} {c : D} (h : fn1 f ds = .ok c) : ∃ a, ds = [a] ∧ f a = .ok c := by
  match ds, h with
  | [a], h => exact ⟨a, rfl, h⟩
theorem fn2_ok {f : D → D → R D} {ds : List D} {c : D} (h : fn2 f ds = .ok c) : ∃ a b, ds = [a, b] ∧ f a b = .ok c := by
  match ds, h with
  | [a, b], h => exact ⟨a, b, rfl, h⟩
theorem bl_len : CallS (.builtin "len") (fn1 lenD) := by
  intro X k hc hr gd pins s σ H vs us Q I rv ⟨F, ds, c, sub, ra0, e0, q⟩
  obtain ⟨a, rfl, e⟩ := fn1_ok e0
  obtain ⟨v, rfl, ra⟩ := ra0.one
  unfold lenD at e
  split at e
  · cases e
    obtain ⟨p, xs, rfl, hp, rxs⟩ := ra.toTup
    exact call_len pins s σ H _ us Q I rv ⟨_, xs.length, rfl, .inr ⟨xs, seqT sub hp, rfl⟩, by rw [rxs.length]; exact q _ H F (Fx.refl sub) (.int _)⟩
  · cases e
    obtain ⟨p, xs, rfl, hp, rxs⟩ := ra.toList
    exact call_len pins s σ H _ us Q I rv ⟨_, xs.length, rfl, .inl ⟨xs, SqL.of (sub _ _ hp), rfl⟩, by rw [rxs.length]; exact q _ H F (Fx.refl sub) (.int _)⟩
  · split at e
    · rename_i hz; cases e
      rw [ra.toStr] at rv
      exact call_len pins s σ H _ us Q I rv ⟨_, _, rfl, ⟨szOk_line hz, rfl⟩, q _ H F (Fx.refl sub) (.int _)⟩
    · cases e
  · cases e
    obtain ⟨u, rfl, ru⟩ := Vals.one rv
    obtain ⟨a, rfl, hs, hz, ys, hd, r, hl⟩ := dct_get I sub ra
    cases ru
    have hz' := hz
    rw [sizeLine_eq] at hz'
    refine PyProof.Rows.call_len_slot (T := "dict") (n := ys.length) (Heap.DictOfH.typeIs hd) PySem.F.slot_dict_len (fun Q' hq => len_keyed (knd := nestedKind X.prog X.w) (kvs := pairsH ys) hs ⟨ys, hd, rfl⟩ (by rw [pairsH_length]; exact hq)) (by omega) (by omega) ?_
    rw [hl]
    exact ⟨.int _, H, I.tok _, ⟨_, rfl⟩, q _ H F (Fx.refl sub) (.int _)⟩
  · cases e
theorem bl_abs : CallS (.builtin "abs") (fn1 absD) := by
  intro X k hc hr gd pins s σ H vs us Q I rv ⟨F, ds, c, sub, ra0, e0, q⟩
  obtain ⟨a, rfl, e⟩ := fn1_ok e0
  obtain ⟨v, rfl, ra⟩ := ra0.one
  unfold absD at e
  split at e
  · cases e
    rw [ra.toInt] at rv
    exact call_abs pins s σ H _ us Q I rv ⟨_, rfl, q _ H F (Fx.refl sub) (.int _)⟩
  · cases e
theorem bl_max2 : CallS (.builtin "max") (fn2 maxD2) := by
  intro X k hc hr gd pins s σ H vs us Q I rv ⟨F, ds, c, sub, ra0, e0, q⟩
  obtain ⟨a, b, rfl, e⟩ := fn2_ok e0
  obtain ⟨v, u, rfl, ra, rb⟩ := ra0.two
  unfold maxD2 at e
  split at e
  · cases e
    rw [ra.toInt, rb.toInt] at rv
    exact call_max2 hc pins s σ H _ us Q I rv ⟨_, _, rfl, q _ H F (Fx.refl sub) (.int _)⟩
  · cases e
theorem bl_min2 : CallS (.builtin "min") (fn2 minD2) := by
  intro X k hc hr gd pins s σ H vs us Q I rv ⟨F, ds, c, sub, ra0, e0, q⟩
  obtain ⟨a, b, rfl, e⟩ := fn2_ok e0
  obtain ⟨v, u, rfl, ra, rb⟩ := ra0.two
  unfold minD2 at e
  split at e
  · cases e
    rw [ra.toInt, rb.toInt] at rv
    exact call_min2 hc pins s σ H _ us Q I rv ⟨_, _, rfl, q _ H F (Fx.refl sub) (.int _)⟩
  · cases e
theorem bl_int : CallS (.type "int") (fn1 intD) := by
  intro X k hc hr gd pins s σ H vs us Q I rv ⟨F, ds, c, sub, ra0, e0, q⟩
  obtain ⟨a, rfl, e⟩ := fn1_ok e0
  obtain ⟨v, rfl, ra⟩ := ra0.one
  unfold intD at e
  split at e
  · cases e
    rw [ra.toInt] at rv
    exact call_int1 pins s σ H _ us Q I rv (.inl ⟨_, rfl, q _ H F (Fx.refl sub) (.int _)⟩)
  · cases e
    rw [ra.toBool] at rv
    exact call_int1 pins s σ H _ us Q I rv (.inr ⟨_, rfl, q _ H F (Fx.refl sub) (.int _)⟩)
  · cases e
theorem bl_gcd : CallS (.builtin "math.gcd") (fn2 gcdD) := by
  intro X k hc hr gd pins s σ H vs us Q I rv ⟨F, ds, c, sub, ra0, e0, q⟩
  obtain ⟨a, b, rfl, e⟩ := fn2_ok e0
  obtain ⟨v, u, rfl, ra, rb⟩ := ra0.two
  unfold gcdD at e
  split at e
  · cases e
    rw [ra.toInt, rb.toInt] at rv
    exact cr_gcd pins s σ H _ us Q I rv ⟨_, _, rfl, q _ H F (Fx.refl sub) (.int _)⟩
  · cases e
theorem bl_tuple : CallS (.type "tuple") (fn1 tupleD) := by
  intro X k hc hr gd pins s σ H vs us Q I rv ⟨F, ds, c, sub, ra0, e0, q⟩
  obtain ⟨a, rfl, e⟩ := fn1_ok e0
  obtain ⟨v, rfl, ra⟩ := ra0.one
  unfold tupleD at e
  split at e
  · cases e
    obtain ⟨p, xs, rfl, hp, rxs⟩ := ra.toList
    exact call_tuple_of pins s σ H _ us Q I rv ⟨_, xs, rfl, .inl ⟨SqL.of (sub _ _ hp), newT sub rxs q⟩⟩
  · cases e
    obtain ⟨p, xs, rfl, hp, rxs⟩ := ra.toTup
    exact call_tuple_of pins s σ H _ us Q I rv ⟨_, xs, rfl, .inr ⟨seqT sub hp, q _ H F (Fx.refl sub) (.tup hp rxs)⟩⟩
  · cases e
theorem keys_rp {K : PySem.W.Frag} {F : Hp} : ∀ {kvs : List (D × D)} {ys : List (NestedKey × Addr × Value)}, Paired (DR K F) kvs ys → RpAll K F (ys.map fun y => .ref y.2.1) (kvs.map (·.1))
  | _, _, .nil => .nil
  | _, _, .cons h t => .cons h.1 (keys_rp t)
theorem keys_vals : ∀ ys : List (NestedKey × Addr × Value), Vals (ys.map fun y => V.ref y.2.1) (ys.map fun y => Value.ref y.2.1)
  | [] => .nil
  | _ :: r => .cons rfl (keys_vals r)
theorem items_keys {P : Program} {w : World} {h : Heap} {ys : List (NestedKey × Addr × Value)} {es : Array DictEntry} {acc : List Value} (hs : es.size = ys.length)
    (he : ∀ i (hi : i < es.size), ∃ y, ys[i]? = some y ∧ es[i].key = .ref y.2.1 ∧ es[i].val = y.2.2 ∧ (nestedKind P w).is h y.1 y.2.1) (hl : acc.length = es.size) (hv : ∀ j v, acc[j]? = some v → ∃ hi : j < es.size, v = es[j].key) :
    acc = ys.map fun y => .ref y.2.1 := by
  apply List.ext_getElem?
  intro j
  by_cases hj : j < es.size
  · obtain ⟨y, e1, e2, _⟩ := he j hj
    have hj' : j < acc.length := by omega
    obtain ⟨_, e3⟩ := hv j acc[j] (List.getElem?_eq_getElem hj')
    rw [List.getElem?_map, e1, List.getElem?_eq_getElem hj', e3, e2]; rfl
  · rw [List.getElem?_eq_none (by omega), List.getElem?_eq_none (by rw [List.length_map]; omega)]
theorem bl_list : CallS (.type "list") (fn1 listD) := by
  intro X k hc hr gd pins s σ H vs us Q I rv ⟨F, ds, c, sub, ra0, e0, q⟩
  obtain ⟨a, rfl, e⟩ := fn1_ok e0
  obtain ⟨v, rfl, ra⟩ := ra0.one
  unfold listD at e
  split at e
  · cases e
    obtain ⟨p, xs, rfl, hp, rxs⟩ := ra.toList
    exact call_list_of pins s σ H _ us Q I rv ⟨_, xs, rfl, .inl (SqL.of (sub _ _ hp)), newL sub rxs q⟩
  · cases e
    obtain ⟨p, xs, rfl, hp, rxs⟩ := ra.toTup
    exact call_list_of pins s σ H _ us Q I rv ⟨_, xs, rfl, .inr (seqT sub hp), newL sub rxs q⟩
  · cases e
    obtain ⟨u, rfl, ru⟩ := Vals.one rv
    obtain ⟨a, rfl, hs, hz, ys, hd, r, hl⟩ := dct_get I sub ra
    cases ru
    obtain ⟨es, ep, hr', hsz, he⟩ := hd.raw
    refine PySem.W.kdl_call (KdlSrc.rawDict (ep := ep) (es := es) hs) (I.ok.hd hc) hr' (by rw [hsz, hl]; exact hz) fun h' tk acc' c' kp hS hacc => ?_
    have ea := items_keys (acc := acc'.toList) hsz he (by rw [Array.length_toList]; exact hacc.1) fun j v e => hacc.2 j v (by rw [← Array.getElem?_toList]; exact e)
    have rp := keys_rp r
    have hp := I.hok.fresh (Nat.le_refl s.heap.objs.size)
    refine ⟨.ref s.heap.objs.size, _, I.laid (t' := tk) (o := .lst (ys.map fun y => V.ref y.2.1)) kp (Nat.le_refl _) ⟨?_, acc'.toList, c', ?_, ?_⟩, rfl, newL sub rp q _ hp⟩
    · rw [List.length_map, hl]; exact hz
    · rw [ea]; exact keys_vals ys
    · rw [Array.toArray_toList]; exact hS
  · cases e
theorem ints_of {K : PySem.W.Frag} {F : Hp} : ∀ {vs : List V} {ds : List D} {ns : List Int}, RpAll K F vs ds → intsD ds = some ns → vs = ns.map V.int
  | _, _, ns, .nil, e => by cases e; rfl
  | _, _, ns, .cons (d := .int i) h t, e => by
    simp only [intsD] at e
    obtain ⟨ms, e1, e2⟩ := Option.map_eq_some_iff.mp e
    subst e2
    rw [h.toInt, ints_of t e1]; rfl
  | _, _, ns, .cons (d := .none) h t, e => by cases e
  | _, _, ns, .cons (d := .bool _) h t, e => by cases e
  | _, _, ns, .cons (d := .str _) h t, e => by cases e
  | _, _, ns, .cons (d := .list _) h t, e => by cases e
  | _, _, ns, .cons (d := .tuple _) h t, e => by cases e
  | _, _, ns, .cons (d := .dict _) h t, e => by cases e
theorem bools_of {K : PySem.W.Frag} {F : Hp} : ∀ {vs : List V} {ds : List D} {ns : List Bool}, RpAll K F vs ds → boolsD ds = some ns → vs = ns.map V.bl
  | _, _, ns, .nil, e => by cases e; rfl
  | _, _, ns, .cons (d := .bool i) h t, e => by
    simp only [boolsD] at e
    obtain ⟨ms, e1, e2⟩ := Option.map_eq_some_iff.mp e
    subst e2
    rw [h.toBool, bools_of t e1]; rfl
  | _, _, ns, .cons (d := .none) h t, e => by cases e
  | _, _, ns, .cons (d := .int _) h t, e => by cases e
  | _, _, ns, .cons (d := .str _) h t, e => by cases e
  | _, _, ns, .cons (d := .list _) h t, e => by cases e
  | _, _, ns, .cons (d := .tuple _) h t, e => by cases e
  | _, _, ns, .cons (d := .dict _) h t, e => by cases e
theorem bl_sum : CallS (.builtin "sum") (fn1 sumL) := by
  intro X k hc hr gd pins s σ H vs us Q I rv ⟨F, ds, c, sub, ra0, e0, q⟩
  obtain ⟨a, rfl, e⟩ := fn1_ok e0
  obtain ⟨v, rfl, ra⟩ := ra0.one
  unfold sumL at e
  split at e
  · split at e
    · rename_i hn; cases e
      obtain ⟨p, xs, rfl, hp, rxs⟩ := ra.toList
      have ex := ints_of rxs hn
      subst ex
      exact cr_sum hc pins s σ H _ us Q I rv ⟨_, _, rfl, SqL.of (sub _ _ hp), q _ H F (Fx.refl sub) (.int _)⟩
    · cases e
  · cases e
theorem bl_all : CallS (.builtin "all") (fn1 allL) := by
  intro X k hc hr gd pins s σ H vs us Q I rv ⟨F, ds, c, sub, ra0, e0, q⟩
  obtain ⟨a, rfl, e⟩ := fn1_ok e0
  obtain ⟨v, rfl, ra⟩ := ra0.one
  unfold allL at e
  split at e
  · split at e
    · rename_i hn; cases e
      obtain ⟨p, xs, rfl, hp, rxs⟩ := ra.toList
      have ex := bools_of rxs hn
      subst ex
      exact cr_all hc pins s σ H _ us Q I rv ⟨_, _, rfl, SqL.of (sub _ _ hp), q _ H F (Fx.refl sub) (.bl _)⟩
    · cases e
  · cases e

/-! ### dict(pairs), sorted -/
section
variable {X : Cx} {pins : List (Addr × Obj)} {σ : L2.St} {H F : Hp} {s : Shared}
theorem pairs_get (I : Inv X pins σ H s) (e : Same F H) : ∀ {vs : List V} {ds : List D} {us : List Value} {qs : List (D × NestedKey × D)}, RpAll X.K F vs ds → Vals vs us → pairsK ds = some qs →
    ∃ ts : List (Addr × NestedKey × Addr × Value), us = ts.map (fun t => .ref t.1) ∧ (∀ t ∈ ts, PyProof.Rows.IsTup s.heap t.1 #[.ref t.2.2.1, t.2.2.2] ∧ (nestedKind X.prog X.w).is s.heap t.2.1 t.2.2.1) ∧
      Paired (fun (q : D × NestedKey × D) (t : Addr × NestedKey × Addr × Value) => q.2.1 = t.2.1 ∧ nk q.1 = some q.2.1 ∧ Rp X.K F (.ref t.2.2.1) q.1 ∧ ∃ v, RelV v t.2.2.2 ∧ Rp X.K F v q.2.2) qs ts
  | _, _, us, qs, .nil, r, h => by
    cases r
    simp only [pairsK, Option.some.injEq] at h; subst h
    exact ⟨[], rfl, by simp, .nil⟩
  | _, _, us, qs, .cons (d := d) ra rt, r, h => by
    cases r with
    | cons r1 r2 =>
      unfold pairsK at h
      split at h
      · rename_i heq; cases heq
      · rename_i kd v rr heq
        cases heq
        obtain ⟨k, e1, h2⟩ := Option.bind_eq_some_iff.mp h
        obtain ⟨qs', e2, rfl⟩ := Option.map_eq_some_iff.mp h2
        obtain ⟨T, xs, rfl, hT, rx⟩ := ra.toTup
        obtain ⟨kv, vv, rfl, rk, rvv⟩ := rx.two
        cases r1
        obtain ⟨b, rfl⟩ := key_ref rk e1
        obtain ⟨k1, k2, _⟩ := keyN_nk e1
        obtain ⟨its, ri, ti, _⟩ := I.tuple (seqT e hT)
        obtain ⟨u1, u2, rfl, q1, q2⟩ := vals2 ri
        cases q1
        obtain ⟨ts, t1, t2, t3⟩ := pairs_get I e rt r2 e2
        refine ⟨(T, k, b, u2) :: ts, by rw [t1]; rfl, fun t ht => ?_, .cons ⟨rfl, k1, rk, vv, q2, rvv⟩ t3⟩
        rcases List.mem_cons.mp ht with rfl | ht
        · exact ⟨ti, key_is I e rk k1 k2⟩
        · exact t2 t ht
      · cases h
end
theorem dmerge_rel {K : PySem.W.Frag} {F : Hp} : ∀ {qs : List (D × NestedKey × D)} {ts : List (Addr × NestedKey × Addr × Value)} {kvs : List (D × D)} {ys : List (NestedKey × Addr × Value)},
    Paired (fun (q : D × NestedKey × D) (t : Addr × NestedKey × Addr × Value) => q.2.1 = t.2.1 ∧ nk q.1 = some q.2.1 ∧ Rp K F (.ref t.2.2.1) q.1 ∧ ∃ v, RelV v t.2.2.2 ∧ Rp K F v q.2.2) qs ts → Paired (DR K F) kvs ys →
    Paired (DR K F) (dMerge kvs qs) (storedAllH ys (ts.map fun t => t.2))
  | _, _, kvs, ys, .nil, r => r
  | _, _, kvs, ys, .cons (a := q) (b := t) (l₁ := qs) (l₂ := ts) ⟨a1, a2, a3, v, a4, a5⟩ tl, r => by
    show Paired _ (dMerge (dSet kvs q.1 q.2.1 q.2.2) qs) (storedAllH (storedH ys t.2.1 t.2.2.1 t.2.2.2) (ts.map fun t => t.2))
    refine dmerge_rel tl ?_
    rw [a1] at a2 ⊢
    exact dset_rel r a3 a2 a4 a5
theorem dmerge_length : ∀ (qs : List (D × NestedKey × D)) (kvs : List (D × D)), (dMerge kvs qs).length ≤ kvs.length + qs.length
  | [], kvs => Nat.le_refl _
  | (kd, k, v) :: qs, kvs => by
    have h1 := dmerge_length qs (dSet kvs kd k v)
    have h2 := dset_length kvs kd k v
    show (dMerge (dSet kvs kd k v) qs).length ≤ _
    rw [List.length_cons]; omega
theorem bl_dict : CallS (.type "dict") (fn1 dictL) := by
  intro X k hc hr gd pins s σ H vs us Q I rv ⟨F, ds, c, sub, ra0, e0, q⟩
  obtain ⟨a, rfl, e⟩ := fn1_ok e0
  obtain ⟨v, rfl, ra⟩ := ra0.one
  unfold dictL at e
  split at e
  · split at e
    · rename_i qs hq
      split at e
      · rename_i hz; cases e
        obtain ⟨p, xs, rfl, hp, rxs⟩ := ra.toList
        obtain ⟨u, rfl, ru⟩ := Vals.one rv
        cases ru
        obtain ⟨its, ri, ⟨o, n, ho, h1, h2, h3⟩, hsz⟩ := I.list (SqL.of (sub _ _ hp))
        obtain ⟨ts, t1, t2, t3⟩ := pairs_get I sub rxs ri hq
        have lts : ts.length = its.length := by rw [t1, List.length_map]
        have lq : qs.length = ts.length := paired_len t3
        have lx : xs.length = its.length := ri.length
        have P := PairArg.list (prog := X.prog) (w := X.w) p its.toArray (fun j => ((ts[j]?).map (·.1)).getD 0) (ts.map fun t => (.ref t.2.2.1, t.2.2.2))
        refine call_dict_pairsH (knd := nestedKind X.prog X.w) (ps := ts.map fun t => t.2) P (I.ok.hd hc) (by have := hr.units; show X.A.units + 1 + 1 + 8 < cLine; omega) ⟨⟨o, n, ho, h1, h2, h3⟩, by simp [lts], fun j kk vv hj => ?_⟩ ⟨by simp, fun i key vv hi => ?_⟩ ?_ (by simp only [List.length_map]; omega) fun h' tk hd hk => ?_
        · rw [List.getElem?_map] at hj
          cases ht : ts[j]? with
          | none => rw [ht] at hj; cases hj
          | some t =>
            rw [ht] at hj
            cases hj
            refine ⟨by rw [t1]; simp [ht], .inl ?_⟩
            have := (t2 t (List.mem_of_getElem? ht)).1
            simp only [ht, Option.map_some, Option.getD_some]
            obtain ⟨oo, g1, g2, nn, g3⟩ := this
            exact ⟨oo, g1, g2, nn, g3⟩
        · have hi' : (ts.map fun t => ((.ref t.2.2.1, t.2.2.2) : Value × Value))[i]? = some (key, vv) := hi
          rw [List.getElem?_map] at hi'
          cases ht : ts[i]? with
          | none => rw [ht] at hi'; cases hi'
          | some t =>
            rw [ht] at hi'; cases hi'
            exact ⟨t.2.1, t.2.2.1, by rw [List.getElem?_map, ht]; rfl, rfl⟩
        · intro h' hk x hx
          obtain ⟨t, ht, rfl⟩ := List.mem_map.mp hx
          exact nestedKind_stays.stays (fun b o vs n e _ => hk b o (Nat.ne_of_lt (Heap.lt_size e)) (by simp) e) (t2 t ht).2
        · refine newD (tk := tk) I sub (fun b o e => hk b o (by simp) e) ?_ hd (dmerge_rel t3 .nil) q
          have := dmerge_length qs []
          rw [List.length_nil] at this
          omega
      · cases e
    · cases e
  · cases e

theorem each_of {X : Cx} {F : Hp} : ∀ {xs : List V} {ds : List D} {us : List Value}, RpAll X.K F xs ds → Vals xs us → W.EachIs (fun v d => ∃ x, RelV x v ∧ Rp X.K F x d) us ds
  | _, _, us, .nil, r => by cases r; exact .nil
  | _, _, us, .cons h t, r => by
    cases r with
    | cons r1 r2 => exact .cons ⟨_, r1, h⟩ (each_of t r2)
theorem each_back {X : Cx} {F : Hp} : ∀ {us : List Value} {ds : List D}, W.EachIs (fun v d => ∃ x, RelV x v ∧ Rp X.K F x d) us ds → ∃ xs, Vals xs us ∧ RpAll X.K F xs ds
  | _, _, .nil => ⟨[], .nil, .nil⟩
  | _, _, .cons ⟨x, h1, h2⟩ t => by
    obtain ⟨xs, a, b⟩ := each_back t
    exact ⟨x :: xs, .cons h1 a, .cons h2 b⟩
theorem each_reads {X : Cx} {F H : Hp} {pins : List (Addr × Obj)} {σ : L2.St} {s : Shared} (I : Inv X pins σ H s) (e : Same F H) : ∀ {us : List Value} {ds : List D}, W.EachIs (fun v d => ∃ x, RelV x v ∧ Rp X.K F x d) us ds → PyData.plainAll ds = true → W.EachIs (fun v d => ∃ as, Reads s.heap v (id d) as) us ds
  | _, _, .nil, _ => .nil
  | _, _, .cons ⟨x, h1, h2⟩ t, p => by
    simp only [PyData.plainAll, Bool.and_eq_true] at p
    exact .cons (h2.reads I e h1 p.1) (each_reads I e t p.2)
mutual
theorem reads_lt {h : Heap} : ∀ {v : Value} {d : D} {as : List Addr}, Reads h v d as → ∀ a ∈ as, a < h.objs.size
  | _, _, _, .none, _, m => nomatch m
  | _, _, _, .bool _, _, m => nomatch m
  | _, _, _, .int _ _, _, m => nomatch m
  | _, _, _, .str _ _, _, m => nomatch m
  | _, _, _, .list ho _ _ r, a, m => by
    rcases List.mem_cons.mp m with rfl | m
    · exact Heap.lt_size ho
    · exact readsAll_lt r a m
  | _, _, _, .tuple ho _ _ r, a, m => readsAll_lt r a m
  | _, _, _, .dict ho _ _ r r', a, m => by
    rcases List.mem_append.mp m with m | m
    · rcases List.mem_cons.mp m with rfl | m
      · exact Heap.lt_size ho
      · exact readsAll_lt r a m
    · exact readsAll_lt r' a m
theorem readsAll_lt {h : Heap} : ∀ {vs : List Value} {ds : List D} {as : List Addr}, ReadsAll h vs ds as → ∀ a ∈ as, a < h.objs.size
  | _, _, _, .nil, _, m => nomatch m
  | _, _, _, .cons r r', a, m => by
    rcases List.mem_append.mp m with m | m
    · exact reads_lt r a m
    · exact readsAll_lt r' a m
end
theorem sort_facts {xs : List D} {c : D} (h : sortL xs = .ok c) : okD (.list xs) = true ∧ W.AllAlike (xs.map id) ∧ W.Sortable (xs.map id) ∧ xs.length ≤ sizeLine ∧ c = .list (xs.mergeSort (W.dataLe false id)) := by
  unfold sortL at h
  split at h
  · rename_i hz
    simp only [Bool.and_eq_true, Bool.or_eq_true] at hz
    obtain ⟨⟨⟨h1, h2⟩, h3⟩, h4⟩ := hz
    cases h
    refine ⟨h1, ?_, ?_, szOk_line h4, rfl⟩
    · intro d hd d' hd'
      rw [List.map_id] at hd hd'
      exact List.all_eq_true.mp (List.all_eq_true.mp h2 d hd) d' hd'
    · rcases h3 with h3 | h3
      · refine .inl fun d hd => ?_
        rw [List.map_id] at hd
        have := List.all_eq_true.mp h3 d hd
        cases d with
        | tuple xs => cases xs with
          | nil => simp [isTup1] at this
          | cons x r => exact ⟨x, r, rfl⟩
        | _ => simp [isTup1] at this
      · refine .inr fun d hd => ?_
        rw [List.map_id] at hd
        have := List.all_eq_true.mp h3 d hd
        simp only [Bool.and_eq_true, Bool.not_eq_true'] at this
        exact ⟨fun e => by rw [e] at this; simp [isNone] at this, fun xs e => by rw [e] at this; simp [isTup] at this⟩
  · cases h
theorem depth_mem {d : D} : ∀ {ds : List D}, d ∈ ds → d.depth ≤ PyData.depthAll ds
  | e :: ds, h => by
    simp only [PyData.depthAll]
    rcases List.mem_cons.mp h with rfl | h
    · exact Nat.le_max_left _ _
    · exact Nat.le_trans (depth_mem h) (Nat.le_max_right _ _)
theorem bl_sorted : CallS (.builtin "sorted") (fn1 sortedL) := by
  intro X k hc hr gd pins s σ H vs us Q I rv ⟨F, ds, c, sub, ra0, e0, q⟩
  obtain ⟨a, rfl, e⟩ := fn1_ok e0
  obtain ⟨v, rfl, ra⟩ := ra0.one
  have un := hr.units
  unfold sortedL at e
  split at e
  · rename_i xs
    obtain ⟨h1, h2, h3, h4, rfl⟩ := sort_facts e
    obtain ⟨p, vs, rfl, hp, rxs⟩ := ra.toList
    obtain ⟨u, rfl, ru⟩ := Vals.one rv
    cases ru
    obtain ⟨its, ri, pl, hsz⟩ := I.list (SqL.of (sub _ _ hp))
    have ee := each_of rxs ri
    refine W.sorted_data (enc := id) pl.isList ee (each_reads I sub ee (plain_list h1)) h2 h3 h4 (fun b hb => ?_) fun out ho eo => ?_
    · have := depth_mem hb
      have := depth_list h1
      show X.A.units + 2 + b.depth < cLine
      omega
    · obtain ⟨xs', a1, a2⟩ := each_back eo
      obtain ⟨cc, hcc⟩ := PyProof.Rows.sortedAll_at s.heap its out.toArray
      have hfr := I.hok.fresh (Nat.le_succ s.heap.objs.size)
      refine ⟨.ref (s.heap.objs.size + 1), _, I.laid (t' := s.toks) (o := .lst xs') (fun _ _ => PyProof.Rows.sortedAll_old) (Nat.le_succ _) ⟨?_, out, cc, a1, hcc⟩, rfl, newL sub a2 q _ hfr⟩
      rw [a1.length, ho]; exact h4
  · rename_i kvs
    obtain ⟨h1, h2, h3, h4, rfl⟩ := sort_facts e
    obtain ⟨u, rfl, ru⟩ := Vals.one rv
    obtain ⟨a, rfl, hs, hz, ys, hd, r, hl⟩ := dct_get I sub ra
    cases ru
    obtain ⟨es, ep, hr', hsz, he⟩ := hd.raw
    refine Calls.call_function_entry PyProof.Rows.kind_sorted PyProof.Rows.plain_sorted PyProof.Rows.entry_sorted (PyProof.Rows.args_sorted1 _) ?_
    unfold Builtin.«sorted»
    refine wpAny_bind (m := checkCount "sorted" 1 1 _) (wpAny_pure ?_)
    refine wpAny_bind (W.kdu_collect (A := X.A.in1) (KdlSrc.rawDict (ep := ep) (es := es) hs) (I.ok.hd hc) hr' (by rw [hsz, hl]; exact hz) fun h' tk acc hk hacc => ?_)
    have ea := items_keys (acc := acc.toList) hsz he (by rw [Array.length_toList]; exact hacc.1) fun j v e => hacc.2 j v (by rw [← Array.getElem?_toList]; exact e)
    have la : acc.toList.length = ys.length := by rw [ea, List.length_map]
    refine wpAny_bind (wpAny_newList ?_ (by rw [la, hl]; exact hz))
    have hD : (h'.push { cls := .type "list", data := .seq acc.toList.toArray }).get? h'.objs.size = some (PyProof.Rows.seqObj "list" acc.toList.toArray 0) := Heap.get?_push_size _ rfl
    have ee := each_of (X := X) (keys_rp r) (keys_vals ys)
    rw [← ea] at ee
    have I1 : Inv X pins σ H { s with heap := h', toks := tk } := I.kept (t' := tk) hk
    have I2 : Inv X pins σ H { s with heap := h'.push { cls := .type "list", data := .seq acc.toList.toArray }, toks := tk } := I1.kept (t' := tk) fun b o e => Heap.get?_push_of_some _ e
    have er : W.EachIs (fun v b => ∃ as, Reads (h'.push { cls := .type "list", data := .seq acc.toList.toArray }) v (id b) as ∧ h'.objs.size ∉ as) acc.toList (kvs.map (·.1)) :=
      (each_reads I1 sub ee (plain_list h1)).mono fun v b ⟨as, rd⟩ => ⟨as, PyProof.Rows.Reads.keeps (fun b o e => Heap.get?_push_of_some _ e) rd, fun hm => absurd (reads_lt rd _ hm) (Nat.lt_irrefl _)⟩
    have go := W.list_sort_data (prog := X.prog) (w := X.w) (A := X.A.in1) (E := X.xe) (s := { s with heap := h'.push { cls := .type "list", data := .seq acc.toList.toArray }, toks := tk }) (enc := id) (Q := fun _ s' => EP X pins σ Q (.ref h'.objs.size) s') hD ee er h2 h3 h4 (fun b hb => by
      have h5 : b.depth ≤ 40 := Nat.le_trans (depth_mem hb) (depth_list h1)
      show X.A.units + 1 + 1 + b.depth < cLine
      omega) fun out ho eo => ?_
    · refine wpAny_bind (wpAny_holding (wpAny_mono go (fun _ s' x => ?_) fun _ _ e => e))
      exact wpAny_pure ⟨_, rfl, x⟩
    · obtain ⟨xs', a1, a2⟩ := each_back eo
      obtain ⟨cc, hcc⟩ := PyProof.Rows.sortedHeap_at (vs := acc.toList) (out := out.toArray) hD
      have hfr : H h'.objs.size = none := I1.hok.fresh (Nat.le_refl _)
      refine ⟨.ref h'.objs.size, _, I1.laid (t' := tk) (o := .lst xs') (fun b o e => (PyProof.Rows.sortedHeap_old (Nat.ne_of_lt (Heap.lt_size e)) (by show b < (h'.push _).objs.size; rw [Heap.size_push]; exact Nat.lt_succ_of_lt (Heap.lt_size e))).trans (Heap.get?_push_of_some _ e)) (Nat.le_refl _) ⟨?_, out, cc, a1, hcc⟩, rfl, newL sub a2 q _ hfr⟩
      rw [a1.length, ho]; exact h4
  · cases e
end Z

set_option Elab.async false
set_option linter.all false
set_option maxRecDepth 100000
set_option autoImplicit false
/-! # Z10: lists of their own -/
namespace Z
open PySem L2

theorem Rel.base {W : Wd} {ρ : Env} {σ : L2.St} {H F : Hp} (r : Rel W ρ σ H F) {b : Addr} (h : H b = none) : W.H0 b = none := by
  cases e : W.H0 b with
  | none => rfl
  | some u => obtain ⟨o, q⟩ := r.trk b u e; rw [h] at q; cases q
/-- a new list of its own at a slot -/
theorem Rel.own {W : Wd} {ρ : Env} {σ : L2.St} {H F : Hp} (r : Rel W ρ σ H F) (i : Nat) {p : Addr} {vs : List V} {ds : List D} (hp : H p = none) (rd : RpAll W.K F vs ds) :
    Rel W (ρ.set i (some (.own ds))) (σ.set i (some (.ref p))) (upd H p (.lst vs)) F := by
  obtain ⟨ad, k⟩ := r.env
  have hF := r.sub.free hp
  have h0 := r.base hp
  have hx : ∀ b o, H b = some o → upd H p (.lst vs) b = some o := fun b o h => by rw [upd_ne (ne_of_none h hp)]; exact h
  have fx : Fx F H F (upd H p (.lst vs)) := ⟨Same.refl _, fun b o h => hx b o (r.sub b o h), hx, fun _ _ h => .inl h⟩
  have r' := r.step fx
  refine ⟨r'.sub, r'.sub0, r'.keep, r'.fresh, ⟨fun j => if j = i then [p] else ad j, fun j sl e => ?_⟩, by rw [List.length_set, List.length_set]; exact r.len, r'.trk⟩
  rcases get_set e with ⟨e1, e2, e3⟩ | ⟨e1, e2⟩
  · subst e1; cases e3
    refine ⟨.ref p, by rw [List.getElem?_set_self (Nat.lt_of_lt_of_le e2 r.len)], ⟨p, vs, rfl, by simp, upd_same, hF, rd⟩, by simp [h0], fun l sl' hl e' b hb => ?_⟩
    have hb' : b = p := by simpa using hb
    subst hb'
    have ne : l ≠ i := fun q => hl q.symm
    simp only [if_neg ne]
    rcases get_set e' with ⟨z1, _, _⟩ | ⟨z1, z2⟩
    · exact absurd z1 hl
    · intro hbl
      obtain ⟨v', k1, k2, _, _⟩ := k l sl' z2
      obtain ⟨_, o, q⟩ := k2.there b hbl
      rw [hp] at q; cases q
  · have ne : j ≠ i := fun q => e1 q.symm
    simp only [if_neg ne]
    obtain ⟨v', k1, k2, k3, k4⟩ := k j sl e2
    refine ⟨v', by rw [List.getElem?_set_ne e1]; exact k1, k2.step fx, k3, fun l sl'' hl e' b hb => ?_⟩
    rcases get_set e' with ⟨z1, z2, z3⟩ | ⟨z1, z2⟩
    · subst z1; cases z3
      simp only [if_true]
      intro hbl
      have hb' : b = p := by simpa using hbl
      subst hb'
      obtain ⟨_, o, q⟩ := k2.there b hb
      rw [hp] at q; cases q
    · have ne' : l ≠ i := fun q => z1 q.symm
      simp only [if_neg ne']
      exact k4 l sl'' hl z2 b hb
/-- from now on nobody changes it -/
theorem Rel.freeze {W : Wd} {ρ : Env} {σ : L2.St} {H F : Hp} (r : Rel W ρ σ H F) {i : Nat} {xs : List D} (e : ρ[i]? = some (some (.own xs))) :
    ∃ p F', σ[i]? = some (some (.ref p)) ∧ Rel W (ρ.set i (some (.val (.list xs)))) σ H F' ∧ Same F F' ∧ Rp W.K F' (.ref p) (.list xs) := by
  obtain ⟨v, as, h1, h2, h3, up⟩ := r.slot e
  obtain ⟨p, vs, rfl, e2, hp, hf, rd⟩ := h2
  subst e2
  have ss : Same F (upd F p (.lst vs)) := fun b o h => by rw [upd_ne (ne_of_none h hf)]; exact h
  have rp : Rp W.K (upd F p (.lst vs)) (.ref p) (.list xs) := .lst upd_same (rd.mono ss)
  refine ⟨p, upd F p (.lst vs), h1, up (as' := []) ⟨ss, fun b o h => ?_, fun b o h _ => h, fun b o h => ⟨o, h⟩, fun b o h => ?_⟩ ⟨rp, rfl⟩ (by simp), ss, rp⟩
  · by_cases hb : b = p
    · subst hb; rw [upd_same] at h; cases h; exact hp
    · rw [upd_ne hb] at h; exact r.sub b o h
  · by_cases hb : b = p
    · subst hb; exact .inr (.inr (by simp))
    · rw [upd_ne hb] at h; exact .inl h
/-- other content -/
theorem Rel.ownAt {W : Wd} {ρ : Env} {σ : L2.St} {H F : Hp} (r : Rel W ρ σ H F) {i : Nat} {xs : List D} (e : ρ[i]? = some (some (.own xs))) :
    ∃ p vs, σ[i]? = some (some (.ref p)) ∧ H p = some (.lst vs) ∧ F p = none ∧ RpAll W.K F vs xs ∧ ∀ vs' xs', RpAll W.K F vs' xs' → Rel W (ρ.set i (some (.own xs'))) σ (upd H p (.lst vs')) F := by
  obtain ⟨v, as, h1, h2, h3, up⟩ := r.slot e
  obtain ⟨p, vs, rfl, e2, hp, hf, rd⟩ := h2
  subst e2
  refine ⟨p, vs, h1, hp, hf, rd, fun vs' xs' rd' => up (as' := [p]) ⟨Same.refl _, fun b o h => ?_, fun b o h hn => ?_, fun b o h => ?_, fun b o h => .inl h⟩ ⟨p, vs', rfl, rfl, upd_same, hf, rd'⟩ (by simp)⟩
  · rw [upd_ne (ne_of_none h hf)]; exact r.sub b o h
  · have : b ≠ p := by simpa using hn
    rw [upd_ne this]; exact h
  · by_cases hb : b = p
    · subst hb; exact ⟨_, upd_same⟩
    · exact ⟨o, by rw [upd_ne hb]; exact h⟩

section
variable {α : Type} {C : Ct} {ρ : Env} {m : R α}

/-- an expression that makes a new list -/
def DN {α : Type} (C : Ct) (ρ : Env) (e : Expr) (m : R α) (κ : List D → Env → R α → Prop) : Prop :=
  ∀ (X : Cx) (W : Wd) (Z : R α → Prop), XOk C X → W.K = C.K → Cl Z → Z m →
    PE X e fun σ H Q => ∃ F, Rel W ρ σ H F ∧ ∀ ds ρ' m' vs p H' F', κ ds ρ' m' → Z m' → Rel W ρ' σ H' F' → Same F F' → H' p = none → RpAll W.K F' vs ds → Q (.ref p) (upd H' p (.lst vs))
theorem dn_lst {κ : List D → Env → R α → Prop} {es : List Expr} {pos : Pos} (h : DA C ρ es m fun ds ρ1 m1 => ds.length ≤ 16777216 ∧ κ ds ρ1 m1) : DN C ρ (.List es pos) m κ := by
  intro X W Z x hK c z
  refine PE_imp (pe_lst (h X W Z x hK c z)) fun σ H Q ⟨F, r, q⟩ => ⟨F, r, fun ds ρ' m' vs H' F' ⟨hz, h1⟩ h2 h3 h4 h5 => ⟨by rw [h5.length, sizeLine_eq]; exact hz, fun p hp => ?_⟩⟩
  exact q ds ρ' m' vs p H' F' h1 h2 h3 h4 hp h5
/-- list(e) -/
theorem dn_list {κ : List D → Env → R α → Prop} {e : Expr} {p pos : Pos} (hm : C.mg ("list" : Str) = none) (h : DE C ρ e m fun d ρ1 m1 => ∃ g, m1 = (iterL d).bind g ∧ ∀ xs, κ xs ρ1 (g xs))
    (hg : C.sc.names.lookup ("list" : Str) = some .globalImplicit := by rfl) (he : ∀ env : PySem.Env, starEach [e] env = (false, eval e env) :: starEach [] env := by intro _; rfl) (hpl : ∀ env : PySem.Env, (backTo pos (starEach [] env)).any (·.1) = false := by intro _; rfl) : DN C ρ (.Call (.Name "list" p) [e] [] pos) m κ := by
  intro X W Z x hK c z
  have ha : DA C ρ [e] m fun ds ρ1 m1 => ∃ d, ds = [d] ∧ ∃ g, m1 = (iterL d).bind g ∧ ∀ xs, κ xs ρ1 (g xs) :=
    da_cons (fun X W Z x hK c z => PE_imp (h X W Z x hK c z) fun σ H Q ⟨F, r, q⟩ => ⟨F, r, fun d ρ' m' v H' F' k1 => q d ρ' m' v H' F' (da_nil ⟨d, rfl, k1⟩)⟩) he
  refine PE_imp (pe_callTy call_list_of (x.gl hg) (x.mg0 hm) rfl (ha X W Z x hK c z) (by decide) (by decide) (he _) (hpl _)) fun σ H Q ⟨F, r, q⟩ => ⟨F, r, fun ds ρ' m' vs H' F' ⟨d, e1, g, e2, hgg⟩ h2 h3 h4 h5 => ?_⟩
  subst e1 e2
  obtain ⟨xs, ex, zx⟩ := c.bind h2
  obtain ⟨v, rfl, rd⟩ := h5.one
  have sub := h3.sub
  unfold iterL at ex
  split at ex
  · cases ex
    obtain ⟨p, ys, rfl, hp, rys⟩ := rd.toTup
    exact ⟨p, ys, rfl, .inr (by rw [x.K, ← hK]; exact seqT sub hp), fun l hl => q _ ρ' _ ys l H' F' (hgg _) zx h3 h4 hl rys⟩
  · cases ex
    obtain ⟨p, ys, rfl, hp, rys⟩ := rd.toList
    exact ⟨p, ys, rfl, .inl (SqL.of (sub _ _ hp)), fun l hl => q _ ρ' _ ys l H' F' (hgg _) zx h3 h4 hl rys⟩
  · cases ex
theorem ds_own {J : Jd α} {n : Str} {e : Expr} {p pos : Pos} {rest : List Stmt} (i : Nat) (h : DN C ρ e m fun ds ρ1 m1 => DSs C (ρ1.set i (some (.own ds))) rest m1 J) (hN : C.N[i]? = some n := by rfl)
    (hx : Loc C.sc n := by first | exact Or.inl rfl | exact Or.inr rfl) (hfn : C.fn n = true ∨ C.sc.names.lookup n = some .local := by first | exact Or.inl rfl | exact Or.inr rfl) (hs : ∀ env : PySem.Env, env.scope = C.sc → swapsWith e (some (.Name n p)) pos.line env = pure false := by intro env he; rfl) : DSs C ρ (.Assign [.Name n p] e pos :: rest) m J := by
  intro X W Z x hK c z
  have hf : X.fn n = true ∨ X.env.scope.names.lookup n = some .local := hfn.elim (fun h => .inl (x.fnl n h)) fun h => .inr (by rw [x.sc]; exact h)
  refine PSs_imp (pss_cons (ps_set (i := i) (by rw [x.N]; exact x.nd) (by rw [x.N]; exact hN) (by rw [x.sc]; exact hx) (h X W Z x hK c z) (hs _ x.sc) hf) (rest_run (J := J) x hK c)) fun D σ H ⟨F, r, l⟩ => ?_
  exact ⟨F, r, fun d ρ' m' vs p H' F' h1 h2 h3 _ h4 h5 => ⟨(m', _), ⟨h1, h2⟩, F', h3.own i h4 h5, l⟩⟩
/-- it is read, and from now on a value -/
theorem de_take {κ : D → Env → R α → Prop} {n : Str} {pos : Pos} (i : Nat) {xs : List D} (hρ : ρ[i]? = some (some (.own xs))) (k : κ (.list xs) (ρ.set i (some (.val (.list xs)))) m) (hN : C.N[i]? = some n := by rfl)
    (hv : Vis C.sc n := by first | exact Or.inl rfl | exact Or.inr (Or.inl rfl) | exact Or.inr (Or.inr rfl)) (hd : (n == ("__debug__" : Str)) = false := by decide) (hcd : (n == ("__classdict__" : Str)) = false := by decide) : DE C ρ (.Name n pos) m κ := by
  intro X W Z x hK c z
  refine PE_imp (pe_var (i := i) (by rw [x.N]; exact hN) (x.vis hv) hd hcd) fun σ H Q ⟨F, r, q⟩ => ?_
  obtain ⟨p, F', h1, h2, h3, h4⟩ := r.freeze hρ
  exact ⟨_, h1, q _ _ m _ H F' k z h2 h3 h4⟩
/-- its name, alone, as a part of another reading -/
theorem own_name {X : Cx} (x : XOk C X) {n : Str} {pos : Pos} {i : Nat} (hN : C.N[i]? = some n) (hv : Vis C.sc n) (hd : (n == ("__debug__" : Str)) = false) (hcd : (n == ("__classdict__" : Str)) = false) : PE X (.Name n pos) fun σ H Q => ∃ v, σ[i]? = some (some v) ∧ Q v H :=
  pe_var (i := i) (by rw [x.N]; exact hN) (x.vis hv) hd hcd

/-! ### methods that change it -/
def rOwn (K : PySem.W.Frag) (f : List D → List D → R (D × List D)) : V → List V → Hp → VK → Prop := fun x ws H Q => ∃ F p vs xs ds r ys, x = .ref p ∧ H p = some (.lst vs) ∧ Same F H ∧ RpAll K F vs xs ∧ RpAll K F ws ds ∧ f xs ds = .ok (r, ys) ∧
  ∀ v vs', Rp K F v r → RpAll K F vs' ys → Q v (upd H p (.lst vs'))
def OwnM (id : String) (f : List D → List D → R (D × List D)) : Prop := ∀ X : Cx, MtR X id (rOwn X.K f)
theorem om_append : OwnM "list.append" pushM := by
  intro X pins s σ H x ws v us Q I rx rv ⟨F, p, vs, xs, ds, r, ys, e1, hp, sub, rd, ra, e, q⟩
  subst e1
  unfold pushM at e
  split at e
  · split at e
    · rename_i hz; cases e
      obtain ⟨w, rfl, rw'⟩ := ra.one
      refine mt_append pins s σ H _ _ v us Q I rx rv ⟨p, vs, w, rfl, rfl, hp, by rw [rd.length, sizeLine_eq]; simpa using hz, q .non _ .non (rd.snoc rw')⟩
    · cases e
  · cases e
theorem om_extend : OwnM "list.extend" extendM := by
  intro X pins s σ H x ws v us Q I rx rv ⟨F, p, vs, xs, ds, r, ys, e1, hp, sub, rd, ra, e, q⟩
  subst e1
  unfold extendM at e
  split at e
  · split at e
    · rename_i hz; cases e
      obtain ⟨w, rfl, rw'⟩ := ra.one
      obtain ⟨b, zs, rfl, hb, rz⟩ := rw'.toList
      refine mt_extend pins s σ H _ _ v us Q I rx rv ⟨p, b, vs, zs, rfl, rfl, hp, sub _ _ hb, by rw [rd.length, rz.length]; exact szOk_line hz, q .non _ .non (rd.append rz)⟩
    · cases e
  · cases e
theorem RpAll.eraseIdx {K : PySem.W.Frag} {F : Hp} : ∀ {vs : List V} {ds : List D} (n : Nat), RpAll K F vs ds → RpAll K F (vs.eraseIdx n) (ds.eraseIdx n)
  | _, _, _, .nil => .nil
  | _, _, 0, .cons _ t => t
  | _, _, n + 1, .cons r t => .cons r (RpAll.eraseIdx n t)
theorem RpAll.set {K : PySem.W.Frag} {F : Hp} {v : V} {d : D} (h : Rp K F v d) : ∀ {vs : List V} {ds : List D} (n : Nat), RpAll K F vs ds → RpAll K F (vs.set n v) (ds.set n d)
  | _, _, _, .nil => .nil
  | _, _, 0, .cons _ t => .cons h t
  | _, _, n + 1, .cons r t => .cons r (RpAll.set h n t)
theorem RpAll.dropLast {K : PySem.W.Frag} {F : Hp} {vs : List V} {ds : List D} (r : RpAll K F vs ds) : RpAll K F vs.dropLast ds.dropLast := by
  rw [List.dropLast_eq_take, List.dropLast_eq_take, r.length]; exact r.take _
theorem om_pop0 : OwnM "list.pop" pop0M := by
  intro X pins s σ H x ws v us Q I rx rv ⟨F, p, vs, xs, ds, r, ys, e1, hp, sub, rd, ra, e, q⟩
  subst e1
  unfold pop0M at e
  split at e
  · split at e
    · rename_i hz; cases e
      cases ra
      rw [List.getLast?_eq_getElem?, ← rd.length] at hz
      obtain ⟨w, h1, h2⟩ := rd.at hz
      refine mt_pop pins s σ H _ _ v us Q I rx rv ⟨p, vs, w, rfl, rfl, hp, h1, q w _ h2 rd.dropLast⟩
    · cases e
  · cases e
theorem om_pop1 : OwnM "list.pop" pop1M := by
  intro X pins s σ H x ws v us Q I rx rv ⟨F, p, vs, xs, ds, r, ys, e1, hp, sub, rd, ra, e, q⟩
  subst e1
  unfold pop1M at e
  split at e
  · split at e
    · rename_i j hj
      split at e
      · rename_i hz; cases e
        obtain ⟨w, rfl, rw'⟩ := ra.one
        rw [rw'.toInt] at rv
        obtain ⟨w', h1, h2⟩ := rd.at hz
        rw [← rd.length] at hj
        obtain ⟨k1, k2, k3, k4⟩ := ixN_seq hj
        obtain ⟨its, n, r, ho, hsz⟩ := I.lst hp
        have hn := line63
        refine mt_popAt pins s σ H _ _ v us Q I rx rv ⟨p, vs, _, j, w', rfl, rfl, hp, ?_, ?_, k1, h1, q w' _ h2 (rd.eraseIdx j)⟩ <;> omega
      · cases e
    · cases e
  · cases e
theorem de_om {κ : D → Env → R α → Prop} {name : Str} {id : String} {f : List D → List D → R (D × List D)} {n : Str} {np ap cp : Pos} {e : Expr} {es : List Expr} {xs0 : List D} (slot : Slot "list" name id) (hty : typeOf (.builtin id) = pure (.type "method_descriptor")) (hm : OwnM id f) (i : Nat) (hρ : ρ[i]? = some (some (.own xs0)))
    (h : DA C ρ (e :: es) m fun ds ρ1 m1 => ∃ xs g, ρ1[i]? = some (some (.own xs)) ∧ m1 = (f xs ds).bind g ∧ ∀ r ys, κ r (ρ1.set i (some (.own ys))) (g (r, ys))) (hN : C.N[i]? = some n := by rfl)
    (hv : Vis C.sc n := by first | exact Or.inl rfl | exact Or.inr (Or.inl rfl) | exact Or.inr (Or.inr rfl)) (hd : (n == ("__debug__" : Str)) = false := by decide) (hcd : (n == ("__classdict__" : Str)) = false := by decide)
    (hbase : ∀ env : PySem.Env, env.scope = C.sc → attributeBase (.Name n np) name env (eval (.Name n np) env) = eval (.Name n np) env := by intro env he; rfl)
    (hfew : ∀ env : PySem.Env, ((backTo cp (starEach (e :: es) env)).all (fun x => !x.1) && (backToKw cp (keywordEach [] env)).all (fun x => x.1.isSome)
      && decide ((e :: es).length + ([] : List Keyword).length + (if ([] : List Keyword).isEmpty then 0 else 1) < 30)) = true := by intro _; rfl)
    (hline : (ap.endLine == cp.line) = true := by rfl) (he : ∀ env : PySem.Env, starEach (e :: es) env = (false, eval e env) :: starEach es env := by intro _; rfl) (hpl : ∀ env : PySem.Env, (backTo cp (starEach es env)).any (·.1) = false := by intro _; rfl) :
    DE C ρ (.Call (.Attribute (.Name n np) name ap) (e :: es) [] cp) m κ := by
  intro X W Z x hK c z
  refine PE_imp (pe_bm F.plainAttrs_list slot hty (hm X) (own_name x hN hv hd hcd) (h X W Z x hK c z) (hbase _ x.sc) (hfew _) hline (he _) (hpl _)) fun σ H Q ⟨F, r, q⟩ => ?_
  obtain ⟨p, vs, h1, h2, _, _, _⟩ := r.ownAt hρ
  refine ⟨_, h1, .inl ⟨rfl, _, SqL.of h2⟩, F, r, fun ds ρ' m' ws H' F' ⟨xs, g, e1, e2, hg⟩ k2 k3 k4 k5 => ?_⟩
  subst e2
  obtain ⟨p', vs', j1, j2, j3, j4, j5⟩ := k3.ownAt e1
  rw [h1] at j1; cases j1
  obtain ⟨⟨rr, ys⟩, er, zr⟩ := c.bind k2
  refine ⟨F', p, vs', xs, ds, rr, ys, rfl, j2, k3.sub, by rw [x.K, ← hK]; exact j4, by rw [x.K, ← hK]; exact k5, er, fun v vs2 rp rd => ?_⟩
  rw [x.K, ← hK] at rp rd
  exact q _ _ _ v _ F' (hg rr ys) zr (j5 vs2 ys rd) k4 rp
theorem de_om0 {κ : D → Env → R α → Prop} {name : Str} {id : String} {f : List D → List D → R (D × List D)} {n : Str} {np ap cp : Pos} {xs : List D} {g : D × List D → R α} (slot : Slot "list" name id) (hty : typeOf (.builtin id) = pure (.type "method_descriptor")) (hm : OwnM id f) (i : Nat) (hρ : ρ[i]? = some (some (.own xs)))
    (e : m = (f xs []).bind g) (k : ∀ r ys, κ r (ρ.set i (some (.own ys))) (g (r, ys))) (hN : C.N[i]? = some n := by rfl)
    (hv : Vis C.sc n := by first | exact Or.inl rfl | exact Or.inr (Or.inl rfl) | exact Or.inr (Or.inr rfl)) (hd : (n == ("__debug__" : Str)) = false := by decide) (hcd : (n == ("__classdict__" : Str)) = false := by decide)
    (hbase : ∀ env : PySem.Env, env.scope = C.sc → attributeBase (.Name n np) name env (eval (.Name n np) env) = eval (.Name n np) env := by intro env he; rfl)
    (hline : (ap.endLine == cp.line) = true := by rfl) :
    DE C ρ (.Call (.Attribute (.Name n np) name ap) [] [] cp) m κ := by
  intro X W Z x hK c z
  refine PE_imp (pe_bm0 F.plainAttrs_list slot hty (hm X) (own_name x hN hv hd hcd) (hbase _ x.sc) hline) fun σ H Q ⟨F, r, q⟩ => ?_
  subst e
  obtain ⟨p, vs, h1, h2, h3, h4, h5⟩ := r.ownAt hρ
  obtain ⟨⟨rr, ys⟩, er, zr⟩ := c.bind z
  refine ⟨_, h1, .inl ⟨rfl, _, SqL.of h2⟩, F, p, vs, xs, [], rr, ys, rfl, h2, r.sub, by rw [x.K, ← hK]; exact h4, .nil, er, fun v vs2 rp rd => ?_⟩
  rw [x.K, ← hK] at rp rd
  exact q _ _ _ v _ F (k rr ys) zr (h5 vs2 ys rd) (Same.refl _) rp
/-- an expression for what it does -/
theorem ds_expr {J : Jd α} {e : Expr} {pos : Pos} {rest : List Stmt} (h : DE C ρ e m fun _ ρ1 m1 => DSs C ρ1 rest m1 J) (hs : ∀ env : PySem.Env, env.scope = C.sc → swapsWith e none pos.line env = pure false := by intro env he; rfl) : DSs C ρ (.Expr e pos :: rest) m J := by
  intro X W Z x hK c z
  refine PSs_imp (pss_cons (ps_expr (h X W Z x hK c z) (hs _ x.sc)) (rest_run (J := J) x hK c)) fun D σ H ⟨F, r, l⟩ => ?_
  exact ⟨F, r, fun d ρ' m' v H' F' h1 h2 h3 h4 h5 => ⟨(m', ρ'), ⟨h1, h2⟩, F', h3, l⟩⟩
/-- x[e1] = e2 -/
theorem ds_setIx {J : Jd α} {n : Str} {e1 e2 : Expr} {np sp pos : Pos} {rest : List Stmt} (i : Nat) (h : DE C ρ e2 m fun d ρ1 m1 => (∃ xs0, ρ1[i]? = some (some (.own xs0))) ∧ DE C ρ1 e1 m1 fun j ρ2 m2 => ∃ xs g, ρ2[i]? = some (some (.own xs)) ∧ m2 = (setM xs j d).bind g ∧ ∀ ys, DSs C (ρ2.set i (some (.own ys))) rest (g ys) J) (hN : C.N[i]? = some n := by rfl)
    (hv : Vis C.sc n := by first | exact Or.inl rfl | exact Or.inr (Or.inl rfl) | exact Or.inr (Or.inr rfl)) (hd : (n == ("__debug__" : Str)) = false := by decide) (hcd : (n == ("__classdict__" : Str)) = false := by decide)
    (ha : ∀ (env : PySem.Env) v, assign (.Subscript (.Name n np) e1 sp) env v = (do
      let ov ← holding [v] (eval (.Name n np) env)
      let iv ← holding [v, ov] (eval e1 env)
      standAt sp
      holding [v, ov, iv] (setItem ov iv v)
      release [v, ov, iv] []) := by intro _ _; rfl)
    (hs : ∀ env : PySem.Env, env.scope = C.sc → swapsWithSole [.Subscript (.Name n np) e1 sp] e2 pos.line env = pure false := by intro env he; rfl) (hw : ∀ env : PySem.Env, env.scope = C.sc → swappedStores [.Subscript (.Name n np) e1 sp] e2 env = pure none := by intro env he; rfl)
    (h1 : ∀ env : PySem.Env, (assignEach [.Subscript (.Name n np) e1 sp] env).map (·.2) = [assign (.Subscript (.Name n np) e1 sp) env] := by intro _; rfl) : DSs C ρ (.Assign [.Subscript (.Name n np) e1 sp] e2 pos :: rest) m J := by
  intro X W Z x hK c z
  have hi : PE X e1 fun σ H Q => ∃ (q : R α × Env) (κ : D → Env → R α → Prop), (DE C q.2 e1 q.1 κ ∧ Z q.1) ∧ ∃ F, Rel W q.2 σ H F ∧ ∀ d ρ' m' v H' F', κ d ρ' m' → Z m' → Rel W ρ' σ H' F' → Same F F' → Rp W.K F' v d → Q v H' :=
    ⟨fun p s σ H Q I ⟨i, κ, pi, q⟩ => (pi.1 X W Z x hK c pi.2).run p s σ H Q I q⟩
  refine PSs_imp (pss_cons (ps_asg (h X W Z x hK c z) (pg_sub (own_name x hN hv hd hcd) hi set_list (ha _)) (hs _ x.sc) (hw _ x.sc) (h1 _)) (rest_run (J := J) x hK c)) fun Dn σ H ⟨F, r, l⟩ => ?_
  refine ⟨F, r, fun d ρ1 m1 v H1 F1 ⟨⟨xs0, e0⟩, k1⟩ k2 k3 k4 k5 => ?_⟩
  obtain ⟨p, vs, a1, a2, _, _, _⟩ := k3.ownAt e0
  refine ⟨_, a1, (m1, ρ1), _, ⟨k1, k2⟩, F1, k3, fun j ρ2 m2 w H2 F2 ⟨xs, g, b1, b2, b3⟩ j2 j3 j4 j5 => ?_⟩
  subst b2
  obtain ⟨p', vs', c1, c2, _, c4, c5⟩ := j3.ownAt b1
  rw [a1] at c1; cases c1
  obtain ⟨ys, ey, zy⟩ := c.bind j2
  unfold setM at ey
  split at ey
  · split at ey
    · rename_i jj hj; cases ey
      rw [← c4.length] at hj
      refine ⟨p, vs', _, jj, rfl, j5.toInt, c2, hj, (_, _), ⟨b3 _, zy⟩, F2, c5 _ _ (c4.set (k5.mono j4) jj), l⟩
    · cases ey
  · cases ey
/-- x[e] -/
theorem de_ixOwn {κ : D → Env → R α → Prop} {n : Str} {b : Expr} {np pos : Pos} {xs0 : List D} (i : Nat) (hρ : ρ[i]? = some (some (.own xs0))) (h : DE C ρ b m fun y ρ2 m2 => ∃ xs g, ρ2[i]? = some (some (.own xs)) ∧ m2 = (item (.list xs) y).bind g ∧ ∀ z, κ z ρ2 (g z)) (hN : C.N[i]? = some n := by rfl)
    (hv : Vis C.sc n := by first | exact Or.inl rfl | exact Or.inr (Or.inl rfl) | exact Or.inr (Or.inr rfl)) (hd : (n == ("__debug__" : Str)) = false := by decide) (hcd : (n == ("__classdict__" : Str)) = false := by decide) (hs : PlainIx b := by intro _ _; rfl) : DE C ρ (.Subscript (.Name n np) b pos) m κ := by
  intro X W Z x hK c z
  refine PE_imp (pe_ix (r := rIxL X.K) ix_list (own_name x hN hv hd hcd) (h X W Z x hK c z) hs) fun σ H Q ⟨F, r, q⟩ => ?_
  obtain ⟨p, vs, a1, a2, _, _, _⟩ := r.ownAt hρ
  refine ⟨_, a1, F, r, fun y ρ2 m2 w H2 F2 ⟨xs, g, b1, b2, b3⟩ j2 j3 j4 j5 => ?_⟩
  subst b2
  obtain ⟨p', vs', c1, c2, _, c4, _⟩ := j3.ownAt b1
  rw [a1] at c1; cases c1
  obtain ⟨ys, ey, zy⟩ := c.bind j2
  cases y <;> first | (exact absurd ey (by intro q; cases q)) | skip
  simp only [item] at ey
  unfold atD at ey
  split at ey
  · rename_i hj; cases ey
    obtain ⟨v', d1, d2⟩ := c4.atI hj
    exact ⟨p, vs', _, v', rfl, j5.toInt, SqL.of c2, d1, q _ ρ2 _ v' H2 F2 (b3 _) zy j3 j4 d2⟩
  · cases ey

/-! ### a look at what is one's own -/
def viewS : Option Sl → Option Sl
  | some (.val d) => some (.val d)
  | some (.own xs) => some (.val (.list xs))
  | _ => none
def viewE (ρ : Env) : Env := ρ.map viewS
theorem Rel.view {W : Wd} {ρ : Env} {σ : L2.St} {H F : Hp} (r : Rel W ρ σ H F) : ∃ F2, Rel ⟨W.K, F2, H, []⟩ (viewE ρ) σ H F2 ∧ Same F F2 := by
  classical
  let F2 : Hp := fun b => match F b with
    | some o => some o
    | none => if ∃ (i : Nat) (xs : List D), ρ[i]? = some (some (Sl.own xs)) ∧ σ[i]? = some (some (V.ref b)) then H b else none
  have ss : Same F F2 := fun b o h => by simp only [F2, h]
  have sh : Same F2 H := fun b o h => by
    simp only [F2] at h
    cases e : F b with
    | some u => rw [e] at h; cases h; exact r.sub b _ e
    | none =>
      rw [e] at h
      simp only at h
      split at h
      · exact h
      · cases h
  refine ⟨F2, VRel.rel (K := W.K) ⟨fun i d e => ?_, ?_⟩ (fun i sl e => ?_) sh, ss⟩
  · unfold viewE at e
    rw [List.getElem?_map] at e
    cases e1 : ρ[i]? with
    | none => rw [e1] at e; cases e
    | some q =>
      rw [e1] at e
      cases q with
      | none => cases e
      | some sl =>
        cases sl with
        | val d' =>
          cases e
          obtain ⟨v, h1, h2⟩ := r.val e1
          exact ⟨v, h1, h2.mono ss⟩
        | own xs =>
          cases e
          obtain ⟨p, vs, h1, h2, h3, h4, _⟩ := r.ownAt e1
          refine ⟨_, h1, .lst ?_ (h4.mono ss)⟩
          simp only [F2, h3]
          rw [if_pos ⟨i, xs, e1, h1⟩]; exact h2
        | src _ _ => cases e
        | scr _ => cases e
  · unfold viewE; rw [List.length_map]; exact r.len
  · unfold viewE at e
    rw [List.getElem?_map] at e
    cases e1 : ρ[i]? with
    | none => rw [e1] at e; cases e
    | some q =>
      rw [e1] at e
      cases q with
      | none => cases e
      | some sl => cases sl <;> cases e <;> exact ⟨_, rfl⟩
theorem Rel.unview {W : Wd} {ρ ρ' : Env} {σ σ' : L2.St} {H F F2 H' F' : Hp} {K : PySem.W.Frag} (r : Rel W ρ σ H F) (ss : Same F F2) (r' : Rel ⟨K, F2, H, []⟩ ρ' σ' H' F') : Rel W ρ σ H' F :=
  r.step ⟨Same.refl _, fun b o h => r'.sub b o (r'.sub0 b o (ss b o h)), fun b o h => r'.keep b o h (by simp), fun b o h => .inl h⟩
theorem dt_peek {κ : Bool → Env → R α → Prop} {e : Expr} {r : R Bool} {g : Bool → R α} (h : DT C (viewE ρ) e r fun b ρ' m' => m' = .ok b) (k : ∀ b, κ b ρ (g b)) : DT C ρ e (r.bind g) κ := by
  intro X W Z x hK c z
  obtain ⟨b, e1, z1⟩ := c.bind z
  have hv : PT X e fun σ H Q => ∃ (W' : Wd), W'.K = C.K ∧ ∃ F, Rel W' (viewE ρ) σ H F ∧ ∀ (b : Bool) (ρ' : Env) (m' : R Bool) (H' F' : Hp), m' = .ok b → (∃ p, m' = .ok p ∧ Z (g p)) → Rel W' ρ' σ H' F' → Same F F' → Q b H' :=
    ⟨fun p s σ H Q I ⟨W', hK', q⟩ => (h X W' _ x hK' (c.at g) ⟨b, e1, z1⟩).run p s σ H Q I q⟩
  refine PT_imp hv fun σ H Q ⟨F, rl, q⟩ => ?_
  obtain ⟨F2, r2, ss⟩ := rl.view
  refine ⟨⟨W.K, F2, H, []⟩, hK, F2, r2, fun b ρ' m' H' F' e2 ⟨p, e3, z3⟩ h3 h4 => ?_⟩
  subst e2; cases e3
  exact q _ ρ _ H' F (k _) z3 (rl.unview ss h3) (Same.refl _)
theorem de_peek {κ : D → Env → R α → Prop} {e : Expr} {r : R D} {g : D → R α} (h : DE C (viewE ρ) e r fun d ρ' m' => m' = .ok d) (k : ∀ d, κ d ρ (g d)) : DE C ρ e ((flatR r).bind g) κ := by
  intro X W Z x hK c z
  obtain ⟨b, e1, z1⟩ := c.bind z
  unfold flatR at e1
  obtain ⟨b', e0, e1⟩ := R.bind_eq_ok e1
  split at e1
  · rename_i hfl; cases e1
    have hv : PE X e fun σ H Q => ∃ (W' : Wd), W'.K = C.K ∧ ∃ F, Rel W' (viewE ρ) σ H F ∧ ∀ (d : D) (ρ' : Env) (m' : R D) (v : V) (H' F' : Hp), m' = .ok d → m' = .ok b → Rel W' ρ' σ H' F' → Same F F' → Rp W'.K F' v d → Q v H' :=
      ⟨fun p s σ H Q I ⟨W', hK', q⟩ => (h X W' (fun m' => m' = .ok b) x hK' ⟨(fun e => nomatch e), (fun _ _ e => nomatch e)⟩ e0).run p s σ H Q I q⟩
    refine PE_imp hv fun σ H Q ⟨F, rl, q⟩ => ?_
    obtain ⟨F2, r2, ss⟩ := rl.view
    refine ⟨⟨W.K, F2, H, []⟩, hK, F2, r2, fun d ρ' m' v H' F' e2 e3 h3 h4 h5 => ?_⟩
    subst e2; cases e3
    have rp : Rp W.K F v b := by
      cases h5 <;> first | exact .non | exact .bl _ | exact .int _ | exact .str _ | (simp [flatB] at hfl)
    exact q _ ρ _ v H' F (k _) z1 (rl.unview ss h3) (Same.refl _) rp
  · cases e1
end
end Z

set_option Elab.async false
set_option linter.all false
set_option maxRecDepth 100000
set_option autoImplicit false
/-! # Z11: comprehensions whose element changes something -/
namespace Z
open PySem L2

theorem upd_upd {H : Hp} {p : Addr} {u u' : HO} : upd (upd H p u) p u' = upd H p u' := by
  funext b
  by_cases h : b = p
  · subst h; rw [upd_same, upd_same]
  · rw [upd_ne h, upd_ne h, upd_ne h]
section
variable {K : PySem.W.Frag} {F0 H0 H F : Hp} {io : List Addr} {ρ : Env} {σ : L2.St} {D' : Addr}
theorem Rel.newAt (r : Rel ⟨K, F0, H0, io⟩ ρ σ H F) (h0 : H0 D' = none) (hD : H D' = none) (u : HO) : Rel ⟨K, F0, upd H0 D' u, io⟩ ρ σ (upd H D' u) F := by
  have hx : ∀ b o, H b = some o → upd H D' u b = some o := fun b o h => by rw [upd_ne (ne_of_none h hD)]; exact h
  have fx : Fx F H F (upd H D' u) := ⟨Same.refl _, fun b o h => hx b o (r.sub b o h), hx, fun _ _ h => .inl h⟩
  have no : ∀ b o, H b = some o → H0 b = none → upd H0 D' u b = none := fun b o h q => by rw [upd_ne (ne_of_none h hD)]; exact q
  refine ⟨fx.fh, r.sub0, fun b o h n => ?_, fun b o h => ?_, ?_, r.len, fun b o h => ?_⟩
  · by_cases hb : b = D'
    · subst hb
      replace h : upd H0 b u b = some o := h
      rw [upd_same] at h ⊢; exact h
    · replace h : upd H0 D' u b = some o := h
      rw [upd_ne hb] at h; exact hx b o (r.keep b o h n)
  · rcases r.fresh b o h with q | q | q
    · exact .inl q
    · exact .inr (.inl (no b o (r.sub b o h) q))
    · exact .inr (.inr q)
  · obtain ⟨ad, k⟩ := r.env
    refine ⟨ad, fun i sl e => ?_⟩
    obtain ⟨v, h1, h2, h3, h4⟩ := k i sl e
    refine ⟨v, h1, h2.step fx, fun b hb => (h3 b hb).elim .inl fun q => ?_, h4⟩
    obtain ⟨_, o, q'⟩ := h2.there b hb
    exact .inr (no b o q' q)
  · by_cases hb : b = D'
    · subst hb; exact ⟨u, upd_same⟩
    · replace h : upd H0 D' u b = some o := h
      rw [upd_ne hb] at h
      obtain ⟨o', q⟩ := r.trk b o h
      exact ⟨o', hx b o' q⟩
theorem Rel.free0 (r : Rel ⟨K, F0, H0, io⟩ ρ σ H F) {u : HO} (h0 : H0 D' = some u) (hio : D' ∉ io) (hF : F0 D' = none) : F D' = none := by
  cases e : F D' with
  | none => rfl
  | some o =>
    rcases r.fresh D' o e with q | q | q
    · replace q : F0 D' = some o := q
      rw [hF] at q; cases q
    · replace q : H0 D' = none := q
      rw [h0] at q; cases q
    · exact absurd q hio
theorem Rel.poke (r : Rel ⟨K, F0, H0, io⟩ ρ σ H F) {u0 : HO} (h0 : H0 D' = some u0) (hio : D' ∉ io) (hF : F0 D' = none) (u : HO) : Rel ⟨K, F0, upd H0 D' u, io⟩ ρ σ (upd H D' u) F := by
  have hFD := r.free0 h0 hio hF
  have gx : Gx F H F (upd H D' u) [D'] := ⟨Same.refl _, fun b o h => by rw [upd_ne (ne_of_none h hFD)]; exact r.sub b o h, fun b o h n => by
    have : b ≠ D' := by simpa using n
    rw [upd_ne this]; exact h, fun b o h => by
    by_cases hb : b = D'
    · subst hb; exact ⟨u, upd_same⟩
    · exact ⟨o, by rw [upd_ne hb]; exact h⟩, fun _ _ h => .inl h⟩
  have no : ∀ b, H0 b = none → upd H0 D' u b = none := fun b q => by
    have : b ≠ D' := fun e => by subst e; rw [h0] at q; cases q
    rw [upd_ne this]; exact q
  refine ⟨gx.fh, r.sub0, fun b o h n => ?_, fun b o h => ?_, ?_, r.len, fun b o h => ?_⟩
  · by_cases hb : b = D'
    · subst hb
      replace h : upd H0 b u b = some o := h
      rw [upd_same] at h ⊢; exact h
    · replace h : upd H0 D' u b = some o := h
      rw [upd_ne hb] at h ⊢; exact r.keep b o h n
  · exact (r.fresh b o h).elim .inl fun q => .inr (q.elim (fun z => .inl (no b z)) .inr)
  · obtain ⟨ad, k⟩ := r.env
    refine ⟨ad, fun i sl e => ?_⟩
    obtain ⟨v, h1, h2, h3, h4⟩ := k i sl e
    have nd : ∀ b ∈ ad i, b ∉ [D'] := fun b hb q => by
      have : b = D' := by simpa using q
      subst this
      rcases h3 b hb with z | z
      · exact hio z
      · replace z : H0 b = none := z
        rw [h0] at z; cases z
    exact ⟨v, h1, h2.gstep gx nd, fun b hb => (h3 b hb).elim .inl fun q => .inr (no b q), h4⟩
  · by_cases hb : b = D'
    · subst hb; exact ⟨u, upd_same⟩
    · replace h : upd H0 D' u b = some o := h
      rw [upd_ne hb] at h
      obtain ⟨o', q⟩ := r.trk b o h
      exact gx.trk b o' q
/-- what was made for itself is read from now on -/
theorem Rel.fin {W : Wd} {ρ1 : Env} {σ1 : L2.St} {H1 F1 : Hp} {u : HO} (r : Rel ⟨W.K, F1, upd H1 D' u, io⟩ ρ σ H F) (r1 : Rel W ρ1 σ1 H1 F1) (hio : ∀ b ∈ io, b ∈ W.io ∨ W.H0 b = none) (hn : D' ∉ io) (hD : H1 D' = none) :
    Rel W ρ σ H (upd F D' u) ∧ Same F (upd F D' u) := by
  have h0 : upd H1 D' u D' = some u := upd_same
  have hFD : F D' = none := r.free0 h0 hn (r1.sub.free hD)
  have hHD : H D' = some u := r.keep D' u h0 hn
  have ss : Same F (upd F D' u) := fun b o h => by rw [upd_ne (ne_of_none h hFD)]; exact h
  have gx : Gx F H (upd F D' u) H [D'] := ⟨ss, fun b o h => by
    by_cases hb : b = D'
    · subst hb; rw [upd_same] at h; cases h; exact hHD
    · rw [upd_ne hb] at h; exact r.sub b o h, fun b o h _ => h, fun b o h => ⟨o, h⟩, fun b o h => by
    by_cases hb : b = D'
    · subst hb; exact .inr (.inr (by simp))
    · rw [upd_ne hb] at h; exact .inl h⟩
  have no : ∀ b, upd H1 D' u b = none → W.H0 b = none := fun b q => by
    by_cases hb : b = D'
    · subst hb; rw [upd_same] at q; cases q
    · rw [upd_ne hb] at q; exact r1.base q
  refine ⟨⟨gx.fh, (r1.sub0.trans r.sub0).trans ss, fun b o h n => ?_, fun b o h => ?_, ?_, r.len, fun b o h => ?_⟩, ss⟩
  · have h1 := r1.keep b o h n
    refine r.keep b o ?_ fun hb => ?_
    · show upd H1 D' u b = some o
      rw [upd_ne (ne_of_none h1 hD)]; exact h1
    · rcases hio b hb with q | q
      · exact n q
      · rw [h] at q; cases q
  · by_cases hb : b = D'
    · subst hb; exact .inr (.inl (r1.base hD))
    · rw [upd_ne hb] at h
      rcases r.fresh b o h with q | q | q
      · exact r1.fresh b o q
      · exact .inr (.inl (no b q))
      · exact .inr ((hio b q).elim .inr .inl)
  · obtain ⟨ad, k⟩ := r.env
    refine ⟨ad, fun i sl e => ?_⟩
    obtain ⟨v, h1, h2, h3, h4⟩ := k i sl e
    have nd : ∀ b ∈ ad i, b ∉ [D'] := fun b hb q => by
      have : b = D' := by simpa using q
      subst this
      rcases h3 b hb with z | z
      · exact hn z
      · replace z : upd H1 b u b = none := z
        rw [upd_same] at z; cases z
    exact ⟨v, h1, h2.gstep gx nd, fun b hb => (h3 b hb).elim (hio b) fun q => .inr (no b q), h4⟩
  · obtain ⟨o', q⟩ := r1.trk b o h
    refine r.trk b o' ?_
    show upd H1 D' u b = some o'
    rw [upd_ne (ne_of_none q hD)]; exact q
end
theorem wipe_get {σ : L2.St} {vs : List Nat} {i : Nat} {v : V} (h : (wipe σ vs)[i]? = some (some v)) : σ[i]? = some (some v) := by
  induction vs with
  | nil => exact h
  | cons u us ih =>
    unfold wipe at h
    rcases get_set h with ⟨_, _, e⟩ | ⟨_, e⟩
    · cases e
    · exact ih e
theorem Rel.unwipe {W : Wd} {ρ : Env} {σ : L2.St} {H F : Hp} {vs : List Nat} (r : Rel W ρ (L2.wipe σ vs) H F) : Rel W ρ σ H F := by
  refine ⟨r.sub, r.sub0, r.keep, r.fresh, ?_, by have := r.len; rwa [wipe_length] at this, r.trk⟩
  obtain ⟨ad, k⟩ := r.env
  refine ⟨ad, fun i sl e => ?_⟩
  obtain ⟨v, h1, h2, h3, h4⟩ := k i sl e
  exact ⟨v, wipe_get h1, h2, h3, h4⟩

section
variable {α : Type} {C : Ct} {ρ : Env} {m : R α}
theorem lcT_main {κ : D → Env → R α → Prop} {tg it elt : Expr} {ifs : List Expr} {scope : Scope} {vs : List Nat} {X : Cx} {W : Wd} {Z : R α → Prop} (x : XOk C X) (hK : W.K = C.K) (c : Cl Z) (z : Z m) {τ : Type} (pack : τ → Env)
    (h : DI C ρ tg it m fun items ρ1 m1 => ∃ st0 f g, Le (pack st0) (wipeE ρ1 vs) ∧ m1 = (compS items st0 f).bind g ∧
      (∀ y st, DG (C.blk scope) (fun i => i ∈ vs) (pack st) tg y (f y st) fun ρ2 m2 => DTs (C.blk scope) ρ2 ifs m2 fun t ρ3 m3 =>
        (t = true → DE (C.blk scope) ρ3 elt m3 fun d ρ4 m4 => ∃ st', Le (pack st') (wipeE ρ4 vs) ∧ m4 = .ok (some d, st')) ∧ (t = false → ∃ st', Le (pack st') (wipeE ρ3 vs) ∧ m3 = .ok (none, st'))) ∧
      ∀ ys st, κ (.list ys) (pack st) (g (ys, st))) :
    ∃ wi g tt te, PI X tg it wi ∧ (∀ (s : Shared) (H : Hp) (Ca : Addr) (cl : List (Str × Addr)) (fp : List Addr), PG (X.blk s H scope (compEnvC scope cl Ca X.env) fp) tg g) ∧
      (∀ (s : Shared) (H : Hp) (Ca : Addr) (cl : List (Str × Addr)) (fp : List Addr), PTs (X.blk s H scope (compEnvC scope cl Ca X.env) fp) ifs tt) ∧
      (∀ (s : Shared) (H : Hp) (Ca : Addr) (cl : List (Str × Addr)) (fp : List Addr), PE (X.blk s H scope (compEnvC scope cl Ca X.env) fp) elt te) ∧
      ∀ σ H Q, (∃ F, Rel W ρ σ H F ∧ ∀ d ρ' m' v H' F', κ d ρ' m' → Z m' → Rel W ρ' σ H' F' → Same F F' → Rp W.K F' v d → Q v H') → tLc wi g tt te vs σ H Q := by
  refine ⟨_, fun v σ H Q => ∃ (W' : Wd) (τ' : Type) (Z' : R τ' → Prop) (i : R τ' × Env × D) (κ : Env → R τ' → Prop), (DG (C.blk scope) (fun i => i ∈ vs) i.2.1 tg i.2.2 i.1 κ ∧ W'.K = C.K ∧ Cl Z' ∧ Z' i.1) ∧ ∃ F, Rel W' i.2.1 σ H F ∧ Rp W'.K F v i.2.2 ∧ ∀ ρ' m' σ' H' F', κ ρ' m' → Z' m' → Rel W' ρ' σ' H' F' → Same F F' → (∀ us, (∀ i, i ∈ vs → i ∈ us) → wipe σ' us = wipe σ us) → Q σ' H',
    fun σ H Q => ∃ (W' : Wd) (τ' : Type) (Z' : R τ' → Prop) (i : R τ' × Env) (κ : Bool → Env → R τ' → Prop), (DTs (C.blk scope) i.2 ifs i.1 κ ∧ W'.K = C.K ∧ Cl Z' ∧ Z' i.1) ∧ ∃ F, Rel W' i.2 σ H F ∧ ∀ b ρ' m' H' F', κ b ρ' m' → Z' m' → Rel W' ρ' σ H' F' → Same F F' → Q b H',
    fun σ H Q => ∃ (W' : Wd) (τ' : Type) (Z' : R τ' → Prop) (i : R τ' × Env) (κ : D → Env → R τ' → Prop), (DE (C.blk scope) i.2 elt i.1 κ ∧ W'.K = C.K ∧ Cl Z' ∧ Z' i.1) ∧ ∃ F, Rel W' i.2 σ H F ∧ ∀ d ρ' m' v H' F', κ d ρ' m' → Z' m' → Rel W' ρ' σ H' F' → Same F F' → Rp W'.K F' v d → Q v H', h X W Z x hK c z, ?_, ?_, ?_, ?_⟩
  · exact fun s H Ca cl fp => ⟨fun p s' σ H v u Q I r ⟨W', _, Z', i, κ, ⟨pi, hK', c', z'⟩, q⟩ => (pi _ W' Z' (x.blk s _ Ca cl fp) hK' c' z').run p s' σ H v u Q I r q⟩
  · exact fun s H Ca cl fp => ⟨fun p s' σ H Q I ⟨W', _, Z', i, κ, ⟨pi, hK', c', z'⟩, q⟩ => (pi _ W' Z' (x.blk s _ Ca cl fp) hK' c' z').run p s' σ H Q I q⟩
  · exact fun s H Ca cl fp => ⟨fun p s' σ H Q I ⟨W', _, Z', i, κ, ⟨pi, hK', c', z'⟩, q⟩ => (pi _ W' Z' (x.blk s _ Ca cl fp) hK' c' z').run p s' σ H Q I q⟩
  rintro σ H Q ⟨F, rl, q⟩
  refine ⟨F, rl, fun items ρ1 m1 J H1 F1 ⟨st0, f, g, hle, em, hf, hk⟩ zm rel1 ss itd Da hDa => ?_⟩
  subst em
  obtain ⟨qs0, eq0, zq0⟩ := c.bind zm
  obtain ⟨hlen, eq0⟩ := compS_ok eq0
  have hF1D : F1 Da = none := rel1.sub.free hDa
  obtain ⟨io, relt, hio, hth⟩ := rel1.turn
  have hnio : Da ∉ io := fun hb => by obtain ⟨o, e⟩ := hth Da hb; rw [hDa] at e; cases e
  have relw : Rel ⟨W.K, F1, upd H1 Da (.lst []), io⟩ (pack st0) (wipe σ vs) (upd H1 Da (.lst [])) F1 := ((relt.wipe vs).le hle).newAt hDa hDa _
  refine ⟨fun i n H => n = items.length - i ∧ i ≤ items.length ∧ ∃ st Fi acc ds qs, Rel ⟨W.K, F1, upd H1 Da (.lst acc), io⟩ (pack st) (wipe σ vs) H Fi ∧ RpAll W.K Fi acc ds ∧ acc.length ≤ i ∧ compT (items.drop i) st f = .ok qs ∧ Z (g (ds ++ qs.1, qs.2)),
    ⟨items.length, by simp, Nat.zero_le _, st0, F1, [], [], qs0, relw, .nil, Nat.le_refl _, by simpa using eq0, by simpa using zq0⟩, ?_⟩
  rintro i n H2 ⟨rfl, hi, st, Fi, acc, ds, qs, rel2, racc, hal, eqs, zqs⟩
  have at0 : ∀ {acc : List V}, upd H1 Da (.lst acc) Da = some (.lst acc) := upd_same
  by_cases hlt : i < items.length
  · refine .inr ⟨itd.goes i Fi H2 hlt rel2.sub0 rel2.sub, fun H => ∃ st Fi acc ds qs, Rel ⟨W.K, F1, upd H1 Da (.lst acc), io⟩ (pack st) (wipe σ vs) H Fi ∧ RpAll W.K Fi acc ds ∧ acc.length ≤ i + 1 ∧ compT (items.drop (i + 1)) st f = .ok qs ∧ Z (g (ds ++ qs.1, qs.2)),
      fun H' hh => ⟨_, by omega, rfl, hlt, hh⟩, fun v H3 y => ?_⟩
    obtain ⟨F3, d, hd, fx, pd⟩ := itd.yields i Fi H2 v H3 hlt rel2.sub0 rel2.sub y
    rw [compT_step hd] at eqs
    obtain ⟨p, ep, eqs⟩ := R.bind_eq_ok eqs
    obtain ⟨q2, eq2, eqs⟩ := R.bind_eq_ok eqs
    have clp : Cl fun r : R (Option D × τ) => r = .ok p := ⟨(fun e => nomatch e), (fun _ _ e => nomatch e)⟩
    refine ⟨⟨W.K, F1, upd H1 Da (.lst acc), io⟩, Option D × τ, fun r => r = .ok p, (f d st, pack st, d), _, ⟨hf d st, hK, clp, ep⟩, F3, rel2.step fx, pd, fun ρ2 m2 σ4 H4 F4 h1 h2 h3 h4 hw => ⟨(hw vs fun _ h => h).trans wipe_wipe, ?_⟩⟩
    have hws : wipe σ4 vs = wipe σ vs := (hw vs fun _ h => h).trans wipe_wipe
    refine ⟨⟨W.K, F1, upd H1 Da (.lst acc), io⟩, Option D × τ, fun r => r = .ok p, (m2, ρ2), _, ⟨h1, hK, clp, h2⟩, F4, h3, fun b ρ3 m3 H5 F5 k1 k2 k3 k4 => ?_⟩
    cases b with
    | false =>
      show (if false = true then _ else _)
      rw [if_neg Bool.false_ne_true]
      obtain ⟨st', hl', e3⟩ := k1.2 rfl
      rw [k2] at e3
      cases e3
      cases eqs
      refine ⟨st', F5, acc, ds, _, ?_, racc.mono ((fx.ff.trans h4).trans k4), Nat.le_succ_of_le hal, eq2, zqs⟩
      rw [← hws]; exact (k3.wipe vs).le hl'
    | true =>
      show (if true = true then _ else _)
      rw [if_pos rfl]
      refine ⟨⟨W.K, F1, upd H1 Da (.lst acc), io⟩, Option D × τ, fun r => r = .ok p, (m3, ρ3), _, ⟨k1.1 rfl, hK, clp, k2⟩, F5, k3, fun dd ρ4 m4 vv H6 F6 ⟨st', hl', e4⟩ j2 j3 j4 j5 => ?_⟩
      rw [j2] at e4
      cases e4
      cases eqs
      have hz : acc.length < 16777216 := by omega
      have pk := j3.poke at0 hnio hF1D (.lst (acc ++ [vv]))
      rw [upd_upd] at pk
      refine ⟨acc, j3.keep Da _ at0 hnio, by rw [sizeLine_eq]; exact hz, st', F6, acc ++ [vv], ds ++ [dd], q2, ?_, (racc.mono (((fx.ff.trans h4).trans k4).trans j4)).snoc j5, by simp; omega, eq2, by simpa using zqs⟩
      rw [← hws]; exact (pk.wipe vs).le hl'
  · have e : i = items.length := by omega
    subst e
    rw [List.drop_length] at eqs
    cases eqs
    rw [List.append_nil] at zqs
    refine .inl ⟨itd.stops Fi H2 rel2.sub0 rel2.sub, ?_⟩
    obtain ⟨fin, sf⟩ := rel2.fin rel1 hio hnio hDa
    exact q _ _ _ _ H2 _ (hk ds st) zqs fin.unwipe ((ss.trans rel2.sub0).trans sf) (.lst upd_same (racc.mono sf))
/-- [e for tg in it if ..] -/
theorem de_lcT {κ : D → Env → R α → Prop} {tg it elt : Expr} {ifs : List Expr} {scope : Scope} {pos : Pos} {τ : Type} (pack : τ → Env) (own : List (Str × Nat)) (ok : blkC C.N C.sc scope own = true)
    (h : DI C ρ tg it m fun items ρ1 m1 => ∃ st0 f g, Le (pack st0) (wipeE ρ1 (own.map (·.2))) ∧ m1 = (compS items st0 f).bind g ∧
      (∀ y st, DG (C.blk scope) (fun i => i ∈ own.map (·.2)) (pack st) tg y (f y st) fun ρ2 m2 => DTs (C.blk scope) ρ2 ifs m2 fun t ρ3 m3 =>
        (t = true → DE (C.blk scope) ρ3 elt m3 fun d ρ4 m4 => ∃ st', Le (pack st') (wipeE ρ4 (own.map (·.2))) ∧ m4 = .ok (some d, st')) ∧ (t = false → ∃ st', Le (pack st') (wipeE ρ3 (own.map (·.2))) ∧ m3 = .ok (none, st'))) ∧
      ∀ ys st, κ (.list ys) (pack st) (g (ys, st))) (hs : ∀ (env : PySem.Env) (x : Value), foldedSetIterable it env x = pure x := by intro _ _; rfl) : DE C ρ (.ListComp elt [⟨tg, it, ifs, 0⟩] scope pos) m κ := by
  intro X W Z x hK c z
  obtain ⟨wi, g, tt, te, h1, h2, h3, h4, h5⟩ := lcT_main (vs := own.map (·.2)) x hK c z pack h
  exact PE_imp (pe_lc x.calm (by rw [x.N]; exact x.nd) h1 (blkOk_by (by rw [x.N, x.sc]; exact ok)) h2 h3 h4 (hs _)) h5
theorem ds_setLcT {J : Jd α} {n : Str} {tg it elt : Expr} {ifs : List Expr} {scope : Scope} {p pos cpos : Pos} {rest : List Stmt} {τ : Type} (pack : τ → Env) (i : Nat) (own : List (Str × Nat)) (ok : blkC C.N C.sc scope own = true)
    (h : DI C ρ tg it m fun items ρ1 m1 => ∃ st0 f g, Le (pack st0) (wipeE ρ1 (own.map (·.2))) ∧ m1 = (compS items st0 f).bind g ∧
      (∀ y st, DG (C.blk scope) (fun i => i ∈ own.map (·.2)) (pack st) tg y (f y st) fun ρ2 m2 => DTs (C.blk scope) ρ2 ifs m2 fun t ρ3 m3 =>
        (t = true → DE (C.blk scope) ρ3 elt m3 fun d ρ4 m4 => ∃ st', Le (pack st') (wipeE ρ4 (own.map (·.2))) ∧ m4 = .ok (some d, st')) ∧ (t = false → ∃ st', Le (pack st') (wipeE ρ3 (own.map (·.2))) ∧ m3 = .ok (none, st'))) ∧
      ∀ ys st, DSs C ((pack st).set i (some (.val (.list ys)))) rest (g (ys, st)) J) (hN : C.N[i]? = some n := by rfl) (hy : C.sc.names.lookup n = some .local := by rfl)
    (hsw : ∀ env : PySem.Env, env.scope = C.sc → swapsWith (.ListComp elt [⟨tg, it, ifs, 0⟩] scope cpos) (some (.Name n p)) pos.line env = pure true)
    (hs : ∀ (env : PySem.Env) (x : Value), foldedSetIterable it env x = pure x := by intro _ _; rfl) : DSs C ρ (.Assign [.Name n p] (.ListComp elt [⟨tg, it, ifs, 0⟩] scope cpos) pos :: rest) m J := by
  intro X W Z x hK c z
  obtain ⟨wi, g, tt, te, h1, h2, h3, h4, h5⟩ := lcT_main (κ := fun d ρ1 m1 => DSs C (ρ1.set i (some (.val d))) rest m1 J) (vs := own.map (·.2)) x hK c z pack h
  refine PSs_imp (pss_cons (ps_setLc (i := i) x.calm (by rw [x.N]; exact x.nd) (by rw [x.N]; exact hN) (by rw [x.sc]; exact hy) (hsw _ x.sc) h1 (blkOk_by (by rw [x.N, x.sc]; exact ok)) h2 h3 h4 (hs _)) (rest_run (J := J) x hK c)) fun Dn σ H ⟨F, r, l⟩ => ?_
  exact h5 σ H (fun y H1 => ∃ j : R α × Env, (DSs C j.2 rest j.1 J ∧ Z j.1) ∧ ∃ F, Rel W j.2 (σ.set i (some y)) H1 F ∧ Lk W J Z Dn) ⟨F, r, fun d ρ' m' v H' F' k1 k2 k3 k4 k5 => ⟨(m', _), ⟨k1, k2⟩, F', k3.set i k5, l⟩⟩
end
end Z

set_option Elab.async false
set_option linter.all false
set_option maxRecDepth 100000
set_option autoImplicit false
/-! # Z12: the source of choices, the law's end -/
namespace Z
open PySem L2

/-- a new owner -/
theorem Rel.give {W : Wd} {ρ : Env} {σ : L2.St} {H F F' H' : Hp} (r : Rel W ρ σ H F) (fx : Fx F H F' H') (i : Nat) {sl : Sl} {v : V} {as : List Addr} (hs : SlR W.K F' H' sl v as) (hn : ∀ b ∈ as, H b = none) : Rel W (ρ.set i (some sl)) (σ.set i (some v)) H' F' := by
  obtain ⟨ad, k⟩ := r.env
  have r' := r.step fx
  refine ⟨r'.sub, r'.sub0, r'.keep, r'.fresh, ⟨fun j => if j = i then as else ad j, fun j sl e => ?_⟩, by rw [List.length_set, List.length_set]; exact r.len, r'.trk⟩
  rcases get_set e with ⟨e1, e2, e3⟩ | ⟨e1, e2⟩
  · subst e1; cases e3
    refine ⟨v, by rw [List.getElem?_set_self (Nat.lt_of_lt_of_le e2 r.len)], by simpa using hs, fun b hb => .inr (r.base (hn b (by simpa using hb))), fun l sl' hl e' b hb => ?_⟩
    have hb' : b ∈ as := by simpa using hb
    have ne : l ≠ i := fun q => hl q.symm
    simp only [if_neg ne]
    rcases get_set e' with ⟨z1, _, _⟩ | ⟨z1, z2⟩
    · exact absurd z1 hl
    · intro hbl
      obtain ⟨v', k1, k2, _, _⟩ := k l sl' z2
      obtain ⟨_, o, q⟩ := k2.there b hbl
      rw [hn b hb'] at q; cases q
  · have ne : j ≠ i := fun q => e1 q.symm
    simp only [if_neg ne]
    obtain ⟨v', k1, k2, k3, k4⟩ := k j sl e2
    refine ⟨v', by rw [List.getElem?_set_ne e1]; exact k1, k2.step fx, k3, fun l sl'' hl e' b hb => ?_⟩
    rcases get_set e' with ⟨z1, z2, z3⟩ | ⟨z1, z2⟩
    · subst z1; cases z3
      simp only [if_true]
      intro hbl
      obtain ⟨_, o, q⟩ := k2.there b hb
      rw [hn b hbl] at q; cases q
    · have ne' : l ≠ i := fun q => z1 q.symm
      simp only [if_neg ne']
      exact k4 l sl'' hl z2 b hb

def srcKvs (c : Addr) (s : Src) : List (Key × V) := [(.inr "cells", .ref c), (.inr "left", .int s.left), (.inr "mixed", .int s.mixed), (.inr "turn", .int s.turn)]
/-- a key of the source, what stands there -/
structure KeyF (k : Str) (f : Src → Int) (u : Src → Int → Src) : Prop where
  get : ∀ c s, valV (srcKvs c s) (.inr k) = some (.int (f s))
  put : ∀ c s n, putK (srcKvs c s) (.inr k) (.int n) = srcKvs c (u s n)
  cells : ∀ s n, (u s n).cells = s.cells
theorem k_cl : ¬ (("cells" : Str) = "left") := by decide +kernel
theorem k_cm : ¬ (("cells" : Str) = "mixed") := by decide +kernel
theorem k_ct : ¬ (("cells" : Str) = "turn") := by decide +kernel
theorem k_lm : ¬ (("left" : Str) = "mixed") := by decide +kernel
theorem k_lt : ¬ (("left" : Str) = "turn") := by decide +kernel
theorem k_mt : ¬ (("mixed" : Str) = "turn") := by decide +kernel
theorem kf_left : KeyF "left" Src.left fun s n => { s with left := n } := by
  refine ⟨fun c s => ?_, fun c s n => ?_, fun _ _ => rfl⟩
  · simp [valV, srcKvs, k_cl, List.find?]
  · simp [putK, srcKvs, k_cl, k_lm, k_lt, Ne.symm k_lm, Ne.symm k_lt]
theorem kf_mixed : KeyF "mixed" Src.mixed fun s n => { s with mixed := n } := by
  refine ⟨fun c s => ?_, fun c s n => ?_, fun _ _ => rfl⟩
  · simp [valV, srcKvs, k_cm, k_lm, List.find?]
  · simp [putK, srcKvs, k_cm, k_lm, k_mt, Ne.symm k_mt]
theorem kf_turn : KeyF "turn" Src.turn fun s n => { s with turn := n } := by
  refine ⟨fun c s => ?_, fun c s n => ?_, fun _ _ => rfl⟩
  · simp [valV, srcKvs, k_ct, k_lt, k_mt, List.find?]
  · simp [putK, srcKvs, k_ct, k_lt, k_mt]
theorem k_cells (c : Addr) (s : Src) : valV (srcKvs c s) (.inr "cells") = some (.ref c) := by simp [valV, srcKvs, List.find?]

section
variable {α : Type} {C : Ct} {ρ : Env} {m : R α}
theorem Rel.srcAt {W : Wd} {ρ : Env} {σ : L2.St} {H F : Hp} (r : Rel W ρ σ H F) {i : Nat} {a : Addr} {s : Src} (e : ρ[i]? = some (some (.src a s))) :
    ∃ c, a ≠ c ∧ σ[i]? = some (some (.ref a)) ∧ H a = some (.dK (srcKvs c s)) ∧ H c = some (.lst (s.cells.map V.int)) ∧ s.cells.length ≤ 63 ∧
      (∀ s', s'.cells = s.cells → Rel W (ρ.set i (some (.src a s'))) σ (upd H a (.dK (srcKvs c s'))) F) ∧
      ∀ cs, cs.length ≤ 63 → Rel W (ρ.set i (some (.src a { s with cells := cs }))) σ (upd H c (.lst (cs.map V.int))) F := by
  obtain ⟨v, as, h1, h2, h3, up⟩ := r.slot e
  obtain ⟨c, rfl, e2, ne, ha, hc, h4, h5, h6⟩ := h2
  subst e2
  have gx : ∀ (b : Addr) (u : HO), b = a ∨ b = c → F b = none → Gx F H F (upd H b u) [a, c] := fun b u hb hf => ⟨Same.refl _, fun b' o h => by rw [upd_ne (ne_of_none h hf)]; exact r.sub b' o h, fun b' o h n => by
    have : b' ≠ b := fun q => n (by subst q; simpa using hb)
    rw [upd_ne this]; exact h, fun b' o h => by
    by_cases q : b' = b
    · subst q; exact ⟨u, upd_same⟩
    · exact ⟨o, by rw [upd_ne q]; exact h⟩, fun _ _ h => .inl h⟩
  refine ⟨c, ne, h1, h4, h5, h6, fun s' es => up (as' := [a, c]) (gx a _ (.inl rfl) ha) ⟨c, rfl, rfl, ne, ha, hc, upd_same, ?_, by rw [es]; exact h6⟩ (fun b hb => .inl hb), fun cs hl => up (as' := [a, c]) (gx c _ (.inr rfl) hc) ⟨c, rfl, rfl, ne, ha, hc, ?_, upd_same, hl⟩ (fun b hb => .inl hb)⟩
  · rw [upd_ne (Ne.symm ne), es]; exact h5
  · rw [upd_ne ne]; exact h4

/-- source['left'] -/
theorem de_srcGet {κ : D → Env → R α → Prop} {k : Str} {f : Src → Int} {u : Src → Int → Src} (KF : KeyF k f u) {n : Str} {np kp pos : Pos} {j : Nat} {a : Addr} {s : Src} (i : Nat) (hρ : ρ[i]? = some (some (.src a s))) (h : κ (.int (f s)) ρ m) (hN : C.N[i]? = some n := by rfl)
    (hv : Vis C.sc n := by first | exact Or.inl rfl | exact Or.inr (Or.inl rfl) | exact Or.inr (Or.inr rfl)) (hd : (n == ("__debug__" : Str)) = false := by decide) (hcd : (n == ("__classdict__" : Str)) = false := by decide) : DE C ρ (.Subscript (.Name n np) (.Constant (.str k) j kp) pos) m κ := by
  intro X W Z x hK c z
  refine PE_imp (pe_dget (hu_of x.room) (own_name x hN hv hd hcd) pe_str (fun _ _ => rfl)) fun σ H Q ⟨F, r, q⟩ => ?_
  obtain ⟨cc, ne, h1, h2, _⟩ := r.srcAt hρ
  refine ⟨_, h1, a, .int (f s), rfl, ?_, q _ ρ m _ H F h z r (Same.refl _) (.int _)⟩
  have := DGet.k (k := .inr k) h2
  rw [KF.get] at this
  exact this
/-- source['left'] = e -/
theorem ds_srcPut {J : Jd α} {k : Str} {f : Src → Int} {u : Src → Int → Src} (KF : KeyF k f u) {n : Str} {np kp sp pos : Pos} {j : Nat} {e : Expr} {rest : List Stmt} (i : Nat)
    (h : DE C ρ e m fun d ρ1 m1 => ∃ a s g, ρ1[i]? = some (some (.src a s)) ∧ m1 = (toI d).bind g ∧ ∀ t, DSs C (ρ1.set i (some (.src a (u s t)))) rest (g t) J) (hN : C.N[i]? = some n := by rfl)
    (hv : Vis C.sc n := by first | exact Or.inl rfl | exact Or.inr (Or.inl rfl) | exact Or.inr (Or.inr rfl)) (hd : (n == ("__debug__" : Str)) = false := by decide) (hcd : (n == ("__classdict__" : Str)) = false := by decide)
    (hs : ∀ env : PySem.Env, env.scope = C.sc → swapsWith e (some (.Subscript (.Name n np) (.Constant (.str k) j kp) sp)) pos.line env = pure false := by intro env he; rfl) : DSs C ρ (.Assign [.Subscript (.Name n np) (.Constant (.str k) j kp) sp] e pos :: rest) m J := by
  intro X W Z x hK c z
  refine PSs_imp (pss_cons (ps_dput (hu_of x.room) (own_name x hN hv hd hcd) pe_str (h X W Z x hK c z) (hs _ x.sc)) (rest_run (J := J) x hK c)) fun Dn σ H ⟨F, r, l⟩ => ?_
  refine ⟨F, r, fun d ρ1 m1 v H1 F1 ⟨a, s, g, e1, e2, hg⟩ k2 k3 k4 k5 => ?_⟩
  subst e2
  obtain ⟨t, et, zt⟩ := c.bind k2
  unfold toI at et
  split at et
  · cases et
    obtain ⟨cc, ne, h1, h2, _, _, h5, _⟩ := k3.srcAt e1
    have hv' := k5.toInt
    subst hv'
    refine ⟨_, h1, a, _, rfl, DPut.k (k := .inr k) h2 ?_, (_, _), ⟨hg _, zt⟩, F1, ?_, l⟩
    · rw [sizeLine_eq]; show (4 : Nat) < 16777216; decide
    · rw [KF.put]; exact h5 _ (KF.cells _ _)
  · cases et
/-- len(source['cells']) -/
theorem de_srcLen {κ : D → Env → R α → Prop} {n : Str} {lp np kp sp pos : Pos} {j : Nat} {a : Addr} {s : Src} (hm : C.mg ("len" : Str) = none) (i : Nat) (hρ : ρ[i]? = some (some (.src a s))) (h : κ (.int s.cells.length) ρ m) (hN : C.N[i]? = some n := by rfl)
    (hv : Vis C.sc n := by first | exact Or.inl rfl | exact Or.inr (Or.inl rfl) | exact Or.inr (Or.inr rfl)) (hd : (n == ("__debug__" : Str)) = false := by decide) (hcd : (n == ("__classdict__" : Str)) = false := by decide) (hg : C.sc.names.lookup ("len" : Str) = some .globalImplicit := by rfl)
    (he : ∀ env : PySem.Env, starEach [.Subscript (.Name n np) (.Constant (.str "cells") j kp) sp] env = (false, eval (.Subscript (.Name n np) (.Constant (.str "cells") j kp) sp) env) :: starEach [] env := by intro _; rfl) (hpl : ∀ env : PySem.Env, (backTo pos (starEach [] env)).any (·.1) = false := by intro _; rfl) :
    DE C ρ (.Call (.Name "len" lp) [.Subscript (.Name n np) (.Constant (.str "cells") j kp) sp] [] pos) m κ := by
  intro X W Z x hK c z
  refine PE_imp (pe_callB call_len (x.gl hg) (x.mg0 hm) boot_len (pa_cons (pe_dget (hu_of x.room) (own_name x hN hv hd hcd) pe_str (fun _ _ => rfl)) pa_nil (he _)) (by decide) (by decide) (he _) (hpl _)) fun σ H Q ⟨F, r, q⟩ => ?_
  obtain ⟨cc, ne, h1, h2, h3, _⟩ := r.srcAt hρ
  refine ⟨_, h1, a, .ref cc, rfl, ?_, ?_⟩
  · have := DGet.k (k := .inr "cells") h2
    rw [k_cells] at this
    exact this
  · refine ⟨_, (s.cells.map V.int).length, rfl, .inl ⟨_, SqL.of h3, rfl⟩, ?_⟩
    rw [List.length_map]
    exact q _ ρ m _ H F h z r (Same.refl _) (.int _)
/-- source['cells'].pop() -/
theorem de_srcPop {κ : D → Env → R α → Prop} {n : Str} {np kp sp ap cp : Pos} {j : Nat} {a : Addr} {s : Src} {g : Int × List Int → R α} (i : Nat) (hρ : ρ[i]? = some (some (.src a s))) (e : m = (popC s.cells).bind g) (h : ∀ t cs, κ (.int t) (ρ.set i (some (.src a { s with cells := cs }))) (g (t, cs))) (hN : C.N[i]? = some n := by rfl)
    (hv : Vis C.sc n := by first | exact Or.inl rfl | exact Or.inr (Or.inl rfl) | exact Or.inr (Or.inr rfl)) (hd : (n == ("__debug__" : Str)) = false := by decide) (hcd : (n == ("__classdict__" : Str)) = false := by decide)
    (hbase : ∀ env : PySem.Env, env.scope = C.sc → attributeBase (.Subscript (.Name n np) (.Constant (.str "cells") j kp) sp) "pop" env (eval (.Subscript (.Name n np) (.Constant (.str "cells") j kp) sp) env) = eval (.Subscript (.Name n np) (.Constant (.str "cells") j kp) sp) env := by intro env he; rfl)
    (hline : (ap.endLine == cp.line) = true := by rfl) :
    DE C ρ (.Call (.Attribute (.Subscript (.Name n np) (.Constant (.str "cells") j kp) sp) "pop" ap) [] [] cp) m κ := by
  intro X W Z x hK c z
  refine PE_imp (pe_bm0 F.plainAttrs_list F.slot_list_pop F.type_list_pop mt_pop (pe_dget (hu_of x.room) (own_name x hN hv hd hcd) pe_str (fun _ _ => rfl)) (hbase _ x.sc) hline) fun σ H Q ⟨F, r, q⟩ => ?_
  subst e
  obtain ⟨⟨t, cs⟩, ec, zc⟩ := c.bind z
  unfold popC at ec
  split at ec
  · rename_i hl; cases ec
    obtain ⟨cc, ne, h1, h2, h3, h6, _, h5⟩ := r.srcAt hρ
    refine ⟨_, h1, a, .ref cc, rfl, ?_, .inl ⟨rfl, _, SqL.of h3⟩, cc, _, .int t, rfl, rfl, h3, ?_, ?_⟩
    · have := DGet.k (k := .inr "cells") h2
      rw [k_cells] at this
      exact this
    · rw [List.length_map, List.getElem?_map, ← List.getLast?_eq_getElem?, hl]; rfl
    · rw [← List.map_dropLast]
      exact q _ _ _ _ _ F (h t _) zc (h5 _ (by rw [List.length_dropLast]; omega)) (Same.refl _) (.int _)
  · cases ec
/-- the script is walked -/
theorem di_scr {tg : Expr} {κ : List D → Env → R α → Prop} {n : Str} {pos : Pos} {ns : List Int} (i : Nat) (hρ : ρ[i]? = some (some (.scr ns))) (h : κ (ns.map .int) ρ m) (hN : C.N[i]? = some n := by rfl)
    (hv : Vis C.sc n := by first | exact Or.inl rfl | exact Or.inr (Or.inl rfl) | exact Or.inr (Or.inr rfl)) (hd : (n == ("__debug__" : Str)) = false := by decide) (hcd : (n == ("__classdict__" : Str)) = false := by decide) : DI C ρ tg (.Name n pos) m κ := by
  intro X W Z x hK c z
  refine PI_imp (pi_list (own_name x hN hv hd hcd)) fun σ H Rr ⟨F, r, q⟩ => ?_
  obtain ⟨v, as, h1, h2, _, _⟩ := r.slot hρ
  obtain ⟨a, rfl, hs, hl, _⟩ := h2
  have hs' : SqL X.K F a (ns.map V.int) := by rw [x.K, ← hK]; exact hs
  have rp : RpAll W.K F (ns.map V.int) (ns.map .int) := by
    clear h hs hs' hl hρ
    induction ns with
    | nil => exact .nil
    | cons n ns ih => exact .cons (.int _) ih
  exact ⟨_, h1, a, rfl, ⟨_, r.sub.seq hs'⟩, q _ ρ m _ H F h z r (Same.refl _) (by rw [x.K, ← hK]; exact itd_list hs rp)⟩
/-- xs[::-1] -/
theorem dn_rev {κ : List D → Env → R α → Prop} {e : Expr} {k : Nat} {p1 p2 p3 pos : Pos} (h : DE C ρ e m fun d ρ1 m1 => ∃ g, m1 = (revL d).bind g ∧ ∀ xs, κ xs ρ1 (g xs)) : DN C ρ (.Subscript e (.Slice none none (some (.UnaryOp .USub (.Constant (.int 1) k p1) p2)) p3) pos) m κ := by
  intro X W Z x hK c z
  refine PE_imp (pe_revL (h X W Z x hK c z)) fun σ H Q ⟨F, r, q⟩ => ⟨F, r, fun d ρ' m' v H' F' ⟨g, e1, hg⟩ h2 h3 h4 h5 => ?_⟩
  subst e1
  obtain ⟨xs, ex, zx⟩ := c.bind h2
  unfold revL at ex
  split at ex
  · cases ex
    obtain ⟨p, ys, rfl, hp, rys⟩ := h5.toList
    exact ⟨p, ys, rfl, SqL.of (h3.sub _ _ hp), fun l hl => q _ ρ' _ _ l H' F' (hg _) zx h3 h4 hl rys.reverse⟩
  · cases ex
/-- what makes a new list is a value, too -/
theorem de_dn {κ : D → Env → R α → Prop} {e : Expr} (h : DN C ρ e m fun ds ρ1 m1 => κ (.list ds) ρ1 m1) : DE C ρ e m κ := by
  intro X W Z x hK c z
  refine PE_imp (h X W Z x hK c z) fun σ H Q ⟨F, r, q⟩ => ⟨F, r, fun ds ρ' m' vs p H' F' k1 k2 k3 k4 k5 k6 => ?_⟩
  have fx : Fx F' H' _ _ := Fx.alloc (u := .lst vs) k3.sub k5
  exact q _ ρ' m' _ _ _ k1 k2 (k3.step fx) (k4.trans fx.ff) (.lst upd_same (k6.mono fx.ff))

/-! ### what is handed out -/
/-- a part that is an int, read without a change -/
def IE (C : Ct) (ρ : Env) (e : Expr) (d : D) : Prop := ∀ X : Cx, XOk C X → PE X e fun σ H Q => (∃ W H' F', Rel W ρ σ H' F') ∧ ∀ v, (∀ n, d = .int n → v = .int n) → Q v H
theorem ie_int {i : Int} {j : Nat} {pos : Pos} : IE C ρ (.Constant (.int i) j pos) (.int i) := fun X x => PE_imp pe_int fun σ H Q ⟨_, q⟩ => q _ fun n e => by cases e; rfl
theorem ie_var {n : Str} {pos : Pos} {d : D} (i : Nat) (hρ : ρ[i]? = some (some (.val d))) (hN : C.N[i]? = some n := by rfl)
    (hv : Vis C.sc n := by first | exact Or.inl rfl | exact Or.inr (Or.inl rfl) | exact Or.inr (Or.inr rfl)) (hd : (n == ("__debug__" : Str)) = false := by decide) (hcd : (n == ("__classdict__" : Str)) = false := by decide) : IE C ρ (.Name n pos) d := fun X x =>
  PE_imp (own_name x hN hv hd hcd) fun σ H Q ⟨⟨W, H', F', r⟩, q⟩ => by
    obtain ⟨v, h1, h2⟩ := r.val hρ
    exact ⟨v, h1, q v fun n e => by subst e; exact h2.toInt⟩
/-- return {'cells': e1, 'left': e2, 'mixed': e3, 'turn': e4} -/
theorem ds_retSrc {J : Jd α} {e1 e2 e3 e4 : Expr} {j1 j2 j3 j4 : Nat} {p1 p2 p3 p4 dp pos : Pos} {rest : List Stmt}
    (h : DN C ρ e1 m fun ds ρ1 m1 => ∃ d2 d3 d4 g, IE C ρ1 e2 d2 ∧ IE C ρ1 e3 d3 ∧ IE C ρ1 e4 d4 ∧ m1 = (mkSrc ds d2 d3 d4).bind g ∧ ∀ s, J.rn (.src s) ρ1 (g s)) :
    DSs C ρ (.Return (some (.Dict [some (.Constant (.str "cells") j1 p1), some (.Constant (.str "left") j2 p2), some (.Constant (.str "mixed") j3 p3), some (.Constant (.str "turn") j4 p4)] [e1, e2, e3, e4] dp)) pos :: rest) m J := by
  intro X W Z x hK c z
  have ie : ∀ e : Expr, PE X e fun σ H Q => ∃ q : Env × D, IE C q.1 e q.2 ∧ (∃ W H' F', Rel W q.1 σ H' F') ∧ ∀ v, (∀ n, q.2 = .int n → v = .int n) → Q v H := fun e =>
    ⟨fun p s σ H Q I ⟨i, hi, q⟩ => (hi X x).run p s σ H Q I q⟩
  have hd : PE X e1 fun σ H Q => ∃ W' : Wd, W'.K = C.K ∧ ∃ F, Rel W' ρ σ H F ∧ ∀ ds ρ' m' vs p H' F', (∃ d2 d3 d4 g, IE C ρ' e2 d2 ∧ IE C ρ' e3 d3 ∧ IE C ρ' e4 d4 ∧ m' = (mkSrc ds d2 d3 d4).bind g ∧ ∀ s, J.rn (.src s) ρ' (g s)) → Z m' → Rel W' ρ' σ H' F' → Same F F' → H' p = none → RpAll W'.K F' vs ds → Q (.ref p) (upd H' p (.lst vs)) :=
    ⟨fun p s σ H Q I ⟨W', hK', q⟩ => (h X W' Z x hK' c z).run p s σ H Q I q⟩
  refine PSs_imp (pss_cons (ps_ret (pe_disp (pps_cons pe_str hd (pps_cons pe_str (ie e2) (pps_cons pe_str (ie e3) (pps_cons pe_str (ie e4) pps_nil)))) rfl rfl (by simp) (by show (4 : Nat) ≤ 15; decide))) pss_never) fun Dn σ H ⟨F, r, l⟩ => ?_
  intro p hp
  obtain ⟨io, rt, hio, hth⟩ := r.turn
  have hnio : p ∉ io := fun hb => by obtain ⟨o, e⟩ := hth p hb; rw [hp] at e; cases e
  have hFp : F p = none := r.sub.free hp
  have rn := rt.newAt hp hp (.dK [])
  refine ⟨⟨W.K, F, upd H p (.dK []), io⟩, hK, F, rn, fun ds ρ1 m1 vs q H1 F1 ⟨d2, d3, d4, g, i2, i3, i4, em, hg⟩ z1 r1 _ hq rd => ?_⟩
  subst em
  obtain ⟨s, es, zs⟩ := c.bind z1
  refine ⟨(ρ1, d2), i2, ⟨_, _, _, r1⟩, fun v2 hv2 => ⟨(ρ1, d3), i3, ⟨_, _, _, r1⟩, fun v3 hv3 => ⟨(ρ1, d4), i4, ⟨_, _, _, r1⟩, fun v4 hv4 => ?_⟩⟩⟩
  have hpp : H1 p = some (.dK []) := r1.keep p _ upd_same hnio
  have npq : p ≠ q := ne_of_none hpp hq
  unfold mkSrc at es
  split at es
  · rename_i ns hns
    split at es
    · rename_i hlen
      obtain ⟨l', el, es⟩ := R.bind_eq_ok es
      obtain ⟨mx, emx, es⟩ := R.bind_eq_ok es
      obtain ⟨t, et, es⟩ := R.bind_eq_ok es
      cases es
      have toI' : ∀ {d : D} {n : Int}, toI d = .ok n → d = .int n := fun {d n} h => by
        unfold toI at h
        split at h
        · cases h; rfl
        · cases h
      have h2' := hv2 _ (toI' el); have h3' := hv3 _ (toI' emx); have h4' := hv4 _ (toI' et)
      subst h2' h3' h4'
      have ev := ints_of rd hns
      subst ev
      refine ⟨by rw [upd_ne npq]; exact hpp, [(.inr "cells", .ref q), (.inr "left", .int l'), (.inr "mixed", .int mx), (.inr "turn", .int t)], rfl, by show (4 : Nat) ≤ 15; decide, ?_⟩
      have hmk : mergeK [] [((.inr "cells" : Key), V.ref q), (.inr "left", .int l'), (.inr "mixed", .int mx), (.inr "turn", .int t)] = srcKvs q ⟨ns, l', mx, t⟩ := by
        simp [mergeK, putK, srcKvs, k_cl, k_cm, k_ct, k_lm, k_lt, k_mt, Ne.symm k_cl, Ne.symm k_cm, Ne.symm k_ct, Ne.symm k_lm, Ne.symm k_lt, Ne.symm k_mt]
      rw [hmk]
      have hF1p : F1 p = none := r1.free0 (D' := p) upd_same hnio hFp
      have hF1q : F1 q = none := r1.sub.free hq
      have hx : ∀ b o, H1 b = some o → b ≠ p → upd (upd H1 q (.lst (ns.map V.int))) p (.dK (srcKvs q ⟨ns, l', mx, t⟩)) b = some o := fun b o h n => by rw [upd_ne n, upd_ne (ne_of_none h hq)]; exact h
      have hx2 : ∀ b o, H b = some o → b ≠ p ∧ (upd H p (.dK []) b = some o) := fun b o h => ⟨ne_of_none h hp, by rw [upd_ne (ne_of_none h hp)]; exact h⟩
      have hq0 : H q = none := by
        cases e : H q with
        | none => rfl
        | some o => obtain ⟨o', q'⟩ := r1.trk q o (hx2 q o e).2; rw [hq] at q'; cases q'
      refine l.rn (.src ⟨ns, l', mx, t⟩) ρ1 (g ⟨ns, l', mx, t⟩) (.ref p) [p, q] _ F1 (hg _) zs ⟨fun b o h => hx b o (r1.sub b o h) (ne_of_none h hF1p), r.sub0.trans r1.sub0, fun b o h n => ?_, fun b o h => ?_, ⟨fun _ => [], fun i sl e => by simp at e⟩, Nat.le_refl _, fun b o h => ?_⟩ ⟨p, q, rfl, rfl, npq, hF1p, hF1q, upd_same, by rw [upd_ne (Ne.symm npq), upd_same], of_decide_eq_true hlen⟩ ?_
      · have h1 := r.keep b o h n
        obtain ⟨nb, h2⟩ := hx2 b o h1
        refine hx b o (r1.keep b o h2 fun hb => ?_) nb
        rcases hio b hb with z | z
        · exact n z
        · rw [h] at z; cases z
      · rcases r1.fresh b o h with z | z | z
        · exact r.fresh b o z
        · refine .inr (.inl (r.base ?_))
          have nb : b ≠ p := ne_of_none h hF1p
          replace z : upd H p (.dK []) b = none := z
          rw [upd_ne nb] at z; exact z
        · exact .inr ((hio b z).elim .inr .inl)
      · obtain ⟨o1, h1⟩ := r.trk b o h
        obtain ⟨nb, h2⟩ := hx2 b o1 h1
        obtain ⟨o2, h3⟩ := r1.trk b o1 h2
        exact ⟨o2, hx b o2 h3 nb⟩
      · intro b hb
        have : b = p ∨ b = q := by simpa using hb
        rcases this with rfl | rfl
        · exact r.base hp
        · exact r.base hq0
    · cases es
  · cases es
/-- the promise of a def that makes a source of the script -/
def spQ (K : PySem.W.Frag) (fm : List Int → R Src) : Sp := fun vs H Q _ => ∃ F a ns s, vs = [.ref a] ∧ Same F H ∧ SqL K F a (ns.map V.int) ∧ ns.length ≤ 63 ∧ fm ns = .ok s ∧
  ∀ v as H' F', Fx F H F' H' → (∃ b, SlR K F' H' (.src b s) v as) → (∀ b ∈ as, H b = none) → Q v H'
structure FnQ (C : Ct) (n : Str) (fm : List Int → R Src) : Prop where
  ex : ∃ f fd ps j, j ≤ C.k ∧ FnG C.P C.w C.K C.mg C.base CX0 j f fd ps (spQ C.K fm) ∧ C.mg n = some (.ref f) ∧ PySem.W.keepIn C.K (.ref f) = true ∧ Binds C.K fd ps []
/-- source = f(script) -/
theorem ds_source {J : Jd α} {n x0 fn : Str} {p fp xp cp pos : Pos} {fm : List Int → R Src} {g : Src → R α} {ns : List Int} {rest : List Stmt} (i j : Nat) (G : FnQ C fn fm) (hρ : ρ[j]? = some (some (.scr ns))) (hm : m = (fm ns).bind g)
    (k : ∀ a s, DSs C (ρ.set i (some (.src a s))) rest (g s) J) (hN : C.N[i]? = some n := by rfl) (hNj : C.N[j]? = some x0 := by rfl)
    (hx : Loc C.sc n := by first | exact Or.inl rfl | exact Or.inr rfl) (hfn : C.fn n = true ∨ C.sc.names.lookup n = some .local := by first | exact Or.inl rfl | exact Or.inr rfl)
    (hv : Vis C.sc x0 := by first | exact Or.inl rfl | exact Or.inr (Or.inl rfl) | exact Or.inr (Or.inr rfl)) (hg : C.sc.names.lookup fn = some .globalImplicit := by rfl) (hdb : (fn == ("__debug__" : Str)) = false := by decide) (hd : (x0 == ("__debug__" : Str)) = false := by decide) (hcd : (x0 == ("__classdict__" : Str)) = false := by decide)
    (he : ∀ env : PySem.Env, starEach [.Name x0 xp] env = (false, eval (.Name x0 xp) env) :: starEach [] env := by intro _; rfl) (hpl : ∀ env : PySem.Env, (backTo cp (starEach [] env)).any (·.1) = false := by intro _; rfl)
    (hs : ∀ env : PySem.Env, env.scope = C.sc → swapsWith (.Call (.Name fn fp) [.Name x0 xp] [] cp) (some (.Name n p)) pos.line env = pure false := by intro env he; rfl) : DSs C ρ (.Assign [.Name n p] (.Call (.Name fn fp) [.Name x0 xp] [] cp) pos :: rest) m J := by
  intro X W Z x hK c z
  subst hm
  have hf : X.fn n = true ∨ X.env.scope.names.lookup n = some .local := hfn.elim (fun h => .inl (x.fnl n h)) fun h => .inr (by rw [x.sc]; exact h)
  obtain ⟨f, fd, ps, jj, hj, ok, hmg, kp, b⟩ := G.ex
  refine PSs_imp (pss_cons (ps_set (i := i) (by rw [x.N]; exact x.nd) (by rw [x.N]; exact hN) (by rw [x.sc]; exact hx) (pe_callG (fnAt x ok hj) x.grd x.room (x.gl hg) (by rw [x.mg]; exact hmg) (by rw [x.K]; exact kp) (by rw [x.K]; exact b) pass0 (pa_cons (own_name x hNj hv hd hcd) pa_nil (he _)) hdb (he _) (hpl _)) (hs _ x.sc) hf) (rest_run (J := J) x hK c)) fun D σ H ⟨F, r, l⟩ => ?_
  obtain ⟨s, es, zs⟩ := c.bind z
  obtain ⟨v, as, h1, h2, _, _⟩ := r.slot hρ
  obtain ⟨a, rfl, hsq, hl, _⟩ := h2
  refine ⟨_, h1, F, a, ns, s, rfl, r.sub, by rw [← hK]; exact hsq, hl, es, fun v as' H' F' fx ⟨b', hsl⟩ hn => ⟨(g s, _), ⟨k b' s, zs⟩, F', ?_, l⟩⟩
  have hsl' : SlR W.K F' H' (.src b' s) v as' := by rw [hK]; exact hsl
  exact r.give fx i hsl' hn
def JfQ : Jd Src := { nx := fun _ _ => False, rt := fun _ _ _ => False, bk := fun _ _ => False, ct := fun _ _ => False, rn := fun ow _ m => ∃ s, ow = .src s ∧ m = .ok s }
theorem scr_rel {K : PySem.W.Frag} {N : List Str} {F H : Hp} {a : Addr} {ns : List Int} (sub : Same F H) (hs : SqL K F a (ns.map V.int)) (hl : ns.length ≤ 63) : Rel ⟨K, F, H, []⟩ (startE N [.scr ns]) (L2.start N [.ref a]) H F := by
  refine ⟨sub, Same.refl _, fun b o h _ => h, fun b o h => .inl h, ⟨fun _ => [], fun i sl e => ?_⟩, by unfold startE L2.start; simp, fun b o h => ⟨o, h⟩⟩
  have e1 := startE_get e
  cases i with
  | zero =>
    have e2 : sl = .scr ns := by simpa using e1.symm
    subst e2
    exact ⟨.ref a, start_get rfl, ⟨a, rfl, hs, hl, rfl⟩, by simp, by simp⟩
  | succ i => simp at e1
theorem fnQ_of {P : Program} {w : World} {K : PySem.W.Frag} {mg : Str → Option Value} {base : Heap} {x qual : Str} {st : Stmt} {f : Addr} {fd : FuncData} {N ps : List Str} {k : Nat} {fm : List Int → R Src} (F : Fun K x qual st f fd) (S : FnScope N ps (defScope st)) (hn : ps.length = 1)
    (h : ∀ ns : List Int, DSs ⟨P, w, K, mg, base, k, N, defScope st, fun _ => true⟩ (startE N [.scr ns]) (defBody st) (fm ns) JfQ) : FnG P w K mg base CX0 (k + 1) f fd ps (spQ K fm) := by
  refine okG F S (fun vs H Q E h => ?_) (fun cdv A outer s H vs Q E gd hr hsp => ?_)
  · obtain ⟨_, _, _, _, e, _⟩ := h
    rw [e, hn, List.length_singleton]
  · obtain ⟨F0, a, ns, r, e, sub, hs, hl, er, q⟩ := hsp
    subst e
    have xo : XOk ⟨P, w, K, mg, base, k, N, defScope st, fun _ => true⟩ (cxOf CX0 P w K mg base N qual (defScope st) f cdv A outer s H E).nox :=
      ⟨rfl, rfl, rfl, rfl, rfl, rfl, S.nd, rfl, rfl, hr, gd, PassesOwn.never, fun _ _ => rfl⟩
    have cl : Cl fun r' : R Src => r' = .ok r := ⟨(fun e => nomatch e), (fun _ _ e => nomatch e)⟩
    refine ⟨_, (h ns _ ⟨K, F0, H, []⟩ _ xo rfl cl er).nox, F0, scr_rel sub hs hl, ⟨fun _ _ _ _ _ h => h.elim, fun _ _ _ _ _ _ _ h => h.elim, fun _ _ _ _ _ h => h.elim, fun _ _ _ _ _ h => h.elim, fun ow ρ m v as H' F' ⟨s', e1, e2⟩ h2 h3 h4 h5 => ?_⟩⟩
    subst e1
    rw [h2] at e2; cases e2
    exact q v as H' F' h3.fx h4 h5
/-- the law's own promise -/
def spLaw (K : PySem.W.Frag) : Sp := fun vs H Q _ => ∃ (a : Addr) (ns : List Int), vs = [.ref a] ∧ SqL K H a (ns.map V.int) ∧ ns.length ≤ 63 ∧ ∀ H', Q (.bl true) H'
theorem fnLaw_of {P : Program} {w : World} {K : PySem.W.Frag} {mg : Str → Option Value} {base : Heap} {x qual : Str} {st : Stmt} {f : Addr} {fd : FuncData} {N ps : List Str} {k : Nat} {fm : List Int → R D} (F : Fun K x qual st f fd) (S : FnScope N ps (defScope st)) (hn : ps.length = 1)
    (h : ∀ ns : List Int, DSs ⟨P, w, K, mg, base, k, N, defScope st, fun _ => true⟩ (startE N [.scr ns]) (defBody st) (fm ns) Jf) (hm : ∀ ns : List Int, ns.length ≤ 63 → fm ns = .ok (.bool true)) : FnG P w K mg base CX0 (k + 1) f fd ps (spLaw K) := by
  refine okG F S (fun vs H Q E h => ?_) (fun cdv A outer s H vs Q E gd hr hsp => ?_)
  · obtain ⟨_, _, e, _⟩ := h
    rw [e, hn, List.length_singleton]
  · obtain ⟨a, ns, e, hs, hl, q⟩ := hsp
    subst e
    have xo : XOk ⟨P, w, K, mg, base, k, N, defScope st, fun _ => true⟩ (cxOf CX0 P w K mg base N qual (defScope st) f cdv A outer s H E).nox :=
      ⟨rfl, rfl, rfl, rfl, rfl, rfl, S.nd, rfl, rfl, hr, gd, PassesOwn.never, fun _ _ => rfl⟩
    have cl : Cl fun r' : R D => r' = .ok (.bool true) := ⟨(fun e => nomatch e), (fun _ _ e => nomatch e)⟩
    refine ⟨_, (h ns _ ⟨K, H, H, []⟩ _ xo rfl cl (hm ns hl)).nox, H, scr_rel (Same.refl _) hs hl, ⟨fun ρ m σ H' F' h1 h2 h3 => ?_, fun d ρ m v σ H' F' h1 h2 h3 h4 => ?_, fun _ _ _ _ _ h => h.elim, fun _ _ _ _ _ h => h.elim, fun _ _ _ _ _ _ _ h => h.elim⟩⟩
    · rw [h2] at h1; cases h1
    · rw [h2] at h1; cases h1
      rw [h4.toBool]
      exact q H'
end
end Z

set_option Elab.async false
set_option linter.all false
set_option maxRecDepth 100000
set_option autoImplicit false
/-! # Z13: enumerate, zip, repr, .. -/
namespace Z
open PySem L2

/-! ### enumerate(t), t a tuple -/
set_option maxHeartbeats 1000000 in
theorem meets_enumT {v : Value} {o : Obj} {G : Heap → Prop} (B : PySem.Begins v o G) :
    Meets (Builtin.«enumerate.__new__» ⟨[.type "enumerate", v], []⟩) (fun _ R s => G s.heap ∧
      R (.ok (.ret (.ref (s.heap.push o).objs.size))) { s with heap := (s.heap.push o).push { cls := .type "enumerate", data := .fields #[.none, .bool false, .ref s.heap.objs.size, rawInt 0, .none, .none] } }) :=
  .of_wp fun prog w A R s hh => by
    obtain ⟨hp, ge, de, tk, os⟩ := s
    obtain ⟨g1, h⟩ := hh
    have hsub := sub_enumerate
    have start : ∀ {A2 : Around} {E Q : Value → Shared → Prop}, Q (.ref hp.objs.size) ⟨hp.push o, ge, de, tk, os⟩ → wpAny (model prog w) A2 (pyIter v) Q E ⟨hp, ge, de, tk, os⟩ := fun q => B.iter prog w _ _ ⟨hp, ge, de, tk, os⟩ _ g1 q
    wp_walk using start
    refine wpAny_stack_any fun st => wpAny_pure ?_
    split
    · rename_i c _ _ _ _ _
      cases (c == Value.type "enumerate") <;> (wp_walk using start; exact ⟨_, rfl, h⟩)
    · wp_walk using start
      exact ⟨_, rfl, h⟩
theorem call_enumT {prog : Program} {w : World} {A : Around} {E Q : Value → Shared → Prop} {s : Shared} {v : Value} {o : Obj} {G : Heap → Prop} (B : PySem.Begins v o G) (g : G s.heap)
    (h : ∀ h', IsEnum h' (s.heap.objs.size + 1) s.heap.objs.size 0 .none → h'.get? s.heap.objs.size = some o → (∀ b o', s.heap.get? b = some o' → h'.get? b = some o') → Q (.ref (s.heap.objs.size + 1)) { s with heap := h' }) :
    wpAny (model prog w) A (call (.type "enumerate") [v]) Q E s := by
  refine callType_new F.called_enumerate (by decide) (F.typeCall_enumerate_1 _) (F.newCall_enumerate_1 _) (fun obj => F.args_object_init_2 obj _) F.entry_enumerate_new (meets_enumT B) ⟨g, ?_⟩
  have sz : (s.heap.push o).objs.size = s.heap.objs.size + 1 := Heap.size_push ..
  show _ ∧ _
  rw [sz]
  have at1 : IsEnum ((s.heap.push o).push { cls := .type "enumerate", data := .fields #[.none, .bool false, .ref s.heap.objs.size, rawInt 0, .none, .none] }) (s.heap.objs.size + 1) s.heap.objs.size 0 .none := by
    have q := Heap.get?_push_size (s.heap.push o) (o := { cls := .type "enumerate", data := .fields #[.none, .bool false, .ref s.heap.objs.size, rawInt 0, .none, .none] }) rfl
    rw [sz] at q; exact q
  exact ⟨⟨_, at1, rfl⟩, h _ at1 (Heap.get?_push_of_some _ (Heap.get?_push_size _ B.free)) fun b o' q => Heap.get?_push_of_some _ (Heap.get?_push_of_some _ q)⟩
/-- the tuple at a, each item in a new pair -/
def IteT (K : PySem.W.Frag) (a : Addr) : It where
  go := fun i H => ∃ (xs : List V) (x : V), SqT K H a xs ∧ xs[i]? = some x
  yld := fun i H v H' => ∃ T x, v = .ref T ∧ H T = none ∧ H' = upd H T (.tup [.int (i : Nat), x]) ∧ ∀ xs, SqT K H a xs → xs[i]? = some x
  stop := fun i H => ∃ xs : List V, SqT K H a xs ∧ xs.length = i
theorem turn_enumT {P : Program} {w : World} {K : PySem.W.Frag} {es : List Expr} {kk : Nat} {tp : Pos} (a e it : Addr) :
    Turn P w K (.Tuple es kk tp) (IteT K a) [e, it] e (fun i h => (∃ old, IsEnum h e it ((i : Nat) : Int) old) ∧ h.IsTupleIter it a i ∧ e ≠ it ∧ a ≠ it ∧ e ≠ a) where
  mem := List.mem_cons_self
  obj := fun i h ⟨⟨old, he⟩, ⟨o, ho, _, hd⟩, _⟩ b hb => by
    have : b = e ∨ b = it := by simpa using hb
    rcases this with z | z
    · subst z; exact ⟨_, he, fun v q => nomatch q⟩
    · subst z; exact ⟨o, ho, fun v q => by rw [hd] at q; cases q⟩
  keep := fun i h h' ⟨⟨old, he⟩, hi, r⟩ k => ⟨⟨old, k e (by simp) _ he⟩, hi.at fun o q => k it (by simp) o q, r⟩
  item := by
    intro X hP hw hK hc i pins s σ H E I hf ⟨⟨old, he⟩, hit, hne, hai, hea⟩ ⟨xs, x, hq, hx⟩
    subst hP hw hK
    obtain ⟨its, rv, tup, _⟩ := I.tuple hq
    obtain ⟨u, hu, ru⟩ := rv.get hx
    have le : e < s.heap.objs.size := Heap.lt_size he
    have li : it < s.heap.objs.size := by obtain ⟨_, q, _⟩ := hit; exact Heap.lt_size q
    have lt : i < its.toArray.size := by
      have := (List.getElem?_eq_some_iff.mp hu).1
      simpa using this
    refine wpAny_pyNext_enum_itemD (PySem.Draws.tuple (A := X.A.in1) (I.ok.hd hc) it a hai its.toArray) he ⟨hit, tup⟩ lt hne (by simp [hne, hea]) fun y h' tk hy ho st hT _ hk => ?_
    have ey : y = u := by
      have h1 : its.toArray[i]? = some u := by simpa using hu
      rw [h1] at hy; cases hy; rfl
    subst ey
    refine ⟨_, rfl, wpAny_letOwnedTupleGo_enum (s := { s with heap := h', toks := tk + 1 }) ho fun h'' he' sb => ?_⟩
    have hT2 : h''.get? s.heap.objs.size = some { cls := .type "tuple", data := .seq #[.int i tk, y] } := (sb.2 _ (Nat.ne_of_gt le)).trans hT
    have new : ObjOk X.prog X.w (upd H s.heap.objs.size (.tup [.int (i : Nat), x])) h'' s.heap.objs.size (.tup [.int (i : Nat), x]) := ⟨by show 2 ≤ sizeLine; decide, [.int i tk, y], .cons ⟨_, rfl⟩ (.cons ru .nil), _, hT2, rfl, _, rfl⟩
    have I2 : Inv X pins σ (upd H s.heap.objs.size (.tup [.int (i : Nat), x])) { s with heap := h'', toks := tk + 1 } :=
      I.turnedNew (ch := [e, it]) (fun b ob hb q => (sb.2 b fun z => hb (by simp [z])).trans (hk b ob (fun z => hb (by simp [z])) (fun z => hb (by simp [z])) q)) hf (Nat.le_refl _) new
    have fresh : ∀ b ∈ [e, it], b ≠ s.heap.objs.size := fun b hb => by
      have : b = e ∨ b = it := by simpa using hb
      rcases this with z | z <;> subst z
      · exact Nat.ne_of_lt le
      · exact Nat.ne_of_lt li
    refine ⟨.ref s.heap.objs.size, _, I2, rfl, ⟨_, x, rfl, I.hok.fresh (Nat.le_refl _), rfl, fun ys hy => ?_⟩, ⟨⟨y, ?_⟩, st.1.at fun o q => (sb.2 it (Ne.symm hne)).trans q, hne, hai, hea⟩, fun b hb => by rw [upd_ne (fresh b hb)]; exact (hf b hb).1⟩
    · rw [I.tuple_inj hy hq]; exact hx
    · have e1 : ((i + 1 : Nat) : Int) = (i : Int) + 1 := by omega
      rw [e1]; exact he'
  done := by
    intro X hP hw hK hc i pins s σ H E I hf ⟨⟨old, he⟩, hit, hne, hai, hea⟩ ⟨xs, hq, hx⟩
    subst hP hw hK
    obtain ⟨its, rv, tup, _⟩ := I.tuple hq
    obtain ⟨f0, f1, f2, f3, f4, f5⟩ := hf it (by simp)
    have hl : i = its.toArray.size := by rw [List.size_toArray, ← rv.length]; exact hx.symm
    subst hl
    exact wpAny_pyNext_enum_endD (PySem.Draws.tuple (A := X.A.in1) (I.ok.hd hc) it a hai its.toArray) he ⟨hit, tup⟩ fun h' eb => ⟨rfl, I.turned (t' := s.toks) (fun b o hb q => eb b o hb q) f0 f1 f3 f4 f5⟩
  self := fun A i s Q E ⟨⟨_, he⟩, _⟩ h => wpAny_pyIter_enum he h

theorem enumD_at {items : List D} {i : Nat} : (enumD items)[i]? = (items[i]?).map fun d => .tuple [.int (i : Nat), d] := by
  unfold enumD
  rw [List.getElem?_map, List.getElem?_zipIdx]
  cases items[i]? with
  | none => rfl
  | some d => simp
theorem enumD_length {items : List D} : (enumD items).length = items.length := by unfold enumD; simp
theorem itd_enumL {K : PySem.W.Frag} {a : Addr} {xs : List V} {items : List D} {F : Hp} (h : SqL K F a xs) (r : RpAll K F xs items) : ItD K (Ite K a) (enumD items) F where
  goes := fun i F1 H hi e1 e2 => by
    rw [enumD_length, ← r.length] at hi
    exact ⟨xs, xs[i], e2.seq (e1.seq h), List.getElem?_eq_getElem hi⟩
  stops := fun F1 H e1 e2 => ⟨xs, e2.seq (e1.seq h), by rw [enumD_length, r.length]; exact Nat.le_refl _⟩
  yields := fun i F1 H x H' hi e1 e2 ⟨T, y, e3, hT, e4, hy⟩ => by
    subst e3 e4
    obtain ⟨d, h1, h2⟩ := r.at' (hy xs (e2.seq (e1.seq h)))
    have fx : Fx F1 H _ _ := Fx.alloc (u := .tup [.int (i : Nat), y]) e2 hT
    exact ⟨_, .tuple [.int (i : Nat), d], by rw [enumD_at, h1]; rfl, fx, .tup (.inl (.inl upd_same)) (.cons (.int _) (.cons ((h2.mono e1).mono fx.ff) .nil))⟩
theorem itd_enumT {K : PySem.W.Frag} {a : Addr} {xs : List V} {items : List D} {F : Hp} (h : SqT K F a xs) (r : RpAll K F xs items) : ItD K (IteT K a) (enumD items) F where
  goes := fun i F1 H hi e1 e2 => by
    rw [enumD_length, ← r.length] at hi
    exact ⟨xs, xs[i], seqT e2 (seqT e1 h), List.getElem?_eq_getElem hi⟩
  stops := fun F1 H e1 e2 => ⟨xs, seqT e2 (seqT e1 h), by rw [enumD_length, r.length]⟩
  yields := fun i F1 H x H' hi e1 e2 ⟨T, y, e3, hT, e4, hy⟩ => by
    subst e3 e4
    obtain ⟨d, h1, h2⟩ := r.at' (hy xs (seqT e2 (seqT e1 h)))
    have fx : Fx F1 H _ _ := Fx.alloc (u := .tup [.int (i : Nat), y]) e2 hT
    exact ⟨_, .tuple [.int (i : Nat), d], by rw [enumD_at, h1]; rfl, fx, .tup (.inl (.inl upd_same)) (.cons (.int _) (.cons ((h2.mono e1).mono fx.ff) .nil))⟩
section
variable {α : Type} {C : Ct} {ρ : Env} {m : R α}
theorem di_enum {κ : List D → Env → R α → Prop} {a : Expr} {p pos tp : Pos} {es : List Expr} {kk : Nat} (hm : C.mg ("enumerate" : Str) = none) (h : DE C ρ a m fun d ρ1 m1 => ∃ g, m1 = (iterL d).bind g ∧ ∀ items, κ (enumD items) ρ1 (g items))
    (hg : C.sc.names.lookup ("enumerate" : Str) = some .globalImplicit := by rfl) (hs : ∀ env : PySem.Env, starEach [a] env = [(false, eval a env)] := by intro _; rfl) : DI C ρ (.Tuple es kk tp) (.Call (.Name "enumerate" p) [a] [] pos) m κ := by
  intro X W Z x hK c z
  have ha : DA C ρ [a] m fun ds ρ1 m1 => ∃ d, ds = [d] ∧ ∃ g, m1 = (iterL d).bind g ∧ ∀ items, κ (enumD items) ρ1 (g items) :=
    da_cons (fun X W Z x hK c z => PE_imp (h X W Z x hK c z) fun σ H Q ⟨F, r, q⟩ => ⟨F, r, fun d ρ' m' v H' F' k1 => q d ρ' m' v H' F' (da_nil ⟨d, rfl, k1⟩)⟩) hs
  refine ⟨fun pins s σ H Rr I ⟨F, r, q⟩ => ?_⟩
  refine PyProof.Rows.Call_ (ld_blt I (x.gl hg) (x.mg0 hm) PyProof.Rows.boot_enumerate (PyProof.Rows.callWith_type1 (thn ((ha X W Z x hK c z).run pos pins s σ H (fun vs H1 => ∃ F1 v d ρ1 m1, vs = [v] ∧ (∃ g, m1 = (iterL d).bind g ∧ ∀ items, κ (enumD items) ρ1 (g items)) ∧ Z m1 ∧ Rel W ρ1 σ H1 F1 ∧ Same F F1 ∧ Rp W.K F1 v d) I
    ⟨F, r, fun ds ρ' m' vs H' F' ⟨d, e1, k1⟩ k2 k3 k4 k5 => by
      subst e1
      obtain ⟨v, e2, rd⟩ := k5.one
      exact ⟨F', v, d, ρ', m', e2, k1, k2, k3, k4, rd⟩⟩) fun us s1 ⟨vs, H1, I1, r1, F1, v, d, ρ1, m1, e1, ⟨g, e2, hgg⟩, z1, rel1, ss, rd⟩ => ?_) (hs _) rfl))
  subst e1 e2
  obtain ⟨xs, ex, zx⟩ := c.bind z1
  obtain ⟨u, rfl, ru⟩ := Vals.one r1
  unfold iterL at ex
  split at ex
  · cases ex
    obtain ⟨a', ys, rfl, ha', rys⟩ := rd.toTup
    cases ru
    have aX : SqT X.K H1 a' ys := by rw [x.K, ← hK]; exact seqT rel1.sub ha'
    obtain ⟨its, rv, tup, _⟩ := I1.tuple aX
    refine call_enumT (begins_tuple a' its.toArray) tup fun h' he hit hk => wpAny_pyIter_enum he ?_
    have I2 : Inv X pins σ H1 { s1 with heap := h' } := I1.kept (t' := s1.toks) hk
    have lt : a' < s1.heap.objs.size := by obtain ⟨o, ho, _⟩ := tup; exact Heap.lt_size ho
    refine ⟨s1.heap.objs.size + 1, [s1.heap.objs.size + 1, s1.heap.objs.size], _, _, H1, rfl, I2, turn_enumT a' (s1.heap.objs.size + 1) s1.heap.objs.size, ⟨⟨.none, he⟩, ⟨_, hit, rfl, rfl⟩, Nat.succ_ne_self _, Nat.ne_of_lt lt, Nat.ne_of_gt (Nat.lt_succ_of_lt lt)⟩, fun b hb => ?_, ?_⟩
    · have e' : b = s1.heap.objs.size + 1 ∨ b = s1.heap.objs.size := by simpa using hb
      have hle : s1.heap.objs.size ≤ b := by
        rcases e' with z | z <;> subst z
        · exact Nat.le_add_right _ _
        · exact Nat.le_refl _
      exact I1.fpOk hle (I1.hok.fresh hle)
    · refine q _ ρ1 _ _ H1 F1 (hgg _) zx rel1 ss ?_
      rw [x.K, ← hK]; exact itd_enumT ha' rys
  · cases ex
    obtain ⟨a', ys, rfl, ha', rys⟩ := rd.toList
    cases ru
    have aX : SqL X.K H1 a' ys := SqL.of (rel1.sub _ _ ha')
    obtain ⟨its, rv, lst, _⟩ := I1.list aX
    refine call_enumerate_list lst.isList fun h' he hit hsz hk => wpAny_pyIter_enum he ?_
    have I2 : Inv X pins σ H1 { s1 with heap := h' } := I1.kept (t' := s1.toks) hk
    refine ⟨s1.heap.objs.size + 1, [s1.heap.objs.size + 1, s1.heap.objs.size], _, _, H1, rfl, I2, turn_enum a' (s1.heap.objs.size + 1) s1.heap.objs.size, ⟨⟨.none, he⟩, hit, Nat.succ_ne_self _⟩, fun b hb => ?_, ?_⟩
    · have e' : b = s1.heap.objs.size + 1 ∨ b = s1.heap.objs.size := by simpa using hb
      have hle : s1.heap.objs.size ≤ b := by
        rcases e' with z | z <;> subst z
        · exact Nat.le_add_right _ _
        · exact Nat.le_refl _
      exact I1.fpOk hle (I1.hok.fresh hle)
    · refine q _ ρ1 _ _ H1 F1 (hgg _) zx rel1 ss ?_
      rw [x.K, ← hK]; exact itd_enumL (SqL.of ha') rys
  · cases ex
end

/-! ### repr -/
theorem reprOk_facts {d : D} (h : reprOk d = true) : okD d = true ∧ d.showable = true ∧ d.hasDict = false ∧ d.shown.length ≤ sizeLine := by
  unfold reprOk at h
  simp only [Bool.and_eq_true, Bool.not_eq_true', decide_eq_true_eq] at h
  exact ⟨h.1.1.1, h.1.1.2, h.1.2, by rw [sizeLine_eq]; exact h.2⟩
theorem bl_repr : CallS (.builtin "repr") (fn1 reprD) := by
  intro X k hc hr gd pins s σ H vs us Q I rv ⟨F, ds, c, sub, ra0, e0, q⟩
  obtain ⟨a, rfl, e⟩ := fn1_ok e0
  obtain ⟨v, rfl, ra⟩ := ra0.one
  have main : ∀ {p : Addr}, v = .ref p → reprOk a = true → c = .str a.shown → wpAny (model X.prog X.w) X.A (call (.builtin "repr") us) (EP X pins σ Q) X.xe s := by
    intro p e1 ok ec
    subst e1 ec
    obtain ⟨h1, h2, h3, h4⟩ := reprOk_facts ok
    obtain ⟨u, rfl, ru⟩ := Vals.one rv
    cases ru
    obtain ⟨as, rd⟩ := ra.reads I sub rfl (okD_plain h1)
    refine repr_of_reads' rd h2 (PyData.noDict_hsm h3) gd ?_ (fun _ _ z => z) (fun h' u tk hk => ?_) h4
    · have := hr.units
      have := okD_depth h1
      omega
    · exact ⟨.str a.shown, H, I.kept (t' := tk) hk, ⟨_, rfl⟩, q _ H F (Fx.refl sub) (.str _)⟩
  unfold reprD at e
  split at e
  · split at e
    · rename_i ok; cases e
      obtain ⟨p, xs, e1, _⟩ := ra.toList
      exact main e1 ok rfl
    · cases e
  · split at e
    · rename_i ok; cases e
      obtain ⟨p, xs, e1, _⟩ := ra.toTup
      exact main e1 ok rfl
    · cases e
  · cases e
end Z

set_option Elab.async false
set_option linter.all false
set_option maxRecDepth 100000
set_option autoImplicit false
/-! # Z14: little helps for the printed derivations -/
namespace Z
open PySem L2

theorem Le.z : Le [] [] := trivial
theorem Le.s {a : Sl} {r r' : Env} (h : Le r r') : Le (some a :: r) (some a :: r') := ⟨rfl, h⟩
theorem Le.n {a : Option Sl} {r r' : Env} (h : Le r r') : Le (none :: r) (a :: r') := h
theorem Le.trans : ∀ {a b c : Env}, Le a b → Le b c → Le a c
  | [], [], [], _, _ => trivial
  | none :: r, _ :: r', _ :: r'', h, k => by
    have k' : Le r' r'' := by
      rename_i x y
      cases x with
      | none => exact k
      | some x => cases y with
        | none => exact k.elim
        | some y => exact k.2
    exact Le.trans (a := r) (b := r') (c := r'') h k'
  | some a :: r, some b :: r', some c :: r'', h, k => ⟨h.1.trans k.1, Le.trans (a := r) (b := r') (c := r'') h.2 k.2⟩
  | [], [], _ :: _, _, k => k.elim
  | [], _ :: _, _, h, _ => h.elim
  | none :: _, [], _, h, _ => h.elim
  | some _ :: _, [], _, h, _ => h.elim
  | some _ :: _, none :: _, _, h, _ => h.elim
  | none :: _, none :: _, [], _, k => k.elim
  | none :: _, some _ :: _, [], _, k => k.elim
  | some _ :: _, some _ :: _, [], _, k => k.elim
  | some _ :: _, some _ :: _, none :: _, _, k => k.elim

section
variable {α : Type} {C : Ct} {ρ : Env} {m : R α}
/-- the row of slots, written out -/
theorem ds_at {α : Type} {C : Ct} {ρ : Env} {m : R α} {J : Jd α} {sts : List Stmt} (ρ' : Env) (h : DSs C ρ' sts m J) (e : ρ = ρ' := by rfl) : DSs C ρ sts m J := e ▸ h
/-- the end of a comprehension's turn behind its if -/
theorem lsplitP {β : Type} {C : Ct} {ρ : Env} {elt : Expr} {κ : D → Env → R (Option β) → Prop} {t : Bool} {m1 A B : R (Option β)} (h : m1 = (if t = true then A else B)) (hA : DE C ρ elt A κ) (hB : B = .ok none) : (t = true → DE C ρ elt m1 κ) ∧ (t = false → m1 = .ok none) := by
  subst h hB
  cases t with
  | true => exact ⟨(fun _ => hA), (fun e => nomatch e)⟩
  | false => exact ⟨(fun e => nomatch e), (fun _ => rfl)⟩
theorem lsplitT {τ : Type} {C : Ct} {ρ : Env} {vs : List Nat} {pack : τ → Env} {elt : Expr} {κ : D → Env → R (Option D × τ) → Prop} {t : Bool} {m1 A B : R (Option D × τ)} (st : τ) (h : m1 = (if t = true then A else B)) (hA : DE C ρ elt A κ) (hl : Le (pack st) (wipeE ρ vs)) (hB : B = .ok (none, st)) :
    (t = true → DE C ρ elt m1 κ) ∧ (t = false → ∃ st', Le (pack st') (wipeE ρ vs) ∧ m1 = .ok (none, st')) := by
  subst h hB
  cases t with
  | true => exact ⟨(fun _ => hA), (fun e => nomatch e)⟩
  | false => exact ⟨(fun e => nomatch e), (fun _ => ⟨st, hl, rfl⟩)⟩
/-- not e, as a value -/
theorem de_not {κ : D → Env → R α → Prop} {e : Expr} {pos : Pos} (h : DE C ρ e m fun d ρ1 m1 => ∃ t, d = .bool t ∧ κ (.bool !t) ρ1 m1) : DE C ρ (.UnaryOp .Not e pos) m κ := by
  intro X W Z x hK c z
  refine PE_imp (pe_not (h X W Z x hK c z)) fun σ H Q ⟨F, r, q⟩ => ⟨F, r, fun d ρ' m' v H' F' ⟨t, e1, k1⟩ k2 k3 k4 k5 => ?_⟩
  subst e1
  exact ⟨t, k5.toBool, q _ ρ' m' _ H' F' k1 k2 k3 k4 (.bl _)⟩
/-- a, b, c = e1, e2, e3, all plain locals -/
theorem ds_par3 {J : Jd α} {n1 n2 n3 : Str} {e1 e2 e3 : Expr} {px py pz pt pt2 pos : Pos} {kt k2 : Nat} {rest : List Stmt} (i j l : Nat)
    (h : DE C ρ e1 m fun d1 ρ1 m1 => DE C ρ1 e2 m1 fun d2 ρ2 m2 => DE C ρ2 e3 m2 fun d3 ρ3 m3 => DSs C (((ρ3.set i (some (.val d1))).set j (some (.val d2))).set l (some (.val d3))) rest m3 J) (hN : C.N[i]? = some n1 := by rfl) (hN2 : C.N[j]? = some n2 := by rfl) (hN3 : C.N[l]? = some n3 := by rfl) (hij : i ≠ j := by decide) (hil : i ≠ l := by decide) (hjl : j ≠ l := by decide)
    (hx : C.sc.names.lookup n1 = some .local := by rfl) (hy : C.sc.names.lookup n2 = some .local := by rfl) (hz : C.sc.names.lookup n3 = some .local := by rfl)
    (hst : ∀ env : PySem.Env, starEach [e1, e2, e3] env = (false, eval e1 env) :: starEach [e2, e3] env := by intro _; rfl) (hst2 : ∀ env : PySem.Env, starEach [e2, e3] env = (false, eval e2 env) :: starEach [e3] env := by intro _; rfl) (hst3 : ∀ env : PySem.Env, starEach [e3] env = (false, eval e3 env) :: starEach [] env := by intro _; rfl)
    (hw : ∀ env : PySem.Env, env.scope = C.sc → swappedStores [.Tuple [.Name n1 px, .Name n2 py, .Name n3 pz] kt pt] (.Tuple [e1, e2, e3] k2 pt2) env = pure (some [n1, n2, n3]) := by intro env he; cases env; cases he; rfl)
    (hsw : ∀ env : PySem.Env, env.scope = C.sc → swapsWithSole [.Tuple [.Name n1 px, .Name n2 py, .Name n3 pz] kt pt] (.Tuple [e1, e2, e3] k2 pt2) pos.line env = pure false := by intro env he; rfl) : DSs C ρ (.Assign [.Tuple [.Name n1 px, .Name n2 py, .Name n3 pz] kt pt] (.Tuple [e1, e2, e3] k2 pt2) pos :: rest) m J := by
  intro X W Z x hK c z
  have ha : DA C ρ [e1, e2, e3] m fun ds ρ3 m3 => ∃ d1 d2 d3, ds = [d1, d2, d3] ∧ DSs C (((ρ3.set i (some (.val d1))).set j (some (.val d2))).set l (some (.val d3))) rest m3 J := by
    refine da_cons (fun X W Z x hK c z => PE_imp (h X W Z x hK c z) fun σ H Q ⟨F, r, q⟩ => ⟨F, r, fun d ρ' m' v H' F' k1 => q d ρ' m' v H' F' (da_cons (fun X W Z x hK c z => PE_imp (k1 X W Z x hK c z) fun σ H Q ⟨F, r, q⟩ => ⟨F, r, fun d' ρ2 m2 v H' F' k2 => q d' ρ2 m2 v H' F' (da_cons (fun X W Z x hK c z => PE_imp (k2 X W Z x hK c z) fun σ H Q ⟨F, r, q⟩ => ⟨F, r, fun d'' ρ3 m3 v H' F' k3 => q d'' ρ3 m3 v H' F' (da_nil ⟨d, d', d'', rfl, k3⟩)⟩) hst3)⟩) hst2)⟩) hst
  refine PSs_imp (pss_cons (L2.ps_par3 (i := i) (j := j) (l := l) x.calm (by rw [x.N]; exact x.nd) (by rw [x.N]; exact hN) (by rw [x.N]; exact hN2) (by rw [x.N]; exact hN3) hij hil hjl (by rw [x.sc]; exact hx) (by rw [x.sc]; exact hy) (by rw [x.sc]; exact hz) (ha X W Z x hK c z) (hw _ x.sc) (hsw _ x.sc)) (rest_run (J := J) x hK c)) fun D σ H ⟨F, r, l'⟩ => ?_
  refine ⟨F, r, fun ds ρ' m' vs H' F' ⟨d1, d2, d3, e, h1⟩ h2 h3 h4 h5 => ?_⟩
  subst e
  cases h5 with
  | cons p1 t => cases t with
    | cons p2 t => cases t with
      | cons p3 t => cases t; exact ⟨_, _, _, rfl, (m', _), ⟨h1, h2⟩, F', ((h3.set i p1).set j p2).set l p3, l'⟩
end
/-- a def of the law's text, at hand for calls -/
def HasP (P : Program) (w : World) (K : PySem.W.Frag) (mg : Str → Option Value) (base : Heap) (k : Nat) (n : Str) (ar : Nat) (fm : List D → R D) : Prop := ∀ N sc fn, FnP ⟨P, w, K, mg, base, k, N, sc, fn⟩ n ar fm
def HasS (P : Program) (w : World) (K : PySem.W.Frag) (mg : Str → Option Value) (base : Heap) (k : Nat) (n : Str) (ar : Nat) (fm : Src → List D → R (D × Src)) : Prop := ∀ N sc fn, FnS ⟨P, w, K, mg, base, k, N, sc, fn⟩ n ar fm
def HasQ (P : Program) (w : World) (K : PySem.W.Frag) (mg : Str → Option Value) (base : Heap) (k : Nat) (n : Str) (fm : List Int → R Src) : Prop := ∀ N sc fn, FnQ ⟨P, w, K, mg, base, k, N, sc, fn⟩ n fm
/-- a def as it stands behind the top -/
def At (K : PySem.W.Frag) (mg : Str → Option Value) (n : Str) (st : Stmt) (ps : List Str) : Prop := ∃ f fd, Fun K n n st f fd ∧ mg n = some (.ref f) ∧ Binds K fd ps []
theorem At.mk {K : PySem.W.Frag} {h : Heap} {mg : Str → Option Value} {n : Str} {st : Stmt} {ps : List Str} (X : K.In h) (G : h.Ns mainGlobals mg) {f : Addr} {od an : Option Addr} {sl : Array (Option Value)} {oc kV dc pm cd ct : Value}
    (a : PySem.W.nsIn K mainGlobals n = some (some (.ref f))) (l : K.lookup f = some ⟨oc, od, .func (PySem.W.fnOf n n (defArgs st) (defBody st) (defScope st) .none kV dc pm an cd ct), sl⟩) (c : PySem.W.codeIn K cd n = true) (k : PySem.W.keepIn K (.ref f) = true)
    (b : ∀ (kV doc pm : Value) (an : Option Addr) (cdv ct : Value) (us : List Value), us.length = ps.length → bindArgs (PySem.W.fnOf n n (defArgs st) (defBody st) (defScope st) .none kV doc pm an cdv ct) ⟨us, []⟩ = pure (ps.zip us)) : At K mg n st ps :=
  have F := fun_mk (st := st) l c k
  ⟨f, _, F, PySem.W.mg_of X G a, F.binds b⟩
theorem At.p {P : Program} {w : World} {K : PySem.W.Frag} {mg : Str → Option Value} {base : Heap} {n : Str} {st : Stmt} {ps N : List Str} {fm : List D → R D} {lv ar : Nat} (A : At K mg n st ps) (S : FnScope N ps (defScope st)) (hn : ps.length = ar)
    (h : ∀ ds : List D, ds.length = ar → DSs ⟨P, w, K, mg, base, lv, N, defScope st, fun _ => true⟩ (startE N (ds.map .val)) (defBody st) (fm ds) Jf) (k : Nat) (hk : lv + 1 ≤ k) : HasP P w K mg base k n ar fm := fun _ _ _ =>
  let ⟨f, fd, F, hm, b⟩ := A
  ⟨⟨f, fd, ps, lv + 1, hk, fnP_of F S hn h, hm, F.kp, b⟩⟩
theorem At.s {P : Program} {w : World} {K : PySem.W.Frag} {mg : Str → Option Value} {base : Heap} {n : Str} {st : Stmt} {ps N : List Str} {fm : Src → List D → R (D × Src)} {lv ar : Nat} (A : At K mg n st ps) (S : FnScope N ps (defScope st)) (hn : ps.length = ar + 1)
    (h : ∀ (a : Addr) (s : Src) (ds : List D), ds.length = ar → DSs ⟨P, w, K, mg, base, lv, N, defScope st, fun _ => true⟩ (startE N (.src a s :: ds.map .val)) (defBody st) (fm s ds) (JfS a)) (k : Nat) (hk : lv + 1 ≤ k) : HasS P w K mg base k n ar fm := fun _ _ _ =>
  let ⟨f, fd, F, hm, b⟩ := A
  ⟨⟨f, fd, ps, lv + 1, hk, fnS_of F S hn h, hm, F.kp, b⟩⟩
theorem At.q {P : Program} {w : World} {K : PySem.W.Frag} {mg : Str → Option Value} {base : Heap} {n : Str} {st : Stmt} {ps N : List Str} {fm : List Int → R Src} {lv : Nat} (A : At K mg n st ps) (S : FnScope N ps (defScope st)) (hn : ps.length = 1)
    (h : ∀ ns : List Int, DSs ⟨P, w, K, mg, base, lv, N, defScope st, fun _ => true⟩ (startE N [.scr ns]) (defBody st) (fm ns) JfQ) (k : Nat) (hk : lv + 1 ≤ k) : HasQ P w K mg base k n fm := fun _ _ _ =>
  let ⟨f, fd, F, hm, b⟩ := A
  ⟨⟨f, fd, ps, lv + 1, hk, fnQ_of F S hn h, hm, F.kp, b⟩⟩
/-- a source's def, its arguments behind the source -/
def sn0 (f : Src → R (D × Src)) : Src → List D → R (D × Src)
  | s, [] => f s
  | _, _ => .stuck
def sn1 (f : Src → D → R (D × Src)) : Src → List D → R (D × Src)
  | s, [a] => f s a
  | _, _ => .stuck
def sn2 (f : Src → D → D → R (D × Src)) : Src → List D → R (D × Src)
  | s, [a, b] => f s a b
  | _, _ => .stuck
def sn3 (f : Src → D → D → D → R (D × Src)) : Src → List D → R (D × Src)
  | s, [a, b, c] => f s a b c
  | _, _ => .stuck
def sn4 (f : Src → D → D → D → D → R (D × Src)) : Src → List D → R (D × Src)
  | s, [a, b, c, d] => f s a b c d
  | _, _ => .stuck
def fn5 (f : D → D → D → D → D → R D) : List D → R D
  | [a, b, c, d, e] => f a b c d e
  | _ => .stuck
def fn6 (f : D → D → D → D → D → D → R D) : List D → R D
  | [a, b, c, d, e, g] => f a b c d e g
  | _ => .stuck
theorem fn1_eq (f : D → R D) (a : D) : fn1 f [a] = f a := rfl
theorem fn2_eq (f : D → D → R D) (a b : D) : fn2 f [a, b] = f a b := rfl
theorem fn3_eq (f : D → D → D → R D) (a b c : D) : fn3 f [a, b, c] = f a b c := rfl
theorem fn4_eq (f : D → D → D → D → R D) (a b c d : D) : fn4 f [a, b, c, d] = f a b c d := rfl
theorem fn5_eq (f : D → D → D → D → D → R D) (a b c d e : D) : fn5 f [a, b, c, d, e] = f a b c d e := rfl
theorem fn6_eq (f : D → D → D → D → D → D → R D) (a b c d e g : D) : fn6 f [a, b, c, d, e, g] = f a b c d e g := rfl
theorem sn0_eq (f : Src → R (D × Src)) (s : Src)  : sn0 f s [] = f s  := rfl
theorem sn1_eq (f : Src → D → R (D × Src)) (s : Src) (a : D) : sn1 f s [a] = f s a := rfl
theorem sn2_eq (f : Src → D → D → R (D × Src)) (s : Src) (a b : D) : sn2 f s [a, b] = f s a b := rfl
theorem sn3_eq (f : Src → D → D → D → R (D × Src)) (s : Src) (a b c : D) : sn3 f s [a, b, c] = f s a b c := rfl
theorem sn4_eq (f : Src → D → D → D → D → R (D × Src)) (s : Src) (a b c d : D) : sn4 f s [a, b, c, d] = f s a b c d := rfl
end Z

set_option Elab.async false
set_option linter.all false
set_option maxRecDepth 100000
set_option autoImplicit false
/-! # Z15: several targets, lists of their own among the values -/
namespace Z
open PySem L2

/-- what was made ahead gets its slot later -/
theorem Rel.later {W : Wd} {ρ ρ1 : Env} {σ σ1 : L2.St} {H F H1 F1 : Hp} {io : List Addr} {p : Addr} {vs : List V} {ds : List D} (r : Rel ⟨W.K, F1, upd H1 p (.lst vs), io⟩ ρ σ H F) (r1 : Rel W ρ1 σ1 H1 F1) (hio : ∀ b ∈ io, b ∈ W.io ∨ W.H0 b = none) (hn : p ∉ io) (hp : H1 p = none)
    (rd : RpAll W.K F1 vs ds) (i : Nat) : Rel W (ρ.set i (some (.own ds))) (σ.set i (some (.ref p))) H F := by
  have h0 : upd H1 p (.lst vs) p = some (.lst vs) := upd_same
  have hF : F p = none := r.free0 h0 hn (r1.sub.free hp)
  have hH : H p = some (.lst vs) := r.keep p _ h0 hn
  have no : ∀ b, upd H1 p (.lst vs) b = none → W.H0 b = none := fun b q => by
    by_cases hb : b = p
    · subst hb; rw [upd_same] at q; cases q
    · rw [upd_ne hb] at q; exact r1.base q
  have up : ∀ b o, H1 b = some o → upd H1 p (.lst vs) b = some o := fun b o h => by rw [upd_ne (ne_of_none h hp)]; exact h
  refine ⟨r.sub, r1.sub0.trans r.sub0, fun b o h n => ?_, fun b o h => ?_, ?_, by rw [List.length_set, List.length_set]; exact r.len, fun b o h => ?_⟩
  · refine r.keep b o (up b o (r1.keep b o h n)) fun hb => ?_
    rcases hio b hb with q | q
    · exact n q
    · rw [h] at q; cases q
  · rcases r.fresh b o h with q | q | q
    · exact r1.fresh b o q
    · exact .inr (.inl (no b q))
    · exact .inr ((hio b q).elim .inr .inl)
  · obtain ⟨ad, k⟩ := r.env
    have nad : ∀ j sl, ρ[j]? = some (some sl) → p ∉ ad j := fun j sl e hb => by
      obtain ⟨v, _, _, h3, _⟩ := k j sl e
      rcases h3 p hb with z | z
      · exact hn z
      · replace z : upd H1 p (.lst vs) p = none := z
        rw [upd_same] at z; cases z
    refine ⟨fun j => if j = i then [p] else ad j, fun j sl e => ?_⟩
    rcases get_set e with ⟨e1, e2, e3⟩ | ⟨e1, e2⟩
    · subst e1; cases e3
      refine ⟨.ref p, by rw [List.getElem?_set_self (Nat.lt_of_lt_of_le e2 r.len)], ⟨p, vs, rfl, by simp, hH, hF, rd.mono r.sub0⟩, by simp [r1.base hp], fun l sl' hl e' b hb => ?_⟩
      have hb' : b = p := by simpa using hb
      subst hb'
      have ne : l ≠ i := fun q => hl q.symm
      simp only [if_neg ne]
      rcases get_set e' with ⟨z1, _, _⟩ | ⟨z1, z2⟩
      · exact absurd z1 hl
      · exact nad l sl' z2
    · have ne : j ≠ i := fun q => e1 q.symm
      simp only [if_neg ne]
      obtain ⟨v', k1, k2, k3, k4⟩ := k j sl e2
      refine ⟨v', by rw [List.getElem?_set_ne e1]; exact k1, k2, fun b hb => (k3 b hb).elim (hio b) fun q => .inr (no b q), fun l sl'' hl e' b hb => ?_⟩
      rcases get_set e' with ⟨z1, z2, z3⟩ | ⟨z1, z2⟩
      · subst z1; cases z3
        simp only [if_true]
        intro hbl
        have hb' : b = p := by simpa using hbl
        subst hb'
        exact nad j sl e2 hb
      · have ne' : l ≠ i := fun q => z1 q.symm
        simp only [if_neg ne']
        exact k4 l sl'' hl z2 b hb
  · obtain ⟨o1, h1⟩ := r1.trk b o h
    exact r.trk b o1 (up b o1 h1)

def setAll (σ : L2.St) : List Nat → List V → L2.St
  | i :: is, v :: vs => setAll (σ.set i (some v)) is vs
  | _, _ => σ
theorem setAll_set {i : Nat} {x : Option V} : ∀ {is : List Nat} {vs : List V} {σ : L2.St}, i ∉ is → (setAll σ is vs).set i x = setAll (σ.set i x) is vs
  | [], _, _, _ => rfl
  | _ :: _, [], _, _ => rfl
  | j :: is, v :: vs, σ, h => by
    have hj : i ≠ j := fun e => h (by simp [e])
    unfold setAll
    rw [setAll_set (fun q => h (by simp [q]))]
    exact congrArg (fun τ => setAll τ is vs) (List.set_comm _ _ (fun e => hj e.symm))

section
variable {α : Type} {C : Ct} {ρ : Env} {m : R α}
/-- values for the slots is, one by one, stored at the end -/
def DPs {α : Type} (C : Ct) (ρ : Env) (es : List Expr) (is : List Nat) (m : R α) (κ : Env → R α → Prop) : Prop :=
  ∀ (X : Cx) (W : Wd) (Z : R α → Prop), XOk C X → W.K = C.K → Cl Z → Z m →
    PA X es fun σ H Q => ∃ F, Rel W ρ σ H F ∧ ∀ vs ρ' m' H' F', κ ρ' m' → Z m' → vs.length = is.length → Rel W ρ' (setAll σ is vs) H' F' → Same F F' → Q vs H'
theorem dps_nil {κ : Env → R α → Prop} (k : κ ρ m) : DPs C ρ [] [] m κ := fun X W Z x hK c z =>
  PA_imp pa_nil fun σ H Q ⟨F, r, q⟩ => q [] ρ m H F k z rfl r (Same.refl _)
theorem dps_val {κ : Env → R α → Prop} {e : Expr} {es : List Expr} {is : List Nat} (i : Nat) (h : DE C ρ e m fun d ρ1 m1 => DPs C ρ1 es is m1 fun ρ2 m2 => κ (ρ2.set i (some (.val d))) m2) (hi : i ∉ is := by decide)
    (hs : ∀ env : PySem.Env, starEach (e :: es) env = (false, eval e env) :: starEach es env := by intro _; rfl) : DPs C ρ (e :: es) (i :: is) m κ := by
  intro X W Z x hK c z
  have rest : PA X es fun σ H Q => ∃ j : R α × Env × D, (DPs C j.2.1 es is j.1 (fun ρ2 m2 => κ (ρ2.set i (some (.val j.2.2))) m2) ∧ Z j.1) ∧ ∃ F, Rel W j.2.1 σ H F ∧ ∀ vs ρ' m' H' F', κ (ρ'.set i (some (.val j.2.2))) m' → Z m' → vs.length = is.length → Rel W ρ' (setAll σ is vs) H' F' → Same F F' → Q vs H' :=
    ⟨fun po p s σ H Q I ⟨j, pj, q⟩ => (pj.1 X W Z x hK c pj.2).run po p s σ H Q I q⟩
  refine PA_imp (pa_cons (h X W Z x hK c z) rest (hs _)) fun σ H Q ⟨F, r, q⟩ => ⟨F, r, fun d ρ1 m1 v H1 F1 h1 h2 h3 h4 h5 => ?_⟩
  refine ⟨(m1, ρ1, d), ⟨h1, h2⟩, F1, h3, fun vs ρ2 m2 H2 F2 k1 k2 k3 k4 k5 => q (v :: vs) _ m2 H2 F2 k1 k2 (by simp [k3]) ?_ (h4.trans k5)⟩
  show Rel W _ (setAll (σ.set i (some v)) is vs) H2 F2
  rw [← setAll_set hi]
  exact k4.set i (h5.mono k5)
theorem dps_own {κ : Env → R α → Prop} {e : Expr} {es : List Expr} {is : List Nat} (i : Nat) (h : DN C ρ e m fun ds ρ1 m1 => DPs C ρ1 es is m1 fun ρ2 m2 => κ (ρ2.set i (some (.own ds))) m2) (hi : i ∉ is := by decide)
    (hs : ∀ env : PySem.Env, starEach (e :: es) env = (false, eval e env) :: starEach es env := by intro _; rfl) : DPs C ρ (e :: es) (i :: is) m κ := by
  intro X W Z x hK c z
  have rest : PA X es fun σ H Q => ∃ (W' : Wd) (j : R α × Env × List D), W'.K = C.K ∧ (DPs C j.2.1 es is j.1 (fun ρ2 m2 => κ (ρ2.set i (some (.own j.2.2))) m2) ∧ Z j.1) ∧ ∃ F, Rel W' j.2.1 σ H F ∧ ∀ vs ρ' m' H' F', κ (ρ'.set i (some (.own j.2.2))) m' → Z m' → vs.length = is.length → Rel W' ρ' (setAll σ is vs) H' F' → Same F F' → Q vs H' :=
    ⟨fun po p s σ H Q I ⟨W', j, hK', pj, q⟩ => (pj.1 X W' Z x hK' c pj.2).run po p s σ H Q I q⟩
  refine PA_imp (pa_cons (h X W Z x hK c z) rest (hs _)) fun σ H Q ⟨F, r, q⟩ => ⟨F, r, fun ds ρ1 m1 vs0 p H1 F1 h1 h2 h3 h4 hp h5 => ?_⟩
  obtain ⟨io, rt, hio, hth⟩ := h3.turn
  have hnio : p ∉ io := fun hb => by obtain ⟨o, e⟩ := hth p hb; rw [hp] at e; cases e
  refine ⟨⟨W.K, F1, upd H1 p (.lst vs0), io⟩, (m1, ρ1, ds), hK, ⟨h1, h2⟩, F1, rt.newAt hp hp _, fun vs ρ2 m2 H2 F2 k1 k2 k3 k4 k5 => q (.ref p :: vs) _ m2 H2 F2 k1 k2 (by simp [k3]) ?_ (h4.trans k5)⟩
  show Rel W _ (setAll (σ.set i (some (.ref p))) is vs) H2 F2
  rw [← setAll_set hi]
  exact k4.later h3 hio hnio hp h5 i
theorem len2 {vs : List V} (h : vs.length = 2) : ∃ u v, vs = [u, v] := by match vs, h with | [u, v], _ => exact ⟨u, v, rfl⟩
theorem len3 {vs : List V} (h : vs.length = 3) : ∃ u v w, vs = [u, v, w] := by match vs, h with | [u, v, w], _ => exact ⟨u, v, w, rfl⟩
/-- a, b = e1, e2, both plain locals -/
theorem ds_parN {J : Jd α} {n1 n2 : Str} {e1 e2 : Expr} {px py pt pt2 pos : Pos} {kt k2 : Nat} {rest : List Stmt} (i j : Nat) (h : DPs C ρ [e1, e2] [i, j] m fun ρ' m' => DSs C ρ' rest m' J)
    (hN : C.N[i]? = some n1 := by rfl) (hN2 : C.N[j]? = some n2 := by rfl) (hij : i ≠ j := by decide) (hx : C.sc.names.lookup n1 = some .local := by rfl) (hy : C.sc.names.lookup n2 = some .local := by rfl)
    (hw : ∀ env : PySem.Env, env.scope = C.sc → swappedStores [.Tuple [.Name n1 px, .Name n2 py] kt pt] (.Tuple [e1, e2] k2 pt2) env = pure (some [n1, n2]) := by intro env he; cases env; cases he; rfl) : DSs C ρ (.Assign [.Tuple [.Name n1 px, .Name n2 py] kt pt] (.Tuple [e1, e2] k2 pt2) pos :: rest) m J := by
  intro X W Z x hK c z
  refine PSs_imp (pss_cons (ps_par (i := i) (j := j) x.calm (by rw [x.N]; exact x.nd) (by rw [x.N]; exact hN) (by rw [x.N]; exact hN2) hij (by rw [x.sc]; exact hx) (by rw [x.sc]; exact hy) (h X W Z x hK c z) (hw _ x.sc)) (rest_run (J := J) x hK c)) fun Dn σ H ⟨F, r, l⟩ => ?_
  refine ⟨F, r, fun vs ρ' m' H' F' k1 k2 k3 k4 k5 => ?_⟩
  obtain ⟨u, v, rfl⟩ := len2 k3
  exact ⟨u, v, rfl, (m', ρ'), ⟨k1, k2⟩, F', k4, l⟩
theorem ds_parN3 {J : Jd α} {n1 n2 n3 : Str} {e1 e2 e3 : Expr} {px py pz pt pt2 pos : Pos} {kt k2 : Nat} {rest : List Stmt} (i j l : Nat) (h : DPs C ρ [e1, e2, e3] [i, j, l] m fun ρ' m' => DSs C ρ' rest m' J)
    (hN : C.N[i]? = some n1 := by rfl) (hN2 : C.N[j]? = some n2 := by rfl) (hN3 : C.N[l]? = some n3 := by rfl) (hij : i ≠ j := by decide) (hil : i ≠ l := by decide) (hjl : j ≠ l := by decide)
    (hx : C.sc.names.lookup n1 = some .local := by rfl) (hy : C.sc.names.lookup n2 = some .local := by rfl) (hz : C.sc.names.lookup n3 = some .local := by rfl)
    (hw : ∀ env : PySem.Env, env.scope = C.sc → swappedStores [.Tuple [.Name n1 px, .Name n2 py, .Name n3 pz] kt pt] (.Tuple [e1, e2, e3] k2 pt2) env = pure (some [n1, n2, n3]) := by intro env he; cases env; cases he; rfl)
    (hsw : ∀ env : PySem.Env, env.scope = C.sc → swapsWithSole [.Tuple [.Name n1 px, .Name n2 py, .Name n3 pz] kt pt] (.Tuple [e1, e2, e3] k2 pt2) pos.line env = pure false := by intro env he; rfl) : DSs C ρ (.Assign [.Tuple [.Name n1 px, .Name n2 py, .Name n3 pz] kt pt] (.Tuple [e1, e2, e3] k2 pt2) pos :: rest) m J := by
  intro X W Z x hK c z
  refine PSs_imp (pss_cons (L2.ps_par3 (i := i) (j := j) (l := l) x.calm (by rw [x.N]; exact x.nd) (by rw [x.N]; exact hN) (by rw [x.N]; exact hN2) (by rw [x.N]; exact hN3) hij hil hjl (by rw [x.sc]; exact hx) (by rw [x.sc]; exact hy) (by rw [x.sc]; exact hz) (h X W Z x hK c z) (hw _ x.sc) (hsw _ x.sc)) (rest_run (J := J) x hK c)) fun Dn σ H ⟨F, r, l'⟩ => ?_
  refine ⟨F, r, fun vs ρ' m' H' F' k1 k2 k3 k4 k5 => ?_⟩
  obtain ⟨u, v, w, rfl⟩ := len3 k3
  exact ⟨u, v, w, rfl, (m', ρ'), ⟨k1, k2⟩, F', k4, l'⟩
/-- a tuple's parts to names, some of them no plain locals -/
theorem ds_asgN2 {J : Jd α} {n1 n2 : Str} {e1 e2 : Expr} {px py pt pt2 pos : Pos} {kt k2 : Nat} {rest : List Stmt} (i j : Nat) (h : DPs C ρ [e1, e2] [i, j] m fun ρ' m' => DSs C ρ' rest m' J)
    (hNi : C.N[i]? = some n1 := by rfl) (hNj : C.N[j]? = some n2 := by rfl) (hxi : Loc C.sc n1 := by first | exact Or.inl rfl | exact Or.inr rfl) (hfi : C.fn n1 = true ∨ C.sc.names.lookup n1 = some .local := by first | exact Or.inl rfl | exact Or.inr rfl) (hxj : Loc C.sc n2 := by first | exact Or.inl rfl | exact Or.inr rfl) (hfj : C.fn n2 = true ∨ C.sc.names.lookup n2 = some .local := by first | exact Or.inl rfl | exact Or.inr rfl)
    (as0 : ∀ env : PySem.Env, (assignEach [.Name n1 px, .Name n2 py] env).map (·.2) = assign (.Name n1 px) env :: (assignEach [.Name n2 py] env).map (·.2) := by intro _; rfl) (as1 : ∀ env : PySem.Env, (assignEach [.Name n2 py] env).map (·.2) = assign (.Name n2 py) env :: (assignEach [] env).map (·.2) := by intro _; rfl)
    (hn : ∀ env : PySem.Env, (assignEach [.Name n1 px, .Name n2 py] env).length = 2 := by intro _; rfl) (hst : ∀ env : PySem.Env, (assignEach [.Name n1 px, .Name n2 py] env).findIdx? (·.1) = none := by intro _; rfl)
    (hw : ∀ env : PySem.Env, env.scope = C.sc → swappedStores [.Tuple [.Name n1 px, .Name n2 py] kt pt] (.Tuple [e1, e2] k2 pt2) env = pure none := by intro env he; cases env; cases he; rfl)
    (hsw : ∀ env : PySem.Env, env.scope = C.sc → swapsWithSole [.Tuple [.Name n1 px, .Name n2 py] kt pt] (.Tuple [e1, e2] k2 pt2) pos.line env = pure false := by intro env he; rfl) (h1 : ∀ env : PySem.Env, (assignEach [.Tuple [.Name n1 px, .Name n2 py] kt pt] env).map (·.2) = [assign (.Tuple [.Name n1 px, .Name n2 py] kt pt) env] := by intro _; rfl) :
    DSs C ρ (.Assign [.Tuple [.Name n1 px, .Name n2 py] kt pt] (.Tuple [e1, e2] k2 pt2) pos :: rest) m J := by
  intro X W Z x hK c z
  have hfni : X.fn n1 = true ∨ X.env.scope.names.lookup n1 = some .local := hfi.elim (fun h => .inl (x.fnl n1 h)) fun h => .inr (by rw [x.sc]; exact h)
  have hfnj : X.fn n2 = true ∨ X.env.scope.names.lookup n2 = some .local := hfj.elim (fun h => .inl (x.fnl n2 h)) fun h => .inr (by rw [x.sc]; exact h)
  refine PSs_imp (pss_cons (ps_asg (pe_tup (h X W Z x hK c z)) (pg_tup (n := 2) x.calm (pgs_cons (pg_name (i := i) (by rw [x.N]; exact x.nd) (by rw [x.N]; exact hNi) (by rw [x.sc]; exact hxi) hfni) (pgs_cons (pg_name (i := j) (by rw [x.N]; exact x.nd) (by rw [x.N]; exact hNj) (by rw [x.sc]; exact hxj) hfnj) pgs_nil (as1 _)) (as0 _)) (hn _) (hst _)) (hsw _ x.sc) (hw _ x.sc) (h1 _)) (rest_run (J := J) x hK c)) fun Dn σ H ⟨F, r, l⟩ => ?_
  refine ⟨F, r, fun vs ρ' m' H' F' k1 k2 k3 k4 k5 => ⟨by rw [k3, sizeLine_eq]; show (2 : Nat) ≤ 16777216; decide, fun p hp => ?_⟩⟩
  obtain ⟨u, v, rfl⟩ := len2 k3
  have k6 := k4.step (F' := F') (H' := upd H' p (.tup [u, v])) ⟨Same.refl _, fun b o q => by rw [upd_ne (ne_of_none (k4.sub b o q) hp)]; exact k4.sub b o q, fun b o q => by rw [upd_ne (ne_of_none q hp)]; exact q, fun _ _ q => .inl q⟩
  exact ⟨p, _, rfl, .inl (.inl upd_same), rfl, ⟨_, _, rfl, ⟨_, _, rfl, ⟨rfl, (m', ρ'), ⟨k1, k2⟩, F', k6, l⟩⟩⟩⟩
/-- a tuple's parts to names, some of them no plain locals -/
theorem ds_asgN3 {J : Jd α} {n1 n2 n3 : Str} {e1 e2 e3 : Expr} {px py pz pt pt2 pos : Pos} {kt k2 : Nat} {rest : List Stmt} (i j l : Nat) (h : DPs C ρ [e1, e2, e3] [i, j, l] m fun ρ' m' => DSs C ρ' rest m' J)
    (hNi : C.N[i]? = some n1 := by rfl) (hNj : C.N[j]? = some n2 := by rfl) (hNl : C.N[l]? = some n3 := by rfl) (hxi : Loc C.sc n1 := by first | exact Or.inl rfl | exact Or.inr rfl) (hfi : C.fn n1 = true ∨ C.sc.names.lookup n1 = some .local := by first | exact Or.inl rfl | exact Or.inr rfl) (hxj : Loc C.sc n2 := by first | exact Or.inl rfl | exact Or.inr rfl) (hfj : C.fn n2 = true ∨ C.sc.names.lookup n2 = some .local := by first | exact Or.inl rfl | exact Or.inr rfl) (hxl : Loc C.sc n3 := by first | exact Or.inl rfl | exact Or.inr rfl) (hfl : C.fn n3 = true ∨ C.sc.names.lookup n3 = some .local := by first | exact Or.inl rfl | exact Or.inr rfl)
    (as0 : ∀ env : PySem.Env, (assignEach [.Name n1 px, .Name n2 py, .Name n3 pz] env).map (·.2) = assign (.Name n1 px) env :: (assignEach [.Name n2 py, .Name n3 pz] env).map (·.2) := by intro _; rfl) (as1 : ∀ env : PySem.Env, (assignEach [.Name n2 py, .Name n3 pz] env).map (·.2) = assign (.Name n2 py) env :: (assignEach [.Name n3 pz] env).map (·.2) := by intro _; rfl) (as2 : ∀ env : PySem.Env, (assignEach [.Name n3 pz] env).map (·.2) = assign (.Name n3 pz) env :: (assignEach [] env).map (·.2) := by intro _; rfl)
    (hn : ∀ env : PySem.Env, (assignEach [.Name n1 px, .Name n2 py, .Name n3 pz] env).length = 3 := by intro _; rfl) (hst : ∀ env : PySem.Env, (assignEach [.Name n1 px, .Name n2 py, .Name n3 pz] env).findIdx? (·.1) = none := by intro _; rfl)
    (hw : ∀ env : PySem.Env, env.scope = C.sc → swappedStores [.Tuple [.Name n1 px, .Name n2 py, .Name n3 pz] kt pt] (.Tuple [e1, e2, e3] k2 pt2) env = pure none := by intro env he; cases env; cases he; rfl)
    (hsw : ∀ env : PySem.Env, env.scope = C.sc → swapsWithSole [.Tuple [.Name n1 px, .Name n2 py, .Name n3 pz] kt pt] (.Tuple [e1, e2, e3] k2 pt2) pos.line env = pure false := by intro env he; rfl) (h1 : ∀ env : PySem.Env, (assignEach [.Tuple [.Name n1 px, .Name n2 py, .Name n3 pz] kt pt] env).map (·.2) = [assign (.Tuple [.Name n1 px, .Name n2 py, .Name n3 pz] kt pt) env] := by intro _; rfl) :
    DSs C ρ (.Assign [.Tuple [.Name n1 px, .Name n2 py, .Name n3 pz] kt pt] (.Tuple [e1, e2, e3] k2 pt2) pos :: rest) m J := by
  intro X W Z x hK c z
  have hfni : X.fn n1 = true ∨ X.env.scope.names.lookup n1 = some .local := hfi.elim (fun h => .inl (x.fnl n1 h)) fun h => .inr (by rw [x.sc]; exact h)
  have hfnj : X.fn n2 = true ∨ X.env.scope.names.lookup n2 = some .local := hfj.elim (fun h => .inl (x.fnl n2 h)) fun h => .inr (by rw [x.sc]; exact h)
  have hfnl : X.fn n3 = true ∨ X.env.scope.names.lookup n3 = some .local := hfl.elim (fun h => .inl (x.fnl n3 h)) fun h => .inr (by rw [x.sc]; exact h)
  refine PSs_imp (pss_cons (ps_asg (pe_tup (h X W Z x hK c z)) (pg_tup (n := 3) x.calm (pgs_cons (pg_name (i := i) (by rw [x.N]; exact x.nd) (by rw [x.N]; exact hNi) (by rw [x.sc]; exact hxi) hfni) (pgs_cons (pg_name (i := j) (by rw [x.N]; exact x.nd) (by rw [x.N]; exact hNj) (by rw [x.sc]; exact hxj) hfnj) (pgs_cons (pg_name (i := l) (by rw [x.N]; exact x.nd) (by rw [x.N]; exact hNl) (by rw [x.sc]; exact hxl) hfnl) pgs_nil (as2 _)) (as1 _)) (as0 _)) (hn _) (hst _)) (hsw _ x.sc) (hw _ x.sc) (h1 _)) (rest_run (J := J) x hK c)) fun Dn σ H ⟨F, r, l⟩ => ?_
  refine ⟨F, r, fun vs ρ' m' H' F' k1 k2 k3 k4 k5 => ⟨by rw [k3, sizeLine_eq]; show (3 : Nat) ≤ 16777216; decide, fun p hp => ?_⟩⟩
  obtain ⟨u, v, w, rfl⟩ := len3 k3
  have k6 := k4.step (F' := F') (H' := upd H' p (.tup [u, v, w])) ⟨Same.refl _, fun b o q => by rw [upd_ne (ne_of_none (k4.sub b o q) hp)]; exact k4.sub b o q, fun b o q => by rw [upd_ne (ne_of_none q hp)]; exact q, fun _ _ q => .inl q⟩
  exact ⟨p, _, rfl, .inl (.inl upd_same), rfl, ⟨_, _, rfl, ⟨_, _, rfl, ⟨_, _, rfl, ⟨rfl, (m', ρ'), ⟨k1, k2⟩, F', k6, l⟩⟩⟩⟩⟩
end
end Z

set_option Elab.async false
set_option linter.all false
set_option maxRecDepth 100000
set_option autoImplicit false
/-! # Z16: how the operations answer, numbers of bounded size -/
namespace Z
open PySem

/-- small enough for a product -/
def Sz (i : Int) : Prop := i.natAbs.log2 < 400000
theorem Sz.of {i : Int} {k : Nat} (h : i.natAbs < 2 ^ k) (hk : k ≤ 400000) : Sz i := by
  unfold Sz
  by_cases h0 : i.natAbs = 0
  · rw [h0]; decide
  · exact Nat.lt_of_lt_of_le ((Nat.log2_lt h0).mpr h) hk
theorem add_i (i j : Int) : add (.int i) (.int j) = .ok (.int (i + j)) := rfl
theorem sub_i (i j : Int) : sub (.int i) (.int j) = .ok (.int (i - j)) := rfl
theorem neg_i (i : Int) : neg (.int i) = .ok (.int (-i)) := rfl
theorem mul_i {i j : Int} (hi : Sz i) (hj : Sz j) : mul (.int i) (.int j) = .ok (.int (i * j)) := by
  unfold Sz at hi hj
  have : bigM i j = true := by unfold bigM; simp only [Bool.or_eq_true, decide_eq_true_eq]; exact .inr (by omega)
  simp [mul, this]
theorem mul_l {i j : Int} (hi : i.natAbs < 2 ^ 64) : mul (.int i) (.int j) = .ok (.int (i * j)) := by
  have : bigM i j = true := by unfold bigM; rw [decide_eq_true hi]; rfl
  simp [mul, this]
theorem mul_r {i j : Int} (hj : j.natAbs < 2 ^ 64) : mul (.int i) (.int j) = .ok (.int (i * j)) := by
  have : bigM i j = true := by unfold bigM; rw [decide_eq_true hj]; simp
  simp [mul, this]
theorem fdiv_i {i j : Int} (hj : j ≠ 0) (hs : bigD j = true) : fdiv (.int i) (.int j) = .ok (.int (i.fdiv j)) := by simp [fdiv, hj, hs]
theorem fmod_i {i j : Int} (hj : j ≠ 0) : fmod (.int i) (.int j) = .ok (.int (i.fmod j)) := by simp [fmod, hj]
theorem lt_i (i j : Int) : ltD (.int i) (.int j) = .ok (decide (i < j)) := rfl
theorem gt_i (i j : Int) : gtD (.int i) (.int j) = .ok (decide (j < i)) := rfl
theorem le_i (i j : Int) : leD (.int i) (.int j) = .ok (decide (i ≤ j)) := rfl
theorem ge_i (i j : Int) : geD (.int i) (.int j) = .ok (decide (j ≤ i)) := rfl
theorem ok_i (i : Int) : okD (.int i) = true := by simp [okD, PyData.plain, PyData.depth]
theorem eqv_i (i j : Int) : PyData.eqv (.int i) (.int j) = decide (i = j) := by
  unfold PyData.eqv
  first | rfl | (by_cases h : i = j <;> simp [h])
theorem eq_i (i j : Int) : eqD (.int i) (.int j) = .ok (decide (i = j)) := by simp [eqD, ok_i, eqv_i]
theorem ne_i (i j : Int) : neD (.int i) (.int j) = .ok (!decide (i = j)) := by simp [neD, eq_i]
theorem abs_i (i : Int) : absD (.int i) = .ok (.int (i.natAbs : Int)) := by
  unfold absD
  split
  · rename_i h; cases h
    congr 2
    split <;> omega
  · rename_i h; exact absurd rfl (h i)
theorem int_i (i : Int) : intD (.int i) = .ok (.int i) := rfl
theorem toI_i (i : Int) : toI (.int i) = .ok i := rfl
theorem max2_i (i j : Int) : maxD2 (.int i) (.int j) = .ok (.int (max i j)) := by
  show R.ok (PyData.int (if j > i then j else i)) = _
  have : (if j > i then j else i) = max i j := by split <;> omega
  rw [this]
theorem item0 (a : D) (l : List D) : item (.tuple (a :: l)) (.int 0) = .ok a := by simp [item, atD, L2.atI, L2.ixN]
theorem item_n {l : List D} {n : Nat} {d : D} (h : l[n]? = some d) : item (.tuple l) (.int (n : Nat)) = .ok d := by
  have hl := (List.getElem?_eq_some_iff.mp h).1
  have : L2.ixN l.length (n : Int) = some n := by unfold L2.ixN; rw [if_pos (by omega), if_pos (by omega)]; simp
  simp [item, atD, L2.atI, this, h]
theorem item1 (a b : D) (l : List D) : item (.tuple (a :: b :: l)) (.int 1) = .ok b := item_n (n := 1) (by simp)
theorem item_ln {l : List D} {n : Nat} {d : D} (h : l[n]? = some d) : item (.list l) (.int (n : Nat)) = .ok d := by
  have hl := (List.getElem?_eq_some_iff.mp h).1
  have : L2.ixN l.length (n : Int) = some n := by unfold L2.ixN; rw [if_pos (by omega), if_pos (by omega)]; simp
  simp [item, atD, L2.atI, this, h]
theorem item_l0 (a : D) (l : List D) : item (.list (a :: l)) (.int 0) = .ok a := item_ln (n := 0) (by simp)
theorem item_l1 (a b : D) (l : List D) : item (.list (a :: b :: l)) (.int 1) = .ok b := item_ln (n := 1) (by simp)
theorem un2_t (a b : D) : un2 (.tuple [a, b]) = .ok (a, b) := rfl
theorem un3_t (a b c : D) : un3 (.tuple [a, b, c]) = .ok (a, b, c) := rfl
theorem gcd_i (i j : Int) : gcdD (.int i) (.int j) = .ok (.int (Nat.gcd i.natAbs j.natAbs : Nat)) := rfl
theorem iter_l (xs : List D) : iter (.list xs) = .ok xs := rfl
theorem iter_t (xs : List D) : iter (.tuple xs) = .ok xs := rfl
theorem iterL_l (xs : List D) : iterL (.list xs) = .ok xs := rfl
theorem iterL_t (xs : List D) : iterL (.tuple xs) = .ok xs := rfl
theorem len_l (xs : List D) : lenD (.list xs) = .ok (.int xs.length) := rfl
theorem len_t (xs : List D) : lenD (.tuple xs) = .ok (.int xs.length) := rfl
theorem tuple_l (xs : List D) : tupleD (.list xs) = .ok (.tuple xs) := rfl
theorem flat_i (i : Int) : flatR (.ok (.int i)) = .ok (.int i) := rfl
theorem range_i {n : Nat} (h : n < 2 ^ 62) : range1 (.int (n : Int)) = .ok (rangeD 0 n) := by
  unfold range1 range2
  have h1 : (-(2 ^ 62) : Int) ≤ 0 := by decide
  have h2 : (0 : Int) < 2 ^ 62 := by decide
  have h3 : (-(2 ^ 62) : Int) ≤ (n : Int) := by omega
  have h4 : (n : Int) < 2 ^ 62 := by omega
  show (if (decide ((-(2 ^ 62) : Int) ≤ 0) && decide ((0 : Int) < 2 ^ 62) && decide ((-(2 ^ 62) : Int) ≤ (n : Int)) && decide ((n : Int) < 2 ^ 62)) = true then R.ok (rangeD 0 n) else R.stuck) = _
  rw [decide_eq_true h1, decide_eq_true h2, decide_eq_true h3, decide_eq_true h4]
  rfl
theorem rangeD_eq (n : Nat) : rangeD 0 n = (List.range n).map fun (k : Nat) => PyData.int (k : Int) := by simp [rangeD]
theorem bigD_of {j : Int} {k : Nat} (h : j.natAbs < 2 ^ k) (hk : k ≤ 9000) : bigD j = true := by
  unfold bigD
  by_cases h0 : j.natAbs = 0
  · rw [h0]; decide
  · exact decide_eq_true (Nat.lt_of_lt_of_le ((Nat.log2_lt h0).mpr h) hk)

/-! ### loops -/
theorem forS_nil {τ : Type} (st : τ) (f : D → τ → R τ) : forS [] st f = .ok st := rfl
theorem forS_cons {τ : Type} (x : D) (xs : List D) (st : τ) (f : D → τ → R τ) : forS (x :: xs) st f = (f x st).bind fun s => forS xs s f := rfl
/-- a loop by an invariant over what has been walked -/
theorem forS_inv {τ : Type} {f : D → τ → R τ} (I : List D → τ → Prop) {xs : List D} {st : τ} (h0 : I [] st) (hs : ∀ ys x s, (∃ zs, xs = ys ++ x :: zs) → I ys s → ∃ s', f x s = .ok s' ∧ I (ys ++ [x]) s') : ∃ s, forS xs st f = .ok s ∧ I xs s := by
  have key : ∀ (zs ys : List D) (s : τ), xs = ys ++ zs → I ys s → ∃ s', forS zs s f = .ok s' ∧ I xs s' := by
    intro zs
    induction zs with
    | nil => intro ys s e hi; rw [List.append_nil] at e; subst e; exact ⟨s, rfl, hi⟩
    | cons x zs ih =>
      intro ys s e hi
      obtain ⟨s', e1, h1⟩ := hs ys x s ⟨zs, e⟩ hi
      obtain ⟨s2, e2, h2⟩ := ih (ys ++ [x]) s' (by simp [e]) h1
      exact ⟨s2, by rw [forS_cons, e1]; exact e2, h2⟩
  exact key xs [] st rfl h0
/-- a comprehension with a state, by an invariant over what it has made -/
theorem compT_inv {τ : Type} {f : D → τ → R (Option D × τ)} (I : List D → List D → τ → Prop) {xs : List D} {st : τ} (h0 : I [] [] st)
    (hs : ∀ ys x s out, (∃ zs, xs = ys ++ x :: zs) → I ys out s → ∃ o s', f x s = .ok (o, s') ∧ I (ys ++ [x]) (out ++ o.toList) s') : ∃ out s, compT xs st f = .ok (out, s) ∧ I xs out s := by
  have key : ∀ (zs ys out : List D) (s : τ), xs = ys ++ zs → I ys out s → ∃ o2 s', compT zs s f = .ok (o2, s') ∧ I xs (out ++ o2) s' := by
    intro zs
    induction zs with
    | nil => intro ys out s e hi; rw [List.append_nil] at e; subst e; exact ⟨[], s, rfl, by simpa using hi⟩
    | cons x zs ih =>
      intro ys out s e hi
      obtain ⟨o, s', e1, h1⟩ := hs ys x s out ⟨zs, e⟩ hi
      obtain ⟨o2, s2, e2, h2⟩ := ih (ys ++ [x]) (out ++ o.toList) s' (by simp [e]) h1
      refine ⟨o.toList ++ o2, s2, ?_, by simpa using h2⟩
      simp only [compT, e1, R.bind_ok, e2]
      cases o <;> rfl
  obtain ⟨o, s, e, h⟩ := key xs [] [] st rfl h0
  exact ⟨o, s, e, by simpa using h⟩
theorem compS_of {τ : Type} {f : D → τ → R (Option D × τ)} {xs : List D} {st : τ} (h : xs.length < 16777216) : compS xs st f = compT xs st f := by unfold compS; rw [decide_eq_true h]; rfl
theorem compL_of {f : D → R (Option D)} {xs : List D} (h : xs.length < 16777216) : compL xs f = compP xs f := by unfold compL; rw [decide_eq_true h]; rfl
/-- each item to some answer or none -/
theorem compP_map {f : D → R (Option D)} {g : D → Option D} : ∀ {xs : List D}, (∀ x ∈ xs, f x = .ok (g x)) → compP xs f = .ok (xs.filterMap g)
  | [], _ => rfl
  | x :: xs, h => by
    simp only [compP, h x (by simp), R.bind_ok, compP_map (xs := xs) (fun y hy => h y (by simp [hy]))]
    cases hg : g x <;> simp [hg]

theorem compP_all {ι : Type} {f : D → R (Option D)} {g h : ι → D} : ∀ {xs : List ι}, (∀ x ∈ xs, f (g x) = .ok (some (h x))) → compP (xs.map g) f = .ok (xs.map h)
  | [], _ => rfl
  | x :: xs, k => by
    simp only [List.map_cons, compP, k x (by simp), R.bind_ok, compP_all (xs := xs) (fun y hy => k y (by simp [hy]))]
theorem compL_all {ι : Type} {f : D → R (Option D)} {g h : ι → D} {xs : List ι} (hl : xs.length < 16777216) (k : ∀ x ∈ xs, f (g x) = .ok (some (h x))) : compL (xs.map g) f = .ok (xs.map h) := by
  rw [compL_of (by rw [List.length_map]; exact hl), compP_all k]
theorem intsD_map : ∀ ns : List Int, intsD (ns.map .int) = some ns
  | [] => rfl
  | n :: ns => by simp [intsD, intsD_map ns]
/-! ### the source's budget -/
/-- n choices may be asked yet -/
def Ok (n : Nat) (s : Src) : Prop := 0 ≤ s.turn ∧ s.turn + (n : Int) ≤ 1000000000000
theorem Ok.le {n m : Nat} {s : Src} (h : Ok n s) (hm : m ≤ n) : Ok m s := ⟨h.1, by have := h.2; omega⟩
end Z

set_option Elab.async false
set_option linter.all false
set_option maxRecDepth 100000
set_option autoImplicit false
/-! # Z17: the plane: tables, lots, rows, fractions -/
namespace Z
open PySem

abbrev Vc := Int × Int
structure Tb where
  a : Int
  b : Int
  c : Int
  d : Int
deriving DecidableEq
def Tb.led (M : Tb) (v : Vc) : Vc := (M.a * v.1 + M.b * v.2, M.c * v.1 + M.d * v.2)
def Tb.det (M : Tb) : Int := M.a * M.d - M.b * M.c
def Tb.adj (M : Tb) : Tb := ⟨M.d, -M.b, -M.c, M.a⟩
def Tb.mul (M N : Tb) : Tb := ⟨M.a * N.a + M.b * N.c, M.a * N.b + M.b * N.d, M.c * N.a + M.d * N.c, M.c * N.b + M.d * N.d⟩
def Tb.one : Tb := ⟨1, 0, 0, 1⟩
def Tb.pw (M : Tb) : Nat → Tb
  | 0 => Tb.one
  | n + 1 => M.mul (M.pw n)
def Tb.less1 (M : Tb) : Tb := ⟨M.a - 1, M.b, M.c, M.d - 1⟩
def vadd (u v : Vc) : Vc := (u.1 + v.1, u.2 + v.2)
def vsub (u v : Vc) : Vc := (u.1 - v.1, u.2 - v.2)
def vmul (k : Int) (v : Vc) : Vc := (k * v.1, k * v.2)
def Tb.it (M : Tb) : Nat → Vc → Vc
  | 0, v => v
  | n + 1, v => M.led (M.it n v)
/-- a row of digits on a lot -/
def Tb.row (M : Tb) (v : Vc) : List Vc → Vc
  | [] => v
  | d :: r => M.row (vadd (M.led v) d) r
def lotD (v : Vc) : D := .tuple [.int v.1, .int v.2]
def tabD (M : Tb) : D := .tuple [.tuple [.int M.a, .int M.b], .tuple [.int M.c, .int M.d]]
def pointD (p : Vc × Int) : D := .tuple [lotD p.1, .int p.2]

theorem vext {u v : Vc} (h1 : u.1 = v.1) (h2 : u.2 = v.2) : u = v := Prod.ext h1 h2
section
variable (M N : Tb) (u v w : Vc) (k : Int)
theorem led_add : M.led (vadd u v) = vadd (M.led u) (M.led v) := by apply vext <;> simp only [Tb.led, vadd] <;> grind
theorem led_sub : M.led (vsub u v) = vsub (M.led u) (M.led v) := by apply vext <;> simp only [Tb.led, vsub] <;> grind
theorem led_mul : M.led (vmul k v) = vmul k (M.led v) := by apply vext <;> simp only [Tb.led, vmul] <;> grind
theorem led_adj : M.led (M.adj.led v) = vmul M.det v := by apply vext <;> simp only [Tb.led, vmul, Tb.adj, Tb.det] <;> grind
theorem adj_led : M.adj.led (M.led v) = vmul M.det v := by apply vext <;> simp only [Tb.led, vmul, Tb.adj, Tb.det] <;> grind
theorem mul_led : (M.mul N).led v = M.led (N.led v) := by apply vext <;> simp only [Tb.led, Tb.mul] <;> grind
theorem one_led : Tb.one.led v = v := by apply vext <;> simp [Tb.led, Tb.one]
theorem less1_led : M.less1.led v = vsub (M.led v) v := by apply vext <;> simp only [Tb.led, Tb.less1, vsub] <;> grind
theorem it_add : ∀ n, M.it n (vadd u v) = vadd (M.it n u) (M.it n v)
  | 0 => rfl
  | n + 1 => by rw [Tb.it, it_add n, led_add]; rfl
theorem it_sub : ∀ n, M.it n (vsub u v) = vsub (M.it n u) (M.it n v)
  | 0 => rfl
  | n + 1 => by rw [Tb.it, it_sub n, led_sub]; rfl
theorem it_mul : ∀ n, M.it n (vmul k v) = vmul k (M.it n v)
  | 0 => rfl
  | n + 1 => by rw [Tb.it, it_mul n, led_mul]; rfl
theorem it_led : ∀ n, M.it n (M.led v) = M.led (M.it n v)
  | 0 => rfl
  | n + 1 => by rw [Tb.it, it_led n]; rfl
theorem it_it : ∀ m n, M.it m (M.it n v) = M.it (m + n) v
  | 0, n => by rw [Nat.zero_add]; rfl
  | m + 1, n => by rw [Tb.it, it_it m n, Nat.add_right_comm]; rfl
theorem pw_led : ∀ n, (M.pw n).led v = M.it n v
  | 0 => one_led v
  | n + 1 => by rw [Tb.pw, mul_led, pw_led n]; rfl
theorem row_add : ∀ (r : List Vc) (u v : Vc), M.row (vadd u v) r = vadd (M.row u r) (M.it r.length v)
  | [], u, v => rfl
  | d :: r, u, v => by
    have e : vadd (M.led (vadd u v)) d = vadd (vadd (M.led u) d) (M.led v) := by rw [led_add]; apply vext <;> simp only [vadd] <;> omega
    rw [Tb.row, e, row_add r, it_led]; rfl
theorem row_append : ∀ (r q : List Vc) (v : Vc), M.row v (r ++ q) = M.row (M.row v r) q
  | [], q, v => rfl
  | d :: r, q, v => by rw [List.cons_append, Tb.row, row_append r]; rfl
theorem row_zero (r : List Vc) : M.row v r = vadd (M.row (0, 0) r) (M.it r.length v) := by
  rw [← row_add]
  congr 1
  apply vext <;> simp [vadd]
end
/-! ### least terms -/
/-- (X, Y)/C is the fraction (x, y)/c in least terms -/
structure IsLow (x y c X Y C : Int) : Prop where
  pos : 0 < C
  co : Nat.gcd (Nat.gcd X.natAbs Y.natAbs) C.natAbs = 1
  ex : X * c = x * C
  ey : Y * c = y * C
theorem IsLow.uniq {x y c X Y C x' y' c' X' Y' C' : Int} (h : IsLow x y c X Y C) (h' : IsLow x' y' c' X' Y' C') (hc : c ≠ 0) (hc' : c' ≠ 0) (ex : x * c' = x' * c) (ey : y * c' = y' * c) : X = X' ∧ Y = Y' ∧ C = C' := by
  have cross : ∀ {a A a' A' : Int}, A * c = a * C → A' * c' = a' * C' → a * c' = a' * c → A * C' = A' * C := fun {a A a' A'} e1 e2 e3 => by
    have : (A * C') * (c * c') = (A' * C) * (c * c') := by
      have h1 : (A * C') * (c * c') = (A * c) * (C' * c') := by grind
      have h2 : (A' * C) * (c * c') = (A' * c') * (C * c) := by grind
      rw [h1, h2, e1, e2]
      have h3 : a * C * (C' * c') = (a * c') * (C * C') := by grind
      have h4 : a' * C' * (C * c) = (a' * c) * (C * C') := by grind
      rw [h3, h4, e3]
    exact Int.eq_of_mul_eq_mul_right (Int.mul_ne_zero hc hc') this
  have qx := cross h.ex h'.ex ex
  have qy := cross h.ey h'.ey ey
  have dv : ∀ {X Y C X' Y' C' : Int}, 0 < C → 0 < C' → Nat.gcd (Nat.gcd X.natAbs Y.natAbs) C.natAbs = 1 → X * C' = X' * C → Y * C' = Y' * C → C.natAbs ∣ C'.natAbs := fun {X Y C X' Y' C'} p p' g a b => by
    have d1 : C.natAbs ∣ X.natAbs * C'.natAbs := by rw [← Int.natAbs_mul, a, Int.natAbs_mul]; exact Nat.dvd_mul_left _ _
    have d2 : C.natAbs ∣ Y.natAbs * C'.natAbs := by rw [← Int.natAbs_mul, b, Int.natAbs_mul]; exact Nat.dvd_mul_left _ _
    have d3 : C.natAbs ∣ C.natAbs * C'.natAbs := Nat.dvd_mul_right _ _
    have d4 := Nat.dvd_gcd (Nat.dvd_gcd d1 d2) d3
    rw [Nat.gcd_mul_right, Nat.gcd_mul_right, g, Nat.one_mul] at d4
    exact d4
  have e1 := dv h.pos h'.pos h.co qx qy
  have e2 := dv h'.pos h.pos h'.co qx.symm qy.symm
  have e3 := Nat.dvd_antisymm e1 e2
  have e4 : C = C' := by have := h.pos; have := h'.pos; omega
  subst e4
  have n0 : C ≠ 0 := by have := h.pos; omega
  exact ⟨Int.eq_of_mul_eq_mul_right n0 qx, Int.eq_of_mul_eq_mul_right n0 qy, rfl⟩
/-- by a common part -/
theorem IsLow.of {x y c : Int} (hc : c ≠ 0) (g : Int) (hg : g.natAbs = Nat.gcd (Nat.gcd x.natAbs y.natAbs) c.natAbs) (hs : 0 < g * c) : IsLow x y c (x / g) (y / g) (c / g) ∧ x.fdiv g = x / g ∧ y.fdiv g = y / g ∧ c.fdiv g = c / g := by
  have dx : g ∣ x := Int.natAbs_dvd_natAbs.mp (by rw [hg]; exact Nat.dvd_trans (Nat.gcd_dvd_left _ _) (Nat.gcd_dvd_left _ _))
  have dy : g ∣ y := Int.natAbs_dvd_natAbs.mp (by rw [hg]; exact Nat.dvd_trans (Nat.gcd_dvd_left _ _) (Nat.gcd_dvd_right _ _))
  have dc : g ∣ c := Int.natAbs_dvd_natAbs.mp (by rw [hg]; exact Nat.gcd_dvd_right _ _)
  have g0 : g ≠ 0 := fun e => by rw [e] at hs; simp at hs
  obtain ⟨X, rfl⟩ := dx
  obtain ⟨Y, rfl⟩ := dy
  obtain ⟨C, rfl⟩ := dc
  have f : ∀ z : Int, (g * z).fdiv g = g * z / g := fun z => by rw [Int.mul_fdiv_cancel_left _ g0, Int.mul_ediv_cancel_left _ g0]
  refine ⟨?_, f _, f _, f _⟩
  rw [Int.mul_ediv_cancel_left _ g0, Int.mul_ediv_cancel_left _ g0, Int.mul_ediv_cancel_left _ g0]
  have gp : 0 < g.natAbs := by omega
  refine ⟨?_, ?_, by grind, by grind⟩
  · have : g * (g * C) = (g * g) * C := by grind
    rw [this] at hs
    have sq : 0 < g * g := by
      rcases Int.lt_or_gt_of_ne g0 with q | q
      · exact Int.mul_pos_of_neg_of_neg q q
      · exact Int.mul_pos q q
    by_cases hC : 0 < C
    · exact hC
    · have : g * g * C ≤ 0 := Int.mul_nonpos_of_nonneg_of_nonpos (Int.le_of_lt sq) (by omega)
      omega
  · rw [Int.natAbs_mul, Int.natAbs_mul, Int.natAbs_mul, Nat.gcd_mul_left, Nat.gcd_mul_left] at hg
    have := Nat.eq_of_mul_eq_mul_left gp (hg.symm.trans (Nat.mul_one _).symm)
    exact this

/-! ### the common part by laps -/
def lap (p : Nat × Nat) : Nat × Nat := if p.2 ≠ 0 then (p.2, p.1 % p.2) else p
def laps : Nat → Nat × Nat → Nat × Nat
  | 0, p => p
  | n + 1, p => laps n (lap p)
theorem laps_zero (n a : Nat) : laps n (a, 0) = (a, 0) := by
  induction n with
  | zero => rfl
  | succ n ih => rw [laps]; simpa [lap] using ih
theorem laps_gcd : ∀ (k a b : Nat), b < 2 ^ k → laps (2 * k) (a, b) = (Nat.gcd a b, 0)
  | 0, a, b, h => by
    have : b = 0 := by simpa using h
    subst this; simp [laps]
  | k + 1, a, b, h => by
    show laps (2 * k + 1 + 1) (a, b) = _
    by_cases hb : b = 0
    · subst hb; rw [laps_zero]; simp
    · rw [laps, laps]
      have e1 : lap (a, b) = (b, a % b) := by simp [lap, hb]
      rw [e1]
      by_cases hr : a % b = 0
      · have e2 : lap (b, a % b) = (b, 0) := by simp [lap, hr]
        rw [e2, laps_zero, Nat.gcd_comm, Nat.gcd_rec, hr, Nat.gcd_zero_left]
      · have e2 : lap (b, a % b) = (a % b, b % (a % b)) := by simp [lap, hr]
        have l1 : a % b < b := Nat.mod_lt _ (by omega)
        have l2 : b % (a % b) < 2 ^ k := by
          have h3 : b % (a % b) < a % b := Nat.mod_lt _ (by omega)
          have h4 := Nat.div_add_mod b (a % b)
          have h5 : 1 ≤ b / (a % b) := (Nat.one_le_div_iff (by omega)).mpr (by omega)
          have h6 : a % b ≤ a % b * (b / (a % b)) := Nat.le_mul_of_pos_right _ h5
          have : 2 ^ (k + 1) = 2 * 2 ^ k := by rw [Nat.pow_succ]; omega
          omega
        rw [e2, laps_gcd k _ _ l2]
        congr 1
        have g1 : Nat.gcd a b = Nat.gcd (a % b) b := by rw [Nat.gcd_comm a b]; exact Nat.gcd_rec b a
        have g2 : Nat.gcd (a % b) b = Nat.gcd (b % (a % b)) (a % b) := Nat.gcd_rec _ _
        rw [g1, g2, Nat.gcd_comm]
end Z

set_option Elab.async false
set_option linter.all false
set_option maxRecDepth 100000
set_option autoImplicit false
set_option exponentiation.threshold 5000
/-! # Z18: what is small is shown; turns of a loop that goes on; slices at one -/
namespace Z
open PySem L2

structure Small (dp w : Nat) (d : D) : Prop where
  plain : d.plain = true
  depth : d.depth ≤ dp
  show' : d.showable = true
  nodict : d.hasDict = false
  leaf : d.leavesShort 202 = true
  weight : d.weight ≤ w
structure SmallAll (dp w : Nat) (ds : List D) : Prop where
  plain : PyData.plainAll ds = true
  depth : PyData.depthAll ds ≤ dp
  show' : PyData.showableAll ds = true
  nodict : PyData.hasDictAll ds = false
  leaf : PyData.leavesShortAll 202 ds = true
  weight : PyData.weightAll ds ≤ w
theorem Small.mono {dp w dp' w' : Nat} {d : D} (h : Small dp w d) (h1 : dp ≤ dp') (h2 : w ≤ w') : Small dp' w' d := ⟨h.plain, Nat.le_trans h.depth h1, h.show', h.nodict, h.leaf, Nat.le_trans h.weight h2⟩
theorem Small.int {i : Int} (h : i.natAbs < 2 ^ 200) : Small 0 200 (.int i) := by
  have l : i.natAbs.log2 < 200 := by
    by_cases z : i.natAbs = 0
    · rw [z]; decide
    · exact (Nat.log2_lt z).mpr h
  refine ⟨by simp [PyData.plain], by simp [PyData.depth], by simp only [PyData.showable]; exact decide_eq_true (by omega), by simp [PyData.hasDict], ?_, ?_⟩
  · simp only [PyData.leavesShort, PyData.shown]
    refine decide_eq_true ?_
    have q := int_text_length_le (by decide : 0 < 200) l
    have e : (Str.ofString (toString i)).length = (toString i).length := ofString_length _
    exact Nat.le_trans (Nat.le_of_eq e) (by omega)
  · simp only [PyData.weight]
    split <;> omega
theorem SmallAll.nil : SmallAll 0 0 [] := ⟨rfl, by simp [PyData.depthAll], rfl, rfl, rfl, by simp [PyData.weightAll]⟩
theorem SmallAll.cons {dp dp' w w' : Nat} {d : D} {ds : List D} (h : Small dp w d) (k : SmallAll dp' w' ds) : SmallAll (max dp dp') (w + 1 + w') (d :: ds) := by
  obtain ⟨a1, a2, a3, a4, a5, a6⟩ := h
  obtain ⟨b1, b2, b3, b4, b5, b6⟩ := k
  refine ⟨by simp [PyData.plainAll, a1, b1], ?_, by simp [PyData.showableAll, a3, b3], by simp [PyData.hasDictAll, a4, b4], by simp [PyData.leavesShortAll, a5, b5], ?_⟩
  · simp only [PyData.depthAll]; omega
  · simp only [PyData.weightAll]; omega
theorem SmallAll.mono {dp w dp' w' : Nat} {ds : List D} (h : SmallAll dp w ds) (h1 : dp ≤ dp') (h2 : w ≤ w') : SmallAll dp' w' ds := ⟨h.plain, Nat.le_trans h.depth h1, h.show', h.nodict, h.leaf, Nat.le_trans h.weight h2⟩
theorem SmallAll.all {dp w : Nat} : ∀ {ds : List D}, (∀ d ∈ ds, Small dp w d) → SmallAll dp (ds.length * (w + 1)) ds
  | [], _ => SmallAll.nil.mono (Nat.zero_le _) (Nat.zero_le _)
  | d :: ds, h => by
    have q := SmallAll.cons (h d (by simp)) (SmallAll.all (ds := ds) fun x hx => h x (by simp [hx]))
    refine q.mono (by omega) ?_
    rw [List.length_cons, Nat.add_mul]
    omega
theorem SmallAll.tuple {dp w : Nat} {ds : List D} (h : SmallAll dp w ds) : Small (dp + 1) w (.tuple ds) := by
  obtain ⟨b1, b2, b3, b4, b5, b6⟩ := h
  exact ⟨by simpa only [PyData.plain] using b1, by simp only [PyData.depth]; omega, by simpa only [PyData.showable] using b3, by simpa only [PyData.hasDict] using b4, by simpa only [PyData.leavesShort] using b5, by simpa only [PyData.weight] using b6⟩
theorem SmallAll.list {dp w : Nat} {ds : List D} (h : SmallAll dp w ds) : Small (dp + 1) w (.list ds) := by
  obtain ⟨b1, b2, b3, b4, b5, b6⟩ := h
  exact ⟨by simpa only [PyData.plain] using b1, by simp only [PyData.depth]; omega, by simpa only [PyData.showable] using b3, by simpa only [PyData.hasDict] using b4, by simpa only [PyData.leavesShort] using b5, by simpa only [PyData.weight] using b6⟩
theorem Small.repr {dp w : Nat} {d : D} (h : Small dp w d) (h1 : dp ≤ 40) (h2 : w ≤ 80000) : reprOk d = true := by
  have q := PyData.shown_le 202 (by decide) d h.leaf
  have hw := h.weight
  have h4 : (202 + 2) * d.weight ≤ (202 + 2) * 80000 := Nat.mul_le_mul (Nat.le_refl _) (by omega)
  have o : okD d = true := by
    unfold okD
    rw [h.plain, decide_eq_true (Nat.le_trans h.depth h1)]; rfl
  unfold reprOk
  rw [o, h.show', h.nodict, decide_eq_true (by omega)]; rfl
theorem repr_t {dp w : Nat} {ds : List D} (h : Small dp w (.tuple ds)) (h1 : dp ≤ 40 := by decide) (h2 : w ≤ 80000 := by decide) : reprD (.tuple ds) = .ok (.str (PyData.tuple ds).shown) := by
  show (if _ = true then _ else _) = _
  rw [if_pos (h.repr h1 h2)]
theorem repr_l {dp w : Nat} {ds : List D} (h : Small dp w (.list ds)) (h1 : dp ≤ 40 := by decide) (h2 : w ≤ 80000 := by decide) : reprD (.list ds) = .ok (.str (PyData.list ds).shown) := by
  show (if _ = true then _ else _) = _
  rw [if_pos (h.repr h1 h2)]
theorem okS (s : Str) : okD (.str s) = true := by simp [okD, PyData.plain, PyData.depth]
theorem eq_s (s : Str) : eqD (.str s) (.str s) = .ok true := by
  unfold eqD; rw [okS]; simp [PyData.eqv]
theorem ne_s (s : Str) : neD (.str s) (.str s) = .ok false := by unfold neD; rw [eq_s]; rfl
theorem forT_bind {τ β : Type} {f : D → τ → R (Fl τ)} {k : Fl τ → R β} {r : R β} (I : Nat → τ → Prop) (h : ∀ n x st, I (n + 1) st → ∃ st', f x st = .ok (.nx st') ∧ I n st') : ∀ {xs : List D} {st : τ}, I xs.length st → (∀ st', k (.nx st') = r) → (forT xs st f).bind k = r
  | [], st, _, hk => hk st
  | x :: xs, st, i, hk => by
    obtain ⟨s1, e1, i1⟩ := h xs.length x st i
    show ((f x st).bind _).bind k = r
    rw [e1]
    exact forT_bind I h i1 hk
theorem slice_1 (a : D) (l : List D) : slice (.tuple (a :: l)) none (some 1) = .ok (.tuple [a]) := by
  have e : HT.sIx (a :: l).length (a :: l).length (some 1) = 1 := by
    rw [show (some (1 : Int)) = some ((1 : Nat) : Int) from rfl, HT.sIx_nat]; simp
  simp only [slice, cut, HT.sIx_none, e]; rfl
theorem slice_2 (a : D) (l : List D) : slice (.tuple (a :: l)) (some 1) none = .ok (.tuple l) := by
  have e : HT.sIx (a :: l).length 0 (some 1) = 1 := by
    rw [show (some (1 : Int)) = some ((1 : Nat) : Int) from rfl, HT.sIx_nat]; simp
  simp only [slice, cut, HT.sIx_none, e]
  simp
theorem add_t {xs ys : List D} (h : xs.length + ys.length < 16777216) : add (.tuple xs) (.tuple ys) = .ok (.tuple (xs ++ ys)) := by
  have c1 : szOk (xs.length + ys.length) = true := by unfold szOk; exact decide_eq_true (by omega)
  simp only [add, c1, if_true]
theorem push1 (xs : List D) (d : D) (h : xs.length < 16777216) : pushM xs [d] = .ok (.none, xs ++ [d]) := by
  show (if _ = true then _ else _) = _
  rw [if_pos (decide_eq_true h)]
end Z

set_option Elab.async false
set_option linter.all false
set_option maxRecDepth 100000
set_option autoImplicit false
/-! # Z19: and, or, not as values; isinstance; zip; a list of one's own that is changed no more -/
namespace Z
open PySem L2
section
variable {α : Type} {C : Ct} {ρ : Env} {m : R α}

theorem truV_of {K : PySem.W.Frag} {F H : Hp} (e : Same F H) {v : V} {d : D} {t : Bool} (h : Rp K F v d) (et : truth d = .ok t) : TruV K v H t := by
  cases h with
  | non => cases et; rfl
  | bl b => cases et; rfl
  | int i => cases et; rfl
  | str y =>
    simp only [truth] at et
    split at et
    · rename_i hz
      cases et
      exact ⟨by rw [sizeLine_eq]; simpa [szOk] using hz, by cases hh : y.length <;> simp <;> omega⟩
    · cases et
  | lst a b =>
    have e0 := b.isEmpty
    cases et
    exact .inl ⟨_, .inl (.inl (e _ _ a)), by rw [e0]⟩
  | tup a b =>
    have e0 := b.isEmpty
    cases et
    exact .inr (.inl ⟨_, seqT e a, by rw [e0]⟩)
  | dct _ _ _ _ => cases et
theorem de_and1 {κ : D → Env → R α → Prop} {e : Expr} {pos : Pos} {op : BoolOp} (h : DE C ρ e m κ) : DE C ρ (.BoolOp op [e] pos) m κ := fun X W Z x hK c z => pe_one (h X W Z x hK c z)
theorem de_and {κ : D → Env → R α → Prop} {a b : Expr} {rest : List Expr} {pos : Pos}
    (h : DE C ρ a m fun d ρ1 m1 => ∃ A B, m1 = ((truth d).bind fun t => if t = true then A else B) ∧ DE C ρ1 (.BoolOp .And (b :: rest) pos) A κ ∧ κ d ρ1 B) : DE C ρ (.BoolOp .And (a :: b :: rest) pos) m κ := by
  intro X W Z x hK c z
  have hb : PE X (.BoolOp .And (b :: rest) pos) fun σ H Q => ∃ i : R α × Env, (DE C i.2 (.BoolOp .And (b :: rest) pos) i.1 κ ∧ Z i.1) ∧ ∃ F, Rel W i.2 σ H F ∧ ∀ d ρ' m' v H' F', κ d ρ' m' → Z m' → Rel W ρ' σ H' F' → Same F F' → Rp W.K F' v d → Q v H' :=
    ⟨fun p s σ H Q I ⟨i, pi, q⟩ => (pi.1 X W Z x hK c pi.2).run p s σ H Q I q⟩
  refine PE_imp (pe_andT (h X W Z x hK c z) hb) fun σ H Q ⟨F, r, q⟩ => ⟨F, r, fun d ρ' m' v H' F' ⟨A, B, e, hA, hB⟩ h2 h3 h4 h5 => ?_⟩
  subst e
  obtain ⟨t, et, zt⟩ := c.bind h2
  refine ⟨t, by rw [x.K, ← hK]; exact truV_of h3.sub h5 et, ?_⟩
  cases t with
  | true => exact ⟨(A, ρ'), ⟨hA, zt⟩, F', h3, fun d ρ2 m2 v H2 F2 k1 k2 k3 k4 k5 => q d ρ2 m2 v H2 F2 k1 k2 k3 (h4.trans k4) k5⟩
  | false => exact q _ ρ' _ v H' F' hB zt h3 h4 h5
theorem de_or {κ : D → Env → R α → Prop} {a b : Expr} {rest : List Expr} {pos : Pos}
    (h : DE C ρ a m fun d ρ1 m1 => ∃ A B, m1 = ((truth d).bind fun t => if t = true then A else B) ∧ κ d ρ1 A ∧ DE C ρ1 (.BoolOp .Or (b :: rest) pos) B κ) : DE C ρ (.BoolOp .Or (a :: b :: rest) pos) m κ := by
  intro X W Z x hK c z
  have hb : PE X (.BoolOp .Or (b :: rest) pos) fun σ H Q => ∃ i : R α × Env, (DE C i.2 (.BoolOp .Or (b :: rest) pos) i.1 κ ∧ Z i.1) ∧ ∃ F, Rel W i.2 σ H F ∧ ∀ d ρ' m' v H' F', κ d ρ' m' → Z m' → Rel W ρ' σ H' F' → Same F F' → Rp W.K F' v d → Q v H' :=
    ⟨fun p s σ H Q I ⟨i, pi, q⟩ => (pi.1 X W Z x hK c pi.2).run p s σ H Q I q⟩
  refine PE_imp (pe_orT (h X W Z x hK c z) hb) fun σ H Q ⟨F, r, q⟩ => ⟨F, r, fun d ρ' m' v H' F' ⟨A, B, e, hA, hB⟩ h2 h3 h4 h5 => ?_⟩
  subst e
  obtain ⟨t, et, zt⟩ := c.bind h2
  refine ⟨t, by rw [x.K, ← hK]; exact truV_of h3.sub h5 et, ?_⟩
  cases t with
  | true => exact q _ ρ' _ v H' F' hA zt h3 h4 h5
  | false => exact ⟨(B, ρ'), ⟨hB, zt⟩, F', h3, fun d ρ2 m2 v H2 F2 k1 k2 k3 k4 k5 => q d ρ2 m2 v H2 F2 k1 k2 k3 (h4.trans k4) k5⟩
theorem de_notV {κ : D → Env → R α → Prop} {a : Expr} {pos : Pos} (h : DE C ρ a m fun d ρ1 m1 => ∃ g, m1 = (truth d).bind g ∧ ∀ t, κ (.bool (!t)) ρ1 (g t)) : DE C ρ (.UnaryOp .Not a pos) m κ := by
  intro X W Z x hK c z
  refine PE_imp (pe_notT (h X W Z x hK c z)) fun σ H Q ⟨F, r, q⟩ => ⟨F, r, fun d ρ' m' v H' F' ⟨g, e, hg⟩ h2 h3 h4 h5 => ?_⟩
  subst e
  obtain ⟨t, et, zt⟩ := c.bind h2
  exact ⟨t, by rw [x.K, ← hK]; exact truV_of h3.sub h5 et, q _ ρ' _ _ H' F' (hg t) zt h3 h4 (.bl _)⟩

/-! ### isinstance(e, T) -/
def tyN : D → String
  | .none => "NoneType"
  | .bool _ => "bool"
  | .int _ => "int"
  | .str _ => "str"
  | .list _ => "list"
  | .tuple _ => "tuple"
  | .dict _ => "dict"
def isTupD : D → Bool
  | .none => false
  | .bool _ => false
  | .int _ => false
  | .str _ => false
  | .list _ => false
  | .tuple _ => true
  | .dict _ => false
theorem isa_tuple : ∀ d : D, kitB (tyN d) "tuple" = some (isTupD d)
  | .none => (by decide +kernel : kitB "NoneType" "tuple" = some false)
  | .bool _ => (by decide +kernel : kitB "bool" "tuple" = some false)
  | .int _ => (by decide +kernel : kitB "int" "tuple" = some false)
  | .str _ => (by decide +kernel : kitB "str" "tuple" = some false)
  | .list _ => (by decide +kernel : kitB "list" "tuple" = some false)
  | .tuple _ => (by decide +kernel : kitB "tuple" "tuple" = some true)
  | .dict _ => (by decide +kernel : kitB "dict" "tuple" = some false)
def isIntD : D → Bool
  | .none => false
  | .bool _ => true
  | .int _ => true
  | .str _ => false
  | .list _ => false
  | .tuple _ => false
  | .dict _ => false
theorem isa_int : ∀ d : D, kitB (tyN d) "int" = some (isIntD d)
  | .none => (by decide +kernel : kitB "NoneType" "int" = some false)
  | .bool _ => (by decide +kernel : kitB "bool" "int" = some true)
  | .int _ => (by decide +kernel : kitB "int" "int" = some true)
  | .str _ => (by decide +kernel : kitB "str" "int" = some false)
  | .list _ => (by decide +kernel : kitB "list" "int" = some false)
  | .tuple _ => (by decide +kernel : kitB "tuple" "int" = some false)
  | .dict _ => (by decide +kernel : kitB "dict" "int" = some false)
def isBoolD : D → Bool
  | .none => false
  | .bool _ => true
  | .int _ => false
  | .str _ => false
  | .list _ => false
  | .tuple _ => false
  | .dict _ => false
theorem isa_bool : ∀ d : D, kitB (tyN d) "bool" = some (isBoolD d)
  | .none => (by decide +kernel : kitB "NoneType" "bool" = some false)
  | .bool _ => (by decide +kernel : kitB "bool" "bool" = some true)
  | .int _ => (by decide +kernel : kitB "int" "bool" = some false)
  | .str _ => (by decide +kernel : kitB "str" "bool" = some false)
  | .list _ => (by decide +kernel : kitB "list" "bool" = some false)
  | .tuple _ => (by decide +kernel : kitB "tuple" "bool" = some false)
  | .dict _ => (by decide +kernel : kitB "dict" "bool" = some false)
def isStrD : D → Bool
  | .none => false
  | .bool _ => false
  | .int _ => false
  | .str _ => true
  | .list _ => false
  | .tuple _ => false
  | .dict _ => false
theorem isa_str : ∀ d : D, kitB (tyN d) "str" = some (isStrD d)
  | .none => (by decide +kernel : kitB "NoneType" "str" = some false)
  | .bool _ => (by decide +kernel : kitB "bool" "str" = some false)
  | .int _ => (by decide +kernel : kitB "int" "str" = some false)
  | .str _ => (by decide +kernel : kitB "str" "str" = some true)
  | .list _ => (by decide +kernel : kitB "list" "str" = some false)
  | .tuple _ => (by decide +kernel : kitB "tuple" "str" = some false)
  | .dict _ => (by decide +kernel : kitB "dict" "str" = some false)
def isLstD : D → Bool
  | .none => false
  | .bool _ => false
  | .int _ => false
  | .str _ => false
  | .list _ => true
  | .tuple _ => false
  | .dict _ => false
theorem isa_list : ∀ d : D, kitB (tyN d) "list" = some (isLstD d)
  | .none => (by decide +kernel : kitB "NoneType" "list" = some false)
  | .bool _ => (by decide +kernel : kitB "bool" "list" = some false)
  | .int _ => (by decide +kernel : kitB "int" "list" = some false)
  | .str _ => (by decide +kernel : kitB "str" "list" = some false)
  | .list _ => (by decide +kernel : kitB "list" "list" = some true)
  | .tuple _ => (by decide +kernel : kitB "tuple" "list" = some false)
  | .dict _ => (by decide +kernel : kitB "dict" "list" = some false)
def isDctD : D → Bool
  | .none => false
  | .bool _ => false
  | .int _ => false
  | .str _ => false
  | .list _ => false
  | .tuple _ => false
  | .dict _ => true
theorem isa_dict : ∀ d : D, kitB (tyN d) "dict" = some (isDctD d)
  | .none => (by decide +kernel : kitB "NoneType" "dict" = some false)
  | .bool _ => (by decide +kernel : kitB "bool" "dict" = some false)
  | .int _ => (by decide +kernel : kitB "int" "dict" = some false)
  | .str _ => (by decide +kernel : kitB "str" "dict" = some false)
  | .list _ => (by decide +kernel : kitB "list" "dict" = some false)
  | .tuple _ => (by decide +kernel : kitB "tuple" "dict" = some false)
  | .dict _ => (by decide +kernel : kitB "dict" "dict" = some true)
def isaD (f : D → Bool) (d : D) : R Bool := if isDctD d then .stuck else .ok (f d)
theorem tyX {X : Cx} {pins : List (Addr × Obj)} {σ : L2.St} {H F : Hp} {s : Shared} (I : Inv X pins σ H s) (e : Same F H) {v : V} {d : D} (h : Rp X.K F v d) (hn : isDctD d = false) : TyX X.K H v (.type (tyN d)) := by
  cases h with
  | non => exact .base .non
  | bl b => exact .base (.bl b)
  | int i => exact .base (.int i)
  | str y => exact .base (.str y)
  | lst a b => exact .base (.lst (e _ _ a))
  | tup a b =>
    rcases seqT e a with (q | ⟨o, q⟩) | q
    · exact .base (.tup q)
    · exact .fTuple q
    · obtain ⟨o, its, n, h1, h2, _⟩ := q
      exact .kTuple h1 h2
  | dct _ _ _ _ => cases hn
/-- isinstance(e, T), T a built-in type -/
theorem de_isa {κ : D → Env → R α → Prop} {a : Expr} {n : Str} {T : String} {f : D → Bool} {p p2 pos : Pos} (hT : ∀ d : D, kitB (tyN d) T = some (f d)) (hm : C.mg ("isinstance" : Str) = none) (hm2 : C.mg n = none) (hb : bootBuiltins n = some (.type T))
    (h : DE C ρ a m fun d ρ1 m1 => ∃ g, m1 = (isaD f d).bind g ∧ ∀ t, κ (.bool t) ρ1 (g t)) (hg : C.sc.names.lookup ("isinstance" : Str) = some .globalImplicit := by rfl) (hg2 : C.sc.names.lookup n = some .globalImplicit := by rfl)
    (hn : n ≠ "__name__" := by decide) (hdb : (n == ("__debug__" : Str)) = false := by decide) (he : ∀ env : PySem.Env, starEach [a, .Name n p2] env = (false, eval a env) :: starEach [.Name n p2] env := by intro _; rfl)
    (he2 : ∀ env : PySem.Env, starEach [.Name n p2] env = (false, eval (.Name n p2) env) :: starEach [] env := by intro _; rfl) (hpl : ∀ env : PySem.Env, (backTo pos (starEach [.Name n p2] env)).any (·.1) = false := by intro _; rfl) :
    DE C ρ (.Call (.Name "isinstance" p) [a, .Name n p2] [] pos) m κ := by
  intro X W Z x hK c z
  have pa := pa_cons (h X W Z x hK c z) (pa_cons (pe_bltn (v := .ty T) (pos := p2) (x.gl hg2) (x.mg0 hm2) hb rfl hn hdb) pa_nil (he2 _)) (he _)
  have hc : CallR X (.builtin "isinstance") fun vs H Q => ∃ F v d, vs = [v, .ty T] ∧ Same F H ∧ Rp X.K F v d ∧ isDctD d = false ∧ Q (.bl (f d)) H := by
    intro pins s σ H vs us Q I rv ⟨F, v, d, e, sub, rd, hd, q⟩
    exact call_isi pins s σ H vs us Q I rv ⟨v, .ty T, _, _, f d, e, .ty T, tyX I sub rd hd, kit_ty (hT d), q⟩
  refine PE_imp (pe_callB hc (x.gl hg) (x.mg0 hm) (by decide +kernel) pa (by decide) (by decide) (he _) (hpl _)) fun σ H Q ⟨F, r, q⟩ => ⟨F, r, fun d ρ' m' v H' F' ⟨g, e, hgg⟩ h2 h3 h4 h5 => ?_⟩
  subst e
  obtain ⟨t, et, zt⟩ := c.bind h2
  unfold isaD at et
  by_cases hd : isDctD d = true
  · rw [if_pos hd] at et; cases et
  · rw [if_neg hd] at et; cases et
    show ∃ F0 v0 d0, [v, V.ty T] = [v0, .ty T] ∧ _
    exact ⟨F', v, d, rfl, h3.sub, by rw [x.K, ← hK]; exact h5, by simpa using hd, q _ ρ' _ _ H' F' (hgg _) zt h3 h4 (.bl _)⟩

/-! ### is True, is not True -/
def isBD : D → D → R Bool
  | .bool a, .bool b => .ok (decide (a = b))
  | _, _ => .stuck
def isNotBD : D → D → R Bool
  | .bool a, .bool b => .ok (!decide (a = b))
  | _, _ => .stuck
theorem cs_isB : CmpS .Is isBD := by
  intro X k hr pins s σ H x y v u Q I rx ry ⟨F, a, b, c, sub, ra, rb, e, q⟩
  unfold isBD at e
  split at e
  · cases e
    rw [ra.toBool] at rx; rw [rb.toBool] at ry
    exact op_isBl pins s σ H _ _ v u Q I rx ry ⟨_, _, rfl, rfl, q⟩
  · cases e
theorem cs_isNotB : CmpS .IsNot isNotBD := by
  intro X k hr pins s σ H x y v u Q I rx ry ⟨F, a, b, c, sub, ra, rb, e, q⟩
  unfold isNotBD at e
  split at e
  · cases e
    rw [ra.toBool] at rx; rw [rb.toBool] at ry
    exact op_notBl pins s σ H _ _ v u Q I rx ry ⟨_, _, rfl, rfl, q⟩
  · cases e

/-! ### zip -/
def zipI : D → D → R (List D)
  | .list xs, .list ys => .ok (zipD xs ys)
  | .tuple xs, .tuple ys => .ok (zipD xs ys)
  | _, _ => .stuck
theorem zipD_at {xs ys : List D} {i : Nat} {x y : D} (hx : xs[i]? = some x) (hy : ys[i]? = some y) : (zipD xs ys)[i]? = some (.tuple [x, y]) := by
  unfold zipD
  rw [List.getElem?_map, (List.getElem?_zip_eq_some (z := (x, y))).mpr ⟨hx, hy⟩]; rfl
theorem zipD_length {xs ys : List D} : (zipD xs ys).length = min xs.length ys.length := by unfold zipD; simp
theorem itd_zip {K : PySem.W.Frag} {a b : Addr} {us vs : List V} {xs ys : List D} {F : Hp} (ha : SqL K F a us) (hb : SqL K F b vs) (rx : RpAll K F us xs) (ry : RpAll K F vs ys) : ItD K (Itz K a b) (zipD xs ys) F where
  goes := fun i F1 H hi e1 e2 => by
    rw [zipD_length, ← rx.length, ← ry.length] at hi
    have h1 : i < us.length := by omega
    have h2 : i < vs.length := by omega
    exact ⟨us, vs, us[i], vs[i], e2.seq (e1.seq ha), e2.seq (e1.seq hb), List.getElem?_eq_getElem h1, List.getElem?_eq_getElem h2⟩
  stops := fun F1 H e1 e2 => ⟨us, vs, e2.seq (e1.seq ha), e2.seq (e1.seq hb), by rw [zipD_length, ← rx.length, ← ry.length]; omega⟩
  yields := fun i F1 H x H' hi e1 e2 ⟨T, u, v, e3, hT, e4, hu, hv⟩ => by
    subst e3 e4
    obtain ⟨d1, h1, h2⟩ := rx.at' (hu us (e2.seq (e1.seq ha)))
    obtain ⟨d2, h3, h4⟩ := ry.at' (hv vs (e2.seq (e1.seq hb)))
    have fx : Fx F1 H _ _ := Fx.alloc (u := .tup [u, v]) e2 hT
    exact ⟨_, .tuple [d1, d2], zipD_at h1 h3, fx, .tup (.inl (.inl upd_same)) (.cons ((h2.mono e1).mono fx.ff) (.cons ((h4.mono e1).mono fx.ff) .nil))⟩
theorem itd_zipT {K : PySem.W.Frag} {a b : Addr} {us vs : List V} {xs ys : List D} {F : Hp} (ha : SqT K F a us) (hb : SqT K F b vs) (rx : RpAll K F us xs) (ry : RpAll K F vs ys) : ItD K (RZ.ItzT K a b) (zipD xs ys) F where
  goes := fun i F1 H hi e1 e2 => by
    rw [zipD_length, ← rx.length, ← ry.length] at hi
    have h1 : i < us.length := by omega
    have h2 : i < vs.length := by omega
    exact ⟨us, vs, us[i], vs[i], seqT e2 (seqT e1 ha), seqT e2 (seqT e1 hb), List.getElem?_eq_getElem h1, List.getElem?_eq_getElem h2⟩
  stops := fun F1 H e1 e2 => ⟨us, vs, seqT e2 (seqT e1 ha), seqT e2 (seqT e1 hb), by rw [zipD_length, ← rx.length, ← ry.length]; omega⟩
  yields := fun i F1 H x H' hi e1 e2 ⟨T, u, v, e3, hT, e4, hu, hv⟩ => by
    subst e3 e4
    obtain ⟨d1, h1, h2⟩ := rx.at' (hu us (seqT e2 (seqT e1 ha)))
    obtain ⟨d2, h3, h4⟩ := ry.at' (hv vs (seqT e2 (seqT e1 hb)))
    have fx : Fx F1 H _ _ := Fx.alloc (u := .tup [u, v]) e2 hT
    exact ⟨_, .tuple [d1, d2], zipD_at h1 h3, fx, .tup (.inl (.inl upd_same)) (.cons ((h2.mono e1).mono fx.ff) (.cons ((h4.mono e1).mono fx.ff) .nil))⟩
theorem di_zip {κ : List D → Env → R α → Prop} {a b : Expr} {p pos tp : Pos} {es : List Expr} {kk : Nat} (hm : C.mg ("zip" : Str) = none)
    (h : DE C ρ a m fun x ρ1 m1 => DE C ρ1 b m1 fun y ρ2 m2 => ∃ g, m2 = (zipI x y).bind g ∧ ∀ items, κ items ρ2 (g items)) (hg : C.sc.names.lookup ("zip" : Str) = some .globalImplicit := by rfl)
    (hs : ∀ env : PySem.Env, starEach [a, b] env = (false, eval a env) :: starEach [b] env := by intro _; rfl) (hs2 : ∀ env : PySem.Env, starEach [b] env = (false, eval b env) :: starEach [] env := by intro _; rfl)
    (hpl : ∀ env : PySem.Env, (backTo pos (starEach [b] env)).any (·.1) = false := by intro _; rfl) : DI C ρ (.Tuple es kk tp) (.Call (.Name "zip" p) [a, b] [] pos) m κ := by
  intro X W Z x hK c z
  have ha : DA C ρ [a, b] m fun ds ρ2 m2 => ∃ d1 d2, ds = [d1, d2] ∧ ∃ g, m2 = (zipI d1 d2).bind g ∧ ∀ items, κ items ρ2 (g items) :=
    da_cons (fun X W Z x hK c z => PE_imp (h X W Z x hK c z) fun σ H Q ⟨F, r, q⟩ => ⟨F, r, fun d ρ' m' v H' F' k1 => q d ρ' m' v H' F'
      (da_cons (fun X W Z x hK c z => PE_imp (k1 X W Z x hK c z) fun σ H Q ⟨F, r, q⟩ => ⟨F, r, fun d ρ' m' v H' F' k2 => q d ρ' m' v H' F' (da_nil ⟨_, _, rfl, k2⟩)⟩) hs2)⟩) hs
  refine PI_imp (RZ.pi_zipA (x.gl hg) (x.mg0 hm) (ha X W Z x hK c z) (hs _) (hpl _)) fun σ H Rr ⟨F, r, q⟩ => ⟨F, r, fun ds ρ' m' vs H' F' ⟨d1, d2, ed, g, e, hgg⟩ h2 h3 h4 h5 => ?_⟩
  subst ed e
  obtain ⟨items, ei, zi⟩ := c.bind h2
  obtain ⟨v, u, rfl, r1, r2⟩ := h5.two
  unfold zipI at ei
  split at ei
  · cases ei
    obtain ⟨p1, us, rfl, hp1, ru⟩ := r1.toList
    obtain ⟨p2, vs, rfl, hp2, rv⟩ := r2.toList
    refine ⟨p1, p2, us, vs, rfl, .inl ⟨SqL.of (h3.sub _ _ hp1), SqL.of (h3.sub _ _ hp2), q _ ρ' _ _ H' F' (hgg _) zi h3 h4 ?_⟩⟩
    rw [x.K, ← hK]
    exact itd_zip (SqL.of hp1) (SqL.of hp2) ru rv
  · cases ei
    obtain ⟨p1, us, rfl, hp1, ru⟩ := r1.toTup
    obtain ⟨p2, vs, rfl, hp2, rv⟩ := r2.toTup
    refine ⟨p1, p2, us, vs, rfl, .inr ⟨by rw [x.K, ← hK]; exact seqT h3.sub hp1, by rw [x.K, ← hK]; exact seqT h3.sub hp2, q _ ρ' _ _ H' F' (hgg _) zi h3 h4 ?_⟩⟩
    rw [x.K, ← hK]
    exact itd_zipT hp1 hp2 ru rv
  · cases ei
/-! ### a list of one's own that nobody changes any more -/
theorem ds_keep {J : Jd α} {sts : List Stmt} (i : Nat) {xs : List D} (hρ : ρ[i]? = some (some (.own xs))) (k : DSs C (ρ.set i (some (.val (.list xs)))) sts m J) : DSs C ρ sts m J := by
  intro X W Z x hK c z
  refine PSs_imp (k X W Z x hK c z) fun D σ H ⟨F, r, l⟩ => ?_
  obtain ⟨p, F', h1, r', ss, rp⟩ := r.freeze hρ
  exact ⟨F', r', l⟩
end
end Z

set_option Elab.async false
set_option linter.all false
set_option maxRecDepth 100000
set_option autoImplicit false
/-! # Z20: what is shown of points tells them apart -/
namespace Z
open PySem L2 TL

def intL (i : Int) : List Nat := if 0 ≤ i then numL i.toNat else 45 :: numL i.natAbs
theorem tl_int (i : Int) : tl (PyData.int i).shown = intL i := by
  show tl (Str.ofString (toString i)) = _
  unfold intL
  by_cases h : 0 ≤ i
  · rw [if_pos h]
    obtain ⟨n, rfl⟩ := Int.eq_ofNat_of_zero_le h
    exact tl_num n
  · rw [if_neg h]
    obtain ⟨n, rfl⟩ : ∃ n : Nat, i = Int.negSucc n := by
      cases i with
      | ofNat n => exact absurd (Int.natCast_nonneg n) h
      | negSucc n => exact ⟨n, rfl⟩
    rw [tl_ofString]
    have e : toString (Int.negSucc n) = "-" ++ Nat.repr (n + 1) := rfl
    rw [e, String.toList_append, List.map_append]
    have e2 := tl_num (n + 1)
    rw [tl_ofString] at e2
    have e3 : toString ((n + 1 : Nat) : Int) = Nat.repr (n + 1) := rfl
    rw [e3] at e2
    rw [e2]; rfl
theorem intL_free {i : Int} {s : Nat} (h : s = 44 ∨ s = 41) : s ∉ intL i := by
  unfold intL
  split
  · exact numL_free (by omega)
  · intro hm
    rcases List.mem_cons.mp hm with q | q
    · omega
    · exact numL_free (by omega) q
theorem intL_inj {i j : Int} (h : intL i = intL j) : i = j := by
  unfold intL at h
  have no : ∀ {n : Nat} {l : List Nat}, numL n = 45 :: l → False := fun {n l} e => numL_free (n := n) (s := 45) (by omega) (by rw [e]; simp)
  split at h <;> split at h
  · have := numL_inj h; omega
  · exact (no h).elim
  · exact (no h.symm).elim
  · have := numL_inj (List.cons.inj h).2; omega
theorem split_at {s : Nat} : ∀ {a b c d : List Nat}, s ∉ a → s ∉ b → a ++ s :: c = b ++ s :: d → a = b ∧ c = d
  | [], [], c, d, _, _, h => ⟨rfl, (List.cons.inj h).2⟩
  | [], y :: b, c, d, _, hb, h => absurd (List.cons.inj h).1 (fun q => hb (by rw [q]; simp))
  | x :: a, [], c, d, ha, _, h => absurd (List.cons.inj h).1 (fun q => ha (by rw [← q]; simp))
  | x :: a, y :: b, c, d, ha, hb, h => by
    obtain ⟨h1, h2⟩ := List.cons.inj h
    obtain ⟨e1, e2⟩ := split_at (fun q => ha (by simp [q])) (fun q => hb (by simp [q])) h2
    exact ⟨by rw [h1, e1], e2⟩
theorem tl_pair (a b : D) : tl (PyData.tuple [a, b]).shown = 40 :: (tl a.shown ++ 44 :: 32 :: (tl b.shown ++ [41])) := by
  have e : (PyData.tuple [a, b]).shown = ("(" : Str) ++ (a.shown ++ (", " : Str) ++ b.shown) ++ (")" : Str) := by
    simp only [PyData.shown, PyData.shownAll]; rfl
  rw [e, tl_append, tl_append, tl_append, tl_append]
  have e1 : tl ("(" : Str) = [40] := by decide +kernel
  have e2 : tl (", " : Str) = [44, 32] := by decide +kernel
  have e3 : tl (")" : Str) = [41] := by decide +kernel
  rw [e1, e2, e3]; simp
theorem lot_inj {u v : Vc} (h : (lotD u).shown = (lotD v).shown) : u = v := by
  have e := congrArg tl h
  unfold lotD at e
  rw [tl_pair, tl_pair, tl_int, tl_int, tl_int, tl_int] at e
  obtain ⟨_, e⟩ := List.cons.inj e
  obtain ⟨e1, e2⟩ := split_at (intL_free (.inl rfl)) (intL_free (.inl rfl)) e
  obtain ⟨_, e2⟩ := List.cons.inj e2
  obtain ⟨e3, _⟩ := split_at (intL_free (.inr rfl)) (intL_free (.inr rfl)) e2
  exact Prod.ext (intL_inj e1) (intL_inj e3)
theorem point_inj {p q : Vc × Int} (h : (pointD p).shown = (pointD q).shown) : p = q := by
  have e := congrArg tl h
  unfold pointD lotD at e
  rw [tl_pair, tl_pair, tl_pair, tl_pair, tl_int, tl_int, tl_int, tl_int, tl_int, tl_int] at e
  simp only [List.cons_append, List.append_assoc] at e
  obtain ⟨_, e⟩ := List.cons.inj e
  obtain ⟨_, e⟩ := List.cons.inj e
  obtain ⟨e1, e⟩ := split_at (intL_free (.inl rfl)) (intL_free (.inl rfl)) e
  obtain ⟨_, e⟩ := List.cons.inj e
  obtain ⟨e2, e⟩ := split_at (intL_free (.inr rfl)) (intL_free (.inr rfl)) e
  simp only [List.nil_append, List.cons_append] at e
  obtain ⟨_, e⟩ := List.cons.inj e
  obtain ⟨_, e⟩ := List.cons.inj e
  obtain ⟨e3, _⟩ := split_at (intL_free (.inr rfl)) (intL_free (.inr rfl)) e
  exact Prod.ext (Prod.ext (intL_inj e1) (intL_inj e2)) (intL_inj e3)
end Z

set_option Elab.async false
set_option linter.all false
set_option maxRecDepth 100000
set_option autoImplicit false
/-! # Z21: comparisons in a chain; a def that calls itself; the greatest of numbers -/
namespace Z
open PySem L2
section
variable {α : Type} {C : Ct} {ρ : Env} {m : R α}
theorem dt_chain {κ : Bool → Env → R α → Prop} {op op' : CmpOp} {f f' : D → D → R Bool} {a b e : Expr} {pos : Pos} (ho : CmpS op f) (ho' : CmpS op' f')
    (h : DE C ρ a m fun x ρ1 m1 => DE C ρ1 b m1 fun y ρ2 m2 => ∃ A B, m2 = ((f x y).bind fun t => if t = true then A else B) ∧ (DE C ρ2 e A fun z ρ3 m3 => ∃ g, m3 = (f' y z).bind g ∧ ∀ t, κ t ρ3 (g t)) ∧ κ false ρ2 B)
    (hm : lastMarks [op, op'] [b, e] = false := by with_unfolding_all rfl) : DT C ρ (.Compare a [op, op'] [b, e] pos) m κ := by
  intro X W Z x hK c0 z
  have hb : PE X b fun σ H Q => ∃ i : R α × Env × D, (DE C i.2.1 b i.1 (fun y ρ2 m2 => ∃ A B, m2 = ((f i.2.2 y).bind fun t => if t = true then A else B) ∧ (DE C ρ2 e A fun z ρ3 m3 => ∃ g, m3 = (f' y z).bind g ∧ ∀ t, κ t ρ3 (g t)) ∧ κ false ρ2 B) ∧ Z i.1) ∧
      ∃ F, Rel W i.2.1 σ H F ∧ ∀ d ρ' m' v H' F', (∃ A B, m' = ((f i.2.2 d).bind fun t => if t = true then A else B) ∧ (DE C ρ' e A fun z ρ3 m3 => ∃ g, m3 = (f' d z).bind g ∧ ∀ t, κ t ρ3 (g t)) ∧ κ false ρ' B) → Z m' → Rel W ρ' σ H' F' → Same F F' → Rp W.K F' v d → Q v H' :=
    ⟨fun p s σ H Q I ⟨i, pi, q⟩ => (pi.1 X W Z x hK c0 pi.2).run p s σ H Q I q⟩
  have he : PE X e fun σ H Q => ∃ i : R α × Env × D, (DE C i.2.1 e i.1 (fun z ρ3 m3 => ∃ g, m3 = (f' i.2.2 z).bind g ∧ ∀ t, κ t ρ3 (g t)) ∧ Z i.1) ∧
      ∃ F, Rel W i.2.1 σ H F ∧ ∀ d ρ' m' v H' F', (∃ g, m' = (f' i.2.2 d).bind g ∧ ∀ t, κ t ρ' (g t)) → Z m' → Rel W ρ' σ H' F' → Same F F' → Rp W.K F' v d → Q v H' :=
    ⟨fun p s σ H Q I ⟨i, pi, q⟩ => (pi.1 X W Z x hK c0 pi.2).run p s σ H Q I q⟩
  refine PT_imp (pt_chain (ho X _ x.room) (ho' X _ x.room) (h X W Z x hK c0 z) hb he hm) fun σ H Q ⟨F, r, q⟩ => ⟨F, r, fun dx ρ1 m1 vx H1 F1 h1 h2 h3 h4 h5 => ?_⟩
  refine ⟨(m1, ρ1, dx), ⟨h1, h2⟩, F1, h3, fun dy ρ2 m2 vy H2 F2 ⟨A, B, e2, hA, hB⟩ k2 k3 k4 k5 => ?_⟩
  subst e2
  obtain ⟨t, et, zt⟩ := c0.bind k2
  refine ⟨F2, dx, dy, t, k3.sub, by rw [x.K, ← hK]; exact h5.mono k4, by rw [x.K, ← hK]; exact k5, et, t, rfl, ?_⟩
  cases t with
  | true =>
    rw [if_pos rfl] at zt ⊢
    refine ⟨(A, ρ2, dy), ⟨hA, zt⟩, F2, k3, fun dz ρ3 m3 vz H3 F3 ⟨g, e3, hg⟩ j2 j3 j4 j5 => ?_⟩
    subst e3
    obtain ⟨t2, et2, zt2⟩ := c0.bind j2
    exact ⟨F3, dy, dz, t2, j3.sub, by rw [x.K, ← hK]; exact k5.mono j4, by rw [x.K, ← hK]; exact j5, et2, t2, rfl, q t2 ρ3 _ H3 F3 (hg t2) zt2 j3 ((h4.trans k4).trans j4)⟩
  | false =>
    rw [if_neg Bool.false_ne_true] at zt ⊢
    exact ⟨false, rfl, q false ρ2 _ H2 F2 hB zt k3 (h4.trans k4)⟩
/-- nothing is said -/
theorem dss_stuck {J : Jd α} {sts : List Stmt} : DSs C ρ sts (.stuck : R α) J := fun X W Z x hK c z => (c.st z).elim
end
def maxI : D → R D
  | .list xs => match intsD xs with
    | some (n :: ns) => .ok (.int (ns.foldl max n))
    | _ => .stuck
  | _ => .stuck
theorem foldl_max (ns : List Int) : ∀ n : Int, (ns.foldl max n ∈ n :: ns) ∧ ∀ y ∈ n :: ns, y ≤ ns.foldl max n := by
  induction ns with
  | nil => intro n; simp
  | cons a ns ih =>
    intro n
    obtain ⟨h1, h2⟩ := ih (max n a)
    rw [List.foldl_cons]
    refine ⟨?_, fun y hy => ?_⟩
    · rcases List.mem_cons.mp h1 with h | h
      · rw [h]
        rcases Int.le_total n a with q | q
        · rw [Int.max_eq_right q]; simp
        · rw [Int.max_eq_left q]; simp
      · simp [h]
    · have h0 := h2 (max n a) (by simp)
      rcases List.mem_cons.mp hy with rfl | hy
      · exact Int.le_trans (Int.le_max_left _ _) h0
      · rcases List.mem_cons.mp hy with rfl | hy
        · exact Int.le_trans (Int.le_max_right _ _) h0
        · exact h2 y (by simp [hy])
theorem bl_maxI : CallS (.builtin "max") (fn1 maxI) := by
  intro X k hc hr gd pins s σ H vs us Q I rv ⟨F, ds, c, sub, ra0, e0, q⟩
  obtain ⟨a, rfl, e⟩ := fn1_ok e0
  obtain ⟨v, rfl, ra⟩ := ra0.one
  unfold maxI at e
  split at e
  · split at e
    · rename_i n ns hn; cases e
      obtain ⟨p, xs, rfl, hp, rxs⟩ := ra.toList
      have ex := ints_of rxs hn
      subst ex
      refine cr_max hc pins s σ H _ us Q I rv ⟨_, n :: ns, rfl, SqL.of (sub _ _ hp), by simp, fun m hm hm2 => ?_⟩
      obtain ⟨h1, h2⟩ := foldl_max ns n
      have : m = ns.foldl max n := Int.le_antisymm (h2 m hm) (hm2 _ h1)
      rw [this]
      exact q _ H F (Fx.refl sub) (.int _)
    · cases e
  · cases e
end Z

set_option autoImplicit false
namespace K07
open PySem L2 Z
/-! ## the defs as data -/
@[irreducible] def m_lots_added (v_one : D) (v_other : D) : R D :=
(item v_one (PyData.int 0)).bind fun z1 =>
(item v_other (PyData.int 0)).bind fun z2 =>
(add z1 z2).bind fun z3 =>
(item v_one (PyData.int 1)).bind fun z4 =>
(item v_other (PyData.int 1)).bind fun z5 =>
(add z4 z5).bind fun z6 =>
R.ok (PyData.tuple [z3, z6])

@[irreducible] def m_lots_less (v_one : D) (v_other : D) : R D :=
(item v_one (PyData.int 0)).bind fun z1 =>
(item v_other (PyData.int 0)).bind fun z2 =>
(sub z1 z2).bind fun z3 =>
(item v_one (PyData.int 1)).bind fun z4 =>
(item v_other (PyData.int 1)).bind fun z5 =>
(sub z4 z5).bind fun z6 =>
R.ok (PyData.tuple [z3, z6])

@[irreducible] def m_table_det (v_table : D) : R D :=
(un2 v_table).bind fun (p1, p2) =>
(un2 p1).bind fun (p3, p4) =>
(un2 p2).bind fun (p5, p6) =>
(mul p3 p6).bind fun z7 =>
(mul p4 p5).bind fun z8 =>
(sub z7 z8).bind fun z9 =>
R.ok z9

@[irreducible] def m_table_trace (v_table : D) : R D :=
(item v_table (PyData.int 0)).bind fun z1 =>
(item z1 (PyData.int 0)).bind fun z2 =>
(item v_table (PyData.int 1)).bind fun z3 =>
(item z3 (PyData.int 1)).bind fun z4 =>
(add z2 z4).bind fun z5 =>
R.ok z5

@[irreducible] def m_does_grow (v_table : D) : R D :=
(m_table_det v_table).bind fun z1 =>
((absD z1).bind fun z2 =>
(gtD z2 (PyData.int 1)).bind fun z3 =>
(truth (PyData.bool z3)).bind fun t4 =>
if t4 = true then
(m_table_trace v_table).bind fun z5 =>
(absD z5).bind fun z6 =>
(add (PyData.int 1) z1).bind fun z7 =>
(absD z7).bind fun z8 =>
(ltD z6 z8).bind fun z9 =>
R.ok (PyData.bool z9)
else
R.ok (PyData.bool z3) : R D).bind fun z10 =>
R.ok z10

@[irreducible] def m_table_other (v_table : D) : R D :=
(un2 v_table).bind fun (p1, p2) =>
(un2 p1).bind fun (p3, p4) =>
(un2 p2).bind fun (p5, p6) =>
(neg p4).bind fun z7 =>
(neg p5).bind fun z8 =>
R.ok (PyData.tuple [(PyData.tuple [p6, z7]), (PyData.tuple [z8, p3])])

@[irreducible] def m_lot_led (v_table : D) (v_lot : D) : R D :=
(un2 v_table).bind fun (p1, p2) =>
(un2 p1).bind fun (p3, p4) =>
(un2 p2).bind fun (p5, p6) =>
(item v_lot (PyData.int 0)).bind fun z7 =>
(mul p3 z7).bind fun z8 =>
(item v_lot (PyData.int 1)).bind fun z9 =>
(mul p4 z9).bind fun z10 =>
(add z8 z10).bind fun z11 =>
(item v_lot (PyData.int 0)).bind fun z12 =>
(mul p5 z12).bind fun z13 =>
(item v_lot (PyData.int 1)).bind fun z14 =>
(mul p6 z14).bind fun z15 =>
(add z13 z15).bind fun z16 =>
R.ok (PyData.tuple [z11, z16])

@[irreducible] def m_table_behind (v_one : D) (v_other : D) : R D :=
(un2 v_other).bind fun (p1, p2) =>
(un2 p1).bind fun (p3, p4) =>
(un2 p2).bind fun (p5, p6) =>
(m_lot_led v_one (PyData.tuple [p3, p5])).bind fun z7 =>
(m_lot_led v_one (PyData.tuple [p4, p6])).bind fun z8 =>
(item z7 (PyData.int 0)).bind fun z9 =>
(item z8 (PyData.int 0)).bind fun z10 =>
(item z7 (PyData.int 1)).bind fun z11 =>
(item z8 (PyData.int 1)).bind fun z12 =>
R.ok (PyData.tuple [(PyData.tuple [z9, z10]), (PyData.tuple [z11, z12])])

@[irreducible] def m_table_taken (v_table : D) (v_many : D) : R D :=
(range1 v_many).bind fun z1 =>
(forS z1 (PyData.tuple [(PyData.tuple [(PyData.int 1), (PyData.int 0)]), (PyData.tuple [(PyData.int 0), (PyData.int 1)])]) fun x2 s3 =>
(m_table_behind s3 v_table).bind fun z5 =>
R.ok z5).bind fun s4 =>
R.ok s4

@[irreducible] def m_lot_undone (v_table : D) (v_lot : D) : R D :=
(m_table_det v_table).bind fun z1 =>
(m_table_other v_table).bind fun z2 =>
(m_lot_led z2 v_lot).bind fun z3 =>
((item z3 (PyData.int 0)).bind fun z4 =>
(fmod z4 z1).bind fun z5 =>
(neD z5 (PyData.int 0)).bind fun z6 =>
if z6 = true then
R.ok true
else
(item z3 (PyData.int 1)).bind fun z7 =>
(fmod z7 z1).bind fun z8 =>
(neD z8 (PyData.int 0)).bind fun z9 =>
R.ok z9 : R Bool).bind fun t10 =>
if t10 = true then
R.ok PyData.none
else
(item z3 (PyData.int 0)).bind fun z11 =>
(fdiv z11 z1).bind fun z12 =>
(item z3 (PyData.int 1)).bind fun z13 =>
(fdiv z13 z1).bind fun z14 =>
R.ok (PyData.tuple [z12, z14])

@[irreducible] def m_point_low (v_numbers : D) (v_bottom : D) : R D :=
(item v_numbers (PyData.int 0)).bind fun z1 =>
(item v_numbers (PyData.int 1)).bind fun z2 =>
(gcdD z1 z2).bind fun z3 =>
(gcdD z3 v_bottom).bind fun z4 =>
((gtD v_bottom (PyData.int 0)).bind fun z5 =>
if z5 = true then
R.ok z4
else
(neg z4).bind fun z6 =>
R.ok z6 : R D).bind fun z7 =>
(item v_numbers (PyData.int 0)).bind fun z8 =>
(fdiv z8 z7).bind fun z9 =>
(item v_numbers (PyData.int 1)).bind fun z10 =>
(fdiv z10 z7).bind fun z11 =>
(fdiv v_bottom z7).bind fun z12 =>
R.ok (PyData.tuple [(PyData.tuple [z9, z11]), z12])

@[irreducible] def m_point_led (v_table : D) (v_point : D) : R D :=
(item v_point (PyData.int 0)).bind fun z1 =>
(m_lot_led v_table z1).bind fun z2 =>
(item v_point (PyData.int 1)).bind fun z3 =>
(m_point_low z2 z3).bind fun z4 =>
R.ok z4

@[irreducible] def m_point_undone (v_table : D) (v_point : D) : R D :=
(m_table_other v_table).bind fun z1 =>
(item v_point (PyData.int 0)).bind fun z2 =>
(m_lot_led z1 z2).bind fun z3 =>
(item v_point (PyData.int 1)).bind fun z4 =>
(m_table_det v_table).bind fun z5 =>
(mul z4 z5).bind fun z6 =>
(m_point_low z3 z6).bind fun z7 =>
R.ok z7

@[irreducible] def m__law_source (ns : List Int) : R Src :=
(forS (ns.map PyData.int) (PyData.int 11) fun x1 s2 =>
(mul s2 (PyData.int 69069)).bind fun z4 =>
(mul x1 (PyData.int 31)).bind fun z5 =>
(add z4 z5).bind fun z6 =>
(add z6 (PyData.int 5)).bind fun z7 =>
(intD z7).bind fun z8 =>
(fmod z8 (PyData.int 2147483629)).bind fun z9 =>
R.ok z9).bind fun s3 =>
(compL (ns.map PyData.int) fun x10 =>
(absD x10).bind fun z11 =>
R.ok (some z11)).bind fun ys12 =>
(revL (PyData.list ys12)).bind fun y13 =>
(mkSrc y13 (PyData.int 1) s3 (PyData.int 0)).bind fun s14 =>
R.ok s14

@[irreducible] def m__law_pick (s0 : Src) (v_many : D) : R (D × Src) :=
(whileT (s0.cells.length + 1) s0 fun s1 =>
((gtD v_many (PyData.int 1)).bind fun z4 =>
if z4 = true then
(ltD (PyData.int s1.left) (PyData.int 2)).bind fun z5 =>
if z5 = true then
(gtD (PyData.int s1.cells.length) (PyData.int 0)).bind fun z6 =>
R.ok z6
else
R.ok false
else
R.ok false : R Bool).bind fun t7 =>
if t7 = true then
(popC s1.cells).bind fun (z8, c9) =>
(toI (PyData.int z8)).bind fun n10 =>
R.ok (.go { { s1 with cells := c9 } with left := n10 })
else
R.ok (.done s1)).bind fun
| .nx s2 =>
(((ltD v_many (PyData.int 2)).bind fun z11 =>
if z11 = true then
R.ok true
else
(gtD (PyData.int s2.left) (PyData.int 1)).bind fun z12 =>
R.ok z12 : R Bool).bind fun t13 =>
if t13 = true then
(maxD2 (PyData.int 1) v_many).bind fun z14 =>
(fdiv (PyData.int s2.left) z14).bind fun z15 =>
(toI z15).bind fun n16 =>
(intD (PyData.int s2.left)).bind fun z17 =>
(maxD2 (PyData.int 1) v_many).bind fun z18 =>
(fmod z17 z18).bind fun z19 =>
R.ok (z19, { s2 with left := n16 })
else
(add (PyData.int s2.turn) (PyData.int 1)).bind fun z20 =>
(toI z20).bind fun n21 =>
(mul (PyData.int { s2 with turn := n21 }.turn) (PyData.int 104729)).bind fun z22 =>
(add (PyData.int { s2 with turn := n21 }.mixed) z22).bind fun z23 =>
(intD z23).bind fun z24 =>
(fmod z24 (PyData.int 998244353)).bind fun z25 =>
(mul z25 z25).bind fun z26 =>
(mul (PyData.int { s2 with turn := n21 }.turn) (PyData.int 17)).bind fun z27 =>
(add z26 z27).bind fun z28 =>
(intD z28).bind fun z29 =>
(fmod z29 (PyData.int 2147483647)).bind fun z30 =>
(toI z30).bind fun n31 =>
(fdiv z30 (PyData.int 16)).bind fun z32 =>
(intD z32).bind fun z33 =>
(fmod z33 v_many).bind fun z34 =>
R.ok (z34, { { s2 with turn := n21 } with mixed := n31 }))
| .bk _ => .stuck
| .rt r3 s2 =>
(.stuck)

@[irreducible] def m__law_of (s0 : Src) (v_some : D) : R (D × Src) :=
(lenD v_some).bind fun z1 =>
(m__law_pick s0 z1).bind fun (z2, s3) =>
(item v_some z2).bind fun z4 =>
R.ok (z4, s3)

@[irreducible] def m__law_low (v_p : D) (v_q : D) : R D :=
(absD v_p).bind fun z1 =>
(absD v_q).bind fun z2 =>
(whileT 100000 (z1, z2) fun s3 =>
(gtD s3.2 (PyData.int 0)).bind fun z6 =>
if z6 = true then
(intD s3.1).bind fun z7 =>
(fmod z7 s3.2).bind fun z8 =>
R.ok (.go (s3.2, z8))
else
R.ok (.done (s3.1, s3.2))).bind fun
| .nx s4 =>
(((gtD v_q (PyData.int 0)).bind fun z9 =>
if z9 = true then
R.ok s4.1
else
(sub (PyData.int 0) s4.1).bind fun z10 =>
R.ok z10 : R D).bind fun z11 =>
(fdiv v_p z11).bind fun z12 =>
(fdiv v_q z11).bind fun z13 =>
R.ok (PyData.tuple [z12, z13]))
| .bk _ => .stuck
| .rt r5 s4 =>
(.stuck)

@[irreducible] def m__law_plus (v_x : D) (v_y : D) : R D :=
(item v_x (PyData.int 0)).bind fun z1 =>
(item v_y (PyData.int 1)).bind fun z2 =>
(mul z1 z2).bind fun z3 =>
(item v_y (PyData.int 0)).bind fun z4 =>
(item v_x (PyData.int 1)).bind fun z5 =>
(mul z4 z5).bind fun z6 =>
(add z3 z6).bind fun z7 =>
(item v_x (PyData.int 1)).bind fun z8 =>
(item v_y (PyData.int 1)).bind fun z9 =>
(mul z8 z9).bind fun z10 =>
(m__law_low z7 z10).bind fun z11 =>
R.ok z11

@[irreducible] def m__law_times (v_x : D) (v_y : D) : R D :=
(item v_x (PyData.int 0)).bind fun z1 =>
(item v_y (PyData.int 0)).bind fun z2 =>
(mul z1 z2).bind fun z3 =>
(item v_x (PyData.int 1)).bind fun z4 =>
(item v_y (PyData.int 1)).bind fun z5 =>
(mul z4 z5).bind fun z6 =>
(m__law_low z3 z6).bind fun z7 =>
R.ok z7

@[irreducible] def m__law_solved__0 (v_table : D) (v_x : D) (v_y : D) : R D := .stuck

@[irreducible] def m__law_solved__1 (v_table : D) (v_x : D) (v_y : D) : R D :=
(un2 v_table).bind fun (p1, p2) =>
(un2 p1).bind fun (p3, p4) =>
(un2 p2).bind fun (p5, p6) =>
(eqD p3 (PyData.int 0)).bind fun z7 =>
if z7 = true then
(m__law_solved__0 (PyData.tuple [(PyData.tuple [p5, p6]), (PyData.tuple [p3, p4])]) v_y v_x).bind fun z8 =>
R.ok z8
else
(sub (PyData.int 0) p5).bind fun z9 =>
(m__law_times (PyData.tuple [z9, p3]) (PyData.tuple [p4, (PyData.int 1)])).bind fun z10 =>
(m__law_plus (PyData.tuple [p6, (PyData.int 1)]) z10).bind fun z11 =>
(sub (PyData.int 0) p5).bind fun z12 =>
(m__law_times (PyData.tuple [z12, p3]) v_x).bind fun z13 =>
(m__law_plus v_y z13).bind fun z14 =>
((item z11 (PyData.int 0)).bind fun z15 =>
(gtD z15 (PyData.int 0)).bind fun z16 =>
if z16 = true then
(item z11 (PyData.int 1)).bind fun z17 =>
(item z11 (PyData.int 0)).bind fun z18 =>
R.ok (PyData.tuple [z17, z18])
else
(item z11 (PyData.int 1)).bind fun z19 =>
(sub (PyData.int 0) z19).bind fun z20 =>
(item z11 (PyData.int 0)).bind fun z21 =>
(sub (PyData.int 0) z21).bind fun z22 =>
R.ok (PyData.tuple [z20, z22]) : R D).bind fun z23 =>
(m__law_times z14 z23).bind fun z24 =>
(sub (PyData.int 0) p4).bind fun z25 =>
(m__law_times (PyData.tuple [z25, (PyData.int 1)]) z24).bind fun z26 =>
(m__law_plus v_x z26).bind fun z27 =>
((gtD p3 (PyData.int 0)).bind fun z28 =>
if z28 = true then
R.ok (PyData.tuple [(PyData.int 1), p3])
else
(sub (PyData.int 0) p3).bind fun z29 =>
R.ok (PyData.tuple [(PyData.int (-1)), z29]) : R D).bind fun z30 =>
(m__law_times z27 z30).bind fun z31 =>
R.ok (PyData.tuple [z31, z24])

@[irreducible] def m__law_solved (v_table : D) (v_x : D) (v_y : D) : R D :=
(un2 v_table).bind fun (p1, p2) =>
(un2 p1).bind fun (p3, p4) =>
(un2 p2).bind fun (p5, p6) =>
(eqD p3 (PyData.int 0)).bind fun z7 =>
if z7 = true then
(m__law_solved__1 (PyData.tuple [(PyData.tuple [p5, p6]), (PyData.tuple [p3, p4])]) v_y v_x).bind fun z8 =>
R.ok z8
else
(sub (PyData.int 0) p5).bind fun z9 =>
(m__law_times (PyData.tuple [z9, p3]) (PyData.tuple [p4, (PyData.int 1)])).bind fun z10 =>
(m__law_plus (PyData.tuple [p6, (PyData.int 1)]) z10).bind fun z11 =>
(sub (PyData.int 0) p5).bind fun z12 =>
(m__law_times (PyData.tuple [z12, p3]) v_x).bind fun z13 =>
(m__law_plus v_y z13).bind fun z14 =>
((item z11 (PyData.int 0)).bind fun z15 =>
(gtD z15 (PyData.int 0)).bind fun z16 =>
if z16 = true then
(item z11 (PyData.int 1)).bind fun z17 =>
(item z11 (PyData.int 0)).bind fun z18 =>
R.ok (PyData.tuple [z17, z18])
else
(item z11 (PyData.int 1)).bind fun z19 =>
(sub (PyData.int 0) z19).bind fun z20 =>
(item z11 (PyData.int 0)).bind fun z21 =>
(sub (PyData.int 0) z21).bind fun z22 =>
R.ok (PyData.tuple [z20, z22]) : R D).bind fun z23 =>
(m__law_times z14 z23).bind fun z24 =>
(sub (PyData.int 0) p4).bind fun z25 =>
(m__law_times (PyData.tuple [z25, (PyData.int 1)]) z24).bind fun z26 =>
(m__law_plus v_x z26).bind fun z27 =>
((gtD p3 (PyData.int 0)).bind fun z28 =>
if z28 = true then
R.ok (PyData.tuple [(PyData.int 1), p3])
else
(sub (PyData.int 0) p3).bind fun z29 =>
R.ok (PyData.tuple [(PyData.int (-1)), z29]) : R D).bind fun z30 =>
(m__law_times z27 z30).bind fun z31 =>
R.ok (PyData.tuple [z31, z24])

@[irreducible] def m__law_part (v_a : D) (v_b : D) : R D :=
(whileT 100000 (v_a, v_b) fun s1 =>
(gtD s1.2 (PyData.int 0)).bind fun z4 =>
if z4 = true then
(intD s1.1).bind fun z5 =>
(fmod z5 s1.2).bind fun z6 =>
R.ok (.go (s1.2, z6))
else
R.ok (.done (s1.1, s1.2))).bind fun
| .nx s2 =>
(R.ok s2.1)
| .bk _ => .stuck
| .rt r3 s2 =>
(.stuck)

@[irreducible] def m__law_point (v_x : D) (v_y : D) : R D :=
(item v_x (PyData.int 1)).bind fun z1 =>
(item v_y (PyData.int 1)).bind fun z2 =>
(item v_x (PyData.int 1)).bind fun z3 =>
(item v_y (PyData.int 1)).bind fun z4 =>
(m__law_part z3 z4).bind fun z5 =>
(fdiv z2 z5).bind fun z6 =>
(mul z1 z6).bind fun z7 =>
(item v_x (PyData.int 0)).bind fun z8 =>
(item v_x (PyData.int 1)).bind fun z9 =>
(fdiv z7 z9).bind fun z10 =>
(mul z8 z10).bind fun z11 =>
(item v_y (PyData.int 0)).bind fun z12 =>
(item v_y (PyData.int 1)).bind fun z13 =>
(fdiv z7 z13).bind fun z14 =>
(mul z12 z14).bind fun z15 =>
R.ok (PyData.tuple [(PyData.tuple [z11, z15]), z7])

@[irreducible] def m__law_fractions (v_point : D) : R D :=
(item v_point (PyData.int 0)).bind fun z1 =>
(item z1 (PyData.int 0)).bind fun z2 =>
(item v_point (PyData.int 1)).bind fun z3 =>
(m__law_low z2 z3).bind fun z4 =>
(item v_point (PyData.int 0)).bind fun z5 =>
(item z5 (PyData.int 1)).bind fun z6 =>
(item v_point (PyData.int 1)).bind fun z7 =>
(m__law_low z6 z7).bind fun z8 =>
R.ok (PyData.tuple [z4, z8])

@[irreducible] def m__law_led (v_table : D) (v_x : D) (v_y : D) : R D :=
(iter v_table).bind fun z1 =>
(forS z1 [] fun x2 s3 =>
(un2 x2).bind fun (p5, p6) =>
(m__law_times (PyData.tuple [p5, (PyData.int 1)]) v_x).bind fun z7 =>
(m__law_times (PyData.tuple [p6, (PyData.int 1)]) v_y).bind fun z8 =>
(m__law_plus z7 z8).bind fun z9 =>
(pushM s3 [z9]).bind fun (z10, y11) =>
R.ok y11).bind fun s4 =>
(item (PyData.list s4) (PyData.int 0)).bind fun z12 =>
(item (PyData.list s4) (PyData.int 1)).bind fun z13 =>
R.ok (PyData.tuple [z12, z13])

@[irreducible] def m__law_product (v_one : D) (v_other : D) : R D :=
(iter v_one).bind fun z1 =>
(forS z1 [] fun x2 s3 =>
(range1 (PyData.int 2)).bind fun z5 =>
(compL z5 fun x6 =>
(item x2 (PyData.int 0)).bind fun z7 =>
(item v_other (PyData.int 0)).bind fun z8 =>
(item z8 x6).bind fun z9 =>
(mul z7 z9).bind fun z10 =>
(item x2 (PyData.int 1)).bind fun z11 =>
(item v_other (PyData.int 1)).bind fun z12 =>
(item z12 x6).bind fun z13 =>
(mul z11 z13).bind fun z14 =>
(add z10 z14).bind fun z15 =>
R.ok (some z15)).bind fun ys16 =>
(tupleD (PyData.list ys16)).bind fun z17 =>
(pushM s3 [z17]).bind fun (z18, y19) =>
R.ok y19).bind fun s4 =>
(tupleD (PyData.list s4)).bind fun z20 =>
R.ok z20

@[irreducible] def m__law_is_small (v_table : D) : R D :=
(un2 v_table).bind fun (p1, p2) =>
(un2 p1).bind fun (p3, p4) =>
(un2 p2).bind fun (p5, p6) =>
(mul p3 p6).bind fun z7 =>
(mul p4 p5).bind fun z8 =>
(sub z7 z8).bind fun z9 =>
(absD z9).bind fun z10 =>
(sub (PyData.int 0) p4).bind fun z11 =>
(sub (PyData.int 0) p5).bind fun z12 =>
(range1 (PyData.int 8)).bind fun z13 =>
(forT z13 (z10, (PyData.tuple [(PyData.tuple [p6, z11]), (PyData.tuple [z12, p3])])) fun x14 s15 =>
((gtD s15.1 (PyData.int 0)).bind fun z17 =>
if z17 = true then
(iter s15.2).bind fun z18 =>
(compL z18 fun x19 =>
(item x19 (PyData.int 0)).bind fun z20 =>
(absD z20).bind fun z21 =>
(item x19 (PyData.int 1)).bind fun z22 =>
(absD z22).bind fun z23 =>
(add z21 z23).bind fun z24 =>
R.ok (some z24)).bind fun ys25 =>
(maxI (PyData.list ys25)).bind fun z26 =>
(ltD z26 s15.1).bind fun z27 =>
R.ok z27
else
R.ok false : R Bool).bind fun t28 =>
if t28 = true then
R.ok (.rt (PyData.bool true) (s15.1, s15.2))
else
(m__law_product s15.2 s15.2).bind fun z29 =>
(mul s15.1 s15.1).bind fun z30 =>
R.ok (.nx (z30, z29))).bind fun
| .nx s16 =>
(R.ok (PyData.bool false))
| .bk _ => .stuck
| .rt r31 s16 =>
(R.ok r31)

@[irreducible] def m__law_table (s0 : Src) (v_far : D) : R (D × Src) :=
(range1 (PyData.int 2)).bind fun z1 =>
(compS z1 s0 fun x2 s3 =>
(range1 (PyData.int 2)).bind fun z4 =>
(compS z4 s3 fun x5 s6 =>
(mul (PyData.int 2) v_far).bind fun z7 =>
(add z7 (PyData.int 1)).bind fun z8 =>
(m__law_pick s6 z8).bind fun (z9, s10) =>
(sub z9 v_far).bind fun z11 =>
R.ok (some z11, s10)).bind fun (ys12, s13) =>
(tupleD (PyData.list ys12)).bind fun z14 =>
R.ok (some z14, s13)).bind fun (ys15, s16) =>
(tupleD (PyData.list ys15)).bind fun z17 =>
R.ok (z17, s16)

@[irreducible] def m__law_drawn_point (s0 : Src)  : R (D × Src) :=
(m__law_pick s0 (PyData.int 41)).bind fun (z1, s2) =>
(sub z1 (PyData.int 20)).bind fun z3 =>
(m__law_pick s2 (PyData.int 6)).bind fun (z4, s5) =>
(add (PyData.int 1) z4).bind fun z6 =>
(m__law_low z3 z6).bind fun z7 =>
(m__law_pick s5 (PyData.int 41)).bind fun (z8, s9) =>
(sub z8 (PyData.int 20)).bind fun z10 =>
(m__law_pick s9 (PyData.int 6)).bind fun (z11, s12) =>
(add (PyData.int 1) z11).bind fun z13 =>
(m__law_low z10 z13).bind fun z14 =>
(m__law_point z7 z14).bind fun z15 =>
R.ok (z15, s12)

@[irreducible] def m_point_of (v_lot : D) : R D :=
R.ok (PyData.tuple [v_lot, (PyData.int 1)])

@[irreducible] def m_is_whole (v_value : D) : R D :=
((isaD isIntD v_value).bind fun z1 =>
(truth (PyData.bool z1)).bind fun t2 =>
if t2 = true then
(isaD isBoolD v_value).bind fun z3 =>
(truth (PyData.bool z3)).bind fun z4 =>
R.ok (PyData.bool (!z4))
else
R.ok (PyData.bool z1) : R D).bind fun z5 =>
R.ok z5

@[irreducible] def m_is_lot (v_value : D) : R D :=
((isaD isTupD v_value).bind fun z1 =>
(truth (PyData.bool z1)).bind fun t2 =>
if t2 = true then
(lenD v_value).bind fun z3 =>
(eqD z3 (PyData.int 2)).bind fun z4 =>
(truth (PyData.bool z4)).bind fun t5 =>
if t5 = true then
(iter v_value).bind fun z6 =>
(compL z6 fun x7 =>
(m_is_whole x7).bind fun z8 =>
R.ok (some z8)).bind fun ys9 =>
(allL (PyData.list ys9)).bind fun z10 =>
R.ok z10
else
R.ok (PyData.bool z4)
else
R.ok (PyData.bool z1) : R D).bind fun z11 =>
R.ok z11

@[irreducible] def m_is_point (v_value : D) : R D :=
((isaD isTupD v_value).bind fun z1 =>
(truth (PyData.bool z1)).bind fun z2 =>
if (!z2) = true then
R.ok true
else
(lenD v_value).bind fun z3 =>
(neD z3 (PyData.int 2)).bind fun z4 =>
if z4 = true then
R.ok true
else
(item v_value (PyData.int 0)).bind fun z5 =>
(m_is_lot z5).bind fun z6 =>
(truth z6).bind fun z7 =>
if (!z7) = true then
R.ok true
else
(item v_value (PyData.int 1)).bind fun z8 =>
(m_is_whole z8).bind fun z9 =>
(truth z9).bind fun z10 =>
R.ok (!z10) : R Bool).bind fun t11 =>
if t11 = true then
R.ok (PyData.bool false)
else
((item v_value (PyData.int 1)).bind fun z12 =>
(gtD z12 (PyData.int 0)).bind fun z13 =>
(truth (PyData.bool z13)).bind fun t14 =>
if t14 = true then
(item v_value (PyData.int 0)).bind fun z15 =>
(item v_value (PyData.int 1)).bind fun z16 =>
(m_point_low z15 z16).bind fun z17 =>
(eqD z17 v_value).bind fun z18 =>
R.ok (PyData.bool z18)
else
R.ok (PyData.bool z13) : R D).bind fun z19 =>
R.ok z19

@[irreducible] def m_points_added (v_one : D) (v_other : D) : R D :=
(un2 v_one).bind fun (p1, p2) =>
(un2 p1).bind fun (p3, p4) =>
(un2 v_other).bind fun (p5, p6) =>
(un2 p5).bind fun (p7, p8) =>
(mul p3 p6).bind fun z9 =>
(mul p7 p2).bind fun z10 =>
(add z9 z10).bind fun z11 =>
(mul p4 p6).bind fun z12 =>
(mul p8 p2).bind fun z13 =>
(add z12 z13).bind fun z14 =>
(mul p2 p6).bind fun z15 =>
(m_point_low (PyData.tuple [z11, z14]) z15).bind fun z16 =>
R.ok z16

@[irreducible] def m_points_less (v_one : D) (v_other : D) : R D :=
(un2 v_other).bind fun (p1, p2) =>
(un2 p1).bind fun (p3, p4) =>
(neg p3).bind fun z5 =>
(neg p4).bind fun z6 =>
(m_points_added v_one (PyData.tuple [(PyData.tuple [z5, z6]), p2])).bind fun z7 =>
R.ok z7

@[irreducible] def m_point_parted (v_point : D) : R D :=
(un2 v_point).bind fun (p1, p2) =>
(un2 p1).bind fun (p3, p4) =>
(fdiv p3 p2).bind fun z5 =>
(fdiv p4 p2).bind fun z6 =>
(fmod p3 p2).bind fun z7 =>
(fmod p4 p2).bind fun z8 =>
R.ok (PyData.tuple [(PyData.tuple [z5, z6]), (PyData.tuple [(PyData.tuple [z7, z8]), p2])])

@[irreducible] def m_points_sorted (v_points : D) : R D :=
(iter v_points).bind fun z1 =>
(forS z1 (PyData.int 1) fun x2 s3 =>
(un2 x2).bind fun (p5, p6) =>
(mul s3 p6).bind fun z7 =>
(gcdD s3 p6).bind fun z8 =>
(fdiv z7 z8).bind fun z9 =>
R.ok z9).bind fun s4 =>
(iter v_points).bind fun z10 =>
(forS z10 [] fun x11 s12 =>
(un2 x11).bind fun (p14, p15) =>
(item p14 (PyData.int 0)).bind fun z16 =>
(fdiv s4 p15).bind fun z17 =>
(mul z16 z17).bind fun z18 =>
(item p14 (PyData.int 1)).bind fun z19 =>
(fdiv s4 p15).bind fun z20 =>
(mul z19 z20).bind fun z21 =>
(pushM s12 [(PyData.tuple [z18, z21, (PyData.tuple [p14, p15])])]).bind fun (z22, y23) =>
R.ok y23).bind fun s13 =>
(iter (PyData.list s13)).bind fun z24 =>
(compL z24 fun x25 =>
R.ok (some (PyData.tuple [x25, (PyData.bool true)]))).bind fun ys26 =>
(dictL (PyData.list ys26)).bind fun z27 =>
(sortedL z27).bind fun z28 =>
(iter z28).bind fun z29 =>
(compL z29 fun x30 =>
(item x30 (PyData.int 2)).bind fun z31 =>
R.ok (some z31)).bind fun ys32 =>
R.ok (PyData.list ys32)

@[irreducible] def m__law_is_pair (v_value : D) : R D :=
((isaD isTupD v_value).bind fun z1 =>
(truth (PyData.bool z1)).bind fun z2 =>
if (!z2) = true then
R.ok true
else
(lenD v_value).bind fun z3 =>
(neD z3 (PyData.int 2)).bind fun z4 =>
R.ok z4 : R Bool).bind fun t5 =>
if t5 = true then
R.ok (PyData.bool false)
else
(iter v_value).bind fun z6 =>
(compL z6 fun x7 =>
((isaD isIntD x7).bind fun z8 =>
(truth (PyData.bool z8)).bind fun z9 =>
if (!z9) = true then
R.ok true
else
(isaD isBoolD x7).bind fun z10 =>
(truth (PyData.bool z10)).bind fun z11 =>
R.ok z11 : R Bool).bind fun t12 =>
if t12 = true then
R.ok (some x7)
else
R.ok none).bind fun ys13 =>
(eqD (PyData.list ys13) (PyData.list [])).bind fun z14 =>
R.ok (PyData.bool z14)

@[irreducible] def m__law_is_point (v_value : D) : R D :=
((isaD isTupD v_value).bind fun z1 =>
(truth (PyData.bool z1)).bind fun z2 =>
if (!z2) = true then
R.ok true
else
(lenD v_value).bind fun z3 =>
(neD z3 (PyData.int 2)).bind fun z4 =>
if z4 = true then
R.ok true
else
(item v_value (PyData.int 0)).bind fun z5 =>
(m__law_is_pair z5).bind fun z6 =>
(truth z6).bind fun z7 =>
if (!z7) = true then
R.ok true
else
(item v_value (PyData.int 1)).bind fun z8 =>
(m__law_is_pair (PyData.tuple [z8, (PyData.int 1)])).bind fun z9 =>
(truth z9).bind fun z10 =>
R.ok (!z10) : R Bool).bind fun t11 =>
if t11 = true then
R.ok (PyData.bool false)
else
(item v_value (PyData.int 1)).bind fun z12 =>
((gtD z12 (PyData.int 0)).bind fun z13 =>
(truth (PyData.bool z13)).bind fun t14 =>
if t14 = true then
(item v_value (PyData.int 0)).bind fun z15 =>
(item z15 (PyData.int 0)).bind fun z16 =>
(absD z16).bind fun z17 =>
(m__law_part z17 z12).bind fun z18 =>
(item v_value (PyData.int 0)).bind fun z19 =>
(item z19 (PyData.int 1)).bind fun z20 =>
(absD z20).bind fun z21 =>
(m__law_part z18 z21).bind fun z22 =>
(eqD z22 (PyData.int 1)).bind fun z23 =>
R.ok (PyData.bool z23)
else
R.ok (PyData.bool z13) : R D).bind fun z24 =>
R.ok z24

@[irreducible] def m__law_values (s0 : Src) (v_point : D) : R (D × Src) :=
(un2 v_point).bind fun (p1, p2) =>
(un2 p1).bind fun (p3, p4) =>
(mul (PyData.int 2) p3).bind fun z5 =>
(mul (PyData.int 2) p4).bind fun z6 =>
(mul (PyData.int 2) p2).bind fun z7 =>
(sub (PyData.int 0) p2).bind fun z8 =>
(add (PyData.list [v_point, (PyData.tuple [(PyData.tuple [z5, z6]), z7]), (PyData.tuple [(PyData.tuple [p3, p4]), z8]), (PyData.tuple [(PyData.tuple [p3, p4]), (PyData.int 0)]), (PyData.list [p3, p4]), (PyData.tuple [(PyData.tuple [p3]), p2]), (PyData.tuple [(PyData.tuple [p3, p4]), (PyData.bool true)]), PyData.none]) (PyData.list [(PyData.tuple [(PyData.tuple [p3, p4, (PyData.int 1)]), p2]), (PyData.tuple [(PyData.tuple [(PyData.bool true), p4]), p2]), (PyData.tuple [(PyData.tuple [(PyData.int 0), (PyData.int 0)]), (PyData.int 1)]), (PyData.tuple [(PyData.tuple [(PyData.int 0), (PyData.int 0)]), (PyData.int 2)]), (PyData.tuple [v_point, (PyData.int 1)]), (PyData.tuple [(PyData.tuple [p3, p4]), p2, (PyData.int 1)])])).bind fun z9 =>
(add z9 (PyData.list [(PyData.tuple [(PyData.tuple [p3, p4]), (PyData.int 1)]), (PyData.tuple [p3, p4])])).bind fun z10 =>
R.ok (z10, s0)

@[irreducible] def m__law_points_right (s0 : Src)  : R (D × Src) :=
(range1 (PyData.int 5)).bind fun z1 =>
(compS z1 s0 fun x2 s3 =>
(m__law_drawn_point s3).bind fun (z4, s5) =>
R.ok (some z4, s5)).bind fun (ys6, s7) =>
(slice (PyData.list ys6) none (some 2)).bind fun z8 =>
(un2 z8).bind fun (p9, p10) =>
(m__law_fractions p9).bind fun z11 =>
(m__law_fractions p10).bind fun z12 =>
(iter z12).bind fun z13 =>
(compL z13 fun x14 =>
(un2 x14).bind fun (p15, p16) =>
(sub (PyData.int 0) p15).bind fun z17 =>
R.ok (some (PyData.tuple [z17, p16]))).bind fun ys18 =>
(item z11 (PyData.int 0)).bind fun z19 =>
(item z12 (PyData.int 0)).bind fun z20 =>
(m__law_plus z19 z20).bind fun z21 =>
(item z11 (PyData.int 1)).bind fun z22 =>
(item z12 (PyData.int 1)).bind fun z23 =>
(m__law_plus z22 z23).bind fun z24 =>
(m__law_point z21 z24).bind fun z25 =>
(item z11 (PyData.int 0)).bind fun z26 =>
(item (PyData.list ys18) (PyData.int 0)).bind fun z27 =>
(m__law_plus z26 z27).bind fun z28 =>
(item z11 (PyData.int 1)).bind fun z29 =>
(item (PyData.list ys18) (PyData.int 1)).bind fun z30 =>
(m__law_plus z29 z30).bind fun z31 =>
(m__law_point z28 z31).bind fun z32 =>
(pushM [z25] [z32]).bind fun (z33, y34) =>
(m_points_added p9 p10).bind fun z35 =>
(m_points_less p9 p10).bind fun z36 =>
(reprD (PyData.list [z35, z36])).bind fun z37 =>
(reprD (PyData.list y34)).bind fun z38 =>
(neD z37 z38).bind fun z39 =>
if z39 = true then
R.ok ((PyData.bool false), s7)
else
(m_point_parted p9).bind fun z40 =>
(un2 z40).bind fun (p41, p42) =>
(zipI z11 p41).bind fun z43 =>
(compL z43 fun x44 =>
(un2 x44).bind fun (p45, p46) =>
(sub (PyData.int 0) p46).bind fun z47 =>
(m__law_plus p45 (PyData.tuple [z47, (PyData.int 1)])).bind fun z48 =>
R.ok (some z48)).bind fun ys49 =>
((iter (PyData.list ys49)).bind fun z50 =>
(compL z50 fun x51 =>
(un2 x51).bind fun (p52, p53) =>
((leD (PyData.int 0) p52).bind fun t55 =>
if t55 = true then
(ltD p52 p53).bind fun z54 =>
R.ok z54
else
R.ok false : R Bool).bind fun t56 =>
if (!t56) = true then
R.ok (some (PyData.int 1))
else
R.ok none).bind fun ys57 =>
(neD (PyData.list ys57) (PyData.list [])).bind fun z58 =>
if z58 = true then
R.ok true
else
(reprD p42).bind fun z59 =>
(item (PyData.list ys49) (PyData.int 0)).bind fun z60 =>
(item (PyData.list ys49) (PyData.int 1)).bind fun z61 =>
(m__law_point z60 z61).bind fun z62 =>
(reprD z62).bind fun z63 =>
(neD z59 z63).bind fun z64 =>
R.ok z64 : R Bool).bind fun t65 =>
if t65 = true then
R.ok ((PyData.bool false), s7)
else
(m__law_of s7 (PyData.list [(PyData.int 1), (PyData.int 2), (PyData.int 3), (PyData.int (-1)), (PyData.int (-2))])).bind fun (z66, s67) =>
(item p9 (PyData.int 0)).bind fun z68 =>
(item z68 (PyData.int 0)).bind fun z69 =>
(mul z69 z66).bind fun z70 =>
(item p9 (PyData.int 0)).bind fun z71 =>
(item z71 (PyData.int 1)).bind fun z72 =>
(mul z72 z66).bind fun z73 =>
(item p9 (PyData.int 1)).bind fun z74 =>
(mul z74 z66).bind fun z75 =>
(m_point_low (PyData.tuple [z70, z73]) z75).bind fun z76 =>
((reprD z76).bind fun z77 =>
(reprD p9).bind fun z78 =>
(neD z77 z78).bind fun z79 =>
if z79 = true then
R.ok true
else
(m_point_of (PyData.tuple [z66, (PyData.int 7)])).bind fun z80 =>
(reprD z80).bind fun z81 =>
(reprD (PyData.tuple [(PyData.tuple [z66, (PyData.int 7)]), (PyData.int 1)])).bind fun z82 =>
(neD z81 z82).bind fun z83 =>
R.ok z83 : R Bool).bind fun t84 =>
if t84 = true then
R.ok ((PyData.bool false), s67)
else
(slice (PyData.list ys6) none (some 2)).bind fun z85 =>
(add (PyData.list ys6) z85).bind fun z86 =>
(m_points_sorted z86).bind fun z87 =>
(sortedL z87).bind fun z88 =>
(iter (PyData.list ys6)).bind fun z89 =>
(compL z89 fun x90 =>
R.ok (some (PyData.tuple [x90, (PyData.int 0)]))).bind fun ys91 =>
(dictL (PyData.list ys91)).bind fun z92 =>
(sortedL z92).bind fun z93 =>
(neD z88 z93).bind fun z94 =>
if z94 = true then
R.ok ((PyData.bool false), s67)
else
(iter z87).bind fun z95 =>
(compL z95 fun x96 =>
(m__law_fractions x96).bind fun z97 =>
R.ok (some z97)).bind fun ys98 =>
(slice (PyData.list ys98) (some 1) none).bind fun z99 =>
(zipI (PyData.list ys98) z99).bind fun z100 =>
(forT z100 () fun x101 s102 =>
(un2 x101).bind fun (p104, p105) =>
(zipI p104 p105).bind fun z106 =>
(compL z106 fun x107 =>
(un2 x107).bind fun (p108, p109) =>
(item p108 (PyData.int 0)).bind fun z110 =>
(item p109 (PyData.int 1)).bind fun z111 =>
(mul z110 z111).bind fun z112 =>
(item p109 (PyData.int 0)).bind fun z113 =>
(item p108 (PyData.int 1)).bind fun z114 =>
(mul z113 z114).bind fun z115 =>
(sub z112 z115).bind fun z116 =>
R.ok (some z116)).bind fun ys117 =>
((item (PyData.list ys117) (PyData.int 0)).bind fun z118 =>
(gtD z118 (PyData.int 0)).bind fun z119 =>
if z119 = true then
R.ok true
else
((item (PyData.list ys117) (PyData.int 0)).bind fun z120 =>
(eqD z120 (PyData.int 0)).bind fun z121 =>
if z121 = true then
(item (PyData.list ys117) (PyData.int 1)).bind fun z122 =>
(geD z122 (PyData.int 0)).bind fun z123 =>
R.ok z123
else
R.ok false : R Bool).bind fun t124 =>
R.ok t124 : R Bool).bind fun t125 =>
if t125 = true then
R.ok (.rt (PyData.bool false) ())
else
R.ok (.nx ())).bind fun
| .nx s103 =>
((m__law_values s67 p9).bind fun (z126, s127) =>
(iter z126).bind fun z128 =>
(forT z128 s127 fun x129 s130 =>
(m_is_point x129).bind fun z132 =>
(m_is_lot x129).bind fun z133 =>
(reprD (PyData.list [z132, z133])).bind fun z134 =>
(m__law_is_point x129).bind fun z135 =>
(m__law_is_pair x129).bind fun z136 =>
(reprD (PyData.list [z135, z136])).bind fun z137 =>
(neD z134 z137).bind fun z138 =>
if z138 = true then
R.ok (.rt (PyData.bool false) s130)
else
R.ok (.nx s130)).bind fun
| .nx s131 =>
(R.ok ((PyData.bool true), s131))
| .bk _ => .stuck
| .rt r139 s131 =>
(R.ok (r139, s131)))
| .bk _ => .stuck
| .rt r140 s103 =>
(R.ok (r140, s67))

@[irreducible] def m_law (ns : List Int) : R D :=
(m__law_source ns).bind fun s1 =>
(range1 (PyData.int 4)).bind fun z2 =>
(forT z2 s1 fun x3 s4 =>
(m__law_of s4 (PyData.list [(PyData.int 1), (PyData.int 2), (PyData.int 2), (PyData.int 4), (PyData.int 9)])).bind fun (z6, s7) =>
(m__law_table s7 z6).bind fun (z8, s9) =>
(m__law_table s9 z6).bind fun (z10, s11) =>
(un2 z8).bind fun (p12, p13) =>
(un2 p12).bind fun (p14, p15) =>
(un2 p13).bind fun (p16, p17) =>
(mul p14 p17).bind fun z18 =>
(mul p15 p16).bind fun z19 =>
(sub z18 z19).bind fun z20 =>
(m__law_pick s11 (PyData.int 41)).bind fun (z21, s22) =>
(sub z21 (PyData.int 20)).bind fun z23 =>
(m__law_pick s22 (PyData.int 41)).bind fun (z24, s25) =>
(sub z24 (PyData.int 20)).bind fun z26 =>
(m_table_det z8).bind fun z27 =>
(m_table_trace z8).bind fun z28 =>
(m_does_grow z8).bind fun z29 =>
(reprD (PyData.list [z27, z28, z29])).bind fun z30 =>
(add p14 p17).bind fun z31 =>
(m__law_is_small z8).bind fun z32 =>
(reprD (PyData.list [z20, z31, z32])).bind fun z33 =>
(neD z30 z33).bind fun z34 =>
if z34 = true then
R.ok (.rt (PyData.bool false) s25)
else
(m_table_behind z8 z10).bind fun z35 =>
(reprD z35).bind fun z36 =>
(m__law_product z8 z10).bind fun z37 =>
(reprD z37).bind fun z38 =>
(neD z36 z38).bind fun z39 =>
if z39 = true then
R.ok (.rt (PyData.bool false) s25)
else
(m_table_other z8).bind fun z40 =>
(m_table_behind z40 z8).bind fun z41 =>
(reprD z41).bind fun z42 =>
(reprD (PyData.tuple [(PyData.tuple [z20, (PyData.int 0)]), (PyData.tuple [(PyData.int 0), z20])])).bind fun z43 =>
(neD z42 z43).bind fun z44 =>
if z44 = true then
R.ok (.rt (PyData.bool false) s25)
else
(m__law_pick s25 (PyData.int 5)).bind fun (z45, s46) =>
(range1 z45).bind fun z47 =>
(forS z47 (PyData.tuple [(PyData.tuple [(PyData.int 1), (PyData.int 0)]), (PyData.tuple [(PyData.int 0), (PyData.int 1)])]) fun x48 s49 =>
(m__law_product z8 s49).bind fun z51 =>
R.ok z51).bind fun s50 =>
(item (PyData.tuple [z23, z26]) (PyData.int 0)).bind fun z52 =>
(mul p14 z52).bind fun z53 =>
(item (PyData.tuple [z23, z26]) (PyData.int 1)).bind fun z54 =>
(mul p15 z54).bind fun z55 =>
(add z53 z55).bind fun z56 =>
(item (PyData.tuple [z23, z26]) (PyData.int 0)).bind fun z57 =>
(mul p16 z57).bind fun z58 =>
(item (PyData.tuple [z23, z26]) (PyData.int 1)).bind fun z59 =>
(mul p17 z59).bind fun z60 =>
(add z58 z60).bind fun z61 =>
(m_table_taken z8 z45).bind fun z62 =>
(m_lot_led z8 (PyData.tuple [z23, z26])).bind fun z63 =>
(m_lots_added (PyData.tuple [z23, z26]) (PyData.tuple [z56, z61])).bind fun z64 =>
(m_lots_less (PyData.tuple [z23, z26]) (PyData.tuple [z56, z61])).bind fun z65 =>
(item (PyData.tuple [z23, z26]) (PyData.int 0)).bind fun z66 =>
(item (PyData.tuple [z56, z61]) (PyData.int 0)).bind fun z67 =>
(add z66 z67).bind fun z68 =>
(item (PyData.tuple [z23, z26]) (PyData.int 1)).bind fun z69 =>
(item (PyData.tuple [z56, z61]) (PyData.int 1)).bind fun z70 =>
(add z69 z70).bind fun z71 =>
(item (PyData.tuple [z23, z26]) (PyData.int 0)).bind fun z72 =>
(item (PyData.tuple [z56, z61]) (PyData.int 0)).bind fun z73 =>
(sub z72 z73).bind fun z74 =>
(item (PyData.tuple [z23, z26]) (PyData.int 1)).bind fun z75 =>
(item (PyData.tuple [z56, z61]) (PyData.int 1)).bind fun z76 =>
(sub z75 z76).bind fun z77 =>
(reprD (PyData.list [z62, z63, z64, z65])).bind fun z78 =>
(add (PyData.list [s50, (PyData.tuple [z56, z61])]) (PyData.list [(PyData.tuple [z68, z71]), (PyData.tuple [z74, z77])])).bind fun z79 =>
(reprD z79).bind fun z80 =>
(neD z78 z80).bind fun z81 =>
if z81 = true then
R.ok (.rt (PyData.bool false) s46)
else
(m__law_drawn_point s46).bind fun (z82, s83) =>
(m__law_fractions z82).bind fun z84 =>
(un2 z84).bind fun (p85, p86) =>
(m__law_led z8 p85 p86).bind fun z87 =>
(m_point_led z8 z82).bind fun z88 =>
(reprD z88).bind fun z89 =>
(item z87 (PyData.int 0)).bind fun z90 =>
(item z87 (PyData.int 1)).bind fun z91 =>
(m__law_point z90 z91).bind fun z92 =>
(reprD z92).bind fun z93 =>
(neD z89 z93).bind fun z94 =>
if z94 = true then
R.ok (.rt (PyData.bool false) s83)
else
(neD z20 (PyData.int 0)).bind fun z95 =>
if z95 = true then
(m__law_solved z8 p85 p86).bind fun z96 =>
(item (PyData.tuple [z23, z26]) (PyData.int 0)).bind fun z97 =>
(item (PyData.tuple [z23, z26]) (PyData.int 1)).bind fun z98 =>
(m__law_solved z8 (PyData.tuple [z97, (PyData.int 1)]) (PyData.tuple [z98, (PyData.int 1)])).bind fun z99 =>
(((item z99 (PyData.int 0)).bind fun z100 =>
(item z100 (PyData.int 1)).bind fun z101 =>
(eqD z101 (PyData.int 1)).bind fun z102 =>
if z102 = true then
(item z99 (PyData.int 1)).bind fun z103 =>
(item z103 (PyData.int 1)).bind fun z104 =>
(eqD z104 (PyData.int 1)).bind fun z105 =>
R.ok z105
else
R.ok false : R Bool).bind fun t106 =>
if t106 = true then
(item z99 (PyData.int 0)).bind fun z107 =>
(item z107 (PyData.int 0)).bind fun z108 =>
(item z99 (PyData.int 1)).bind fun z109 =>
(item z109 (PyData.int 0)).bind fun z110 =>
R.ok (PyData.tuple [z108, z110])
else
R.ok PyData.none : R D).bind fun z111 =>
(m_point_undone z8 z82).bind fun z112 =>
(m_lot_undone z8 (PyData.tuple [z23, z26])).bind fun z113 =>
(m_lot_undone z8 (PyData.tuple [z56, z61])).bind fun z114 =>
(reprD (PyData.list [z112, z113, z114])).bind fun z115 =>
(item z96 (PyData.int 0)).bind fun z116 =>
(item z96 (PyData.int 1)).bind fun z117 =>
(m__law_point z116 z117).bind fun z118 =>
(reprD (PyData.list [z118, z111, (PyData.tuple [z23, z26])])).bind fun z119 =>
(neD z115 z119).bind fun z120 =>
if z120 = true then
R.ok (.rt (PyData.bool false) s83)
else
R.ok (.nx s83)
else
R.ok (.nx s83)).bind fun
| .nx s5 =>
((m__law_points_right s5).bind fun (z121, s122) =>
R.ok z121)
| .bk _ => .stuck
| .rt r123 s5 =>
(R.ok r123)


/-! ## the text by places -/
def top (i : Nat) : Stmt := PySem.Challenge.pw_touchingtiles_k07_powers_undone_by_elimi.main.body.getD i (.Pass ⟨0, 0, 0, 0⟩)
abbrev s_lots_added : Stmt := top 3
abbrev s_lots_less : Stmt := top 4
abbrev s_table_det : Stmt := top 5
abbrev s_table_trace : Stmt := top 6
abbrev s_does_grow : Stmt := top 7
abbrev s_table_other : Stmt := top 8
abbrev s_lot_led : Stmt := top 9
abbrev s_table_behind : Stmt := top 10
abbrev s_table_taken : Stmt := top 11
abbrev s_lot_undone : Stmt := top 12
abbrev s_point_low : Stmt := top 14
abbrev s_point_led : Stmt := top 20
abbrev s_point_undone : Stmt := top 21
abbrev s__law_source : Stmt := top 25
abbrev s__law_pick : Stmt := top 26
abbrev s__law_of : Stmt := top 27
abbrev s__law_low : Stmt := top 28
abbrev s__law_plus : Stmt := top 29
abbrev s__law_times : Stmt := top 30
abbrev s__law_solved : Stmt := top 31
abbrev s__law_part : Stmt := top 33
abbrev s__law_point : Stmt := top 32
abbrev s__law_fractions : Stmt := top 34
abbrev s__law_led : Stmt := top 35
abbrev s__law_product : Stmt := top 36
abbrev s__law_is_small : Stmt := top 37
abbrev s__law_table : Stmt := top 38
abbrev s__law_drawn_point : Stmt := top 39
abbrev s_point_of : Stmt := top 15
abbrev s_is_whole : Stmt := top 2
abbrev s_is_lot : Stmt := top 16
abbrev s_is_point : Stmt := top 17
abbrev s_points_added : Stmt := top 18
abbrev s_points_less : Stmt := top 19
abbrev s_point_parted : Stmt := top 22
abbrev s_points_sorted : Stmt := top 23
abbrev s__law_is_pair : Stmt := top 40
abbrev s__law_is_point : Stmt := top 41
abbrev s__law_values : Stmt := top 42
abbrev s__law_points_right : Stmt := top 43
abbrev s_law : Stmt := top 44
structure Txt (K : PySem.W.Frag) (mg : Str → Option Value) : Prop where
  d_lots_added : At K mg "lots_added" s_lots_added ["one", "other"]
  d_lots_less : At K mg "lots_less" s_lots_less ["one", "other"]
  d_table_det : At K mg "table_det" s_table_det ["table"]
  d_table_trace : At K mg "table_trace" s_table_trace ["table"]
  d_does_grow : At K mg "does_grow" s_does_grow ["table"]
  d_table_other : At K mg "table_other" s_table_other ["table"]
  d_lot_led : At K mg "lot_led" s_lot_led ["table", "lot"]
  d_table_behind : At K mg "table_behind" s_table_behind ["one", "other"]
  d_table_taken : At K mg "table_taken" s_table_taken ["table", "many"]
  d_lot_undone : At K mg "lot_undone" s_lot_undone ["table", "lot"]
  d_point_low : At K mg "point_low" s_point_low ["numbers", "bottom"]
  d_point_led : At K mg "point_led" s_point_led ["table", "point"]
  d_point_undone : At K mg "point_undone" s_point_undone ["table", "point"]
  d__law_source : At K mg "_law_source" s__law_source ["script"]
  d__law_pick : At K mg "_law_pick" s__law_pick ["source", "many"]
  d__law_of : At K mg "_law_of" s__law_of ["source", "some"]
  d__law_low : At K mg "_law_low" s__law_low ["p", "q"]
  d__law_plus : At K mg "_law_plus" s__law_plus ["x", "y"]
  d__law_times : At K mg "_law_times" s__law_times ["x", "y"]
  d__law_solved : At K mg "_law_solved" s__law_solved ["table", "x", "y"]
  d__law_part : At K mg "_law_part" s__law_part ["a", "b"]
  d__law_point : At K mg "_law_point" s__law_point ["x", "y"]
  d__law_fractions : At K mg "_law_fractions" s__law_fractions ["point"]
  d__law_led : At K mg "_law_led" s__law_led ["table", "x", "y"]
  d__law_product : At K mg "_law_product" s__law_product ["one", "other"]
  d__law_is_small : At K mg "_law_is_small" s__law_is_small ["table"]
  d__law_table : At K mg "_law_table" s__law_table ["source", "far"]
  d__law_drawn_point : At K mg "_law_drawn_point" s__law_drawn_point ["source"]
  d_point_of : At K mg "point_of" s_point_of ["lot"]
  d_is_whole : At K mg "is_whole" s_is_whole ["value"]
  d_is_lot : At K mg "is_lot" s_is_lot ["value"]
  d_is_point : At K mg "is_point" s_is_point ["value"]
  d_points_added : At K mg "points_added" s_points_added ["one", "other"]
  d_points_less : At K mg "points_less" s_points_less ["one", "other"]
  d_point_parted : At K mg "point_parted" s_point_parted ["point"]
  d_points_sorted : At K mg "points_sorted" s_points_sorted ["points"]
  d__law_is_pair : At K mg "_law_is_pair" s__law_is_pair ["value"]
  d__law_is_point : At K mg "_law_is_point" s__law_is_point ["value"]
  d__law_values : At K mg "_law_values" s__law_values ["source", "point"]
  d__law_points_right : At K mg "_law_points_right" s__law_points_right ["source"]
  z_abs : mg "abs" = none
  z_range : mg "range" = none
  z_int : mg "int" = none
  z_len : mg "len" = none
  z_max : mg "max" = none
  z_tuple : mg "tuple" = none
  z_isinstance : mg "isinstance" = none
  z_bool : mg "bool" = none
  z_all : mg "all" = none
  z_sorted : mg "sorted" = none
  z_dict : mg "dict" = none
  z_repr : mg "repr" = none
  z_zip : mg "zip" = none
  m_gcd : mg "gcd" = some (.builtin "math.gcd")
theorem bb_abs : bootBuiltins "abs" = some (.builtin "abs") := by first | rfl | decide +kernel
theorem bb_int : bootBuiltins "int" = some (.type "int") := by first | rfl | decide +kernel
theorem bb_len : bootBuiltins "len" = some (.builtin "len") := by first | rfl | decide +kernel
theorem bb_max : bootBuiltins "max" = some (.builtin "max") := by first | rfl | decide +kernel
theorem bb_tuple : bootBuiltins "tuple" = some (.type "tuple") := by first | rfl | decide +kernel
theorem bb_bool : bootBuiltins "bool" = some (.type "bool") := by first | rfl | decide +kernel
theorem bb_all : bootBuiltins "all" = some (.builtin "all") := by first | rfl | decide +kernel
theorem bb_sorted : bootBuiltins "sorted" = some (.builtin "sorted") := by first | rfl | decide +kernel
theorem bb_dict : bootBuiltins "dict" = some (.type "dict") := by first | rfl | decide +kernel
theorem bb_repr : bootBuiltins "repr" = some (.builtin "repr") := by first | rfl | decide +kernel
theorem sc_lots_added : FnScope ["one", "other"] ["one", "other"] (defScope s_lots_added) := ⟨rfl, rfl, rfl, by decide +kernel, rfl, by decide +kernel, by decide +kernel⟩
theorem sc_lots_less : FnScope ["one", "other"] ["one", "other"] (defScope s_lots_less) := ⟨rfl, rfl, rfl, by decide +kernel, rfl, by decide +kernel, by decide +kernel⟩
theorem sc_table_det : FnScope ["table", "a", "b", "c", "d"] ["table"] (defScope s_table_det) := ⟨rfl, rfl, rfl, by decide +kernel, rfl, by decide +kernel, by decide +kernel⟩
theorem sc_table_trace : FnScope ["table"] ["table"] (defScope s_table_trace) := ⟨rfl, rfl, rfl, by decide +kernel, rfl, by decide +kernel, by decide +kernel⟩
theorem sc_does_grow : FnScope ["table", "many"] ["table"] (defScope s_does_grow) := ⟨rfl, rfl, rfl, by decide +kernel, rfl, by decide +kernel, by decide +kernel⟩
theorem sc_table_other : FnScope ["table", "a", "b", "c", "d"] ["table"] (defScope s_table_other) := ⟨rfl, rfl, rfl, by decide +kernel, rfl, by decide +kernel, by decide +kernel⟩
theorem sc_lot_led : FnScope ["table", "lot", "a", "b", "c", "d"] ["table", "lot"] (defScope s_lot_led) := ⟨rfl, rfl, rfl, by decide +kernel, rfl, by decide +kernel, by decide +kernel⟩
theorem sc_table_behind : FnScope ["one", "other", "a", "b", "c", "d", "first", "second"] ["one", "other"] (defScope s_table_behind) := ⟨rfl, rfl, rfl, by decide +kernel, rfl, by decide +kernel, by decide +kernel⟩
theorem sc_table_taken : FnScope ["table", "many", "found", "lap"] ["table", "many"] (defScope s_table_taken) := ⟨rfl, rfl, rfl, by decide +kernel, rfl, by decide +kernel, by decide +kernel⟩
theorem sc_lot_undone : FnScope ["table", "lot", "many", "late"] ["table", "lot"] (defScope s_lot_undone) := ⟨rfl, rfl, rfl, by decide +kernel, rfl, by decide +kernel, by decide +kernel⟩
theorem sc_point_low : FnScope ["numbers", "bottom", "part"] ["numbers", "bottom"] (defScope s_point_low) := ⟨rfl, rfl, rfl, by decide +kernel, rfl, by decide +kernel, by decide +kernel⟩
theorem sc_point_led : FnScope ["table", "point"] ["table", "point"] (defScope s_point_led) := ⟨rfl, rfl, rfl, by decide +kernel, rfl, by decide +kernel, by decide +kernel⟩
theorem sc_point_undone : FnScope ["table", "point"] ["table", "point"] (defScope s_point_undone) := ⟨rfl, rfl, rfl, by decide +kernel, rfl, by decide +kernel, by decide +kernel⟩
theorem sc__law_source : FnScope ["script", "mixed", "cell"] ["script"] (defScope s__law_source) := ⟨rfl, rfl, rfl, by decide +kernel, rfl, by decide +kernel, by decide +kernel⟩
theorem sc__law_pick : FnScope ["source", "many", "left", "mixed"] ["source", "many"] (defScope s__law_pick) := ⟨rfl, rfl, rfl, by decide +kernel, rfl, by decide +kernel, by decide +kernel⟩
theorem sc__law_of : FnScope ["source", "some"] ["source", "some"] (defScope s__law_of) := ⟨rfl, rfl, rfl, by decide +kernel, rfl, by decide +kernel, by decide +kernel⟩
theorem sc__law_low : FnScope ["p", "q", "a", "b"] ["p", "q"] (defScope s__law_low) := ⟨rfl, rfl, rfl, by decide +kernel, rfl, by decide +kernel, by decide +kernel⟩
theorem sc__law_plus : FnScope ["x", "y"] ["x", "y"] (defScope s__law_plus) := ⟨rfl, rfl, rfl, by decide +kernel, rfl, by decide +kernel, by decide +kernel⟩
theorem sc__law_times : FnScope ["x", "y"] ["x", "y"] (defScope s__law_times) := ⟨rfl, rfl, rfl, by decide +kernel, rfl, by decide +kernel, by decide +kernel⟩
theorem sc__law_solved : FnScope ["table", "x", "y", "a", "b", "c", "d", "other", "left", "late", "second", "first"] ["table", "x", "y"] (defScope s__law_solved) := ⟨rfl, rfl, rfl, by decide +kernel, rfl, by decide +kernel, by decide +kernel⟩
theorem sc__law_part : FnScope ["a", "b"] ["a", "b"] (defScope s__law_part) := ⟨rfl, rfl, rfl, by decide +kernel, rfl, by decide +kernel, by decide +kernel⟩
theorem sc__law_point : FnScope ["x", "y", "bottom"] ["x", "y"] (defScope s__law_point) := ⟨rfl, rfl, rfl, by decide +kernel, rfl, by decide +kernel, by decide +kernel⟩
theorem sc__law_fractions : FnScope ["point"] ["point"] (defScope s__law_fractions) := ⟨rfl, rfl, rfl, by decide +kernel, rfl, by decide +kernel, by decide +kernel⟩
theorem sc__law_led : FnScope ["table", "x", "y", "rows", "a", "b"] ["table", "x", "y"] (defScope s__law_led) := ⟨rfl, rfl, rfl, by decide +kernel, rfl, by decide +kernel, by decide +kernel⟩
theorem sc__law_product : FnScope ["one", "other", "found", "row", "k"] ["one", "other"] (defScope s__law_product) := ⟨rfl, rfl, rfl, by decide +kernel, rfl, by decide +kernel, by decide +kernel⟩
theorem sc__law_is_small : FnScope ["table", "a", "b", "c", "d", "bottom", "power", "lap", "row"] ["table"] (defScope s__law_is_small) := ⟨rfl, rfl, rfl, by decide +kernel, rfl, by decide +kernel, by decide +kernel⟩
theorem sc__law_table : FnScope ["source", "far", "row", "k"] ["source", "far"] (defScope s__law_table) := ⟨rfl, rfl, rfl, by decide +kernel, rfl, by decide +kernel, by decide +kernel⟩
theorem sc__law_drawn_point : FnScope ["source", "x", "y"] ["source"] (defScope s__law_drawn_point) := ⟨rfl, rfl, rfl, by decide +kernel, rfl, by decide +kernel, by decide +kernel⟩
theorem sc_point_of : FnScope ["lot"] ["lot"] (defScope s_point_of) := ⟨rfl, rfl, rfl, by decide +kernel, rfl, by decide +kernel, by decide +kernel⟩
theorem sc_is_whole : FnScope ["value"] ["value"] (defScope s_is_whole) := ⟨rfl, rfl, rfl, by decide +kernel, rfl, by decide +kernel, by decide +kernel⟩
theorem sc_is_lot : FnScope ["value", "one"] ["value"] (defScope s_is_lot) := ⟨rfl, rfl, rfl, by decide +kernel, rfl, by decide +kernel, by decide +kernel⟩
theorem sc_is_point : FnScope ["value"] ["value"] (defScope s_is_point) := ⟨rfl, rfl, rfl, by decide +kernel, rfl, by decide +kernel, by decide +kernel⟩
theorem sc_points_added : FnScope ["one", "other", "x", "y", "c", "z", "w", "d"] ["one", "other"] (defScope s_points_added) := ⟨rfl, rfl, rfl, by decide +kernel, rfl, by decide +kernel, by decide +kernel⟩
theorem sc_points_less : FnScope ["one", "other", "x", "y", "c"] ["one", "other"] (defScope s_points_less) := ⟨rfl, rfl, rfl, by decide +kernel, rfl, by decide +kernel, by decide +kernel⟩
theorem sc_point_parted : FnScope ["point", "x", "y", "c"] ["point"] (defScope s_point_parted) := ⟨rfl, rfl, rfl, by decide +kernel, rfl, by decide +kernel, by decide +kernel⟩
theorem sc_points_sorted : FnScope ["points", "bottom", "found", "numbers", "c", "told"] ["points"] (defScope s_points_sorted) := ⟨rfl, rfl, rfl, by decide +kernel, rfl, by decide +kernel, by decide +kernel⟩
theorem sc__law_is_pair : FnScope ["value", "one"] ["value"] (defScope s__law_is_pair) := ⟨rfl, rfl, rfl, by decide +kernel, rfl, by decide +kernel, by decide +kernel⟩
theorem sc__law_is_point : FnScope ["value", "c"] ["value"] (defScope s__law_is_point) := ⟨rfl, rfl, rfl, by decide +kernel, rfl, by decide +kernel, by decide +kernel⟩
theorem sc__law_values : FnScope ["source", "point", "x", "y", "c", "some"] ["source", "point"] (defScope s__law_values) := ⟨rfl, rfl, rfl, by decide +kernel, rfl, by decide +kernel, by decide +kernel⟩
theorem sc__law_points_right : FnScope ["source", "points", "one", "other", "first", "second", "minus", "due", "lot", "rest", "parts", "k", "told", "line", "pairs", "here", "late", "signs", "value", "turn", "a", "b", "fraction", "whole", "point"] ["source"] (defScope s__law_points_right) := ⟨rfl, rfl, rfl, by decide +kernel, rfl, by decide +kernel, by decide +kernel⟩
theorem sc_law : FnScope ["script", "source", "lap", "far", "table", "other", "a", "b", "c", "d", "many", "lot", "due", "times", "turn", "late", "told", "sums", "point", "x", "y", "led", "solved", "whole"] ["script"] (defScope s_law) := ⟨rfl, rfl, rfl, by decide +kernel, rfl, by decide +kernel, by decide +kernel⟩
section
variable {P : Program} {w : World} {K : PySem.W.Frag} {mg : Str → Option Value} {base : Heap}
theorem p_lots_added (T : Txt K mg) : ∀ k : Nat, 1 ≤ k → HasP P w K mg base k "lots_added" 2 (fn2 m_lots_added) :=
  T.d_lots_added.p (lv := 0) (N := ["one", "other"]) sc_lots_added rfl fun ds hds => match ds, hds with
  | [v_one, v_other], _ => by
    show DSs _ [some (.val v_one), some (.val v_other)] _ (m_lots_added v_one v_other) _
    unfold m_lots_added
    exact ds_at [some (.val v_one), some (.val v_other)] (ds_ret (de_tup (da_cons (de_op bs_add (de_ix (de_var 0 rfl (de_int (⟨_, rfl, fun z1 => de_ix (de_var 1 rfl (de_int (⟨_, rfl, fun z2 => ⟨_, rfl, fun z3 => da_cons (de_op bs_add (de_ix (de_var 0 rfl (de_int (⟨_, rfl, fun z4 => de_ix (de_var 1 rfl (de_int (⟨_, rfl, fun z5 => ⟨_, rfl, fun z6 => da_nil (⟨by show (2 : Nat) ≤ 16777216; decide, rfl⟩)⟩⟩)))⟩)))))⟩⟩)))⟩))))))))

theorem p_lots_less (T : Txt K mg) : ∀ k : Nat, 1 ≤ k → HasP P w K mg base k "lots_less" 2 (fn2 m_lots_less) :=
  T.d_lots_less.p (lv := 0) (N := ["one", "other"]) sc_lots_less rfl fun ds hds => match ds, hds with
  | [v_one, v_other], _ => by
    show DSs _ [some (.val v_one), some (.val v_other)] _ (m_lots_less v_one v_other) _
    unfold m_lots_less
    exact ds_at [some (.val v_one), some (.val v_other)] (ds_ret (de_tup (da_cons (de_op bs_sub (de_ix (de_var 0 rfl (de_int (⟨_, rfl, fun z1 => de_ix (de_var 1 rfl (de_int (⟨_, rfl, fun z2 => ⟨_, rfl, fun z3 => da_cons (de_op bs_sub (de_ix (de_var 0 rfl (de_int (⟨_, rfl, fun z4 => de_ix (de_var 1 rfl (de_int (⟨_, rfl, fun z5 => ⟨_, rfl, fun z6 => da_nil (⟨by show (2 : Nat) ≤ 16777216; decide, rfl⟩)⟩⟩)))⟩)))))⟩⟩)))⟩))))))))

theorem p_table_det (T : Txt K mg) : ∀ k : Nat, 1 ≤ k → HasP P w K mg base k "table_det" 1 (fn1 m_table_det) :=
  T.d_table_det.p (lv := 0) (N := ["table", "a", "b", "c", "d"]) sc_table_det rfl fun ds hds => match ds, hds with
  | [v_table], _ => by
    show DSs _ [some (.val v_table), none, none, none, none] _ (m_table_det v_table) _
    unfold m_table_det
    exact ds_at [some (.val v_table), none, none, none, none] (ds_asg (de_var 0 rfl (dg_tup2 rfl fun p1 p2 => dgs_cons (dg_tup2 rfl fun p3 p4 => dgs_cons (dg_name 1 (dgs_cons (dg_name 2 (dgs_nil (dgs_cons (dg_tup2 rfl fun p5 p6 => dgs_cons (dg_name 3 (dgs_cons (dg_name 4 (dgs_nil (dgs_nil (ds_at [some (.val v_table), some (.val p3), some (.val p4), some (.val p5), some (.val p6)] (ds_ret (de_op bs_sub (de_op bs_mul (de_var 1 rfl (de_var 4 rfl (⟨_, rfl, fun z7 => de_op bs_mul (de_var 2 rfl (de_var 3 rfl (⟨_, rfl, fun z8 => ⟨_, rfl, fun z9 => rfl⟩⟩)))⟩))))))))))))))))))))))

theorem p_table_trace (T : Txt K mg) : ∀ k : Nat, 1 ≤ k → HasP P w K mg base k "table_trace" 1 (fn1 m_table_trace) :=
  T.d_table_trace.p (lv := 0) (N := ["table"]) sc_table_trace rfl fun ds hds => match ds, hds with
  | [v_table], _ => by
    show DSs _ [some (.val v_table)] _ (m_table_trace v_table) _
    unfold m_table_trace
    exact ds_at [some (.val v_table)] (ds_ret (de_op bs_add (de_ix (de_ix (de_var 0 rfl (de_int (⟨_, rfl, fun z1 => de_int (⟨_, rfl, fun z2 => de_ix (de_ix (de_var 0 rfl (de_int (⟨_, rfl, fun z3 => de_int (⟨_, rfl, fun z4 => ⟨_, rfl, fun z5 => rfl⟩⟩)⟩))))⟩)⟩)))))))

theorem p_does_grow (T : Txt K mg) : ∀ k : Nat, 2 ≤ k → HasP P w K mg base k "does_grow" 1 (fn1 m_does_grow) :=
  T.d_does_grow.p (lv := 1) (N := ["table", "many"]) sc_does_grow rfl fun ds hds => match ds, hds with
  | [v_table], _ => by
    show DSs _ [some (.val v_table), none] _ (m_does_grow v_table) _
    unfold m_does_grow
    exact ds_at [some (.val v_table), none] (ds_set 1 (de_call (p_table_det T _ (by show (1 : Nat) ≤ 1; decide) _ _ _) (da_cons (de_var 0 rfl (da_nil (⟨rfl, ⟨_, _, fn1_eq _ _, rfl, fun z1 => ds_at [some (.val v_table), some (.val z1)] (ds_ret (de_dir (de_and (de_cmp cs_gt (de_blt bl_abs T.z_abs bb_abs (da_cons (de_var 1 rfl (da_nil (⟨_, _, fn1_eq _ _, rfl, fun z2 => de_int (⟨_, rfl, fun z3 => ⟨_, _, rfl, de_and1 (de_cmp cs_lt (de_blt bl_abs T.z_abs bb_abs (da_cons (de_call (p_table_trace T _ (by show (1 : Nat) ≤ 1; decide) _ _ _) (da_cons (de_var 0 rfl (da_nil (⟨rfl, ⟨_, _, fn1_eq _ _, rfl, fun z5 => da_nil (⟨_, _, fn1_eq _ _, rfl, fun z6 => de_blt bl_abs T.z_abs bb_abs (da_cons (de_op bs_add (de_int (de_var 1 rfl (⟨_, rfl, fun z7 => da_nil (⟨_, _, fn1_eq _ _, rfl, fun z8 => ⟨_, rfl, fun z9 => ⟨rfl, rfl⟩⟩⟩)⟩)))))⟩)⟩⟩)))))))), ⟨rfl, rfl⟩⟩⟩)⟩))))))) fun z10 => rfl))⟩⟩))))))

theorem p_table_other (T : Txt K mg) : ∀ k : Nat, 1 ≤ k → HasP P w K mg base k "table_other" 1 (fn1 m_table_other) :=
  T.d_table_other.p (lv := 0) (N := ["table", "a", "b", "c", "d"]) sc_table_other rfl fun ds hds => match ds, hds with
  | [v_table], _ => by
    show DSs _ [some (.val v_table), none, none, none, none] _ (m_table_other v_table) _
    unfold m_table_other
    exact ds_at [some (.val v_table), none, none, none, none] (ds_asg (de_var 0 rfl (dg_tup2 rfl fun p1 p2 => dgs_cons (dg_tup2 rfl fun p3 p4 => dgs_cons (dg_name 1 (dgs_cons (dg_name 2 (dgs_nil (dgs_cons (dg_tup2 rfl fun p5 p6 => dgs_cons (dg_name 3 (dgs_cons (dg_name 4 (dgs_nil (dgs_nil (ds_at [some (.val v_table), some (.val p3), some (.val p4), some (.val p5), some (.val p6)] (ds_ret (de_tup (da_cons (de_tup (da_cons (de_var 4 rfl (da_cons (de_un us_neg (de_var 2 rfl (⟨_, rfl, fun z7 => da_nil (⟨by show (2 : Nat) ≤ 16777216; decide, da_cons (de_tup (da_cons (de_un us_neg (de_var 3 rfl (⟨_, rfl, fun z8 => da_cons (de_var 1 rfl (da_nil (⟨by show (2 : Nat) ≤ 16777216; decide, da_nil (⟨by show (2 : Nat) ≤ 16777216; decide, rfl⟩)⟩)))⟩)))))⟩)⟩))))))))))))))))))))))))))

theorem p_lot_led (T : Txt K mg) : ∀ k : Nat, 1 ≤ k → HasP P w K mg base k "lot_led" 2 (fn2 m_lot_led) :=
  T.d_lot_led.p (lv := 0) (N := ["table", "lot", "a", "b", "c", "d"]) sc_lot_led rfl fun ds hds => match ds, hds with
  | [v_table, v_lot], _ => by
    show DSs _ [some (.val v_table), some (.val v_lot), none, none, none, none] _ (m_lot_led v_table v_lot) _
    unfold m_lot_led
    exact ds_at [some (.val v_table), some (.val v_lot), none, none, none, none] (ds_asg (de_var 0 rfl (dg_tup2 rfl fun p1 p2 => dgs_cons (dg_tup2 rfl fun p3 p4 => dgs_cons (dg_name 2 (dgs_cons (dg_name 3 (dgs_nil (dgs_cons (dg_tup2 rfl fun p5 p6 => dgs_cons (dg_name 4 (dgs_cons (dg_name 5 (dgs_nil (dgs_nil (ds_at [some (.val v_table), some (.val v_lot), some (.val p3), some (.val p4), some (.val p5), some (.val p6)] (ds_ret (de_tup (da_cons (de_op bs_add (de_op bs_mul (de_var 2 rfl (de_ix (de_var 1 rfl (de_int (⟨_, rfl, fun z7 => ⟨_, rfl, fun z8 => de_op bs_mul (de_var 3 rfl (de_ix (de_var 1 rfl (de_int (⟨_, rfl, fun z9 => ⟨_, rfl, fun z10 => ⟨_, rfl, fun z11 => da_cons (de_op bs_add (de_op bs_mul (de_var 4 rfl (de_ix (de_var 1 rfl (de_int (⟨_, rfl, fun z12 => ⟨_, rfl, fun z13 => de_op bs_mul (de_var 5 rfl (de_ix (de_var 1 rfl (de_int (⟨_, rfl, fun z14 => ⟨_, rfl, fun z15 => ⟨_, rfl, fun z16 => da_nil (⟨by show (2 : Nat) ≤ 16777216; decide, rfl⟩)⟩⟩⟩)))))⟩⟩)))))))⟩⟩⟩)))))⟩⟩))))))))))))))))))))))))))

theorem p_table_behind (T : Txt K mg) : ∀ k : Nat, 2 ≤ k → HasP P w K mg base k "table_behind" 2 (fn2 m_table_behind) :=
  T.d_table_behind.p (lv := 1) (N := ["one", "other", "a", "b", "c", "d", "first", "second"]) sc_table_behind rfl fun ds hds => match ds, hds with
  | [v_one, v_other], _ => by
    show DSs _ [some (.val v_one), some (.val v_other), none, none, none, none, none, none] _ (m_table_behind v_one v_other) _
    unfold m_table_behind
    exact ds_at [some (.val v_one), some (.val v_other), none, none, none, none, none, none] (ds_asg (de_var 1 rfl (dg_tup2 rfl fun p1 p2 => dgs_cons (dg_tup2 rfl fun p3 p4 => dgs_cons (dg_name 2 (dgs_cons (dg_name 3 (dgs_nil (dgs_cons (dg_tup2 rfl fun p5 p6 => dgs_cons (dg_name 4 (dgs_cons (dg_name 5 (dgs_nil (dgs_nil (ds_at [some (.val v_one), some (.val v_other), some (.val p3), some (.val p4), some (.val p5), some (.val p6), none, none] (ds_par 6 7 (de_call (p_lot_led T _ (by show (1 : Nat) ≤ 1; decide) _ _ _) (da_cons (de_var 0 rfl (da_cons (de_tup (da_cons (de_var 2 rfl (da_cons (de_var 4 rfl (da_nil (⟨by show (2 : Nat) ≤ 16777216; decide, da_nil (⟨rfl, ⟨_, _, fn2_eq _ _ _, rfl, fun z7 => de_call (p_lot_led T _ (by show (1 : Nat) ≤ 1; decide) _ _ _) (da_cons (de_var 0 rfl (da_cons (de_tup (da_cons (de_var 3 rfl (da_cons (de_var 5 rfl (da_nil (⟨by show (2 : Nat) ≤ 16777216; decide, da_nil (⟨rfl, ⟨_, _, fn2_eq _ _ _, rfl, fun z8 => ds_at [some (.val v_one), some (.val v_other), some (.val p3), some (.val p4), some (.val p5), some (.val p6), some (.val z7), some (.val z8)] (ds_ret (de_tup (da_cons (de_tup (da_cons (de_ix (de_var 6 rfl (de_int (⟨_, rfl, fun z9 => da_cons (de_ix (de_var 7 rfl (de_int (⟨_, rfl, fun z10 => da_nil (⟨by show (2 : Nat) ≤ 16777216; decide, da_cons (de_tup (da_cons (de_ix (de_var 6 rfl (de_int (⟨_, rfl, fun z11 => da_cons (de_ix (de_var 7 rfl (de_int (⟨_, rfl, fun z12 => da_nil (⟨by show (2 : Nat) ≤ 16777216; decide, da_nil (⟨by show (2 : Nat) ≤ 16777216; decide, rfl⟩)⟩)⟩))))⟩))))))⟩)⟩))))⟩)))))))))⟩⟩)⟩))))))))))⟩⟩)⟩))))))))))) (hw := by intro env he; cases env; cases he; rfl))))))))))))))))))

theorem p_table_taken (T : Txt K mg) : ∀ k : Nat, 3 ≤ k → HasP P w K mg base k "table_taken" 2 (fn2 m_table_taken) :=
  T.d_table_taken.p (lv := 2) (N := ["table", "many", "found", "lap"]) sc_table_taken rfl fun ds hds => match ds, hds with
  | [v_table, v_many], _ => by
    show DSs _ [some (.val v_table), some (.val v_many), none, none] _ (m_table_taken v_table v_many) _
    unfold m_table_taken
    exact ds_at [some (.val v_table), some (.val v_many), none, none] (ds_set 2 (de_tup (da_cons (de_tup (da_cons (de_int (da_cons (de_int (da_nil (⟨by show (2 : Nat) ≤ 16777216; decide, da_cons (de_tup (da_cons (de_int (da_cons (de_int (da_nil (⟨by show (2 : Nat) ≤ 16777216; decide, da_nil (⟨by show (2 : Nat) ≤ 16777216; decide, ds_at [some (.val v_table), some (.val v_many), some (.val (PyData.tuple [(PyData.tuple [(PyData.int 1), (PyData.int 0)]), (PyData.tuple [(PyData.int 0), (PyData.int 1)])])), none] (ds_forS (fun (st : D) => ([some (.val v_table), some (.val v_many), some (.val st), none] : Z.Env)) (di_range1 T.z_range (de_var 1 rfl (⟨_, rfl, fun z1 => ⟨(PyData.tuple [(PyData.tuple [(PyData.int 1), (PyData.int 0)]), (PyData.tuple [(PyData.int 0), (PyData.int 1)])]), _, _, (.s (.s (.s (.n .z)))), rfl, fun x2 s3 => dg_name 3 (ds_at [some (.val v_table), some (.val v_many), some (.val s3), some (.val x2)] (ds_set 2 (de_call (p_table_behind T _ (by show (2 : Nat) ≤ 2; decide) _ _ _) (da_cons (de_var 2 rfl (da_cons (de_var 0 rfl (da_nil (⟨rfl, ⟨_, _, fn2_eq _ _ _, rfl, fun z5 => ds_nil (⟨z5, (.s (.s (.s (.n .z)))), rfl⟩)⟩⟩))))))))), fun s4 => ds_at [some (.val v_table), some (.val v_many), some (.val s4), none] (ds_ret (de_var 2 rfl (rfl)))⟩⟩))))⟩)⟩)))))))⟩))))))))))

theorem p_lot_undone (T : Txt K mg) : ∀ k : Nat, 2 ≤ k → HasP P w K mg base k "lot_undone" 2 (fn2 m_lot_undone) :=
  T.d_lot_undone.p (lv := 1) (N := ["table", "lot", "many", "late"]) sc_lot_undone rfl fun ds hds => match ds, hds with
  | [v_table, v_lot], _ => by
    show DSs _ [some (.val v_table), some (.val v_lot), none, none] _ (m_lot_undone v_table v_lot) _
    unfold m_lot_undone
    exact ds_at [some (.val v_table), some (.val v_lot), none, none] (ds_par 2 3 (de_call (p_table_det T _ (by show (1 : Nat) ≤ 1; decide) _ _ _) (da_cons (de_var 0 rfl (da_nil (⟨rfl, ⟨_, _, fn1_eq _ _, rfl, fun z1 => de_call (p_lot_led T _ (by show (1 : Nat) ≤ 1; decide) _ _ _) (da_cons (de_call (p_table_other T _ (by show (1 : Nat) ≤ 1; decide) _ _ _) (da_cons (de_var 0 rfl (da_nil (⟨rfl, ⟨_, _, fn1_eq _ _, rfl, fun z2 => da_cons (de_var 1 rfl (da_nil (⟨rfl, ⟨_, _, fn2_eq _ _ _, rfl, fun z3 => ds_at [some (.val v_table), some (.val v_lot), some (.val z1), some (.val z3)] (ds_if (dt_dir (dt_w (dw_or (dt_cmp cs_ne (de_op bs_fmod (de_ix (de_var 3 rfl (de_int (⟨_, rfl, fun z4 => de_var 2 rfl (⟨_, rfl, fun z5 => de_int (⟨_, rfl, fun z6 => ⟨_, _, rfl, ⟨rfl, rfl⟩, dw_or1 (dt_cmp cs_ne (de_op bs_fmod (de_ix (de_var 3 rfl (de_int (⟨_, rfl, fun z7 => de_var 2 rfl (⟨_, rfl, fun z8 => de_int (⟨_, rfl, fun z9 => ⟨rfl, rfl⟩⟩)⟩)⟩))))))⟩⟩)⟩)⟩)))))))) fun t10 => ⟨_, _, rfl, ds_ret (de_none (rfl)), ds_nil (ds_ret (de_tup (da_cons (de_op bs_fdiv (de_ix (de_var 3 rfl (de_int (⟨_, rfl, fun z11 => de_var 2 rfl (⟨_, rfl, fun z12 => da_cons (de_op bs_fdiv (de_ix (de_var 3 rfl (de_int (⟨_, rfl, fun z13 => de_var 2 rfl (⟨_, rfl, fun z14 => da_nil (⟨by show (2 : Nat) ≤ 16777216; decide, rfl⟩)⟩)⟩)))))⟩)⟩))))))))⟩))⟩⟩)))⟩⟩))))))⟩⟩))))) (hw := by intro env he; cases env; cases he; rfl))

theorem p_point_low (T : Txt K mg) : ∀ k : Nat, 1 ≤ k → HasP P w K mg base k "point_low" 2 (fn2 m_point_low) :=
  T.d_point_low.p (lv := 0) (N := ["numbers", "bottom", "part"]) sc_point_low rfl fun ds hds => match ds, hds with
  | [v_numbers, v_bottom], _ => by
    show DSs _ [some (.val v_numbers), some (.val v_bottom), none] _ (m_point_low v_numbers v_bottom) _
    unfold m_point_low
    exact ds_at [some (.val v_numbers), some (.val v_bottom), none] (ds_set 2 (de_bfn bl_gcd T.m_gcd (da_cons (de_bfn bl_gcd T.m_gcd (da_cons (de_ix (de_var 0 rfl (de_int (⟨_, rfl, fun z1 => da_cons (de_ix (de_var 0 rfl (de_int (⟨_, rfl, fun z2 => da_nil (⟨_, _, fn2_eq _ _ _, rfl, fun z3 => da_cons (de_var 1 rfl (da_nil (⟨_, _, fn2_eq _ _ _, rfl, fun z4 => ds_at [some (.val v_numbers), some (.val v_bottom), some (.val z4)] (ds_set 2 (de_dir (de_ifx (dt_cmp cs_gt (de_var 1 rfl (de_int (⟨_, rfl, fun z5 => ⟨_, _, rfl, de_var 2 rfl (⟨rfl, rfl⟩), de_un us_neg (de_var 2 rfl (⟨_, rfl, fun z6 => ⟨rfl, rfl⟩⟩))⟩⟩))))) fun z7 => ds_at [some (.val v_numbers), some (.val v_bottom), some (.val z7)] (ds_ret (de_tup (da_cons (de_tup (da_cons (de_op bs_fdiv (de_ix (de_var 0 rfl (de_int (⟨_, rfl, fun z8 => de_var 2 rfl (⟨_, rfl, fun z9 => da_cons (de_op bs_fdiv (de_ix (de_var 0 rfl (de_int (⟨_, rfl, fun z10 => de_var 2 rfl (⟨_, rfl, fun z11 => da_nil (⟨by show (2 : Nat) ≤ 16777216; decide, da_cons (de_op bs_fdiv (de_var 1 rfl (de_var 2 rfl (⟨_, rfl, fun z12 => da_nil (⟨by show (2 : Nat) ≤ 16777216; decide, rfl⟩)⟩))))⟩)⟩)⟩)))))⟩)⟩))))))))))))⟩)))⟩)⟩))))⟩)))))))))

theorem p_point_led (T : Txt K mg) : ∀ k : Nat, 2 ≤ k → HasP P w K mg base k "point_led" 2 (fn2 m_point_led) :=
  T.d_point_led.p (lv := 1) (N := ["table", "point"]) sc_point_led rfl fun ds hds => match ds, hds with
  | [v_table, v_point], _ => by
    show DSs _ [some (.val v_table), some (.val v_point)] _ (m_point_led v_table v_point) _
    unfold m_point_led
    exact ds_at [some (.val v_table), some (.val v_point)] (ds_ret (de_call (p_point_low T _ (by show (1 : Nat) ≤ 1; decide) _ _ _) (da_cons (de_call (p_lot_led T _ (by show (1 : Nat) ≤ 1; decide) _ _ _) (da_cons (de_var 0 rfl (da_cons (de_ix (de_var 1 rfl (de_int (⟨_, rfl, fun z1 => da_nil (⟨rfl, ⟨_, _, fn2_eq _ _ _, rfl, fun z2 => da_cons (de_ix (de_var 1 rfl (de_int (⟨_, rfl, fun z3 => da_nil (⟨rfl, ⟨_, _, fn2_eq _ _ _, rfl, fun z4 => rfl⟩⟩)⟩))))⟩⟩)⟩)))))))))))

theorem p_point_undone (T : Txt K mg) : ∀ k : Nat, 2 ≤ k → HasP P w K mg base k "point_undone" 2 (fn2 m_point_undone) :=
  T.d_point_undone.p (lv := 1) (N := ["table", "point"]) sc_point_undone rfl fun ds hds => match ds, hds with
  | [v_table, v_point], _ => by
    show DSs _ [some (.val v_table), some (.val v_point)] _ (m_point_undone v_table v_point) _
    unfold m_point_undone
    exact ds_at [some (.val v_table), some (.val v_point)] (ds_ret (de_call (p_point_low T _ (by show (1 : Nat) ≤ 1; decide) _ _ _) (da_cons (de_call (p_lot_led T _ (by show (1 : Nat) ≤ 1; decide) _ _ _) (da_cons (de_call (p_table_other T _ (by show (1 : Nat) ≤ 1; decide) _ _ _) (da_cons (de_var 0 rfl (da_nil (⟨rfl, ⟨_, _, fn1_eq _ _, rfl, fun z1 => da_cons (de_ix (de_var 1 rfl (de_int (⟨_, rfl, fun z2 => da_nil (⟨rfl, ⟨_, _, fn2_eq _ _ _, rfl, fun z3 => da_cons (de_op bs_mul (de_ix (de_var 1 rfl (de_int (⟨_, rfl, fun z4 => de_call (p_table_det T _ (by show (1 : Nat) ≤ 1; decide) _ _ _) (da_cons (de_var 0 rfl (da_nil (⟨rfl, ⟨_, _, fn1_eq _ _, rfl, fun z5 => ⟨_, rfl, fun z6 => da_nil (⟨rfl, ⟨_, _, fn2_eq _ _ _, rfl, fun z7 => rfl⟩⟩)⟩⟩⟩))))⟩)))))⟩⟩)⟩))))⟩⟩))))))))))

theorem p__law_source (T : Txt K mg) : ∀ k : Nat, 1 ≤ k → HasQ P w K mg base k "_law_source" m__law_source :=
  T.d__law_source.q (lv := 0) (N := ["script", "mixed", "cell"]) sc__law_source rfl fun ns => by
    show DSs _ [some (.scr ns), none, none] _ (m__law_source ns) _
    unfold m__law_source
    exact ds_at [some (.scr ns), none, none] (ds_set 1 (de_int (ds_at [some (.scr ns), some (.val (PyData.int 11)), none] (ds_forS (fun (st : D) => ([some (.scr ns), some (.val st), none] : Z.Env)) (di_scr 0 rfl (⟨(PyData.int 11), _, _, (.s (.s (.n .z))), rfl, fun x1 s2 => dg_name 2 (ds_at [some (.scr ns), some (.val s2), some (.val x1)] (ds_set 1 (de_op bs_fmod (de_bty bl_int T.z_int bb_int (da_cons (de_op bs_add (de_op bs_add (de_op bs_mul (de_var 1 rfl (de_int (⟨_, rfl, fun z4 => de_op bs_mul (de_var 2 rfl (de_int (⟨_, rfl, fun z5 => ⟨_, rfl, fun z6 => de_int (⟨_, rfl, fun z7 => da_nil (⟨_, _, fn1_eq _ _, rfl, fun z8 => de_int (⟨_, rfl, fun z9 => ds_nil (⟨z9, (.s (.s (.n .z))), rfl⟩)⟩)⟩)⟩)⟩⟩)))⟩))))))))))), fun s3 => ds_at [some (.scr ns), some (.val s3), none] (ds_retSrc (dn_rev (de_lcP [("cell", 2)] (by kernel_rfl) (di_scr 0 rfl (⟨[none, some (.val s3), none], _, _, (.n (.s (.n .z))), rfl, rfl, fun x10 => dg_name 2 (dts_nil ⟨fun _ => de_blt bl_abs T.z_abs bb_abs (da_cons (de_var 2 rfl (da_nil (⟨_, _, fn1_eq _ _, rfl, fun z11 => rfl⟩)))), fun h => nomatch h⟩), fun ys12 => ⟨_, rfl, fun y13 => ⟨_, _, _, _, ie_int, (ie_var 1 rfl), ie_int, rfl, fun s14 => ⟨s14, rfl, rfl⟩⟩⟩⟩)))))⟩))))))

theorem p__law_pick (T : Txt K mg) : ∀ k : Nat, 1 ≤ k → HasS P w K mg base k "_law_pick" 1 (sn1 m__law_pick) :=
  T.d__law_pick.s (lv := 0) (N := ["source", "many", "left", "mixed"]) sc__law_pick rfl fun a0 s0 ds hds => match ds, hds with
  | [v_many], _ => by
    show DSs _ [some (.src a0 s0), some (.val v_many), none, none] _ (m__law_pick s0 v_many) _
    unfold m__law_pick
    exact ds_at [some (.src a0 s0), some (.val v_many), none, none] (ds_while (fun (st : Src) => ([some (.src a0 st), some (.val v_many), none, none] : Z.Env)) ((s0.cells.length + 1)) s0 (.s (.s (.n (.n .z)))) rfl (fun s1 => dt_dir (dt_w (dw_and (dt_cmp cs_gt (de_var 1 rfl (de_int (⟨_, rfl, fun z4 => ⟨_, _, rfl, dw_and (dt_cmp cs_lt (de_srcGet kf_left 0 rfl (de_int (⟨_, rfl, fun z5 => ⟨_, _, rfl, dw_and1 (dt_cmp cs_gt (de_srcLen T.z_len 0 rfl (de_int (⟨_, rfl, fun z6 => ⟨rfl, rfl⟩⟩)))), ⟨rfl, rfl⟩⟩⟩)))), ⟨rfl, rfl⟩⟩⟩)))))) fun t7 => ⟨_, _, rfl, ds_at [some (.src a0 s1), some (.val v_many), none, none] (ds_srcPut kf_left 0 (de_srcPop 0 rfl rfl fun z8 c9 => ⟨_, _, _, rfl, rfl, fun n10 => ds_nil (⟨{ { s1 with cells := c9 } with left := n10 }, (.s (.s (.n (.n .z)))), rfl⟩)⟩)), s1, (.s (.s (.n (.n .z)))), rfl⟩) (fun s2 => ds_at [some (.src a0 s2), some (.val v_many), none, none] (ds_set 2 (de_srcGet kf_left 0 rfl (ds_at [some (.src a0 s2), some (.val v_many), some (.val (PyData.int s2.left)), none] (ds_if (dt_dir (dt_w (dw_or (dt_cmp cs_lt (de_var 1 rfl (de_int (⟨_, rfl, fun z11 => ⟨_, _, rfl, ⟨rfl, rfl⟩, dw_or1 (dt_cmp cs_gt (de_var 2 rfl (de_int (⟨_, rfl, fun z12 => ⟨rfl, rfl⟩⟩))))⟩⟩)))))) fun t13 => ⟨_, _, rfl, ds_srcPut kf_left 0 (de_op bs_fdiv (de_var 2 rfl (de_blt bl_max2 T.z_max bb_max (da_cons (de_int (da_cons (de_var 1 rfl (da_nil (⟨_, _, fn2_eq _ _ _, rfl, fun z14 => ⟨_, rfl, fun z15 => ⟨_, _, _, rfl, rfl, fun n16 => ds_at [some (.src a0 { s2 with left := n16 }), some (.val v_many), some (.val (PyData.int s2.left)), none] (ds_ret (de_op bs_fmod (de_bty bl_int T.z_int bb_int (da_cons (de_var 2 rfl (da_nil (⟨_, _, fn1_eq _ _, rfl, fun z17 => de_blt bl_max2 T.z_max bb_max (da_cons (de_int (da_cons (de_var 1 rfl (da_nil (⟨_, _, fn2_eq _ _ _, rfl, fun z18 => ⟨_, rfl, fun z19 => ⟨_, rfl, rfl⟩⟩⟩))))))⟩)))))))⟩⟩⟩))))))))), ds_nil (ds_srcPut kf_turn 0 (de_op bs_add (de_srcGet kf_turn 0 rfl (de_int (⟨_, rfl, fun z20 => ⟨_, _, _, rfl, rfl, fun n21 => ds_at [some (.src a0 { s2 with turn := n21 }), some (.val v_many), some (.val (PyData.int s2.left)), none] (ds_set 3 (de_op bs_fmod (de_bty bl_int T.z_int bb_int (da_cons (de_op bs_add (de_srcGet kf_mixed 0 rfl (de_op bs_mul (de_srcGet kf_turn 0 rfl (de_int (⟨_, rfl, fun z22 => ⟨_, rfl, fun z23 => da_nil (⟨_, _, fn1_eq _ _, rfl, fun z24 => de_int (⟨_, rfl, fun z25 => ds_at [some (.src a0 { s2 with turn := n21 }), some (.val v_many), some (.val (PyData.int s2.left)), some (.val z25)] (ds_set 3 (de_op bs_fmod (de_bty bl_int T.z_int bb_int (da_cons (de_op bs_add (de_op bs_mul (de_var 3 rfl (de_var 3 rfl (⟨_, rfl, fun z26 => de_op bs_mul (de_srcGet kf_turn 0 rfl (de_int (⟨_, rfl, fun z27 => ⟨_, rfl, fun z28 => da_nil (⟨_, _, fn1_eq _ _, rfl, fun z29 => de_int (⟨_, rfl, fun z30 => ds_at [some (.src a0 { s2 with turn := n21 }), some (.val v_many), some (.val (PyData.int s2.left)), some (.val z30)] (ds_srcPut kf_mixed 0 (de_var 3 rfl (⟨_, _, _, rfl, rfl, fun n31 => ds_at [some (.src a0 { { s2 with turn := n21 } with mixed := n31 }), some (.val v_many), some (.val (PyData.int s2.left)), some (.val z30)] (ds_ret (de_op bs_fmod (de_bty bl_int T.z_int bb_int (da_cons (de_op bs_fdiv (de_var 3 rfl (de_int (⟨_, rfl, fun z32 => da_nil (⟨_, _, fn1_eq _ _, rfl, fun z33 => de_var 1 rfl (⟨_, rfl, fun z34 => ⟨_, rfl, rfl⟩⟩)⟩)⟩))))))))⟩)))⟩)⟩)⟩⟩)))⟩)))))))))⟩)⟩)⟩⟩))))))))))⟩⟩)))))⟩)))))) (fun r3 s2 _ hl => .inr rfl))

theorem p__law_of (T : Txt K mg) : ∀ k : Nat, 2 ≤ k → HasS P w K mg base k "_law_of" 1 (sn1 m__law_of) :=
  T.d__law_of.s (lv := 1) (N := ["source", "some"]) sc__law_of rfl fun a0 s0 ds hds => match ds, hds with
  | [v_some], _ => by
    show DSs _ [some (.src a0 s0), some (.val v_some)] _ (m__law_of s0 v_some) _
    unfold m__law_of
    exact ds_at [some (.src a0 s0), some (.val v_some)] (ds_ret (de_ix (de_var 1 rfl (de_callS 0 (p__law_pick T _ (by show (1 : Nat) ≤ 1; decide) _ _ _) rfl (da_cons (de_blt bl_len T.z_len bb_len (da_cons (de_var 1 rfl (da_nil (⟨_, _, fn1_eq _ _, rfl, fun z1 => da_nil (⟨rfl, _, _, _, rfl, sn1_eq _ _ _, rfl, fun z2 s3 => ⟨_, rfl, fun z4 => ⟨_, rfl, rfl⟩⟩⟩)⟩))))))))))

theorem p__law_low (T : Txt K mg) : ∀ k : Nat, 1 ≤ k → HasP P w K mg base k "_law_low" 2 (fn2 m__law_low) :=
  T.d__law_low.p (lv := 0) (N := ["p", "q", "a", "b"]) sc__law_low rfl fun ds hds => match ds, hds with
  | [v_p, v_q], _ => by
    show DSs _ [some (.val v_p), some (.val v_q), none, none] _ (m__law_low v_p v_q) _
    unfold m__law_low
    exact ds_at [some (.val v_p), some (.val v_q), none, none] (ds_par 2 3 (de_blt bl_abs T.z_abs bb_abs (da_cons (de_var 0 rfl (da_nil (⟨_, _, fn1_eq _ _, rfl, fun z1 => de_blt bl_abs T.z_abs bb_abs (da_cons (de_var 1 rfl (da_nil (⟨_, _, fn1_eq _ _, rfl, fun z2 => ds_at [some (.val v_p), some (.val v_q), some (.val z1), some (.val z2)] (ds_while (fun (st : D × D) => ([some (.val v_p), some (.val v_q), some (.val st.1), some (.val st.2)] : Z.Env)) (100000) (z1, z2) (.s (.s (.s (.s .z)))) rfl (fun s3 => dt_cmp cs_gt (de_var 3 rfl (de_int (⟨_, rfl, fun z6 => ⟨_, _, rfl, ds_at [some (.val v_p), some (.val v_q), some (.val s3.1), some (.val s3.2)] (ds_par 2 3 (de_var 3 rfl (de_op bs_fmod (de_bty bl_int T.z_int bb_int (da_cons (de_var 2 rfl (da_nil (⟨_, _, fn1_eq _ _, rfl, fun z7 => de_var 3 rfl (⟨_, rfl, fun z8 => ds_nil (⟨(s3.2, z8), (.s (.s (.s (.s .z)))), rfl⟩)⟩)⟩))))))) (hw := by intro env he; cases env; cases he; rfl)), (s3.1, s3.2), (.s (.s (.s (.s .z)))), rfl⟩⟩)))) (fun s4 => ds_at [some (.val v_p), some (.val v_q), some (.val s4.1), some (.val s4.2)] (ds_set 2 (de_dir (de_ifx (dt_cmp cs_gt (de_var 1 rfl (de_int (⟨_, rfl, fun z9 => ⟨_, _, rfl, de_var 2 rfl (⟨rfl, rfl⟩), de_op bs_sub (de_int (de_var 2 rfl (⟨_, rfl, fun z10 => ⟨rfl, rfl⟩⟩)))⟩⟩))))) fun z11 => ds_at [some (.val v_p), some (.val v_q), some (.val z11), some (.val s4.2)] (ds_ret (de_tup (da_cons (de_op bs_fdiv (de_var 0 rfl (de_var 2 rfl (⟨_, rfl, fun z12 => da_cons (de_op bs_fdiv (de_var 1 rfl (de_var 2 rfl (⟨_, rfl, fun z13 => da_nil (⟨by show (2 : Nat) ≤ 16777216; decide, rfl⟩)⟩))))⟩)))))))))) (fun r5 s4 _ hl => .inr rfl))⟩))))⟩))))) (hw := by intro env he; cases env; cases he; rfl))

theorem p__law_plus (T : Txt K mg) : ∀ k : Nat, 2 ≤ k → HasP P w K mg base k "_law_plus" 2 (fn2 m__law_plus) :=
  T.d__law_plus.p (lv := 1) (N := ["x", "y"]) sc__law_plus rfl fun ds hds => match ds, hds with
  | [v_x, v_y], _ => by
    show DSs _ [some (.val v_x), some (.val v_y)] _ (m__law_plus v_x v_y) _
    unfold m__law_plus
    exact ds_at [some (.val v_x), some (.val v_y)] (ds_ret (de_call (p__law_low T _ (by show (1 : Nat) ≤ 1; decide) _ _ _) (da_cons (de_op bs_add (de_op bs_mul (de_ix (de_var 0 rfl (de_int (⟨_, rfl, fun z1 => de_ix (de_var 1 rfl (de_int (⟨_, rfl, fun z2 => ⟨_, rfl, fun z3 => de_op bs_mul (de_ix (de_var 1 rfl (de_int (⟨_, rfl, fun z4 => de_ix (de_var 0 rfl (de_int (⟨_, rfl, fun z5 => ⟨_, rfl, fun z6 => ⟨_, rfl, fun z7 => da_cons (de_op bs_mul (de_ix (de_var 0 rfl (de_int (⟨_, rfl, fun z8 => de_ix (de_var 1 rfl (de_int (⟨_, rfl, fun z9 => ⟨_, rfl, fun z10 => da_nil (⟨rfl, ⟨_, _, fn2_eq _ _ _, rfl, fun z11 => rfl⟩⟩)⟩⟩)))⟩)))))⟩⟩⟩)))⟩))))⟩⟩)))⟩)))))))))

theorem p__law_times (T : Txt K mg) : ∀ k : Nat, 2 ≤ k → HasP P w K mg base k "_law_times" 2 (fn2 m__law_times) :=
  T.d__law_times.p (lv := 1) (N := ["x", "y"]) sc__law_times rfl fun ds hds => match ds, hds with
  | [v_x, v_y], _ => by
    show DSs _ [some (.val v_x), some (.val v_y)] _ (m__law_times v_x v_y) _
    unfold m__law_times
    exact ds_at [some (.val v_x), some (.val v_y)] (ds_ret (de_call (p__law_low T _ (by show (1 : Nat) ≤ 1; decide) _ _ _) (da_cons (de_op bs_mul (de_ix (de_var 0 rfl (de_int (⟨_, rfl, fun z1 => de_ix (de_var 1 rfl (de_int (⟨_, rfl, fun z2 => ⟨_, rfl, fun z3 => da_cons (de_op bs_mul (de_ix (de_var 0 rfl (de_int (⟨_, rfl, fun z4 => de_ix (de_var 1 rfl (de_int (⟨_, rfl, fun z5 => ⟨_, rfl, fun z6 => da_nil (⟨rfl, ⟨_, _, fn2_eq _ _ _, rfl, fun z7 => rfl⟩⟩)⟩⟩)))⟩)))))⟩⟩)))⟩))))))))

theorem p__law_solved__0 (T : Txt K mg) : ∀ k : Nat, 3 ≤ k → HasP P w K mg base k "_law_solved" 3 (fn3 m__law_solved__0) :=
  T.d__law_solved.p (lv := 2) (N := ["table", "x", "y", "a", "b", "c", "d", "other", "left", "late", "second", "first"]) sc__law_solved rfl fun ds hds => match ds, hds with
  | [v_table, v_x, v_y], _ => by
    show DSs _ [some (.val v_table), some (.val v_x), some (.val v_y), none, none, none, none, none, none, none, none, none] _ (m__law_solved__0 v_table v_x v_y) _
    unfold m__law_solved__0
    exact dss_stuck

theorem p__law_solved__1 (T : Txt K mg) : ∀ k : Nat, 4 ≤ k → HasP P w K mg base k "_law_solved" 3 (fn3 m__law_solved__1) :=
  T.d__law_solved.p (lv := 3) (N := ["table", "x", "y", "a", "b", "c", "d", "other", "left", "late", "second", "first"]) sc__law_solved rfl fun ds hds => match ds, hds with
  | [v_table, v_x, v_y], _ => by
    show DSs _ [some (.val v_table), some (.val v_x), some (.val v_y), none, none, none, none, none, none, none, none, none] _ (m__law_solved__1 v_table v_x v_y) _
    unfold m__law_solved__1
    exact ds_at [some (.val v_table), some (.val v_x), some (.val v_y), none, none, none, none, none, none, none, none, none] (ds_asg (de_var 0 rfl (dg_tup2 rfl fun p1 p2 => dgs_cons (dg_tup2 rfl fun p3 p4 => dgs_cons (dg_name 3 (dgs_cons (dg_name 4 (dgs_nil (dgs_cons (dg_tup2 rfl fun p5 p6 => dgs_cons (dg_name 5 (dgs_cons (dg_name 6 (dgs_nil (dgs_nil (ds_at [some (.val v_table), some (.val v_x), some (.val v_y), some (.val p3), some (.val p4), some (.val p5), some (.val p6), none, none, none, none, none] (ds_if (dt_cmp cs_eq (de_var 3 rfl (de_int (⟨_, rfl, fun z7 => ⟨_, _, rfl, ds_set 7 (de_call (p__law_solved__0 T _ (by show (3 : Nat) ≤ 3; decide) _ _ _) (da_cons (de_tup (da_cons (de_tup (da_cons (de_var 5 rfl (da_cons (de_var 6 rfl (da_nil (⟨by show (2 : Nat) ≤ 16777216; decide, da_cons (de_tup (da_cons (de_var 3 rfl (da_cons (de_var 4 rfl (da_nil (⟨by show (2 : Nat) ≤ 16777216; decide, da_nil (⟨by show (2 : Nat) ≤ 16777216; decide, da_cons (de_var 2 rfl (da_cons (de_var 1 rfl (da_nil (⟨rfl, ⟨_, _, fn3_eq _ _ _ _, rfl, fun z8 => ds_at [some (.val v_table), some (.val v_x), some (.val v_y), some (.val p3), some (.val p4), some (.val p5), some (.val p6), some (.val z8), none, none, none, none] (ds_ret (de_var 7 rfl (rfl)))⟩⟩)))))⟩)⟩)))))))⟩))))))))))), ds_nil (ds_set 8 (de_call (p__law_plus T _ (by show (2 : Nat) ≤ 3; decide) _ _ _) (da_cons (de_tup (da_cons (de_var 6 rfl (da_cons (de_int (da_nil (⟨by show (2 : Nat) ≤ 16777216; decide, da_cons (de_call (p__law_times T _ (by show (2 : Nat) ≤ 3; decide) _ _ _) (da_cons (de_tup (da_cons (de_op bs_sub (de_int (de_var 5 rfl (⟨_, rfl, fun z9 => da_cons (de_var 3 rfl (da_nil (⟨by show (2 : Nat) ≤ 16777216; decide, da_cons (de_tup (da_cons (de_var 4 rfl (da_cons (de_int (da_nil (⟨by show (2 : Nat) ≤ 16777216; decide, da_nil (⟨rfl, ⟨_, _, fn2_eq _ _ _, rfl, fun z10 => da_nil (⟨rfl, ⟨_, _, fn2_eq _ _ _, rfl, fun z11 => ds_at [some (.val v_table), some (.val v_x), some (.val v_y), some (.val p3), some (.val p4), some (.val p5), some (.val p6), none, some (.val z11), none, none, none] (ds_set 9 (de_call (p__law_plus T _ (by show (2 : Nat) ≤ 3; decide) _ _ _) (da_cons (de_var 2 rfl (da_cons (de_call (p__law_times T _ (by show (2 : Nat) ≤ 3; decide) _ _ _) (da_cons (de_tup (da_cons (de_op bs_sub (de_int (de_var 5 rfl (⟨_, rfl, fun z12 => da_cons (de_var 3 rfl (da_nil (⟨by show (2 : Nat) ≤ 16777216; decide, da_cons (de_var 1 rfl (da_nil (⟨rfl, ⟨_, _, fn2_eq _ _ _, rfl, fun z13 => da_nil (⟨rfl, ⟨_, _, fn2_eq _ _ _, rfl, fun z14 => ds_at [some (.val v_table), some (.val v_x), some (.val v_y), some (.val p3), some (.val p4), some (.val p5), some (.val p6), none, some (.val z11), some (.val z14), none, none] (ds_set 10 (de_call (p__law_times T _ (by show (2 : Nat) ≤ 3; decide) _ _ _) (da_cons (de_var 9 rfl (da_cons (de_dir (de_ifx (dt_cmp cs_gt (de_ix (de_var 8 rfl (de_int (⟨_, rfl, fun z15 => de_int (⟨_, rfl, fun z16 => ⟨_, _, rfl, de_tup (da_cons (de_ix (de_var 8 rfl (de_int (⟨_, rfl, fun z17 => da_cons (de_ix (de_var 8 rfl (de_int (⟨_, rfl, fun z18 => da_nil (⟨by show (2 : Nat) ≤ 16777216; decide, ⟨rfl, rfl⟩⟩)⟩))))⟩))))), de_tup (da_cons (de_op bs_sub (de_int (de_ix (de_var 8 rfl (de_int (⟨_, rfl, fun z19 => ⟨_, rfl, fun z20 => da_cons (de_op bs_sub (de_int (de_ix (de_var 8 rfl (de_int (⟨_, rfl, fun z21 => ⟨_, rfl, fun z22 => da_nil (⟨by show (2 : Nat) ≤ 16777216; decide, ⟨rfl, rfl⟩⟩)⟩⟩))))))⟩⟩)))))))⟩⟩)⟩)))))) fun z23 => da_nil (⟨rfl, ⟨_, _, fn2_eq _ _ _, rfl, fun z24 => ds_at [some (.val v_table), some (.val v_x), some (.val v_y), some (.val p3), some (.val p4), some (.val p5), some (.val p6), none, some (.val z11), some (.val z14), some (.val z24), none] (ds_set 11 (de_call (p__law_times T _ (by show (2 : Nat) ≤ 3; decide) _ _ _) (da_cons (de_call (p__law_plus T _ (by show (2 : Nat) ≤ 3; decide) _ _ _) (da_cons (de_var 1 rfl (da_cons (de_call (p__law_times T _ (by show (2 : Nat) ≤ 3; decide) _ _ _) (da_cons (de_tup (da_cons (de_op bs_sub (de_int (de_var 4 rfl (⟨_, rfl, fun z25 => da_cons (de_int (da_nil (⟨by show (2 : Nat) ≤ 16777216; decide, da_cons (de_var 10 rfl (da_nil (⟨rfl, ⟨_, _, fn2_eq _ _ _, rfl, fun z26 => da_nil (⟨rfl, ⟨_, _, fn2_eq _ _ _, rfl, fun z27 => da_cons (de_dir (de_ifx (dt_cmp cs_gt (de_var 3 rfl (de_int (⟨_, rfl, fun z28 => ⟨_, _, rfl, de_tup (da_cons (de_int (da_cons (de_var 3 rfl (da_nil (⟨by show (2 : Nat) ≤ 16777216; decide, ⟨rfl, rfl⟩⟩)))))), de_tup (da_cons (de_negc (da_cons (de_op bs_sub (de_int (de_var 3 rfl (⟨_, rfl, fun z29 => da_nil (⟨by show (2 : Nat) ≤ 16777216; decide, ⟨rfl, rfl⟩⟩)⟩)))))))⟩⟩))))) fun z30 => da_nil (⟨rfl, ⟨_, _, fn2_eq _ _ _, rfl, fun z31 => ds_at [some (.val v_table), some (.val v_x), some (.val v_y), some (.val p3), some (.val p4), some (.val p5), some (.val p6), none, some (.val z11), some (.val z14), some (.val z24), some (.val z31)] (ds_ret (de_tup (da_cons (de_var 11 rfl (da_cons (de_var 10 rfl (da_nil (⟨by show (2 : Nat) ≤ 16777216; decide, rfl⟩))))))))⟩⟩))⟩⟩)⟩⟩)))⟩)))⟩)))))))))))))))⟩⟩)))))))⟩⟩)⟩⟩)))⟩)))⟩)))))))))))))⟩⟩)⟩⟩)⟩)))))))⟩)))⟩))))))))⟩))))))))))⟩⟩)))))))))))))))))))))

theorem p__law_solved (T : Txt K mg) : ∀ k : Nat, 5 ≤ k → HasP P w K mg base k "_law_solved" 3 (fn3 m__law_solved) :=
  T.d__law_solved.p (lv := 4) (N := ["table", "x", "y", "a", "b", "c", "d", "other", "left", "late", "second", "first"]) sc__law_solved rfl fun ds hds => match ds, hds with
  | [v_table, v_x, v_y], _ => by
    show DSs _ [some (.val v_table), some (.val v_x), some (.val v_y), none, none, none, none, none, none, none, none, none] _ (m__law_solved v_table v_x v_y) _
    unfold m__law_solved
    exact ds_at [some (.val v_table), some (.val v_x), some (.val v_y), none, none, none, none, none, none, none, none, none] (ds_asg (de_var 0 rfl (dg_tup2 rfl fun p1 p2 => dgs_cons (dg_tup2 rfl fun p3 p4 => dgs_cons (dg_name 3 (dgs_cons (dg_name 4 (dgs_nil (dgs_cons (dg_tup2 rfl fun p5 p6 => dgs_cons (dg_name 5 (dgs_cons (dg_name 6 (dgs_nil (dgs_nil (ds_at [some (.val v_table), some (.val v_x), some (.val v_y), some (.val p3), some (.val p4), some (.val p5), some (.val p6), none, none, none, none, none] (ds_if (dt_cmp cs_eq (de_var 3 rfl (de_int (⟨_, rfl, fun z7 => ⟨_, _, rfl, ds_set 7 (de_call (p__law_solved__1 T _ (by show (4 : Nat) ≤ 4; decide) _ _ _) (da_cons (de_tup (da_cons (de_tup (da_cons (de_var 5 rfl (da_cons (de_var 6 rfl (da_nil (⟨by show (2 : Nat) ≤ 16777216; decide, da_cons (de_tup (da_cons (de_var 3 rfl (da_cons (de_var 4 rfl (da_nil (⟨by show (2 : Nat) ≤ 16777216; decide, da_nil (⟨by show (2 : Nat) ≤ 16777216; decide, da_cons (de_var 2 rfl (da_cons (de_var 1 rfl (da_nil (⟨rfl, ⟨_, _, fn3_eq _ _ _ _, rfl, fun z8 => ds_at [some (.val v_table), some (.val v_x), some (.val v_y), some (.val p3), some (.val p4), some (.val p5), some (.val p6), some (.val z8), none, none, none, none] (ds_ret (de_var 7 rfl (rfl)))⟩⟩)))))⟩)⟩)))))))⟩))))))))))), ds_nil (ds_set 8 (de_call (p__law_plus T _ (by show (2 : Nat) ≤ 4; decide) _ _ _) (da_cons (de_tup (da_cons (de_var 6 rfl (da_cons (de_int (da_nil (⟨by show (2 : Nat) ≤ 16777216; decide, da_cons (de_call (p__law_times T _ (by show (2 : Nat) ≤ 4; decide) _ _ _) (da_cons (de_tup (da_cons (de_op bs_sub (de_int (de_var 5 rfl (⟨_, rfl, fun z9 => da_cons (de_var 3 rfl (da_nil (⟨by show (2 : Nat) ≤ 16777216; decide, da_cons (de_tup (da_cons (de_var 4 rfl (da_cons (de_int (da_nil (⟨by show (2 : Nat) ≤ 16777216; decide, da_nil (⟨rfl, ⟨_, _, fn2_eq _ _ _, rfl, fun z10 => da_nil (⟨rfl, ⟨_, _, fn2_eq _ _ _, rfl, fun z11 => ds_at [some (.val v_table), some (.val v_x), some (.val v_y), some (.val p3), some (.val p4), some (.val p5), some (.val p6), none, some (.val z11), none, none, none] (ds_set 9 (de_call (p__law_plus T _ (by show (2 : Nat) ≤ 4; decide) _ _ _) (da_cons (de_var 2 rfl (da_cons (de_call (p__law_times T _ (by show (2 : Nat) ≤ 4; decide) _ _ _) (da_cons (de_tup (da_cons (de_op bs_sub (de_int (de_var 5 rfl (⟨_, rfl, fun z12 => da_cons (de_var 3 rfl (da_nil (⟨by show (2 : Nat) ≤ 16777216; decide, da_cons (de_var 1 rfl (da_nil (⟨rfl, ⟨_, _, fn2_eq _ _ _, rfl, fun z13 => da_nil (⟨rfl, ⟨_, _, fn2_eq _ _ _, rfl, fun z14 => ds_at [some (.val v_table), some (.val v_x), some (.val v_y), some (.val p3), some (.val p4), some (.val p5), some (.val p6), none, some (.val z11), some (.val z14), none, none] (ds_set 10 (de_call (p__law_times T _ (by show (2 : Nat) ≤ 4; decide) _ _ _) (da_cons (de_var 9 rfl (da_cons (de_dir (de_ifx (dt_cmp cs_gt (de_ix (de_var 8 rfl (de_int (⟨_, rfl, fun z15 => de_int (⟨_, rfl, fun z16 => ⟨_, _, rfl, de_tup (da_cons (de_ix (de_var 8 rfl (de_int (⟨_, rfl, fun z17 => da_cons (de_ix (de_var 8 rfl (de_int (⟨_, rfl, fun z18 => da_nil (⟨by show (2 : Nat) ≤ 16777216; decide, ⟨rfl, rfl⟩⟩)⟩))))⟩))))), de_tup (da_cons (de_op bs_sub (de_int (de_ix (de_var 8 rfl (de_int (⟨_, rfl, fun z19 => ⟨_, rfl, fun z20 => da_cons (de_op bs_sub (de_int (de_ix (de_var 8 rfl (de_int (⟨_, rfl, fun z21 => ⟨_, rfl, fun z22 => da_nil (⟨by show (2 : Nat) ≤ 16777216; decide, ⟨rfl, rfl⟩⟩)⟩⟩))))))⟩⟩)))))))⟩⟩)⟩)))))) fun z23 => da_nil (⟨rfl, ⟨_, _, fn2_eq _ _ _, rfl, fun z24 => ds_at [some (.val v_table), some (.val v_x), some (.val v_y), some (.val p3), some (.val p4), some (.val p5), some (.val p6), none, some (.val z11), some (.val z14), some (.val z24), none] (ds_set 11 (de_call (p__law_times T _ (by show (2 : Nat) ≤ 4; decide) _ _ _) (da_cons (de_call (p__law_plus T _ (by show (2 : Nat) ≤ 4; decide) _ _ _) (da_cons (de_var 1 rfl (da_cons (de_call (p__law_times T _ (by show (2 : Nat) ≤ 4; decide) _ _ _) (da_cons (de_tup (da_cons (de_op bs_sub (de_int (de_var 4 rfl (⟨_, rfl, fun z25 => da_cons (de_int (da_nil (⟨by show (2 : Nat) ≤ 16777216; decide, da_cons (de_var 10 rfl (da_nil (⟨rfl, ⟨_, _, fn2_eq _ _ _, rfl, fun z26 => da_nil (⟨rfl, ⟨_, _, fn2_eq _ _ _, rfl, fun z27 => da_cons (de_dir (de_ifx (dt_cmp cs_gt (de_var 3 rfl (de_int (⟨_, rfl, fun z28 => ⟨_, _, rfl, de_tup (da_cons (de_int (da_cons (de_var 3 rfl (da_nil (⟨by show (2 : Nat) ≤ 16777216; decide, ⟨rfl, rfl⟩⟩)))))), de_tup (da_cons (de_negc (da_cons (de_op bs_sub (de_int (de_var 3 rfl (⟨_, rfl, fun z29 => da_nil (⟨by show (2 : Nat) ≤ 16777216; decide, ⟨rfl, rfl⟩⟩)⟩)))))))⟩⟩))))) fun z30 => da_nil (⟨rfl, ⟨_, _, fn2_eq _ _ _, rfl, fun z31 => ds_at [some (.val v_table), some (.val v_x), some (.val v_y), some (.val p3), some (.val p4), some (.val p5), some (.val p6), none, some (.val z11), some (.val z14), some (.val z24), some (.val z31)] (ds_ret (de_tup (da_cons (de_var 11 rfl (da_cons (de_var 10 rfl (da_nil (⟨by show (2 : Nat) ≤ 16777216; decide, rfl⟩))))))))⟩⟩))⟩⟩)⟩⟩)))⟩)))⟩)))))))))))))))⟩⟩)))))))⟩⟩)⟩⟩)))⟩)))⟩)))))))))))))⟩⟩)⟩⟩)⟩)))))))⟩)))⟩))))))))⟩))))))))))⟩⟩)))))))))))))))))))))

theorem p__law_part (T : Txt K mg) : ∀ k : Nat, 1 ≤ k → HasP P w K mg base k "_law_part" 2 (fn2 m__law_part) :=
  T.d__law_part.p (lv := 0) (N := ["a", "b"]) sc__law_part rfl fun ds hds => match ds, hds with
  | [v_a, v_b], _ => by
    show DSs _ [some (.val v_a), some (.val v_b)] _ (m__law_part v_a v_b) _
    unfold m__law_part
    exact ds_at [some (.val v_a), some (.val v_b)] (ds_while (fun (st : D × D) => ([some (.val st.1), some (.val st.2)] : Z.Env)) (100000) (v_a, v_b) (.s (.s .z)) rfl (fun s1 => dt_cmp cs_gt (de_var 1 rfl (de_int (⟨_, rfl, fun z4 => ⟨_, _, rfl, ds_at [some (.val s1.1), some (.val s1.2)] (ds_par 0 1 (de_var 1 rfl (de_op bs_fmod (de_bty bl_int T.z_int bb_int (da_cons (de_var 0 rfl (da_nil (⟨_, _, fn1_eq _ _, rfl, fun z5 => de_var 1 rfl (⟨_, rfl, fun z6 => ds_nil (⟨(s1.2, z6), (.s (.s .z)), rfl⟩)⟩)⟩))))))) (hw := by intro env he; cases env; cases he; rfl)), (s1.1, s1.2), (.s (.s .z)), rfl⟩⟩)))) (fun s2 => ds_at [some (.val s2.1), some (.val s2.2)] (ds_ret (de_var 0 rfl (rfl)))) (fun r3 s2 _ hl => .inr rfl))

theorem p__law_point (T : Txt K mg) : ∀ k : Nat, 2 ≤ k → HasP P w K mg base k "_law_point" 2 (fn2 m__law_point) :=
  T.d__law_point.p (lv := 1) (N := ["x", "y", "bottom"]) sc__law_point rfl fun ds hds => match ds, hds with
  | [v_x, v_y], _ => by
    show DSs _ [some (.val v_x), some (.val v_y), none] _ (m__law_point v_x v_y) _
    unfold m__law_point
    exact ds_at [some (.val v_x), some (.val v_y), none] (ds_set 2 (de_op bs_mul (de_ix (de_var 0 rfl (de_int (⟨_, rfl, fun z1 => de_op bs_fdiv (de_ix (de_var 1 rfl (de_int (⟨_, rfl, fun z2 => de_call (p__law_part T _ (by show (1 : Nat) ≤ 1; decide) _ _ _) (da_cons (de_ix (de_var 0 rfl (de_int (⟨_, rfl, fun z3 => da_cons (de_ix (de_var 1 rfl (de_int (⟨_, rfl, fun z4 => da_nil (⟨rfl, ⟨_, _, fn2_eq _ _ _, rfl, fun z5 => ⟨_, rfl, fun z6 => ⟨_, rfl, fun z7 => ds_at [some (.val v_x), some (.val v_y), some (.val z7)] (ds_ret (de_tup (da_cons (de_tup (da_cons (de_op bs_mul (de_ix (de_var 0 rfl (de_int (⟨_, rfl, fun z8 => de_op bs_fdiv (de_var 2 rfl (de_ix (de_var 0 rfl (de_int (⟨_, rfl, fun z9 => ⟨_, rfl, fun z10 => ⟨_, rfl, fun z11 => da_cons (de_op bs_mul (de_ix (de_var 1 rfl (de_int (⟨_, rfl, fun z12 => de_op bs_fdiv (de_var 2 rfl (de_ix (de_var 1 rfl (de_int (⟨_, rfl, fun z13 => ⟨_, rfl, fun z14 => ⟨_, rfl, fun z15 => da_nil (⟨by show (2 : Nat) ≤ 16777216; decide, da_cons (de_var 2 rfl (da_nil (⟨by show (2 : Nat) ≤ 16777216; decide, rfl⟩)))⟩)⟩⟩⟩)))))⟩)))))⟩⟩⟩)))))⟩))))))))))⟩⟩⟩⟩)⟩))))⟩)))))⟩))))⟩))))))

theorem p__law_fractions (T : Txt K mg) : ∀ k : Nat, 2 ≤ k → HasP P w K mg base k "_law_fractions" 1 (fn1 m__law_fractions) :=
  T.d__law_fractions.p (lv := 1) (N := ["point"]) sc__law_fractions rfl fun ds hds => match ds, hds with
  | [v_point], _ => by
    show DSs _ [some (.val v_point)] _ (m__law_fractions v_point) _
    unfold m__law_fractions
    exact ds_at [some (.val v_point)] (ds_ret (de_tup (da_cons (de_call (p__law_low T _ (by show (1 : Nat) ≤ 1; decide) _ _ _) (da_cons (de_ix (de_ix (de_var 0 rfl (de_int (⟨_, rfl, fun z1 => de_int (⟨_, rfl, fun z2 => da_cons (de_ix (de_var 0 rfl (de_int (⟨_, rfl, fun z3 => da_nil (⟨rfl, ⟨_, _, fn2_eq _ _ _, rfl, fun z4 => da_cons (de_call (p__law_low T _ (by show (1 : Nat) ≤ 1; decide) _ _ _) (da_cons (de_ix (de_ix (de_var 0 rfl (de_int (⟨_, rfl, fun z5 => de_int (⟨_, rfl, fun z6 => da_cons (de_ix (de_var 0 rfl (de_int (⟨_, rfl, fun z7 => da_nil (⟨rfl, ⟨_, _, fn2_eq _ _ _, rfl, fun z8 => da_nil (⟨by show (2 : Nat) ≤ 16777216; decide, rfl⟩)⟩⟩)⟩))))⟩)⟩)))))))⟩⟩)⟩))))⟩)⟩))))))))))

theorem p__law_led (T : Txt K mg) : ∀ k : Nat, 3 ≤ k → HasP P w K mg base k "_law_led" 3 (fn3 m__law_led) :=
  T.d__law_led.p (lv := 2) (N := ["table", "x", "y", "rows", "a", "b"]) sc__law_led rfl fun ds hds => match ds, hds with
  | [v_table, v_x, v_y], _ => by
    show DSs _ [some (.val v_table), some (.val v_x), some (.val v_y), none, none, none] _ (m__law_led v_table v_x v_y) _
    unfold m__law_led
    exact ds_at [some (.val v_table), some (.val v_x), some (.val v_y), none, none, none] (ds_own 3 (dn_lst (da_nil (⟨by show (0 : Nat) ≤ 16777216; decide, ds_at [some (.val v_table), some (.val v_x), some (.val v_y), some (.own []), none, none] (ds_forS (fun (st : List D) => ([some (.val v_table), some (.val v_x), some (.val v_y), some (.own st), none, none] : Z.Env)) (di_val (de_var 0 rfl (⟨_, rfl, fun z1 => ⟨[], _, _, (.s (.s (.s (.s (.n (.n .z)))))), rfl, fun x2 s3 => dg_tup2 rfl fun p5 p6 => dgs_cons (dg_name 4 (dgs_cons (dg_name 5 (dgs_nil (ds_at [some (.val v_table), some (.val v_x), some (.val v_y), some (.own s3), some (.val p5), some (.val p6)] (ds_expr (de_om F.slot_list_append F.type_list_append om_append 3 rfl (da_cons (de_call (p__law_plus T _ (by show (2 : Nat) ≤ 2; decide) _ _ _) (da_cons (de_call (p__law_times T _ (by show (2 : Nat) ≤ 2; decide) _ _ _) (da_cons (de_tup (da_cons (de_var 4 rfl (da_cons (de_int (da_nil (⟨by show (2 : Nat) ≤ 16777216; decide, da_cons (de_var 1 rfl (da_nil (⟨rfl, ⟨_, _, fn2_eq _ _ _, rfl, fun z7 => da_cons (de_call (p__law_times T _ (by show (2 : Nat) ≤ 2; decide) _ _ _) (da_cons (de_tup (da_cons (de_var 5 rfl (da_cons (de_int (da_nil (⟨by show (2 : Nat) ≤ 16777216; decide, da_cons (de_var 2 rfl (da_nil (⟨rfl, ⟨_, _, fn2_eq _ _ _, rfl, fun z8 => da_nil (⟨rfl, ⟨_, _, fn2_eq _ _ _, rfl, fun z9 => da_nil (⟨_, _, rfl, rfl, fun z10 y11 => ds_nil (⟨y11, (.s (.s (.s (.s (.n (.n .z)))))), rfl⟩)⟩)⟩⟩)⟩⟩)))⟩)))))))))⟩⟩)))⟩))))))))))))))))))), fun s4 => ds_at [some (.val v_table), some (.val v_x), some (.val v_y), some (.own s4), none, none] (ds_keep 3 rfl (ds_at [some (.val v_table), some (.val v_x), some (.val v_y), some (.val (PyData.list s4)), none, none] (ds_ret (de_tup (da_cons (de_ix (de_var 3 rfl (de_int (⟨_, rfl, fun z12 => da_cons (de_ix (de_var 3 rfl (de_int (⟨_, rfl, fun z13 => da_nil (⟨by show (2 : Nat) ≤ 16777216; decide, rfl⟩)⟩))))⟩)))))))))⟩⟩))))⟩))))

theorem p__law_product (T : Txt K mg) : ∀ k : Nat, 1 ≤ k → HasP P w K mg base k "_law_product" 2 (fn2 m__law_product) :=
  T.d__law_product.p (lv := 0) (N := ["one", "other", "found", "row", "k"]) sc__law_product rfl fun ds hds => match ds, hds with
  | [v_one, v_other], _ => by
    show DSs _ [some (.val v_one), some (.val v_other), none, none, none] _ (m__law_product v_one v_other) _
    unfold m__law_product
    exact ds_at [some (.val v_one), some (.val v_other), none, none, none] (ds_own 2 (dn_lst (da_nil (⟨by show (0 : Nat) ≤ 16777216; decide, ds_at [some (.val v_one), some (.val v_other), some (.own []), none, none] (ds_forS (fun (st : List D) => ([some (.val v_one), some (.val v_other), some (.own st), none, none] : Z.Env)) (di_val (de_var 0 rfl (⟨_, rfl, fun z1 => ⟨[], _, _, (.s (.s (.s (.n (.n .z))))), rfl, fun x2 s3 => dg_name 3 (ds_at [some (.val v_one), some (.val v_other), some (.own s3), some (.val x2), none] (ds_expr (de_om F.slot_list_append F.type_list_append om_append 2 rfl (da_cons (de_bty bl_tuple T.z_tuple bb_tuple (da_cons (de_lcP [("k", 4)] (by kernel_rfl) (di_range1 T.z_range (de_int (⟨_, rfl, fun z5 => ⟨[some (.val v_one), some (.val v_other), none, some (.val x2), none], _, _, (.s (.s (.n (.s (.n .z))))), rfl, rfl, fun x6 => dg_name 4 (dts_nil ⟨fun _ => de_op bs_add (de_op bs_mul (de_ix (de_var 3 rfl (de_int (⟨_, rfl, fun z7 => de_ix (de_ix (de_var 1 rfl (de_int (⟨_, rfl, fun z8 => de_var 4 rfl (⟨_, rfl, fun z9 => ⟨_, rfl, fun z10 => de_op bs_mul (de_ix (de_var 3 rfl (de_int (⟨_, rfl, fun z11 => de_ix (de_ix (de_var 1 rfl (de_int (⟨_, rfl, fun z12 => de_var 4 rfl (⟨_, rfl, fun z13 => ⟨_, rfl, fun z14 => ⟨_, rfl, fun z15 => rfl⟩⟩⟩)⟩))))⟩))))⟩⟩)⟩))))⟩))))), fun h => nomatch h⟩), fun ys16 => da_nil (⟨_, _, fn1_eq _ _, rfl, fun z17 => da_nil (⟨_, _, rfl, rfl, fun z18 y19 => ds_nil (⟨y19, (.s (.s (.s (.n (.n .z))))), rfl⟩)⟩)⟩)⟩⟩)))))))))), fun s4 => ds_at [some (.val v_one), some (.val v_other), some (.own s4), none, none] (ds_keep 2 rfl (ds_at [some (.val v_one), some (.val v_other), some (.val (PyData.list s4)), none, none] (ds_ret (de_bty bl_tuple T.z_tuple bb_tuple (da_cons (de_var 2 rfl (da_nil (⟨_, _, fn1_eq _ _, rfl, fun z20 => rfl⟩))))))))⟩⟩))))⟩))))

theorem p__law_is_small (T : Txt K mg) : ∀ k : Nat, 2 ≤ k → HasP P w K mg base k "_law_is_small" 1 (fn1 m__law_is_small) :=
  T.d__law_is_small.p (lv := 1) (N := ["table", "a", "b", "c", "d", "bottom", "power", "lap", "row"]) sc__law_is_small rfl fun ds hds => match ds, hds with
  | [v_table], _ => by
    show DSs _ [some (.val v_table), none, none, none, none, none, none, none, none] _ (m__law_is_small v_table) _
    unfold m__law_is_small
    exact ds_at [some (.val v_table), none, none, none, none, none, none, none, none] (ds_asg (de_var 0 rfl (dg_tup2 rfl fun p1 p2 => dgs_cons (dg_tup2 rfl fun p3 p4 => dgs_cons (dg_name 1 (dgs_cons (dg_name 2 (dgs_nil (dgs_cons (dg_tup2 rfl fun p5 p6 => dgs_cons (dg_name 3 (dgs_cons (dg_name 4 (dgs_nil (dgs_nil (ds_at [some (.val v_table), some (.val p3), some (.val p4), some (.val p5), some (.val p6), none, none, none, none] (ds_par 5 6 (de_blt bl_abs T.z_abs bb_abs (da_cons (de_op bs_sub (de_op bs_mul (de_var 1 rfl (de_var 4 rfl (⟨_, rfl, fun z7 => de_op bs_mul (de_var 2 rfl (de_var 3 rfl (⟨_, rfl, fun z8 => ⟨_, rfl, fun z9 => da_nil (⟨_, _, fn1_eq _ _, rfl, fun z10 => de_tup (da_cons (de_tup (da_cons (de_var 4 rfl (da_cons (de_op bs_sub (de_int (de_var 2 rfl (⟨_, rfl, fun z11 => da_nil (⟨by show (2 : Nat) ≤ 16777216; decide, da_cons (de_tup (da_cons (de_op bs_sub (de_int (de_var 3 rfl (⟨_, rfl, fun z12 => da_cons (de_var 1 rfl (da_nil (⟨by show (2 : Nat) ≤ 16777216; decide, da_nil (⟨by show (2 : Nat) ≤ 16777216; decide, ds_at [some (.val v_table), some (.val p3), some (.val p4), some (.val p5), some (.val p6), some (.val z10), some (.val (PyData.tuple [(PyData.tuple [p6, z11]), (PyData.tuple [z12, p3])])), none, none] (ds_forT (fun (st : D × D) => ([some (.val v_table), some (.val p3), some (.val p4), some (.val p5), some (.val p6), some (.val st.1), some (.val st.2), none, none] : Z.Env)) (di_range1 T.z_range (de_int (⟨_, rfl, fun z13 => ⟨(z10, (PyData.tuple [(PyData.tuple [p6, z11]), (PyData.tuple [z12, p3])])), _, _, (.s (.s (.s (.s (.s (.s (.s (.n (.n .z))))))))), rfl, fun x14 s15 => dg_name 7 (ds_at [some (.val v_table), some (.val p3), some (.val p4), some (.val p5), some (.val p6), some (.val s15.1), some (.val s15.2), some (.val x14), none] (ds_if (dt_dir (dt_w (dw_and (dt_cmp cs_gt (de_var 5 rfl (de_int (⟨_, rfl, fun z17 => ⟨_, _, rfl, dw_and1 (dt_cmp cs_lt (de_blt bl_maxI T.z_max bb_max (da_cons (de_lcP [("row", 8)] (by kernel_rfl) (di_val (de_var 6 rfl (⟨_, rfl, fun z18 => ⟨[some (.val v_table), some (.val p3), some (.val p4), some (.val p5), some (.val p6), some (.val s15.1), some (.val s15.2), some (.val x14), none], _, _, (.s (.s (.s (.s (.s (.s (.s (.s (.n .z))))))))), rfl, rfl, fun x19 => dg_name 8 (dts_nil ⟨fun _ => de_op bs_add (de_blt bl_abs T.z_abs bb_abs (da_cons (de_ix (de_var 8 rfl (de_int (⟨_, rfl, fun z20 => da_nil (⟨_, _, fn1_eq _ _, rfl, fun z21 => de_blt bl_abs T.z_abs bb_abs (da_cons (de_ix (de_var 8 rfl (de_int (⟨_, rfl, fun z22 => da_nil (⟨_, _, fn1_eq _ _, rfl, fun z23 => ⟨_, rfl, fun z24 => rfl⟩⟩)⟩)))))⟩)⟩)))))), fun h => nomatch h⟩), fun ys25 => da_nil (⟨_, _, fn1_eq _ _, rfl, fun z26 => de_var 5 rfl (⟨_, rfl, fun z27 => ⟨rfl, rfl⟩⟩)⟩)⟩⟩))))))), ⟨rfl, rfl⟩⟩⟩)))))) fun t28 => ⟨_, _, rfl, ds_ret (de_bool (⟨(s15.1, s15.2), (.s (.s (.s (.s (.s (.s (.s (.n (.n .z))))))))), rfl⟩)), ds_nil (ds_par 6 5 (de_call (p__law_product T _ (by show (1 : Nat) ≤ 1; decide) _ _ _) (da_cons (de_var 6 rfl (da_cons (de_var 6 rfl (da_nil (⟨rfl, ⟨_, _, fn2_eq _ _ _, rfl, fun z29 => de_op bs_mul (de_var 5 rfl (de_var 5 rfl (⟨_, rfl, fun z30 => ds_nil (⟨(z30, z29), (.s (.s (.s (.s (.s (.s (.s (.n (.n .z))))))))), rfl⟩)⟩)))⟩⟩))))))) (hw := by intro env he; cases env; cases he; rfl))⟩))), fun s16 => ds_at [some (.val v_table), some (.val p3), some (.val p4), some (.val p5), some (.val p6), some (.val s16.1), some (.val s16.2), none, none] (ds_ret (de_bool (rfl))), fun r31 s16 _ hl => rfl⟩⟩))))⟩)⟩)))⟩))))))⟩)⟩)))))))))⟩)⟩⟩)))⟩))))))) (hw := by intro env he; cases env; cases he; rfl))))))))))))))))))

theorem p__law_table (T : Txt K mg) : ∀ k : Nat, 2 ≤ k → HasS P w K mg base k "_law_table" 1 (sn1 m__law_table) :=
  T.d__law_table.s (lv := 1) (N := ["source", "far", "row", "k"]) sc__law_table rfl fun a0 s0 ds hds => match ds, hds with
  | [v_far], _ => by
    show DSs _ [some (.src a0 s0), some (.val v_far), none, none] _ (m__law_table s0 v_far) _
    unfold m__law_table
    exact ds_at [some (.src a0 s0), some (.val v_far), none, none] (ds_ret (de_bty bl_tuple T.z_tuple bb_tuple (da_cons (de_lcT (fun (st : Src) => ([some (.src a0 st), some (.val v_far), none, none] : Z.Env)) [("row", 2)] (by kernel_rfl) (di_range1 T.z_range (de_int (⟨_, rfl, fun z1 => ⟨s0, _, _, (.s (.s (.n (.n .z)))), rfl, fun x2 s3 => dg_name 2 (dts_nil ⟨fun _ => de_bty bl_tuple T.z_tuple bb_tuple (da_cons (de_lcT (fun (st : Src) => ([some (.src a0 st), some (.val v_far), some (.val x2), none] : Z.Env)) [("k", 3)] (by kernel_rfl) (di_range1 T.z_range (de_int (⟨_, rfl, fun z4 => ⟨s3, _, _, (.s (.s (.s (.n .z)))), rfl, fun x5 s6 => dg_name 3 (dts_nil ⟨fun _ => de_op bs_sub (de_callS 0 (p__law_pick T _ (by show (1 : Nat) ≤ 1; decide) _ _ _) rfl (da_cons (de_op bs_add (de_op bs_mul (de_int (de_var 1 rfl (⟨_, rfl, fun z7 => de_int (⟨_, rfl, fun z8 => da_nil (⟨rfl, _, _, _, rfl, sn1_eq _ _ _, rfl, fun z9 s10 => de_var 1 rfl (⟨_, rfl, fun z11 => ⟨s10, (.s (.s (.s (.n .z)))), rfl⟩⟩)⟩)⟩)⟩))))))), fun h => nomatch h⟩), fun ys12 s13 => da_nil (⟨_, _, fn1_eq _ _, rfl, fun z14 => ⟨s13, (.s (.s (.n (.n .z)))), rfl⟩⟩)⟩⟩))))), fun h => nomatch h⟩), fun ys15 s16 => da_nil (⟨_, _, fn1_eq _ _, rfl, fun z17 => ⟨_, rfl, rfl⟩⟩)⟩⟩)))))))

theorem p__law_drawn_point (T : Txt K mg) : ∀ k : Nat, 3 ≤ k → HasS P w K mg base k "_law_drawn_point" 0 (sn0 m__law_drawn_point) :=
  T.d__law_drawn_point.s (lv := 2) (N := ["source", "x", "y"]) sc__law_drawn_point rfl fun a0 s0 ds hds => match ds, hds with
  | [], _ => by
    show DSs _ [some (.src a0 s0), none, none] _ (m__law_drawn_point s0) _
    unfold m__law_drawn_point
    exact ds_at [some (.src a0 s0), none, none] (ds_set 1 (de_call (p__law_low T _ (by show (1 : Nat) ≤ 2; decide) _ _ _) (da_cons (de_op bs_sub (de_callS 0 (p__law_pick T _ (by show (1 : Nat) ≤ 2; decide) _ _ _) rfl (da_cons (de_int (da_nil (⟨rfl, _, _, _, rfl, sn1_eq _ _ _, rfl, fun z1 s2 => de_int (⟨_, rfl, fun z3 => da_cons (de_op bs_add (de_int (de_callS 0 (p__law_pick T _ (by show (1 : Nat) ≤ 2; decide) _ _ _) rfl (da_cons (de_int (da_nil (⟨rfl, _, _, _, rfl, sn1_eq _ _ _, rfl, fun z4 s5 => ⟨_, rfl, fun z6 => da_nil (⟨rfl, ⟨_, _, fn2_eq _ _ _, rfl, fun z7 => ds_at [some (.src a0 s5), some (.val z7), none] (ds_set 2 (de_call (p__law_low T _ (by show (1 : Nat) ≤ 2; decide) _ _ _) (da_cons (de_op bs_sub (de_callS 0 (p__law_pick T _ (by show (1 : Nat) ≤ 2; decide) _ _ _) rfl (da_cons (de_int (da_nil (⟨rfl, _, _, _, rfl, sn1_eq _ _ _, rfl, fun z8 s9 => de_int (⟨_, rfl, fun z10 => da_cons (de_op bs_add (de_int (de_callS 0 (p__law_pick T _ (by show (1 : Nat) ≤ 2; decide) _ _ _) rfl (da_cons (de_int (da_nil (⟨rfl, _, _, _, rfl, sn1_eq _ _ _, rfl, fun z11 s12 => ⟨_, rfl, fun z13 => da_nil (⟨rfl, ⟨_, _, fn2_eq _ _ _, rfl, fun z14 => ds_at [some (.src a0 s12), some (.val z7), some (.val z14)] (ds_ret (de_call (p__law_point T _ (by show (2 : Nat) ≤ 2; decide) _ _ _) (da_cons (de_var 1 rfl (da_cons (de_var 2 rfl (da_nil (⟨rfl, ⟨_, _, fn2_eq _ _ _, rfl, fun z15 => ⟨_, rfl, rfl⟩⟩⟩))))))))⟩⟩)⟩⟩)))))))⟩)⟩)))))))))⟩⟩)⟩⟩)))))))⟩)⟩)))))))))

theorem p_point_of (T : Txt K mg) : ∀ k : Nat, 1 ≤ k → HasP P w K mg base k "point_of" 1 (fn1 m_point_of) :=
  T.d_point_of.p (lv := 0) (N := ["lot"]) sc_point_of rfl fun ds hds => match ds, hds with
  | [v_lot], _ => by
    show DSs _ [some (.val v_lot)] _ (m_point_of v_lot) _
    unfold m_point_of
    exact ds_at [some (.val v_lot)] (ds_ret (de_tup (da_cons (de_var 0 rfl (da_cons (de_int (da_nil (⟨by show (2 : Nat) ≤ 16777216; decide, rfl⟩))))))))

theorem p_is_whole (T : Txt K mg) : ∀ k : Nat, 1 ≤ k → HasP P w K mg base k "is_whole" 1 (fn1 m_is_whole) :=
  T.d_is_whole.p (lv := 0) (N := ["value"]) sc_is_whole rfl fun ds hds => match ds, hds with
  | [v_value], _ => by
    show DSs _ [some (.val v_value)] _ (m_is_whole v_value) _
    unfold m_is_whole
    exact ds_at [some (.val v_value)] (ds_ret (de_dir (de_and (de_isa isa_int T.z_isinstance T.z_int bb_int (de_var 0 rfl (⟨_, rfl, fun z1 => ⟨_, _, rfl, de_and1 (de_notV (de_isa isa_bool T.z_isinstance T.z_bool bb_bool (de_var 0 rfl (⟨_, rfl, fun z3 => ⟨_, rfl, fun z4 => ⟨rfl, rfl⟩⟩⟩)))), ⟨rfl, rfl⟩⟩⟩)))) fun z5 => rfl))

theorem p_is_lot (T : Txt K mg) : ∀ k : Nat, 2 ≤ k → HasP P w K mg base k "is_lot" 1 (fn1 m_is_lot) :=
  T.d_is_lot.p (lv := 1) (N := ["value", "one"]) sc_is_lot rfl fun ds hds => match ds, hds with
  | [v_value], _ => by
    show DSs _ [some (.val v_value), none] _ (m_is_lot v_value) _
    unfold m_is_lot
    exact ds_at [some (.val v_value), none] (ds_ret (de_dir (de_and (de_isa isa_tuple T.z_isinstance T.z_tuple bb_tuple (de_var 0 rfl (⟨_, rfl, fun z1 => ⟨_, _, rfl, de_and (de_cmp cs_eq (de_blt bl_len T.z_len bb_len (da_cons (de_var 0 rfl (da_nil (⟨_, _, fn1_eq _ _, rfl, fun z3 => de_int (⟨_, rfl, fun z4 => ⟨_, _, rfl, de_and1 (de_blt bl_all T.z_all bb_all (da_cons (de_lcP [("one", 1)] (by kernel_rfl) (di_val (de_var 0 rfl (⟨_, rfl, fun z6 => ⟨[some (.val v_value), none], _, _, (.s (.n .z)), rfl, rfl, fun x7 => dg_name 1 (dts_nil ⟨fun _ => de_call (p_is_whole T _ (by show (1 : Nat) ≤ 1; decide) _ _ _) (da_cons (de_var 1 rfl (da_nil (⟨rfl, ⟨_, _, fn1_eq _ _, rfl, fun z8 => rfl⟩⟩)))), fun h => nomatch h⟩), fun ys9 => da_nil (⟨_, _, fn1_eq _ _, rfl, fun z10 => ⟨rfl, rfl⟩⟩)⟩⟩)))))), ⟨rfl, rfl⟩⟩⟩)⟩)))))), ⟨rfl, rfl⟩⟩⟩)))) fun z11 => rfl))

theorem p_is_point (T : Txt K mg) : ∀ k : Nat, 3 ≤ k → HasP P w K mg base k "is_point" 1 (fn1 m_is_point) :=
  T.d_is_point.p (lv := 2) (N := ["value"]) sc_is_point rfl fun ds hds => match ds, hds with
  | [v_value], _ => by
    show DSs _ [some (.val v_value)] _ (m_is_point v_value) _
    unfold m_is_point
    exact ds_at [some (.val v_value)] (ds_if (dt_dir (dt_w (dw_or (dt_not (dt_truth (de_isa isa_tuple T.z_isinstance T.z_tuple bb_tuple (de_var 0 rfl (⟨_, rfl, fun z1 => ⟨_, rfl, fun z2 => ⟨_, _, rfl, ⟨rfl, rfl⟩, dw_or (dt_cmp cs_ne (de_blt bl_len T.z_len bb_len (da_cons (de_var 0 rfl (da_nil (⟨_, _, fn1_eq _ _, rfl, fun z3 => de_int (⟨_, rfl, fun z4 => ⟨_, _, rfl, ⟨rfl, rfl⟩, dw_or (dt_not (dt_truth (de_call (p_is_lot T _ (by show (2 : Nat) ≤ 2; decide) _ _ _) (da_cons (de_ix (de_var 0 rfl (de_int (⟨_, rfl, fun z5 => da_nil (⟨rfl, ⟨_, _, fn1_eq _ _, rfl, fun z6 => ⟨_, rfl, fun z7 => ⟨_, _, rfl, ⟨rfl, rfl⟩, dw_or1 (dt_not (dt_truth (de_call (p_is_whole T _ (by show (1 : Nat) ≤ 2; decide) _ _ _) (da_cons (de_ix (de_var 0 rfl (de_int (⟨_, rfl, fun z8 => da_nil (⟨rfl, ⟨_, _, fn1_eq _ _, rfl, fun z9 => ⟨_, rfl, fun z10 => ⟨rfl, rfl⟩⟩⟩⟩)⟩))))))))⟩⟩⟩⟩)⟩))))))))⟩⟩)⟩))))))⟩⟩⟩))))))) fun t11 => ⟨_, _, rfl, ds_ret (de_bool (rfl)), ds_nil (ds_ret (de_dir (de_and (de_cmp cs_gt (de_ix (de_var 0 rfl (de_int (⟨_, rfl, fun z12 => de_int (⟨_, rfl, fun z13 => ⟨_, _, rfl, de_and1 (de_cmp cs_eq (de_call (p_point_low T _ (by show (1 : Nat) ≤ 2; decide) _ _ _) (da_cons (de_ix (de_var 0 rfl (de_int (⟨_, rfl, fun z15 => da_cons (de_ix (de_var 0 rfl (de_int (⟨_, rfl, fun z16 => da_nil (⟨rfl, ⟨_, _, fn2_eq _ _ _, rfl, fun z17 => de_var 0 rfl (⟨_, rfl, fun z18 => ⟨rfl, rfl⟩⟩)⟩⟩)⟩))))⟩))))))), ⟨rfl, rfl⟩⟩⟩)⟩)))))) fun z19 => rfl))⟩))

theorem p_points_added (T : Txt K mg) : ∀ k : Nat, 2 ≤ k → HasP P w K mg base k "points_added" 2 (fn2 m_points_added) :=
  T.d_points_added.p (lv := 1) (N := ["one", "other", "x", "y", "c", "z", "w", "d"]) sc_points_added rfl fun ds hds => match ds, hds with
  | [v_one, v_other], _ => by
    show DSs _ [some (.val v_one), some (.val v_other), none, none, none, none, none, none] _ (m_points_added v_one v_other) _
    unfold m_points_added
    exact ds_at [some (.val v_one), some (.val v_other), none, none, none, none, none, none] (ds_asg (de_var 0 rfl (dg_tup2 rfl fun p1 p2 => dgs_cons (dg_tup2 rfl fun p3 p4 => dgs_cons (dg_name 2 (dgs_cons (dg_name 3 (dgs_nil (dgs_cons (dg_name 4 (dgs_nil (ds_at [some (.val v_one), some (.val v_other), some (.val p3), some (.val p4), some (.val p2), none, none, none] (ds_asg (de_var 1 rfl (dg_tup2 rfl fun p5 p6 => dgs_cons (dg_tup2 rfl fun p7 p8 => dgs_cons (dg_name 5 (dgs_cons (dg_name 6 (dgs_nil (dgs_cons (dg_name 7 (dgs_nil (ds_at [some (.val v_one), some (.val v_other), some (.val p3), some (.val p4), some (.val p2), some (.val p7), some (.val p8), some (.val p6)] (ds_ret (de_call (p_point_low T _ (by show (1 : Nat) ≤ 1; decide) _ _ _) (da_cons (de_tup (da_cons (de_op bs_add (de_op bs_mul (de_var 2 rfl (de_var 7 rfl (⟨_, rfl, fun z9 => de_op bs_mul (de_var 5 rfl (de_var 4 rfl (⟨_, rfl, fun z10 => ⟨_, rfl, fun z11 => da_cons (de_op bs_add (de_op bs_mul (de_var 3 rfl (de_var 7 rfl (⟨_, rfl, fun z12 => de_op bs_mul (de_var 6 rfl (de_var 4 rfl (⟨_, rfl, fun z13 => ⟨_, rfl, fun z14 => da_nil (⟨by show (2 : Nat) ≤ 16777216; decide, da_cons (de_op bs_mul (de_var 4 rfl (de_var 7 rfl (⟨_, rfl, fun z15 => da_nil (⟨rfl, ⟨_, _, fn2_eq _ _ _, rfl, fun z16 => rfl⟩⟩)⟩))))⟩)⟩⟩)))⟩)))))⟩⟩)))⟩))))))))))))))))))))))))))))))))))

theorem p_points_less (T : Txt K mg) : ∀ k : Nat, 3 ≤ k → HasP P w K mg base k "points_less" 2 (fn2 m_points_less) :=
  T.d_points_less.p (lv := 2) (N := ["one", "other", "x", "y", "c"]) sc_points_less rfl fun ds hds => match ds, hds with
  | [v_one, v_other], _ => by
    show DSs _ [some (.val v_one), some (.val v_other), none, none, none] _ (m_points_less v_one v_other) _
    unfold m_points_less
    exact ds_at [some (.val v_one), some (.val v_other), none, none, none] (ds_asg (de_var 1 rfl (dg_tup2 rfl fun p1 p2 => dgs_cons (dg_tup2 rfl fun p3 p4 => dgs_cons (dg_name 2 (dgs_cons (dg_name 3 (dgs_nil (dgs_cons (dg_name 4 (dgs_nil (ds_at [some (.val v_one), some (.val v_other), some (.val p3), some (.val p4), some (.val p2)] (ds_ret (de_call (p_points_added T _ (by show (2 : Nat) ≤ 2; decide) _ _ _) (da_cons (de_var 0 rfl (da_cons (de_tup (da_cons (de_tup (da_cons (de_un us_neg (de_var 2 rfl (⟨_, rfl, fun z5 => da_cons (de_un us_neg (de_var 3 rfl (⟨_, rfl, fun z6 => da_nil (⟨by show (2 : Nat) ≤ 16777216; decide, da_cons (de_var 4 rfl (da_nil (⟨by show (2 : Nat) ≤ 16777216; decide, da_nil (⟨rfl, ⟨_, _, fn2_eq _ _ _, rfl, fun z7 => rfl⟩⟩)⟩)))⟩)⟩)))⟩))))))))))))))))))))))))

theorem p_point_parted (T : Txt K mg) : ∀ k : Nat, 1 ≤ k → HasP P w K mg base k "point_parted" 1 (fn1 m_point_parted) :=
  T.d_point_parted.p (lv := 0) (N := ["point", "x", "y", "c"]) sc_point_parted rfl fun ds hds => match ds, hds with
  | [v_point], _ => by
    show DSs _ [some (.val v_point), none, none, none] _ (m_point_parted v_point) _
    unfold m_point_parted
    exact ds_at [some (.val v_point), none, none, none] (ds_asg (de_var 0 rfl (dg_tup2 rfl fun p1 p2 => dgs_cons (dg_tup2 rfl fun p3 p4 => dgs_cons (dg_name 1 (dgs_cons (dg_name 2 (dgs_nil (dgs_cons (dg_name 3 (dgs_nil (ds_at [some (.val v_point), some (.val p3), some (.val p4), some (.val p2)] (ds_ret (de_tup (da_cons (de_tup (da_cons (de_op bs_fdiv (de_var 1 rfl (de_var 3 rfl (⟨_, rfl, fun z5 => da_cons (de_op bs_fdiv (de_var 2 rfl (de_var 3 rfl (⟨_, rfl, fun z6 => da_nil (⟨by show (2 : Nat) ≤ 16777216; decide, da_cons (de_tup (da_cons (de_tup (da_cons (de_op bs_fmod (de_var 1 rfl (de_var 3 rfl (⟨_, rfl, fun z7 => da_cons (de_op bs_fmod (de_var 2 rfl (de_var 3 rfl (⟨_, rfl, fun z8 => da_nil (⟨by show (2 : Nat) ≤ 16777216; decide, da_cons (de_var 3 rfl (da_nil (⟨by show (2 : Nat) ≤ 16777216; decide, da_nil (⟨by show (2 : Nat) ≤ 16777216; decide, rfl⟩)⟩)))⟩)⟩))))⟩))))))))⟩)⟩))))⟩)))))))))))))))))))))

theorem p_points_sorted (T : Txt K mg) : ∀ k : Nat, 1 ≤ k → HasP P w K mg base k "points_sorted" 1 (fn1 m_points_sorted) :=
  T.d_points_sorted.p (lv := 0) (N := ["points", "bottom", "found", "numbers", "c", "told"]) sc_points_sorted rfl fun ds hds => match ds, hds with
  | [v_points], _ => by
    show DSs _ [some (.val v_points), none, none, none, none, none] _ (m_points_sorted v_points) _
    unfold m_points_sorted
    exact ds_at [some (.val v_points), none, none, none, none, none] (ds_parN 1 2 (dps_val 1 (de_int (dps_own 2 (dn_lst (da_nil (⟨by show (0 : Nat) ≤ 16777216; decide, dps_nil (ds_at [some (.val v_points), some (.val (PyData.int 1)), some (.own []), none, none, none] (ds_forS (fun (st : D) => ([some (.val v_points), some (.val st), some (.own []), none, none, none] : Z.Env)) (di_val (de_var 0 rfl (⟨_, rfl, fun z1 => ⟨(PyData.int 1), _, _, (.s (.s (.s (.n (.n (.n .z)))))), rfl, fun x2 s3 => dg_tup2 rfl fun p5 p6 => dgs_cons (dg_name 3 (dgs_cons (dg_name 4 (dgs_nil (ds_at [some (.val v_points), some (.val s3), some (.own []), some (.val p5), some (.val p6), none] (ds_set 1 (de_op bs_fdiv (de_op bs_mul (de_var 1 rfl (de_var 4 rfl (⟨_, rfl, fun z7 => de_bfn bl_gcd T.m_gcd (da_cons (de_var 1 rfl (da_cons (de_var 4 rfl (da_nil (⟨_, _, fn2_eq _ _ _, rfl, fun z8 => ⟨_, rfl, fun z9 => ds_nil (⟨z9, (.s (.s (.s (.n (.n (.n .z)))))), rfl⟩)⟩⟩))))))⟩))))))))))), fun s4 => ds_at [some (.val v_points), some (.val s4), some (.own []), none, none, none] (ds_forS (fun (st : List D) => ([some (.val v_points), some (.val s4), some (.own st), none, none, none] : Z.Env)) (di_val (de_var 0 rfl (⟨_, rfl, fun z10 => ⟨[], _, _, (.s (.s (.s (.n (.n (.n .z)))))), rfl, fun x11 s12 => dg_tup2 rfl fun p14 p15 => dgs_cons (dg_name 3 (dgs_cons (dg_name 4 (dgs_nil (ds_at [some (.val v_points), some (.val s4), some (.own s12), some (.val p14), some (.val p15), none] (ds_expr (de_om F.slot_list_append F.type_list_append om_append 2 rfl (da_cons (de_tup (da_cons (de_op bs_mul (de_ix (de_var 3 rfl (de_int (⟨_, rfl, fun z16 => de_op bs_fdiv (de_var 1 rfl (de_var 4 rfl (⟨_, rfl, fun z17 => ⟨_, rfl, fun z18 => da_cons (de_op bs_mul (de_ix (de_var 3 rfl (de_int (⟨_, rfl, fun z19 => de_op bs_fdiv (de_var 1 rfl (de_var 4 rfl (⟨_, rfl, fun z20 => ⟨_, rfl, fun z21 => da_cons (de_tup (da_cons (de_var 3 rfl (da_cons (de_var 4 rfl (da_nil (⟨by show (2 : Nat) ≤ 16777216; decide, da_nil (⟨by show (3 : Nat) ≤ 16777216; decide, da_nil (⟨_, _, rfl, rfl, fun z22 y23 => ds_nil (⟨y23, (.s (.s (.s (.n (.n (.n .z)))))), rfl⟩)⟩)⟩)⟩)))))))⟩⟩)))⟩)))))⟩⟩)))⟩))))))))))))))), fun s13 => ds_at [some (.val v_points), some (.val s4), some (.own s13), none, none, none] (ds_keep 2 rfl (ds_at [some (.val v_points), some (.val s4), some (.val (PyData.list s13)), none, none, none] (ds_ret (de_lcP [("told", 5)] (by kernel_rfl) (di_val (de_blt bl_sorted T.z_sorted bb_sorted (da_cons (de_bty bl_dict T.z_dict bb_dict (da_cons (de_lcP [("told", 5)] (by kernel_rfl) (di_val (de_var 2 rfl (⟨_, rfl, fun z24 => ⟨[some (.val v_points), some (.val s4), some (.val (PyData.list s13)), none, none, none], _, _, (.s (.s (.s (.n (.n (.n .z)))))), rfl, rfl, fun x25 => dg_name 5 (dts_nil ⟨fun _ => de_tup (da_cons (de_var 5 rfl (da_cons (de_bool (da_nil (⟨by show (2 : Nat) ≤ 16777216; decide, rfl⟩)))))), fun h => nomatch h⟩), fun ys26 => da_nil (⟨_, _, fn1_eq _ _, rfl, fun z27 => da_nil (⟨_, _, fn1_eq _ _, rfl, fun z28 => ⟨_, rfl, fun z29 => ⟨[some (.val v_points), some (.val s4), some (.val (PyData.list s13)), none, none, none], _, _, (.s (.s (.s (.n (.n (.n .z)))))), rfl, rfl, fun x30 => dg_name 5 (dts_nil ⟨fun _ => de_ix (de_var 5 rfl (de_int (⟨_, rfl, fun z31 => rfl⟩))), fun h => nomatch h⟩), fun ys32 => rfl⟩⟩⟩)⟩)⟩⟩)))))))))))))⟩⟩))))⟩⟩)))))⟩)))))))

theorem p__law_is_pair (T : Txt K mg) : ∀ k : Nat, 1 ≤ k → HasP P w K mg base k "_law_is_pair" 1 (fn1 m__law_is_pair) :=
  T.d__law_is_pair.p (lv := 0) (N := ["value", "one"]) sc__law_is_pair rfl fun ds hds => match ds, hds with
  | [v_value], _ => by
    show DSs _ [some (.val v_value), none] _ (m__law_is_pair v_value) _
    unfold m__law_is_pair
    exact ds_at [some (.val v_value), none] (ds_if (dt_dir (dt_w (dw_or (dt_not (dt_truth (de_isa isa_tuple T.z_isinstance T.z_tuple bb_tuple (de_var 0 rfl (⟨_, rfl, fun z1 => ⟨_, rfl, fun z2 => ⟨_, _, rfl, ⟨rfl, rfl⟩, dw_or1 (dt_cmp cs_ne (de_blt bl_len T.z_len bb_len (da_cons (de_var 0 rfl (da_nil (⟨_, _, fn1_eq _ _, rfl, fun z3 => de_int (⟨_, rfl, fun z4 => ⟨rfl, rfl⟩⟩)⟩))))))⟩⟩⟩))))))) fun t5 => ⟨_, _, rfl, ds_ret (de_bool (rfl)), ds_nil (ds_ret (de_cmp cs_eq (de_lcP [("one", 1)] (by kernel_rfl) (di_val (de_var 0 rfl (⟨_, rfl, fun z6 => ⟨[some (.val v_value), none], _, _, (.s (.n .z)), rfl, rfl, fun x7 => dg_name 1 (dts_one (dt_dir (dt_w (dw_or (dt_not (dt_truth (de_isa isa_int T.z_isinstance T.z_int bb_int (de_var 1 rfl (⟨_, rfl, fun z8 => ⟨_, rfl, fun z9 => ⟨_, _, rfl, ⟨rfl, rfl⟩, dw_or1 (dt_truth (de_isa isa_bool T.z_isinstance T.z_bool bb_bool (de_var 1 rfl (⟨_, rfl, fun z10 => ⟨_, rfl, fun z11 => ⟨rfl, rfl⟩⟩⟩))))⟩⟩⟩))))))) fun t12 => lsplitP rfl (de_var 1 rfl (rfl)) rfl)), fun ys13 => de_lst (da_nil (⟨by show (0 : Nat) ≤ 16777216; decide, ⟨_, rfl, fun z14 => rfl⟩⟩))⟩⟩))))))⟩))

theorem p__law_is_point (T : Txt K mg) : ∀ k : Nat, 2 ≤ k → HasP P w K mg base k "_law_is_point" 1 (fn1 m__law_is_point) :=
  T.d__law_is_point.p (lv := 1) (N := ["value", "c"]) sc__law_is_point rfl fun ds hds => match ds, hds with
  | [v_value], _ => by
    show DSs _ [some (.val v_value), none] _ (m__law_is_point v_value) _
    unfold m__law_is_point
    exact ds_at [some (.val v_value), none] (ds_if (dt_dir (dt_w (dw_or (dt_not (dt_truth (de_isa isa_tuple T.z_isinstance T.z_tuple bb_tuple (de_var 0 rfl (⟨_, rfl, fun z1 => ⟨_, rfl, fun z2 => ⟨_, _, rfl, ⟨rfl, rfl⟩, dw_or (dt_cmp cs_ne (de_blt bl_len T.z_len bb_len (da_cons (de_var 0 rfl (da_nil (⟨_, _, fn1_eq _ _, rfl, fun z3 => de_int (⟨_, rfl, fun z4 => ⟨_, _, rfl, ⟨rfl, rfl⟩, dw_or (dt_not (dt_truth (de_call (p__law_is_pair T _ (by show (1 : Nat) ≤ 1; decide) _ _ _) (da_cons (de_ix (de_var 0 rfl (de_int (⟨_, rfl, fun z5 => da_nil (⟨rfl, ⟨_, _, fn1_eq _ _, rfl, fun z6 => ⟨_, rfl, fun z7 => ⟨_, _, rfl, ⟨rfl, rfl⟩, dw_or1 (dt_not (dt_truth (de_call (p__law_is_pair T _ (by show (1 : Nat) ≤ 1; decide) _ _ _) (da_cons (de_tup (da_cons (de_ix (de_var 0 rfl (de_int (⟨_, rfl, fun z8 => da_cons (de_int (da_nil (⟨by show (2 : Nat) ≤ 16777216; decide, da_nil (⟨rfl, ⟨_, _, fn1_eq _ _, rfl, fun z9 => ⟨_, rfl, fun z10 => ⟨rfl, rfl⟩⟩⟩⟩)⟩)))⟩))))))))))⟩⟩⟩⟩)⟩))))))))⟩⟩)⟩))))))⟩⟩⟩))))))) fun t11 => ⟨_, _, rfl, ds_ret (de_bool (rfl)), ds_nil (ds_set 1 (de_ix (de_var 0 rfl (de_int (⟨_, rfl, fun z12 => ds_at [some (.val v_value), some (.val z12)] (ds_ret (de_dir (de_and (de_cmp cs_gt (de_var 1 rfl (de_int (⟨_, rfl, fun z13 => ⟨_, _, rfl, de_and1 (de_cmp cs_eq (de_call (p__law_part T _ (by show (1 : Nat) ≤ 1; decide) _ _ _) (da_cons (de_call (p__law_part T _ (by show (1 : Nat) ≤ 1; decide) _ _ _) (da_cons (de_blt bl_abs T.z_abs bb_abs (da_cons (de_ix (de_ix (de_var 0 rfl (de_int (⟨_, rfl, fun z15 => de_int (⟨_, rfl, fun z16 => da_nil (⟨_, _, fn1_eq _ _, rfl, fun z17 => da_cons (de_var 1 rfl (da_nil (⟨rfl, ⟨_, _, fn2_eq _ _ _, rfl, fun z18 => da_cons (de_blt bl_abs T.z_abs bb_abs (da_cons (de_ix (de_ix (de_var 0 rfl (de_int (⟨_, rfl, fun z19 => de_int (⟨_, rfl, fun z20 => da_nil (⟨_, _, fn1_eq _ _, rfl, fun z21 => da_nil (⟨rfl, ⟨_, _, fn2_eq _ _ _, rfl, fun z22 => de_int (⟨_, rfl, fun z23 => ⟨rfl, rfl⟩⟩)⟩⟩)⟩)⟩)⟩)))))))⟩⟩)))⟩)⟩)⟩)))))))))))), ⟨rfl, rfl⟩⟩⟩))))) fun z24 => rfl))⟩)))))⟩))

theorem p__law_values (T : Txt K mg) : ∀ k : Nat, 1 ≤ k → HasS P w K mg base k "_law_values" 1 (sn1 m__law_values) :=
  T.d__law_values.s (lv := 0) (N := ["source", "point", "x", "y", "c", "some"]) sc__law_values rfl fun a0 s0 ds hds => match ds, hds with
  | [v_point], _ => by
    show DSs _ [some (.src a0 s0), some (.val v_point), none, none, none, none] _ (m__law_values s0 v_point) _
    unfold m__law_values
    exact ds_at [some (.src a0 s0), some (.val v_point), none, none, none, none] (ds_asg (de_var 1 rfl (dg_tup2 rfl fun p1 p2 => dgs_cons (dg_tup2 rfl fun p3 p4 => dgs_cons (dg_name 2 (dgs_cons (dg_name 3 (dgs_nil (dgs_cons (dg_name 4 (dgs_nil (ds_at [some (.src a0 s0), some (.val v_point), some (.val p3), some (.val p4), some (.val p2), none] (ds_set 5 (de_lst (da_cons (de_var 1 rfl (da_cons (de_tup (da_cons (de_tup (da_cons (de_op bs_mul (de_int (de_var 2 rfl (⟨_, rfl, fun z5 => da_cons (de_op bs_mul (de_int (de_var 3 rfl (⟨_, rfl, fun z6 => da_nil (⟨by show (2 : Nat) ≤ 16777216; decide, da_cons (de_op bs_mul (de_int (de_var 4 rfl (⟨_, rfl, fun z7 => da_nil (⟨by show (2 : Nat) ≤ 16777216; decide, da_cons (de_tup (da_cons (de_tup (da_cons (de_var 2 rfl (da_cons (de_var 3 rfl (da_nil (⟨by show (2 : Nat) ≤ 16777216; decide, da_cons (de_op bs_sub (de_int (de_var 4 rfl (⟨_, rfl, fun z8 => da_nil (⟨by show (2 : Nat) ≤ 16777216; decide, da_cons (de_tup (da_cons (de_tup (da_cons (de_var 2 rfl (da_cons (de_var 3 rfl (da_nil (⟨by show (2 : Nat) ≤ 16777216; decide, da_cons (de_int (da_nil (⟨by show (2 : Nat) ≤ 16777216; decide, da_cons (de_lst (da_cons (de_var 2 rfl (da_cons (de_var 3 rfl (da_nil (⟨by show (2 : Nat) ≤ 16777216; decide, da_cons (de_tup (da_cons (de_tup (da_cons (de_var 2 rfl (da_nil (⟨by show (1 : Nat) ≤ 16777216; decide, da_cons (de_var 4 rfl (da_nil (⟨by show (2 : Nat) ≤ 16777216; decide, da_cons (de_tup (da_cons (de_tup (da_cons (de_var 2 rfl (da_cons (de_var 3 rfl (da_nil (⟨by show (2 : Nat) ≤ 16777216; decide, da_cons (de_bool (da_nil (⟨by show (2 : Nat) ≤ 16777216; decide, da_cons (de_none (da_nil (⟨by show (8 : Nat) ≤ 16777216; decide, ds_at [some (.src a0 s0), some (.val v_point), some (.val p3), some (.val p4), some (.val p2), some (.val (PyData.list [v_point, (PyData.tuple [(PyData.tuple [z5, z6]), z7]), (PyData.tuple [(PyData.tuple [p3, p4]), z8]), (PyData.tuple [(PyData.tuple [p3, p4]), (PyData.int 0)]), (PyData.list [p3, p4]), (PyData.tuple [(PyData.tuple [p3]), p2]), (PyData.tuple [(PyData.tuple [p3, p4]), (PyData.bool true)]), PyData.none]))] (ds_set 5 (de_op bs_add (de_var 5 rfl (de_lst (da_cons (de_tup (da_cons (de_tup (da_cons (de_var 2 rfl (da_cons (de_var 3 rfl (da_cons (de_int (da_nil (⟨by show (3 : Nat) ≤ 16777216; decide, da_cons (de_var 4 rfl (da_nil (⟨by show (2 : Nat) ≤ 16777216; decide, da_cons (de_tup (da_cons (de_tup (da_cons (de_bool (da_cons (de_var 3 rfl (da_nil (⟨by show (2 : Nat) ≤ 16777216; decide, da_cons (de_var 4 rfl (da_nil (⟨by show (2 : Nat) ≤ 16777216; decide, da_cons (de_tup (da_cons (de_tup (da_cons (de_int (da_cons (de_int (da_nil (⟨by show (2 : Nat) ≤ 16777216; decide, da_cons (de_int (da_nil (⟨by show (2 : Nat) ≤ 16777216; decide, da_cons (de_tup (da_cons (de_tup (da_cons (de_int (da_cons (de_int (da_nil (⟨by show (2 : Nat) ≤ 16777216; decide, da_cons (de_int (da_nil (⟨by show (2 : Nat) ≤ 16777216; decide, da_cons (de_tup (da_cons (de_var 1 rfl (da_cons (de_int (da_nil (⟨by show (2 : Nat) ≤ 16777216; decide, da_cons (de_tup (da_cons (de_tup (da_cons (de_var 2 rfl (da_cons (de_var 3 rfl (da_nil (⟨by show (2 : Nat) ≤ 16777216; decide, da_cons (de_var 4 rfl (da_cons (de_int (da_nil (⟨by show (3 : Nat) ≤ 16777216; decide, da_nil (⟨by show (6 : Nat) ≤ 16777216; decide, ⟨_, rfl, fun z9 => ds_at [some (.src a0 s0), some (.val v_point), some (.val p3), some (.val p4), some (.val p2), some (.val z9)] (ds_ret (de_op bs_add (de_var 5 rfl (de_lst (da_cons (de_tup (da_cons (de_tup (da_cons (de_var 2 rfl (da_cons (de_var 3 rfl (da_nil (⟨by show (2 : Nat) ≤ 16777216; decide, da_cons (de_int (da_nil (⟨by show (2 : Nat) ≤ 16777216; decide, da_cons (de_tup (da_cons (de_var 2 rfl (da_cons (de_var 3 rfl (da_nil (⟨by show (2 : Nat) ≤ 16777216; decide, da_nil (⟨by show (2 : Nat) ≤ 16777216; decide, ⟨_, rfl, fun z10 => ⟨_, rfl, rfl⟩⟩⟩)⟩)))))))⟩)))⟩))))))))))))))⟩⟩)⟩)))))⟩)))))))))⟩)))))))⟩)))⟩)))))))))⟩)))⟩)))))))))⟩)))⟩)))))))))⟩)))⟩))))))))))))))))⟩)))⟩)))⟩)))))))))⟩)))⟩)))))))⟩)))))))⟩)))⟩)))))))))⟩)⟩))))⟩)))))))))⟩)⟩))))⟩)⟩))))⟩)))))))))))))))))))))))))

theorem p__law_points_right (T : Txt K mg) : ∀ k : Nat, 4 ≤ k → HasS P w K mg base k "_law_points_right" 0 (sn0 m__law_points_right) :=
  T.d__law_points_right.s (lv := 3) (N := ["source", "points", "one", "other", "first", "second", "minus", "due", "lot", "rest", "parts", "k", "told", "line", "pairs", "here", "late", "signs", "value", "turn", "a", "b", "fraction", "whole", "point"]) sc__law_points_right rfl fun a0 s0 ds hds => match ds, hds with
  | [], _ => by
    show DSs _ [some (.src a0 s0), none, none, none, none, none, none, none, none, none, none, none, none, none, none, none, none, none, none, none, none, none, none, none, none] _ (m__law_points_right s0) _
    unfold m__law_points_right
    exact ds_at [some (.src a0 s0), none, none, none, none, none, none, none, none, none, none, none, none, none, none, none, none, none, none, none, none, none, none, none, none] (ds_setLcT (fun (st : Src) => ([some (.src a0 st), none, none, none, none, none, none, none, none, none, none, none, none, none, none, none, none, none, none, none, none, none, none, none, none] : Z.Env)) 1 [("turn", 19)] (by kernel_rfl) (di_range1 T.z_range (de_int (⟨_, rfl, fun z1 => ⟨s0, _, _, (.s (.n (.n (.n (.n (.n (.n (.n (.n (.n (.n (.n (.n (.n (.n (.n (.n (.n (.n (.n (.n (.n (.n (.n (.n .z))))))))))))))))))))))))), rfl, fun x2 s3 => dg_name 19 (dts_nil ⟨fun _ => de_callS 0 (p__law_drawn_point T _ (by show (3 : Nat) ≤ 3; decide) _ _ _) rfl (da_nil (⟨rfl, _, _, _, rfl, sn0_eq _ _, rfl, fun z4 s5 => ⟨s5, (.s (.n (.n (.n (.n (.n (.n (.n (.n (.n (.n (.n (.n (.n (.n (.n (.n (.n (.n (.n (.n (.n (.n (.n (.n .z))))))))))))))))))))))))), rfl⟩⟩)), fun h => nomatch h⟩), fun ys6 s7 => ds_at [some (.src a0 s7), some (.val (PyData.list ys6)), none, none, none, none, none, none, none, none, none, none, none, none, none, none, none, none, none, none, none, none, none, none, none] (ds_asg (de_slice (de_var 1 rfl (de_int (.inl ⟨_, rfl, ⟨_, rfl, fun z8 => dg_tup2 rfl fun p9 p10 => dgs_cons (dg_name 2 (dgs_cons (dg_name 3 (dgs_nil (ds_at [some (.src a0 s7), some (.val (PyData.list ys6)), some (.val p9), some (.val p10), none, none, none, none, none, none, none, none, none, none, none, none, none, none, none, none, none, none, none, none, none] (ds_par 4 5 (de_call (p__law_fractions T _ (by show (2 : Nat) ≤ 3; decide) _ _ _) (da_cons (de_var 2 rfl (da_nil (⟨rfl, ⟨_, _, fn1_eq _ _, rfl, fun z11 => de_call (p__law_fractions T _ (by show (2 : Nat) ≤ 3; decide) _ _ _) (da_cons (de_var 3 rfl (da_nil (⟨rfl, ⟨_, _, fn1_eq _ _, rfl, fun z12 => ds_at [some (.src a0 s7), some (.val (PyData.list ys6)), some (.val p9), some (.val p10), some (.val z11), some (.val z12), none, none, none, none, none, none, none, none, none, none, none, none, none, none, none, none, none, none, none] (ds_setLcP 6 [("a", 20), ("b", 21)] (by kernel_rfl) (di_val (de_var 5 rfl (⟨_, rfl, fun z13 => ⟨[none, some (.val (PyData.list ys6)), some (.val p9), some (.val p10), some (.val z11), some (.val z12), none, none, none, none, none, none, none, none, none, none, none, none, none, none, none, none, none, none, none], _, _, (.n (.s (.s (.s (.s (.s (.n (.n (.n (.n (.n (.n (.n (.n (.n (.n (.n (.n (.n (.n (.n (.n (.n (.n (.n .z))))))))))))))))))))))))), rfl, rfl, fun x14 => dg_tup2 rfl fun p15 p16 => dgs_cons (dg_name 20 (dgs_cons (dg_name 21 (dgs_nil (dts_nil ⟨fun _ => de_tup (da_cons (de_op bs_sub (de_int (de_var 20 rfl (⟨_, rfl, fun z17 => da_cons (de_var 21 rfl (da_nil (⟨by show (2 : Nat) ≤ 16777216; decide, rfl⟩)))⟩))))), fun h => nomatch h⟩))))), fun ys18 => ds_at [some (.src a0 s7), some (.val (PyData.list ys6)), some (.val p9), some (.val p10), some (.val z11), some (.val z12), some (.val (PyData.list ys18)), none, none, none, none, none, none, none, none, none, none, none, none, none, none, none, none, none, none] (ds_own 7 (dn_lst (da_cons (de_call (p__law_point T _ (by show (2 : Nat) ≤ 3; decide) _ _ _) (da_cons (de_call (p__law_plus T _ (by show (2 : Nat) ≤ 3; decide) _ _ _) (da_cons (de_ix (de_var 4 rfl (de_int (⟨_, rfl, fun z19 => da_cons (de_ix (de_var 5 rfl (de_int (⟨_, rfl, fun z20 => da_nil (⟨rfl, ⟨_, _, fn2_eq _ _ _, rfl, fun z21 => da_cons (de_call (p__law_plus T _ (by show (2 : Nat) ≤ 3; decide) _ _ _) (da_cons (de_ix (de_var 4 rfl (de_int (⟨_, rfl, fun z22 => da_cons (de_ix (de_var 5 rfl (de_int (⟨_, rfl, fun z23 => da_nil (⟨rfl, ⟨_, _, fn2_eq _ _ _, rfl, fun z24 => da_nil (⟨rfl, ⟨_, _, fn2_eq _ _ _, rfl, fun z25 => da_nil (⟨by show (1 : Nat) ≤ 16777216; decide, ds_at [some (.src a0 s7), some (.val (PyData.list ys6)), some (.val p9), some (.val p10), some (.val z11), some (.val z12), some (.val (PyData.list ys18)), some (.own [z25]), none, none, none, none, none, none, none, none, none, none, none, none, none, none, none, none, none] (ds_expr (de_om F.slot_list_append F.type_list_append om_append 7 rfl (da_cons (de_call (p__law_point T _ (by show (2 : Nat) ≤ 3; decide) _ _ _) (da_cons (de_call (p__law_plus T _ (by show (2 : Nat) ≤ 3; decide) _ _ _) (da_cons (de_ix (de_var 4 rfl (de_int (⟨_, rfl, fun z26 => da_cons (de_ix (de_var 6 rfl (de_int (⟨_, rfl, fun z27 => da_nil (⟨rfl, ⟨_, _, fn2_eq _ _ _, rfl, fun z28 => da_cons (de_call (p__law_plus T _ (by show (2 : Nat) ≤ 3; decide) _ _ _) (da_cons (de_ix (de_var 4 rfl (de_int (⟨_, rfl, fun z29 => da_cons (de_ix (de_var 6 rfl (de_int (⟨_, rfl, fun z30 => da_nil (⟨rfl, ⟨_, _, fn2_eq _ _ _, rfl, fun z31 => da_nil (⟨rfl, ⟨_, _, fn2_eq _ _ _, rfl, fun z32 => da_nil (⟨_, _, rfl, rfl, fun z33 y34 => ds_at [some (.src a0 s7), some (.val (PyData.list ys6)), some (.val p9), some (.val p10), some (.val z11), some (.val z12), some (.val (PyData.list ys18)), some (.own y34), none, none, none, none, none, none, none, none, none, none, none, none, none, none, none, none, none] (ds_keep 7 rfl (ds_at [some (.src a0 s7), some (.val (PyData.list ys6)), some (.val p9), some (.val p10), some (.val z11), some (.val z12), some (.val (PyData.list ys18)), some (.val (PyData.list y34)), none, none, none, none, none, none, none, none, none, none, none, none, none, none, none, none, none] (ds_if (dt_cmp cs_ne (de_blt bl_repr T.z_repr bb_repr (da_cons (de_lst (da_cons (de_call (p_points_added T _ (by show (2 : Nat) ≤ 3; decide) _ _ _) (da_cons (de_var 2 rfl (da_cons (de_var 3 rfl (da_nil (⟨rfl, ⟨_, _, fn2_eq _ _ _, rfl, fun z35 => da_cons (de_call (p_points_less T _ (by show (3 : Nat) ≤ 3; decide) _ _ _) (da_cons (de_var 2 rfl (da_cons (de_var 3 rfl (da_nil (⟨rfl, ⟨_, _, fn2_eq _ _ _, rfl, fun z36 => da_nil (⟨by show (2 : Nat) ≤ 16777216; decide, da_nil (⟨_, _, fn1_eq _ _, rfl, fun z37 => de_blt bl_repr T.z_repr bb_repr (da_cons (de_var 7 rfl (da_nil (⟨_, _, fn1_eq _ _, rfl, fun z38 => ⟨_, rfl, fun z39 => ⟨_, _, rfl, ds_ret (de_bool (⟨_, rfl, rfl⟩)), ds_nil (ds_asg (de_call (p_point_parted T _ (by show (1 : Nat) ≤ 3; decide) _ _ _) (da_cons (de_var 2 rfl (da_nil (⟨rfl, ⟨_, _, fn1_eq _ _, rfl, fun z40 => dg_tup2 rfl fun p41 p42 => dgs_cons (dg_name 8 (dgs_cons (dg_name 9 (dgs_nil (ds_at [some (.src a0 s7), some (.val (PyData.list ys6)), some (.val p9), some (.val p10), some (.val z11), some (.val z12), some (.val (PyData.list ys18)), some (.val (PyData.list y34)), some (.val p41), some (.val p42), none, none, none, none, none, none, none, none, none, none, none, none, none, none, none] (ds_setLcP 10 [("fraction", 22), ("whole", 23)] (by kernel_rfl) (di_zip T.z_zip (de_var 4 rfl (de_var 8 rfl (⟨_, rfl, fun z43 => ⟨[none, some (.val (PyData.list ys6)), some (.val p9), some (.val p10), some (.val z11), some (.val z12), some (.val (PyData.list ys18)), some (.val (PyData.list y34)), some (.val p41), some (.val p42), none, none, none, none, none, none, none, none, none, none, none, none, none, none, none], _, _, (.n (.s (.s (.s (.s (.s (.s (.s (.s (.s (.n (.n (.n (.n (.n (.n (.n (.n (.n (.n (.n (.n (.n (.n (.n .z))))))))))))))))))))))))), rfl, rfl, fun x44 => dg_tup2 rfl fun p45 p46 => dgs_cons (dg_name 22 (dgs_cons (dg_name 23 (dgs_nil (dts_nil ⟨fun _ => de_call (p__law_plus T _ (by show (2 : Nat) ≤ 3; decide) _ _ _) (da_cons (de_var 22 rfl (da_cons (de_tup (da_cons (de_op bs_sub (de_int (de_var 23 rfl (⟨_, rfl, fun z47 => da_cons (de_int (da_nil (⟨by show (2 : Nat) ≤ 16777216; decide, da_nil (⟨rfl, ⟨_, _, fn2_eq _ _ _, rfl, fun z48 => rfl⟩⟩)⟩)))⟩))))))))), fun h => nomatch h⟩))))), fun ys49 => ds_at [some (.src a0 s7), some (.val (PyData.list ys6)), some (.val p9), some (.val p10), some (.val z11), some (.val z12), some (.val (PyData.list ys18)), some (.val (PyData.list y34)), some (.val p41), some (.val p42), some (.val (PyData.list ys49)), none, none, none, none, none, none, none, none, none, none, none, none, none, none] (ds_if (dt_dir (dt_w (dw_or (dt_cmp cs_ne (de_lcP [("a", 20), ("b", 21)] (by kernel_rfl) (di_val (de_var 10 rfl (⟨_, rfl, fun z50 => ⟨[none, some (.val (PyData.list ys6)), some (.val p9), some (.val p10), some (.val z11), some (.val z12), some (.val (PyData.list ys18)), some (.val (PyData.list y34)), some (.val p41), some (.val p42), some (.val (PyData.list ys49)), none, none, none, none, none, none, none, none, none, none, none, none, none, none], _, _, (.n (.s (.s (.s (.s (.s (.s (.s (.s (.s (.s (.n (.n (.n (.n (.n (.n (.n (.n (.n (.n (.n (.n (.n (.n .z))))))))))))))))))))))))), rfl, rfl, fun x51 => dg_tup2 rfl fun p52 p53 => dgs_cons (dg_name 20 (dgs_cons (dg_name 21 (dgs_nil (dts_one (dt_not (dt_dir (dt_chain cs_le cs_lt (de_int (de_var 20 rfl (⟨_, _, rfl, de_var 21 rfl (⟨_, rfl, fun z54 => ⟨rfl, rfl⟩⟩), ⟨rfl, rfl⟩⟩)))) fun t56 => lsplitP rfl (de_int (rfl)) rfl))))))), fun ys57 => de_lst (da_nil (⟨by show (0 : Nat) ≤ 16777216; decide, ⟨_, rfl, fun z58 => ⟨_, _, rfl, ⟨rfl, rfl⟩, dw_or1 (dt_cmp cs_ne (de_blt bl_repr T.z_repr bb_repr (da_cons (de_var 9 rfl (da_nil (⟨_, _, fn1_eq _ _, rfl, fun z59 => de_blt bl_repr T.z_repr bb_repr (da_cons (de_call (p__law_point T _ (by show (2 : Nat) ≤ 3; decide) _ _ _) (da_cons (de_ix (de_var 10 rfl (de_int (⟨_, rfl, fun z60 => da_cons (de_ix (de_var 10 rfl (de_int (⟨_, rfl, fun z61 => da_nil (⟨rfl, ⟨_, _, fn2_eq _ _ _, rfl, fun z62 => da_nil (⟨_, _, fn1_eq _ _, rfl, fun z63 => ⟨_, rfl, fun z64 => ⟨rfl, rfl⟩⟩⟩)⟩⟩)⟩))))⟩)))))))⟩))))))⟩⟩⟩))⟩⟩))))))) fun t65 => ⟨_, _, rfl, ds_ret (de_bool (⟨_, rfl, rfl⟩)), ds_nil (ds_set 11 (de_callS 0 (p__law_of T _ (by show (2 : Nat) ≤ 3; decide) _ _ _) rfl (da_cons (de_lst (da_cons (de_int (da_cons (de_int (da_cons (de_int (da_cons (de_negc (da_cons (de_negc (da_nil (⟨by show (5 : Nat) ≤ 16777216; decide, da_nil (⟨rfl, _, _, _, rfl, sn1_eq _ _ _, rfl, fun z66 s67 => ds_at [some (.src a0 s67), some (.val (PyData.list ys6)), some (.val p9), some (.val p10), some (.val z11), some (.val z12), some (.val (PyData.list ys18)), some (.val (PyData.list y34)), some (.val p41), some (.val p42), some (.val (PyData.list ys49)), some (.val z66), none, none, none, none, none, none, none, none, none, none, none, none, none] (ds_set 12 (de_call (p_point_low T _ (by show (1 : Nat) ≤ 3; decide) _ _ _) (da_cons (de_tup (da_cons (de_op bs_mul (de_ix (de_ix (de_var 2 rfl (de_int (⟨_, rfl, fun z68 => de_int (⟨_, rfl, fun z69 => de_var 11 rfl (⟨_, rfl, fun z70 => da_cons (de_op bs_mul (de_ix (de_ix (de_var 2 rfl (de_int (⟨_, rfl, fun z71 => de_int (⟨_, rfl, fun z72 => de_var 11 rfl (⟨_, rfl, fun z73 => da_nil (⟨by show (2 : Nat) ≤ 16777216; decide, da_cons (de_op bs_mul (de_ix (de_var 2 rfl (de_int (⟨_, rfl, fun z74 => de_var 11 rfl (⟨_, rfl, fun z75 => da_nil (⟨rfl, ⟨_, _, fn2_eq _ _ _, rfl, fun z76 => ds_at [some (.src a0 s67), some (.val (PyData.list ys6)), some (.val p9), some (.val p10), some (.val z11), some (.val z12), some (.val (PyData.list ys18)), some (.val (PyData.list y34)), some (.val p41), some (.val p42), some (.val (PyData.list ys49)), some (.val z66), some (.val z76), none, none, none, none, none, none, none, none, none, none, none, none] (ds_if (dt_dir (dt_w (dw_or (dt_cmp cs_ne (de_blt bl_repr T.z_repr bb_repr (da_cons (de_var 12 rfl (da_nil (⟨_, _, fn1_eq _ _, rfl, fun z77 => de_blt bl_repr T.z_repr bb_repr (da_cons (de_var 2 rfl (da_nil (⟨_, _, fn1_eq _ _, rfl, fun z78 => ⟨_, rfl, fun z79 => ⟨_, _, rfl, ⟨rfl, rfl⟩, dw_or1 (dt_cmp cs_ne (de_blt bl_repr T.z_repr bb_repr (da_cons (de_call (p_point_of T _ (by show (1 : Nat) ≤ 3; decide) _ _ _) (da_cons (de_tup (da_cons (de_var 11 rfl (da_cons (de_int (da_nil (⟨by show (2 : Nat) ≤ 16777216; decide, da_nil (⟨rfl, ⟨_, _, fn1_eq _ _, rfl, fun z80 => da_nil (⟨_, _, fn1_eq _ _, rfl, fun z81 => de_blt bl_repr T.z_repr bb_repr (da_cons (de_tup (da_cons (de_tup (da_cons (de_var 11 rfl (da_cons (de_int (da_nil (⟨by show (2 : Nat) ≤ 16777216; decide, da_cons (de_int (da_nil (⟨by show (2 : Nat) ≤ 16777216; decide, da_nil (⟨_, _, fn1_eq _ _, rfl, fun z82 => ⟨_, rfl, fun z83 => ⟨rfl, rfl⟩⟩⟩)⟩)))⟩))))))))))⟩)⟩⟩)⟩))))))))))))⟩⟩⟩))))⟩)))))))) fun t84 => ⟨_, _, rfl, ds_ret (de_bool (⟨_, rfl, rfl⟩)), ds_nil (ds_set 13 (de_call (p_points_sorted T _ (by show (1 : Nat) ≤ 3; decide) _ _ _) (da_cons (de_op bs_add (de_var 1 rfl (de_slice (de_var 1 rfl (de_int (.inl ⟨_, rfl, ⟨_, rfl, fun z85 => ⟨_, rfl, fun z86 => da_nil (⟨rfl, ⟨_, _, fn1_eq _ _, rfl, fun z87 => ds_at [some (.src a0 s67), some (.val (PyData.list ys6)), some (.val p9), some (.val p10), some (.val z11), some (.val z12), some (.val (PyData.list ys18)), some (.val (PyData.list y34)), some (.val p41), some (.val p42), some (.val (PyData.list ys49)), some (.val z66), some (.val z76), some (.val z87), none, none, none, none, none, none, none, none, none, none, none] (ds_if (dt_cmp cs_ne (de_blt bl_sorted T.z_sorted bb_sorted (da_cons (de_var 13 rfl (da_nil (⟨_, _, fn1_eq _ _, rfl, fun z88 => de_blt bl_sorted T.z_sorted bb_sorted (da_cons (de_bty bl_dict T.z_dict bb_dict (da_cons (de_lcP [("point", 24)] (by kernel_rfl) (di_val (de_var 1 rfl (⟨_, rfl, fun z89 => ⟨[none, some (.val (PyData.list ys6)), some (.val p9), some (.val p10), some (.val z11), some (.val z12), some (.val (PyData.list ys18)), some (.val (PyData.list y34)), some (.val p41), some (.val p42), some (.val (PyData.list ys49)), some (.val z66), some (.val z76), some (.val z87), none, none, none, none, none, none, none, none, none, none, none], _, _, (.n (.s (.s (.s (.s (.s (.s (.s (.s (.s (.s (.s (.s (.s (.n (.n (.n (.n (.n (.n (.n (.n (.n (.n (.n .z))))))))))))))))))))))))), rfl, rfl, fun x90 => dg_name 24 (dts_nil ⟨fun _ => de_tup (da_cons (de_var 24 rfl (da_cons (de_int (da_nil (⟨by show (2 : Nat) ≤ 16777216; decide, rfl⟩)))))), fun h => nomatch h⟩), fun ys91 => da_nil (⟨_, _, fn1_eq _ _, rfl, fun z92 => da_nil (⟨_, _, fn1_eq _ _, rfl, fun z93 => ⟨_, rfl, fun z94 => ⟨_, _, rfl, ds_ret (de_bool (⟨_, rfl, rfl⟩)), ds_nil (ds_setLcP 14 [("point", 24)] (by kernel_rfl) (di_val (de_var 13 rfl (⟨_, rfl, fun z95 => ⟨[none, some (.val (PyData.list ys6)), some (.val p9), some (.val p10), some (.val z11), some (.val z12), some (.val (PyData.list ys18)), some (.val (PyData.list y34)), some (.val p41), some (.val p42), some (.val (PyData.list ys49)), some (.val z66), some (.val z76), some (.val z87), none, none, none, none, none, none, none, none, none, none, none], _, _, (.n (.s (.s (.s (.s (.s (.s (.s (.s (.s (.s (.s (.s (.s (.n (.n (.n (.n (.n (.n (.n (.n (.n (.n (.n .z))))))))))))))))))))))))), rfl, rfl, fun x96 => dg_name 24 (dts_nil ⟨fun _ => de_call (p__law_fractions T _ (by show (2 : Nat) ≤ 3; decide) _ _ _) (da_cons (de_var 24 rfl (da_nil (⟨rfl, ⟨_, _, fn1_eq _ _, rfl, fun z97 => rfl⟩⟩)))), fun h => nomatch h⟩), fun ys98 => ds_at [some (.src a0 s67), some (.val (PyData.list ys6)), some (.val p9), some (.val p10), some (.val z11), some (.val z12), some (.val (PyData.list ys18)), some (.val (PyData.list y34)), some (.val p41), some (.val p42), some (.val (PyData.list ys49)), some (.val z66), some (.val z76), some (.val z87), some (.val (PyData.list ys98)), none, none, none, none, none, none, none, none, none, none] (ds_forT (fun (st : Unit) => ([some (.src a0 s67), some (.val (PyData.list ys6)), some (.val p9), some (.val p10), some (.val z11), some (.val z12), some (.val (PyData.list ys18)), some (.val (PyData.list y34)), some (.val p41), some (.val p42), some (.val (PyData.list ys49)), some (.val z66), some (.val z76), some (.val z87), some (.val (PyData.list ys98)), none, none, none, none, none, none, none, none, none, none] : Z.Env)) (di_zip T.z_zip (de_var 14 rfl (de_slice (de_var 14 rfl (de_int (.inl ⟨_, rfl, ⟨_, rfl, fun z99 => ⟨_, rfl, fun z100 => ⟨(), _, _, (.s (.s (.s (.s (.s (.s (.s (.s (.s (.s (.s (.s (.s (.s (.s (.n (.n (.n (.n (.n (.n (.n (.n (.n (.n .z))))))))))))))))))))))))), rfl, fun x101 s102 => dg_tup2 rfl fun p104 p105 => dgs_cons (dg_name 15 (dgs_cons (dg_name 16 (dgs_nil (ds_at [some (.src a0 s67), some (.val (PyData.list ys6)), some (.val p9), some (.val p10), some (.val z11), some (.val z12), some (.val (PyData.list ys18)), some (.val (PyData.list y34)), some (.val p41), some (.val p42), some (.val (PyData.list ys49)), some (.val z66), some (.val z76), some (.val z87), some (.val (PyData.list ys98)), some (.val p104), some (.val p105), none, none, none, none, none, none, none, none] (ds_setLcP 17 [("a", 20), ("b", 21)] (by kernel_rfl) (di_zip T.z_zip (de_var 15 rfl (de_var 16 rfl (⟨_, rfl, fun z106 => ⟨[none, some (.val (PyData.list ys6)), some (.val p9), some (.val p10), some (.val z11), some (.val z12), some (.val (PyData.list ys18)), some (.val (PyData.list y34)), some (.val p41), some (.val p42), some (.val (PyData.list ys49)), some (.val z66), some (.val z76), some (.val z87), some (.val (PyData.list ys98)), some (.val p104), some (.val p105), none, none, none, none, none, none, none, none], _, _, (.n (.s (.s (.s (.s (.s (.s (.s (.s (.s (.s (.s (.s (.s (.s (.s (.s (.n (.n (.n (.n (.n (.n (.n (.n .z))))))))))))))))))))))))), rfl, rfl, fun x107 => dg_tup2 rfl fun p108 p109 => dgs_cons (dg_name 20 (dgs_cons (dg_name 21 (dgs_nil (dts_nil ⟨fun _ => de_op bs_sub (de_op bs_mul (de_ix (de_var 20 rfl (de_int (⟨_, rfl, fun z110 => de_ix (de_var 21 rfl (de_int (⟨_, rfl, fun z111 => ⟨_, rfl, fun z112 => de_op bs_mul (de_ix (de_var 21 rfl (de_int (⟨_, rfl, fun z113 => de_ix (de_var 20 rfl (de_int (⟨_, rfl, fun z114 => ⟨_, rfl, fun z115 => ⟨_, rfl, fun z116 => rfl⟩⟩⟩)))⟩))))⟩⟩)))⟩))))), fun h => nomatch h⟩))))), fun ys117 => ds_at [some (.src a0 s67), some (.val (PyData.list ys6)), some (.val p9), some (.val p10), some (.val z11), some (.val z12), some (.val (PyData.list ys18)), some (.val (PyData.list y34)), some (.val p41), some (.val p42), some (.val (PyData.list ys49)), some (.val z66), some (.val z76), some (.val z87), some (.val (PyData.list ys98)), some (.val p104), some (.val p105), some (.val (PyData.list ys117)), none, none, none, none, none, none, none] (ds_if (dt_dir (dt_w (dw_or (dt_cmp cs_gt (de_ix (de_var 17 rfl (de_int (⟨_, rfl, fun z118 => de_int (⟨_, rfl, fun z119 => ⟨_, _, rfl, ⟨rfl, rfl⟩, dw_or1 (dt_dir (dt_w (dw_and (dt_cmp cs_eq (de_ix (de_var 17 rfl (de_int (⟨_, rfl, fun z120 => de_int (⟨_, rfl, fun z121 => ⟨_, _, rfl, dw_and1 (dt_cmp cs_ge (de_ix (de_var 17 rfl (de_int (⟨_, rfl, fun z122 => de_int (⟨_, rfl, fun z123 => ⟨rfl, rfl⟩⟩)⟩))))), ⟨rfl, rfl⟩⟩⟩)⟩))))))) fun t124 => ⟨rfl, rfl⟩)⟩⟩)⟩))))))) fun t125 => ⟨_, _, rfl, ds_ret (de_bool (⟨(), (.s (.s (.s (.s (.s (.s (.s (.s (.s (.s (.s (.s (.s (.s (.s (.n (.n (.n (.n (.n (.n (.n (.n (.n (.n .z))))))))))))))))))))))))), rfl⟩)), ds_nil (ds_nil (⟨(), (.s (.s (.s (.s (.s (.s (.s (.s (.s (.s (.s (.s (.s (.s (.s (.n (.n (.n (.n (.n (.n (.n (.n (.n (.n .z))))))))))))))))))))))))), rfl⟩))⟩))⟩⟩)))) (hsw := fun env he => sw_true (by rw [he]; rfl) (by rw [he]; rfl) rfl (by decide +kernel)))))))), fun s103 => ds_at [some (.src a0 s67), some (.val (PyData.list ys6)), some (.val p9), some (.val p10), some (.val z11), some (.val z12), some (.val (PyData.list ys18)), some (.val (PyData.list y34)), some (.val p41), some (.val p42), some (.val (PyData.list ys49)), some (.val z66), some (.val z76), some (.val z87), some (.val (PyData.list ys98)), none, none, none, none, none, none, none, none, none, none] (ds_forT (fun (st : Src) => ([some (.src a0 st), some (.val (PyData.list ys6)), some (.val p9), some (.val p10), some (.val z11), some (.val z12), some (.val (PyData.list ys18)), some (.val (PyData.list y34)), some (.val p41), some (.val p42), some (.val (PyData.list ys49)), some (.val z66), some (.val z76), some (.val z87), some (.val (PyData.list ys98)), none, none, none, none, none, none, none, none, none, none] : Z.Env)) (di_val (de_callS 0 (p__law_values T _ (by show (1 : Nat) ≤ 3; decide) _ _ _) rfl (da_cons (de_var 2 rfl (da_nil (⟨rfl, _, _, _, rfl, sn1_eq _ _ _, rfl, fun z126 s127 => ⟨_, rfl, fun z128 => ⟨s127, _, _, (.s (.s (.s (.s (.s (.s (.s (.s (.s (.s (.s (.s (.s (.s (.s (.n (.n (.n (.n (.n (.n (.n (.n (.n (.n .z))))))))))))))))))))))))), rfl, fun x129 s130 => dg_name 18 (ds_at [some (.src a0 s130), some (.val (PyData.list ys6)), some (.val p9), some (.val p10), some (.val z11), some (.val z12), some (.val (PyData.list ys18)), some (.val (PyData.list y34)), some (.val p41), some (.val p42), some (.val (PyData.list ys49)), some (.val z66), some (.val z76), some (.val z87), some (.val (PyData.list ys98)), none, none, none, some (.val x129), none, none, none, none, none, none] (ds_if (dt_cmp cs_ne (de_blt bl_repr T.z_repr bb_repr (da_cons (de_lst (da_cons (de_call (p_is_point T _ (by show (3 : Nat) ≤ 3; decide) _ _ _) (da_cons (de_var 18 rfl (da_nil (⟨rfl, ⟨_, _, fn1_eq _ _, rfl, fun z132 => da_cons (de_call (p_is_lot T _ (by show (2 : Nat) ≤ 3; decide) _ _ _) (da_cons (de_var 18 rfl (da_nil (⟨rfl, ⟨_, _, fn1_eq _ _, rfl, fun z133 => da_nil (⟨by show (2 : Nat) ≤ 16777216; decide, da_nil (⟨_, _, fn1_eq _ _, rfl, fun z134 => de_blt bl_repr T.z_repr bb_repr (da_cons (de_lst (da_cons (de_call (p__law_is_point T _ (by show (2 : Nat) ≤ 3; decide) _ _ _) (da_cons (de_var 18 rfl (da_nil (⟨rfl, ⟨_, _, fn1_eq _ _, rfl, fun z135 => da_cons (de_call (p__law_is_pair T _ (by show (1 : Nat) ≤ 3; decide) _ _ _) (da_cons (de_var 18 rfl (da_nil (⟨rfl, ⟨_, _, fn1_eq _ _, rfl, fun z136 => da_nil (⟨by show (2 : Nat) ≤ 16777216; decide, da_nil (⟨_, _, fn1_eq _ _, rfl, fun z137 => ⟨_, rfl, fun z138 => ⟨_, _, rfl, ds_ret (de_bool (⟨s130, (.s (.s (.s (.s (.s (.s (.s (.s (.s (.s (.s (.s (.s (.s (.s (.n (.n (.n (.n (.n (.n (.n (.n (.n (.n .z))))))))))))))))))))))))), rfl⟩)), ds_nil (ds_nil (⟨s130, (.s (.s (.s (.s (.s (.s (.s (.s (.s (.s (.s (.s (.s (.s (.s (.n (.n (.n (.n (.n (.n (.n (.n (.n (.n .z))))))))))))))))))))))))), rfl⟩))⟩⟩⟩)⟩)⟩⟩)))))⟩⟩))))))))⟩)⟩)⟩⟩)))))⟩⟩)))))))))))), fun s131 => ds_at [some (.src a0 s131), some (.val (PyData.list ys6)), some (.val p9), some (.val p10), some (.val z11), some (.val z12), some (.val (PyData.list ys18)), some (.val (PyData.list y34)), some (.val p41), some (.val p42), some (.val (PyData.list ys49)), some (.val z66), some (.val z76), some (.val z87), some (.val (PyData.list ys98)), none, none, none, none, none, none, none, none, none, none] (ds_ret (de_bool (⟨_, rfl, rfl⟩))), fun r139 s131 _ hl => ⟨_, hl.get rfl, rfl⟩⟩⟩⟩))))))), fun r140 s103 _ hl => ⟨_, hl.get rfl, rfl⟩⟩⟩⟩⟩)))))))⟩⟩))) (hsw := fun env he => sw_true (by rw [he]; rfl) (by rw [he]; rfl) rfl (by decide +kernel)))⟩⟩⟩)⟩)⟩⟩)))))))⟩)))))))⟩⟩)⟩⟩⟩)))))))))⟩))⟩⟩)⟩)⟩)))))⟩)⟩)⟩)⟩))))))⟩)⟩)⟩)))))))))))⟩)⟩))))))))))))))))⟩))⟩⟩)))) (hsw := fun env he => sw_true (by rw [he]; rfl) (by rw [he]; rfl) rfl (by decide +kernel))))))))⟩⟩))))))⟩⟩⟩))))⟩)⟩)⟩⟩)))))))⟩⟩)))))))))))))))⟩)⟩⟩)⟩⟩)⟩))))⟩))))))⟩⟩)⟩))))⟩)))))))))))⟩)⟩⟩)⟩⟩)⟩))))⟩))))))⟩⟩)⟩))))⟩)))))))))))⟩⟩))) (hsw := fun env he => sw_true (by rw [he]; rfl) (by rw [he]; rfl) rfl (by decide +kernel)))⟩⟩))))⟩⟩))))) (hw := by intro env he; cases env; cases he; rfl)))))))⟩⟩)))))⟩⟩))) (hsw := fun env he => sw_true (by rw [he]; rfl) (by rw [he]; rfl) rfl (by decide +kernel)))

theorem p_law (T : Txt K mg) (ns : List Int) : DSs ⟨P, w, K, mg, base, 5, ["script", "source", "lap", "far", "table", "other", "a", "b", "c", "d", "many", "lot", "due", "times", "turn", "late", "told", "sums", "point", "x", "y", "led", "solved", "whole"], defScope s_law, fun _ => true⟩ (startE ["script", "source", "lap", "far", "table", "other", "a", "b", "c", "d", "many", "lot", "due", "times", "turn", "late", "told", "sums", "point", "x", "y", "led", "solved", "whole"] [.scr ns]) (defBody s_law) (m_law ns) Jf := by
    show DSs _ [some (.scr ns), none, none, none, none, none, none, none, none, none, none, none, none, none, none, none, none, none, none, none, none, none, none, none] _ (m_law ns) _
    unfold m_law
    exact ds_at [some (.scr ns), none, none, none, none, none, none, none, none, none, none, none, none, none, none, none, none, none, none, none, none, none, none, none] (ds_source 1 0 (p__law_source T _ (by show (1 : Nat) ≤ 5; decide) _ _ _) rfl rfl fun a0 s1 => ds_at [some (.scr ns), some (.src a0 s1), none, none, none, none, none, none, none, none, none, none, none, none, none, none, none, none, none, none, none, none, none, none] (ds_forT (fun (st : Src) => ([some (.scr ns), some (.src a0 st), none, none, none, none, none, none, none, none, none, none, none, none, none, none, none, none, none, none, none, none, none, none] : Z.Env)) (di_range1 T.z_range (de_int (⟨_, rfl, fun z2 => ⟨s1, _, _, (.s (.s (.n (.n (.n (.n (.n (.n (.n (.n (.n (.n (.n (.n (.n (.n (.n (.n (.n (.n (.n (.n (.n (.n .z)))))))))))))))))))))))), rfl, fun x3 s4 => dg_name 2 (ds_at [some (.scr ns), some (.src a0 s4), some (.val x3), none, none, none, none, none, none, none, none, none, none, none, none, none, none, none, none, none, none, none, none, none] (ds_set 3 (de_callS 1 (p__law_of T _ (by show (2 : Nat) ≤ 5; decide) _ _ _) rfl (da_cons (de_lst (da_cons (de_int (da_cons (de_int (da_cons (de_int (da_cons (de_int (da_cons (de_int (da_nil (⟨by show (5 : Nat) ≤ 16777216; decide, da_nil (⟨rfl, _, _, _, rfl, sn1_eq _ _ _, rfl, fun z6 s7 => ds_at [some (.scr ns), some (.src a0 s7), some (.val x3), some (.val z6), none, none, none, none, none, none, none, none, none, none, none, none, none, none, none, none, none, none, none, none] (ds_par 4 5 (de_callS 1 (p__law_table T _ (by show (2 : Nat) ≤ 5; decide) _ _ _) rfl (da_cons (de_var 3 rfl (da_nil (⟨rfl, _, _, _, rfl, sn1_eq _ _ _, rfl, fun z8 s9 => de_callS 1 (p__law_table T _ (by show (2 : Nat) ≤ 5; decide) _ _ _) rfl (da_cons (de_var 3 rfl (da_nil (⟨rfl, _, _, _, rfl, sn1_eq _ _ _, rfl, fun z10 s11 => ds_at [some (.scr ns), some (.src a0 s11), some (.val x3), some (.val z6), some (.val z8), some (.val z10), none, none, none, none, none, none, none, none, none, none, none, none, none, none, none, none, none, none] (ds_asg (de_var 4 rfl (dg_tup2 rfl fun p12 p13 => dgs_cons (dg_tup2 rfl fun p14 p15 => dgs_cons (dg_name 6 (dgs_cons (dg_name 7 (dgs_nil (dgs_cons (dg_tup2 rfl fun p16 p17 => dgs_cons (dg_name 8 (dgs_cons (dg_name 9 (dgs_nil (dgs_nil (ds_at [some (.scr ns), some (.src a0 s11), some (.val x3), some (.val z6), some (.val z8), some (.val z10), some (.val p14), some (.val p15), some (.val p16), some (.val p17), none, none, none, none, none, none, none, none, none, none, none, none, none, none] (ds_par 10 11 (de_op bs_sub (de_op bs_mul (de_var 6 rfl (de_var 9 rfl (⟨_, rfl, fun z18 => de_op bs_mul (de_var 7 rfl (de_var 8 rfl (⟨_, rfl, fun z19 => ⟨_, rfl, fun z20 => de_tup (da_cons (de_op bs_sub (de_callS 1 (p__law_pick T _ (by show (1 : Nat) ≤ 5; decide) _ _ _) rfl (da_cons (de_int (da_nil (⟨rfl, _, _, _, rfl, sn1_eq _ _ _, rfl, fun z21 s22 => de_int (⟨_, rfl, fun z23 => da_cons (de_op bs_sub (de_callS 1 (p__law_pick T _ (by show (1 : Nat) ≤ 5; decide) _ _ _) rfl (da_cons (de_int (da_nil (⟨rfl, _, _, _, rfl, sn1_eq _ _ _, rfl, fun z24 s25 => de_int (⟨_, rfl, fun z26 => da_nil (⟨by show (2 : Nat) ≤ 16777216; decide, ds_at [some (.scr ns), some (.src a0 s25), some (.val x3), some (.val z6), some (.val z8), some (.val z10), some (.val p14), some (.val p15), some (.val p16), some (.val p17), some (.val z20), some (.val (PyData.tuple [z23, z26])), none, none, none, none, none, none, none, none, none, none, none, none] (ds_if (dt_cmp cs_ne (de_blt bl_repr T.z_repr bb_repr (da_cons (de_lst (da_cons (de_call (p_table_det T _ (by show (1 : Nat) ≤ 5; decide) _ _ _) (da_cons (de_var 4 rfl (da_nil (⟨rfl, ⟨_, _, fn1_eq _ _, rfl, fun z27 => da_cons (de_call (p_table_trace T _ (by show (1 : Nat) ≤ 5; decide) _ _ _) (da_cons (de_var 4 rfl (da_nil (⟨rfl, ⟨_, _, fn1_eq _ _, rfl, fun z28 => da_cons (de_call (p_does_grow T _ (by show (2 : Nat) ≤ 5; decide) _ _ _) (da_cons (de_var 4 rfl (da_nil (⟨rfl, ⟨_, _, fn1_eq _ _, rfl, fun z29 => da_nil (⟨by show (3 : Nat) ≤ 16777216; decide, da_nil (⟨_, _, fn1_eq _ _, rfl, fun z30 => de_blt bl_repr T.z_repr bb_repr (da_cons (de_lst (da_cons (de_var 10 rfl (da_cons (de_op bs_add (de_var 6 rfl (de_var 9 rfl (⟨_, rfl, fun z31 => da_cons (de_call (p__law_is_small T _ (by show (2 : Nat) ≤ 5; decide) _ _ _) (da_cons (de_var 4 rfl (da_nil (⟨rfl, ⟨_, _, fn1_eq _ _, rfl, fun z32 => da_nil (⟨by show (3 : Nat) ≤ 16777216; decide, da_nil (⟨_, _, fn1_eq _ _, rfl, fun z33 => ⟨_, rfl, fun z34 => ⟨_, _, rfl, ds_ret (de_bool (⟨s25, (.s (.s (.n (.n (.n (.n (.n (.n (.n (.n (.n (.n (.n (.n (.n (.n (.n (.n (.n (.n (.n (.n (.n (.n .z)))))))))))))))))))))))), rfl⟩)), ds_nil (ds_if (dt_cmp cs_ne (de_blt bl_repr T.z_repr bb_repr (da_cons (de_call (p_table_behind T _ (by show (2 : Nat) ≤ 5; decide) _ _ _) (da_cons (de_var 4 rfl (da_cons (de_var 5 rfl (da_nil (⟨rfl, ⟨_, _, fn2_eq _ _ _, rfl, fun z35 => da_nil (⟨_, _, fn1_eq _ _, rfl, fun z36 => de_blt bl_repr T.z_repr bb_repr (da_cons (de_call (p__law_product T _ (by show (1 : Nat) ≤ 5; decide) _ _ _) (da_cons (de_var 4 rfl (da_cons (de_var 5 rfl (da_nil (⟨rfl, ⟨_, _, fn2_eq _ _ _, rfl, fun z37 => da_nil (⟨_, _, fn1_eq _ _, rfl, fun z38 => ⟨_, rfl, fun z39 => ⟨_, _, rfl, ds_ret (de_bool (⟨s25, (.s (.s (.n (.n (.n (.n (.n (.n (.n (.n (.n (.n (.n (.n (.n (.n (.n (.n (.n (.n (.n (.n (.n (.n .z)))))))))))))))))))))))), rfl⟩)), ds_nil (ds_if (dt_cmp cs_ne (de_blt bl_repr T.z_repr bb_repr (da_cons (de_call (p_table_behind T _ (by show (2 : Nat) ≤ 5; decide) _ _ _) (da_cons (de_call (p_table_other T _ (by show (1 : Nat) ≤ 5; decide) _ _ _) (da_cons (de_var 4 rfl (da_nil (⟨rfl, ⟨_, _, fn1_eq _ _, rfl, fun z40 => da_cons (de_var 4 rfl (da_nil (⟨rfl, ⟨_, _, fn2_eq _ _ _, rfl, fun z41 => da_nil (⟨_, _, fn1_eq _ _, rfl, fun z42 => de_blt bl_repr T.z_repr bb_repr (da_cons (de_tup (da_cons (de_tup (da_cons (de_var 10 rfl (da_cons (de_int (da_nil (⟨by show (2 : Nat) ≤ 16777216; decide, da_cons (de_tup (da_cons (de_int (da_cons (de_var 10 rfl (da_nil (⟨by show (2 : Nat) ≤ 16777216; decide, da_nil (⟨by show (2 : Nat) ≤ 16777216; decide, da_nil (⟨_, _, fn1_eq _ _, rfl, fun z43 => ⟨_, rfl, fun z44 => ⟨_, _, rfl, ds_ret (de_bool (⟨s25, (.s (.s (.n (.n (.n (.n (.n (.n (.n (.n (.n (.n (.n (.n (.n (.n (.n (.n (.n (.n (.n (.n (.n (.n .z)))))))))))))))))))))))), rfl⟩)), ds_nil (ds_par 12 13 (de_tup (da_cons (de_tup (da_cons (de_int (da_cons (de_int (da_nil (⟨by show (2 : Nat) ≤ 16777216; decide, da_cons (de_tup (da_cons (de_int (da_cons (de_int (da_nil (⟨by show (2 : Nat) ≤ 16777216; decide, da_nil (⟨by show (2 : Nat) ≤ 16777216; decide, de_callS 1 (p__law_pick T _ (by show (1 : Nat) ≤ 5; decide) _ _ _) rfl (da_cons (de_int (da_nil (⟨rfl, _, _, _, rfl, sn1_eq _ _ _, rfl, fun z45 s46 => ds_at [some (.scr ns), some (.src a0 s46), some (.val x3), some (.val z6), some (.val z8), some (.val z10), some (.val p14), some (.val p15), some (.val p16), some (.val p17), some (.val z20), some (.val (PyData.tuple [z23, z26])), some (.val (PyData.tuple [(PyData.tuple [(PyData.int 1), (PyData.int 0)]), (PyData.tuple [(PyData.int 0), (PyData.int 1)])])), some (.val z45), none, none, none, none, none, none, none, none, none, none] (ds_forS (fun (st : D) => ([some (.scr ns), some (.src a0 s46), some (.val x3), some (.val z6), some (.val z8), some (.val z10), some (.val p14), some (.val p15), some (.val p16), some (.val p17), some (.val z20), some (.val (PyData.tuple [z23, z26])), some (.val st), some (.val z45), none, none, none, none, none, none, none, none, none, none] : Z.Env)) (di_range1 T.z_range (de_var 13 rfl (⟨_, rfl, fun z47 => ⟨(PyData.tuple [(PyData.tuple [(PyData.int 1), (PyData.int 0)]), (PyData.tuple [(PyData.int 0), (PyData.int 1)])]), _, _, (.s (.s (.s (.s (.s (.s (.s (.s (.s (.s (.s (.s (.s (.s (.n (.n (.n (.n (.n (.n (.n (.n (.n (.n .z)))))))))))))))))))))))), rfl, fun x48 s49 => dg_name 14 (ds_at [some (.scr ns), some (.src a0 s46), some (.val x3), some (.val z6), some (.val z8), some (.val z10), some (.val p14), some (.val p15), some (.val p16), some (.val p17), some (.val z20), some (.val (PyData.tuple [z23, z26])), some (.val s49), some (.val z45), some (.val x48), none, none, none, none, none, none, none, none, none] (ds_set 12 (de_call (p__law_product T _ (by show (1 : Nat) ≤ 5; decide) _ _ _) (da_cons (de_var 4 rfl (da_cons (de_var 12 rfl (da_nil (⟨rfl, ⟨_, _, fn2_eq _ _ _, rfl, fun z51 => ds_nil (⟨z51, (.s (.s (.s (.s (.s (.s (.s (.s (.s (.s (.s (.s (.s (.s (.n (.n (.n (.n (.n (.n (.n (.n (.n (.n .z)))))))))))))))))))))))), rfl⟩)⟩⟩))))))))), fun s50 => ds_at [some (.scr ns), some (.src a0 s46), some (.val x3), some (.val z6), some (.val z8), some (.val z10), some (.val p14), some (.val p15), some (.val p16), some (.val p17), some (.val z20), some (.val (PyData.tuple [z23, z26])), some (.val s50), some (.val z45), none, none, none, none, none, none, none, none, none, none] (ds_set 15 (de_tup (da_cons (de_op bs_add (de_op bs_mul (de_var 6 rfl (de_ix (de_var 11 rfl (de_int (⟨_, rfl, fun z52 => ⟨_, rfl, fun z53 => de_op bs_mul (de_var 7 rfl (de_ix (de_var 11 rfl (de_int (⟨_, rfl, fun z54 => ⟨_, rfl, fun z55 => ⟨_, rfl, fun z56 => da_cons (de_op bs_add (de_op bs_mul (de_var 8 rfl (de_ix (de_var 11 rfl (de_int (⟨_, rfl, fun z57 => ⟨_, rfl, fun z58 => de_op bs_mul (de_var 9 rfl (de_ix (de_var 11 rfl (de_int (⟨_, rfl, fun z59 => ⟨_, rfl, fun z60 => ⟨_, rfl, fun z61 => da_nil (⟨by show (2 : Nat) ≤ 16777216; decide, ds_at [some (.scr ns), some (.src a0 s46), some (.val x3), some (.val z6), some (.val z8), some (.val z10), some (.val p14), some (.val p15), some (.val p16), some (.val p17), some (.val z20), some (.val (PyData.tuple [z23, z26])), some (.val s50), some (.val z45), none, some (.val (PyData.tuple [z56, z61])), none, none, none, none, none, none, none, none] (ds_set 16 (de_lst (da_cons (de_call (p_table_taken T _ (by show (3 : Nat) ≤ 5; decide) _ _ _) (da_cons (de_var 4 rfl (da_cons (de_var 13 rfl (da_nil (⟨rfl, ⟨_, _, fn2_eq _ _ _, rfl, fun z62 => da_cons (de_call (p_lot_led T _ (by show (1 : Nat) ≤ 5; decide) _ _ _) (da_cons (de_var 4 rfl (da_cons (de_var 11 rfl (da_nil (⟨rfl, ⟨_, _, fn2_eq _ _ _, rfl, fun z63 => da_cons (de_call (p_lots_added T _ (by show (1 : Nat) ≤ 5; decide) _ _ _) (da_cons (de_var 11 rfl (da_cons (de_var 15 rfl (da_nil (⟨rfl, ⟨_, _, fn2_eq _ _ _, rfl, fun z64 => da_cons (de_call (p_lots_less T _ (by show (1 : Nat) ≤ 5; decide) _ _ _) (da_cons (de_var 11 rfl (da_cons (de_var 15 rfl (da_nil (⟨rfl, ⟨_, _, fn2_eq _ _ _, rfl, fun z65 => da_nil (⟨by show (4 : Nat) ≤ 16777216; decide, ds_at [some (.scr ns), some (.src a0 s46), some (.val x3), some (.val z6), some (.val z8), some (.val z10), some (.val p14), some (.val p15), some (.val p16), some (.val p17), some (.val z20), some (.val (PyData.tuple [z23, z26])), some (.val s50), some (.val z45), none, some (.val (PyData.tuple [z56, z61])), some (.val (PyData.list [z62, z63, z64, z65])), none, none, none, none, none, none, none] (ds_set 17 (de_lst (da_cons (de_tup (da_cons (de_op bs_add (de_ix (de_var 11 rfl (de_int (⟨_, rfl, fun z66 => de_ix (de_var 15 rfl (de_int (⟨_, rfl, fun z67 => ⟨_, rfl, fun z68 => da_cons (de_op bs_add (de_ix (de_var 11 rfl (de_int (⟨_, rfl, fun z69 => de_ix (de_var 15 rfl (de_int (⟨_, rfl, fun z70 => ⟨_, rfl, fun z71 => da_nil (⟨by show (2 : Nat) ≤ 16777216; decide, da_cons (de_tup (da_cons (de_op bs_sub (de_ix (de_var 11 rfl (de_int (⟨_, rfl, fun z72 => de_ix (de_var 15 rfl (de_int (⟨_, rfl, fun z73 => ⟨_, rfl, fun z74 => da_cons (de_op bs_sub (de_ix (de_var 11 rfl (de_int (⟨_, rfl, fun z75 => de_ix (de_var 15 rfl (de_int (⟨_, rfl, fun z76 => ⟨_, rfl, fun z77 => da_nil (⟨by show (2 : Nat) ≤ 16777216; decide, da_nil (⟨by show (2 : Nat) ≤ 16777216; decide, ds_at [some (.scr ns), some (.src a0 s46), some (.val x3), some (.val z6), some (.val z8), some (.val z10), some (.val p14), some (.val p15), some (.val p16), some (.val p17), some (.val z20), some (.val (PyData.tuple [z23, z26])), some (.val s50), some (.val z45), none, some (.val (PyData.tuple [z56, z61])), some (.val (PyData.list [z62, z63, z64, z65])), some (.val (PyData.list [(PyData.tuple [z68, z71]), (PyData.tuple [z74, z77])])), none, none, none, none, none, none] (ds_if (dt_cmp cs_ne (de_blt bl_repr T.z_repr bb_repr (da_cons (de_var 16 rfl (da_nil (⟨_, _, fn1_eq _ _, rfl, fun z78 => de_blt bl_repr T.z_repr bb_repr (da_cons (de_op bs_add (de_lst (da_cons (de_var 12 rfl (da_cons (de_var 15 rfl (da_nil (⟨by show (2 : Nat) ≤ 16777216; decide, de_var 17 rfl (⟨_, rfl, fun z79 => da_nil (⟨_, _, fn1_eq _ _, rfl, fun z80 => ⟨_, rfl, fun z81 => ⟨_, _, rfl, ds_ret (de_bool (⟨s46, (.s (.s (.n (.n (.n (.n (.n (.n (.n (.n (.n (.n (.n (.n (.n (.n (.n (.n (.n (.n (.n (.n (.n (.n .z)))))))))))))))))))))))), rfl⟩)), ds_nil (ds_set 18 (de_callS 1 (p__law_drawn_point T _ (by show (3 : Nat) ≤ 5; decide) _ _ _) rfl (da_nil (⟨rfl, _, _, _, rfl, sn0_eq _ _, rfl, fun z82 s83 => ds_at [some (.scr ns), some (.src a0 s83), some (.val x3), some (.val z6), some (.val z8), some (.val z10), some (.val p14), some (.val p15), some (.val p16), some (.val p17), some (.val z20), some (.val (PyData.tuple [z23, z26])), some (.val s50), some (.val z45), none, some (.val (PyData.tuple [z56, z61])), some (.val (PyData.list [z62, z63, z64, z65])), some (.val (PyData.list [(PyData.tuple [z68, z71]), (PyData.tuple [z74, z77])])), some (.val z82), none, none, none, none, none] (ds_asg (de_call (p__law_fractions T _ (by show (2 : Nat) ≤ 5; decide) _ _ _) (da_cons (de_var 18 rfl (da_nil (⟨rfl, ⟨_, _, fn1_eq _ _, rfl, fun z84 => dg_tup2 rfl fun p85 p86 => dgs_cons (dg_name 19 (dgs_cons (dg_name 20 (dgs_nil (ds_at [some (.scr ns), some (.src a0 s83), some (.val x3), some (.val z6), some (.val z8), some (.val z10), some (.val p14), some (.val p15), some (.val p16), some (.val p17), some (.val z20), some (.val (PyData.tuple [z23, z26])), some (.val s50), some (.val z45), none, some (.val (PyData.tuple [z56, z61])), some (.val (PyData.list [z62, z63, z64, z65])), some (.val (PyData.list [(PyData.tuple [z68, z71]), (PyData.tuple [z74, z77])])), some (.val z82), some (.val p85), some (.val p86), none, none, none] (ds_set 21 (de_call (p__law_led T _ (by show (3 : Nat) ≤ 5; decide) _ _ _) (da_cons (de_var 4 rfl (da_cons (de_var 19 rfl (da_cons (de_var 20 rfl (da_nil (⟨rfl, ⟨_, _, fn3_eq _ _ _ _, rfl, fun z87 => ds_at [some (.scr ns), some (.src a0 s83), some (.val x3), some (.val z6), some (.val z8), some (.val z10), some (.val p14), some (.val p15), some (.val p16), some (.val p17), some (.val z20), some (.val (PyData.tuple [z23, z26])), some (.val s50), some (.val z45), none, some (.val (PyData.tuple [z56, z61])), some (.val (PyData.list [z62, z63, z64, z65])), some (.val (PyData.list [(PyData.tuple [z68, z71]), (PyData.tuple [z74, z77])])), some (.val z82), some (.val p85), some (.val p86), some (.val z87), none, none] (ds_if (dt_cmp cs_ne (de_blt bl_repr T.z_repr bb_repr (da_cons (de_call (p_point_led T _ (by show (2 : Nat) ≤ 5; decide) _ _ _) (da_cons (de_var 4 rfl (da_cons (de_var 18 rfl (da_nil (⟨rfl, ⟨_, _, fn2_eq _ _ _, rfl, fun z88 => da_nil (⟨_, _, fn1_eq _ _, rfl, fun z89 => de_blt bl_repr T.z_repr bb_repr (da_cons (de_call (p__law_point T _ (by show (2 : Nat) ≤ 5; decide) _ _ _) (da_cons (de_ix (de_var 21 rfl (de_int (⟨_, rfl, fun z90 => da_cons (de_ix (de_var 21 rfl (de_int (⟨_, rfl, fun z91 => da_nil (⟨rfl, ⟨_, _, fn2_eq _ _ _, rfl, fun z92 => da_nil (⟨_, _, fn1_eq _ _, rfl, fun z93 => ⟨_, rfl, fun z94 => ⟨_, _, rfl, ds_ret (de_bool (⟨s83, (.s (.s (.n (.n (.n (.n (.n (.n (.n (.n (.n (.n (.n (.n (.n (.n (.n (.n (.n (.n (.n (.n (.n (.n .z)))))))))))))))))))))))), rfl⟩)), ds_nil (ds_if (dt_cmp cs_ne (de_var 10 rfl (de_int (⟨_, rfl, fun z95 => ⟨_, _, rfl, ds_set 22 (de_call (p__law_solved T _ (by show (5 : Nat) ≤ 5; decide) _ _ _) (da_cons (de_var 4 rfl (da_cons (de_var 19 rfl (da_cons (de_var 20 rfl (da_nil (⟨rfl, ⟨_, _, fn3_eq _ _ _ _, rfl, fun z96 => ds_at [some (.scr ns), some (.src a0 s83), some (.val x3), some (.val z6), some (.val z8), some (.val z10), some (.val p14), some (.val p15), some (.val p16), some (.val p17), some (.val z20), some (.val (PyData.tuple [z23, z26])), some (.val s50), some (.val z45), none, some (.val (PyData.tuple [z56, z61])), some (.val (PyData.list [z62, z63, z64, z65])), some (.val (PyData.list [(PyData.tuple [z68, z71]), (PyData.tuple [z74, z77])])), some (.val z82), some (.val p85), some (.val p86), some (.val z87), some (.val z96), none] (ds_set 23 (de_call (p__law_solved T _ (by show (5 : Nat) ≤ 5; decide) _ _ _) (da_cons (de_var 4 rfl (da_cons (de_tup (da_cons (de_ix (de_var 11 rfl (de_int (⟨_, rfl, fun z97 => da_cons (de_int (da_nil (⟨by show (2 : Nat) ≤ 16777216; decide, da_cons (de_tup (da_cons (de_ix (de_var 11 rfl (de_int (⟨_, rfl, fun z98 => da_cons (de_int (da_nil (⟨by show (2 : Nat) ≤ 16777216; decide, da_nil (⟨rfl, ⟨_, _, fn3_eq _ _ _ _, rfl, fun z99 => ds_at [some (.scr ns), some (.src a0 s83), some (.val x3), some (.val z6), some (.val z8), some (.val z10), some (.val p14), some (.val p15), some (.val p16), some (.val p17), some (.val z20), some (.val (PyData.tuple [z23, z26])), some (.val s50), some (.val z45), none, some (.val (PyData.tuple [z56, z61])), some (.val (PyData.list [z62, z63, z64, z65])), some (.val (PyData.list [(PyData.tuple [z68, z71]), (PyData.tuple [z74, z77])])), some (.val z82), some (.val p85), some (.val p86), some (.val z87), some (.val z96), some (.val z99)] (ds_set 12 (de_dir (de_ifx (dt_dir (dt_w (dw_and (dt_cmp cs_eq (de_ix (de_ix (de_var 23 rfl (de_int (⟨_, rfl, fun z100 => de_int (⟨_, rfl, fun z101 => de_int (⟨_, rfl, fun z102 => ⟨_, _, rfl, dw_and1 (dt_cmp cs_eq (de_ix (de_ix (de_var 23 rfl (de_int (⟨_, rfl, fun z103 => de_int (⟨_, rfl, fun z104 => de_int (⟨_, rfl, fun z105 => ⟨rfl, rfl⟩⟩)⟩)⟩)))))), ⟨rfl, rfl⟩⟩⟩)⟩)⟩)))))))) fun t106 => ⟨_, _, rfl, de_tup (da_cons (de_ix (de_ix (de_var 23 rfl (de_int (⟨_, rfl, fun z107 => de_int (⟨_, rfl, fun z108 => da_cons (de_ix (de_ix (de_var 23 rfl (de_int (⟨_, rfl, fun z109 => de_int (⟨_, rfl, fun z110 => da_nil (⟨by show (2 : Nat) ≤ 16777216; decide, ⟨rfl, rfl⟩⟩)⟩)⟩)))))⟩)⟩)))))), de_none (⟨rfl, rfl⟩)⟩)) fun z111 => ds_at [some (.scr ns), some (.src a0 s83), some (.val x3), some (.val z6), some (.val z8), some (.val z10), some (.val p14), some (.val p15), some (.val p16), some (.val p17), some (.val z20), some (.val (PyData.tuple [z23, z26])), some (.val z111), some (.val z45), none, some (.val (PyData.tuple [z56, z61])), some (.val (PyData.list [z62, z63, z64, z65])), some (.val (PyData.list [(PyData.tuple [z68, z71]), (PyData.tuple [z74, z77])])), some (.val z82), some (.val p85), some (.val p86), some (.val z87), some (.val z96), some (.val z99)] (ds_set 16 (de_lst (da_cons (de_call (p_point_undone T _ (by show (2 : Nat) ≤ 5; decide) _ _ _) (da_cons (de_var 4 rfl (da_cons (de_var 18 rfl (da_nil (⟨rfl, ⟨_, _, fn2_eq _ _ _, rfl, fun z112 => da_cons (de_call (p_lot_undone T _ (by show (2 : Nat) ≤ 5; decide) _ _ _) (da_cons (de_var 4 rfl (da_cons (de_var 11 rfl (da_nil (⟨rfl, ⟨_, _, fn2_eq _ _ _, rfl, fun z113 => da_cons (de_call (p_lot_undone T _ (by show (2 : Nat) ≤ 5; decide) _ _ _) (da_cons (de_var 4 rfl (da_cons (de_var 15 rfl (da_nil (⟨rfl, ⟨_, _, fn2_eq _ _ _, rfl, fun z114 => da_nil (⟨by show (3 : Nat) ≤ 16777216; decide, ds_at [some (.scr ns), some (.src a0 s83), some (.val x3), some (.val z6), some (.val z8), some (.val z10), some (.val p14), some (.val p15), some (.val p16), some (.val p17), some (.val z20), some (.val (PyData.tuple [z23, z26])), some (.val z111), some (.val z45), none, some (.val (PyData.tuple [z56, z61])), some (.val (PyData.list [z112, z113, z114])), some (.val (PyData.list [(PyData.tuple [z68, z71]), (PyData.tuple [z74, z77])])), some (.val z82), some (.val p85), some (.val p86), some (.val z87), some (.val z96), some (.val z99)] (ds_if (dt_cmp cs_ne (de_blt bl_repr T.z_repr bb_repr (da_cons (de_var 16 rfl (da_nil (⟨_, _, fn1_eq _ _, rfl, fun z115 => de_blt bl_repr T.z_repr bb_repr (da_cons (de_lst (da_cons (de_call (p__law_point T _ (by show (2 : Nat) ≤ 5; decide) _ _ _) (da_cons (de_ix (de_var 22 rfl (de_int (⟨_, rfl, fun z116 => da_cons (de_ix (de_var 22 rfl (de_int (⟨_, rfl, fun z117 => da_nil (⟨rfl, ⟨_, _, fn2_eq _ _ _, rfl, fun z118 => da_cons (de_var 12 rfl (da_cons (de_var 11 rfl (da_nil (⟨by show (3 : Nat) ≤ 16777216; decide, da_nil (⟨_, _, fn1_eq _ _, rfl, fun z119 => ⟨_, rfl, fun z120 => ⟨_, _, rfl, ds_ret (de_bool (⟨s83, (.s (.s (.n (.n (.n (.n (.n (.n (.n (.n (.n (.n (.n (.n (.n (.n (.n (.n (.n (.n (.n (.n (.n (.n .z)))))))))))))))))))))))), rfl⟩)), ds_nil (ds_nil (ds_nil (⟨s83, (.s (.s (.n (.n (.n (.n (.n (.n (.n (.n (.n (.n (.n (.n (.n (.n (.n (.n (.n (.n (.n (.n (.n (.n .z)))))))))))))))))))))))), rfl⟩)))⟩⟩⟩)⟩)))))⟩⟩)⟩))))⟩)))))))))⟩)))))))⟩)⟩⟩)))))))⟩⟩)))))))⟩⟩))))))))))))⟩⟩)⟩)))⟩))))))⟩)))⟩)))))))))))⟩⟩))))))))), ds_nil (ds_nil (⟨s83, (.s (.s (.n (.n (.n (.n (.n (.n (.n (.n (.n (.n (.n (.n (.n (.n (.n (.n (.n (.n (.n (.n (.n (.n .z)))))))))))))))))))))))), rfl⟩))⟩⟩)))))⟩⟩⟩)⟩⟩)⟩))))⟩)))))))⟩)⟩⟩)))))))))))⟩⟩)))))))))))))))⟩⟩))))))⟩))))⟩⟩⟩)⟩)⟩)))))))))⟩)))))))⟩)⟩)⟩⟩)))⟩)))))⟩⟩)))⟩)))))))⟩)⟩⟩)))⟩)))))⟩⟩)))⟩))))))))))⟩)⟩⟩)))))))⟩⟩)))))))⟩⟩)))))))⟩⟩))))))))))⟩)⟩⟩⟩)))))⟩⟩)))))))⟩⟩⟩)))))⟩⟩))))))))))⟩⟩))))⟩))))⟩)⟩)))))))⟩))))))))) (hw := by intro env he; cases env; cases he; rfl))⟩⟩⟩)⟩)⟩)))))))⟩))))))))))⟩)⟩⟩)))⟩⟩)))))))))))⟩⟩⟩)⟩⟩))))))))⟩)⟩⟩)))))))))))⟩⟩⟩)⟩)⟩⟩)))))⟩)))))))))⟩)⟩)⟩⟩)))))⟩⟩)))))⟩⟩)))))))))))⟩)⟩)⟩))))))⟩)⟩)))))))⟩⟩)))⟩))))) (hw := by intro env he; cases env; cases he; rfl))))))))))))))))))⟩))))⟩))))) (hw := by intro env he; cases env; cases he; rfl))⟩)⟩))))))))))))))))), fun s5 => ds_at [some (.scr ns), some (.src a0 s5), none, none, none, none, none, none, none, none, none, none, none, none, none, none, none, none, none, none, none, none, none, none] (ds_ret (de_callS 1 (p__law_points_right T _ (by show (4 : Nat) ≤ 5; decide) _ _ _) rfl (da_nil (⟨rfl, _, _, _, rfl, sn0_eq _ _, rfl, fun z121 s122 => rfl⟩)))), fun r123 s5 _ hl => rfl⟩⟩)))))

end
theorem all_mk {l : PySem.W.OpenLaw} {w : World} {K : PySem.W.Frag} {h : Heap} {mg : Str → Option Value} {fa f0 f1 f2 f3 f4 f5 f6 f7 f8 f9 f10 f11 f12 f13 f14 f15 f16 f17 f18 f19 f20 f21 f22 f23 f24 f25 f26 f27 f28 f29 f30 f31 f32 f33 f34 f35 f36 f37 f38 f39 f40 : Addr} (X : K.In h) (G : h.Ns mainGlobals mg) (hfa : mg "law" = some (.ref fa))
    {od0 an0 od1 an1 od2 an2 od3 an3 od4 an4 od5 an5 od6 an6 od7 an7 od8 an8 od9 an9 od10 an10 od11 an11 od12 an12 od13 an13 od14 an14 od15 an15 od16 an16 od17 an17 od18 an18 od19 an19 od20 an20 od21 an21 od22 an22 od23 an23 od24 an24 od25 an25 od26 an26 od27 an27 od28 an28 od29 an29 od30 an30 od31 an31 od32 an32 od33 an33 od34 an34 od35 an35 od36 an36 od37 an37 od38 an38 od39 an39 od40 an40 : Option Addr} {sl0 sl1 sl2 sl3 sl4 sl5 sl6 sl7 sl8 sl9 sl10 sl11 sl12 sl13 sl14 sl15 sl16 sl17 sl18 sl19 sl20 sl21 sl22 sl23 sl24 sl25 sl26 sl27 sl28 sl29 sl30 sl31 sl32 sl33 sl34 sl35 sl36 sl37 sl38 sl39 sl40 : Array (Option Value)} {oc0 kV0 dc0 pm0 cd0 ct0 oc1 kV1 dc1 pm1 cd1 ct1 oc2 kV2 dc2 pm2 cd2 ct2 oc3 kV3 dc3 pm3 cd3 ct3 oc4 kV4 dc4 pm4 cd4 ct4 oc5 kV5 dc5 pm5 cd5 ct5 oc6 kV6 dc6 pm6 cd6 ct6 oc7 kV7 dc7 pm7 cd7 ct7 oc8 kV8 dc8 pm8 cd8 ct8 oc9 kV9 dc9 pm9 cd9 ct9 oc10 kV10 dc10 pm10 cd10 ct10 oc11 kV11 dc11 pm11 cd11 ct11 oc12 kV12 dc12 pm12 cd12 ct12 oc13 kV13 dc13 pm13 cd13 ct13 oc14 kV14 dc14 pm14 cd14 ct14 oc15 kV15 dc15 pm15 cd15 ct15 oc16 kV16 dc16 pm16 cd16 ct16 oc17 kV17 dc17 pm17 cd17 ct17 oc18 kV18 dc18 pm18 cd18 ct18 oc19 kV19 dc19 pm19 cd19 ct19 oc20 kV20 dc20 pm20 cd20 ct20 oc21 kV21 dc21 pm21 cd21 ct21 oc22 kV22 dc22 pm22 cd22 ct22 oc23 kV23 dc23 pm23 cd23 ct23 oc24 kV24 dc24 pm24 cd24 ct24 oc25 kV25 dc25 pm25 cd25 ct25 oc26 kV26 dc26 pm26 cd26 ct26 oc27 kV27 dc27 pm27 cd27 ct27 oc28 kV28 dc28 pm28 cd28 ct28 oc29 kV29 dc29 pm29 cd29 ct29 oc30 kV30 dc30 pm30 cd30 ct30 oc31 kV31 dc31 pm31 cd31 ct31 oc32 kV32 dc32 pm32 cd32 ct32 oc33 kV33 dc33 pm33 cd33 ct33 oc34 kV34 dc34 pm34 cd34 ct34 oc35 kV35 dc35 pm35 cd35 ct35 oc36 kV36 dc36 pm36 cd36 ct36 oc37 kV37 dc37 pm37 cd37 ct37 oc38 kV38 dc38 pm38 cd38 ct38 oc39 kV39 dc39 pm39 cd39 ct39 oc40 kV40 dc40 pm40 cd40 ct40 : Value}
    (a0 : PySem.W.nsIn K mainGlobals "lots_added" = some (some (.ref f0)))
    (l0 : K.lookup f0 = some ⟨oc0, od0, .func (PySem.W.fnOf "lots_added" "lots_added" (defArgs s_lots_added) (defBody s_lots_added) (defScope s_lots_added) .none kV0 dc0 pm0 an0 cd0 ct0), sl0⟩)
    (c0 : PySem.W.codeIn K cd0 "lots_added" = true)
    (k0 : PySem.W.keepIn K (.ref f0) = true)
    (a1 : PySem.W.nsIn K mainGlobals "lots_less" = some (some (.ref f1)))
    (l1 : K.lookup f1 = some ⟨oc1, od1, .func (PySem.W.fnOf "lots_less" "lots_less" (defArgs s_lots_less) (defBody s_lots_less) (defScope s_lots_less) .none kV1 dc1 pm1 an1 cd1 ct1), sl1⟩)
    (c1 : PySem.W.codeIn K cd1 "lots_less" = true)
    (k1 : PySem.W.keepIn K (.ref f1) = true)
    (a2 : PySem.W.nsIn K mainGlobals "table_det" = some (some (.ref f2)))
    (l2 : K.lookup f2 = some ⟨oc2, od2, .func (PySem.W.fnOf "table_det" "table_det" (defArgs s_table_det) (defBody s_table_det) (defScope s_table_det) .none kV2 dc2 pm2 an2 cd2 ct2), sl2⟩)
    (c2 : PySem.W.codeIn K cd2 "table_det" = true)
    (k2 : PySem.W.keepIn K (.ref f2) = true)
    (a3 : PySem.W.nsIn K mainGlobals "table_trace" = some (some (.ref f3)))
    (l3 : K.lookup f3 = some ⟨oc3, od3, .func (PySem.W.fnOf "table_trace" "table_trace" (defArgs s_table_trace) (defBody s_table_trace) (defScope s_table_trace) .none kV3 dc3 pm3 an3 cd3 ct3), sl3⟩)
    (c3 : PySem.W.codeIn K cd3 "table_trace" = true)
    (k3 : PySem.W.keepIn K (.ref f3) = true)
    (a4 : PySem.W.nsIn K mainGlobals "does_grow" = some (some (.ref f4)))
    (l4 : K.lookup f4 = some ⟨oc4, od4, .func (PySem.W.fnOf "does_grow" "does_grow" (defArgs s_does_grow) (defBody s_does_grow) (defScope s_does_grow) .none kV4 dc4 pm4 an4 cd4 ct4), sl4⟩)
    (c4 : PySem.W.codeIn K cd4 "does_grow" = true)
    (k4 : PySem.W.keepIn K (.ref f4) = true)
    (a5 : PySem.W.nsIn K mainGlobals "table_other" = some (some (.ref f5)))
    (l5 : K.lookup f5 = some ⟨oc5, od5, .func (PySem.W.fnOf "table_other" "table_other" (defArgs s_table_other) (defBody s_table_other) (defScope s_table_other) .none kV5 dc5 pm5 an5 cd5 ct5), sl5⟩)
    (c5 : PySem.W.codeIn K cd5 "table_other" = true)
    (k5 : PySem.W.keepIn K (.ref f5) = true)
    (a6 : PySem.W.nsIn K mainGlobals "lot_led" = some (some (.ref f6)))
    (l6 : K.lookup f6 = some ⟨oc6, od6, .func (PySem.W.fnOf "lot_led" "lot_led" (defArgs s_lot_led) (defBody s_lot_led) (defScope s_lot_led) .none kV6 dc6 pm6 an6 cd6 ct6), sl6⟩)
    (c6 : PySem.W.codeIn K cd6 "lot_led" = true)
    (k6 : PySem.W.keepIn K (.ref f6) = true)
    (a7 : PySem.W.nsIn K mainGlobals "table_behind" = some (some (.ref f7)))
    (l7 : K.lookup f7 = some ⟨oc7, od7, .func (PySem.W.fnOf "table_behind" "table_behind" (defArgs s_table_behind) (defBody s_table_behind) (defScope s_table_behind) .none kV7 dc7 pm7 an7 cd7 ct7), sl7⟩)
    (c7 : PySem.W.codeIn K cd7 "table_behind" = true)
    (k7 : PySem.W.keepIn K (.ref f7) = true)
    (a8 : PySem.W.nsIn K mainGlobals "table_taken" = some (some (.ref f8)))
    (l8 : K.lookup f8 = some ⟨oc8, od8, .func (PySem.W.fnOf "table_taken" "table_taken" (defArgs s_table_taken) (defBody s_table_taken) (defScope s_table_taken) .none kV8 dc8 pm8 an8 cd8 ct8), sl8⟩)
    (c8 : PySem.W.codeIn K cd8 "table_taken" = true)
    (k8 : PySem.W.keepIn K (.ref f8) = true)
    (a9 : PySem.W.nsIn K mainGlobals "lot_undone" = some (some (.ref f9)))
    (l9 : K.lookup f9 = some ⟨oc9, od9, .func (PySem.W.fnOf "lot_undone" "lot_undone" (defArgs s_lot_undone) (defBody s_lot_undone) (defScope s_lot_undone) .none kV9 dc9 pm9 an9 cd9 ct9), sl9⟩)
    (c9 : PySem.W.codeIn K cd9 "lot_undone" = true)
    (k9 : PySem.W.keepIn K (.ref f9) = true)
    (a10 : PySem.W.nsIn K mainGlobals "point_low" = some (some (.ref f10)))
    (l10 : K.lookup f10 = some ⟨oc10, od10, .func (PySem.W.fnOf "point_low" "point_low" (defArgs s_point_low) (defBody s_point_low) (defScope s_point_low) .none kV10 dc10 pm10 an10 cd10 ct10), sl10⟩)
    (c10 : PySem.W.codeIn K cd10 "point_low" = true)
    (k10 : PySem.W.keepIn K (.ref f10) = true)
    (a11 : PySem.W.nsIn K mainGlobals "point_led" = some (some (.ref f11)))
    (l11 : K.lookup f11 = some ⟨oc11, od11, .func (PySem.W.fnOf "point_led" "point_led" (defArgs s_point_led) (defBody s_point_led) (defScope s_point_led) .none kV11 dc11 pm11 an11 cd11 ct11), sl11⟩)
    (c11 : PySem.W.codeIn K cd11 "point_led" = true)
    (k11 : PySem.W.keepIn K (.ref f11) = true)
    (a12 : PySem.W.nsIn K mainGlobals "point_undone" = some (some (.ref f12)))
    (l12 : K.lookup f12 = some ⟨oc12, od12, .func (PySem.W.fnOf "point_undone" "point_undone" (defArgs s_point_undone) (defBody s_point_undone) (defScope s_point_undone) .none kV12 dc12 pm12 an12 cd12 ct12), sl12⟩)
    (c12 : PySem.W.codeIn K cd12 "point_undone" = true)
    (k12 : PySem.W.keepIn K (.ref f12) = true)
    (a13 : PySem.W.nsIn K mainGlobals "_law_source" = some (some (.ref f13)))
    (l13 : K.lookup f13 = some ⟨oc13, od13, .func (PySem.W.fnOf "_law_source" "_law_source" (defArgs s__law_source) (defBody s__law_source) (defScope s__law_source) .none kV13 dc13 pm13 an13 cd13 ct13), sl13⟩)
    (c13 : PySem.W.codeIn K cd13 "_law_source" = true)
    (k13 : PySem.W.keepIn K (.ref f13) = true)
    (a14 : PySem.W.nsIn K mainGlobals "_law_pick" = some (some (.ref f14)))
    (l14 : K.lookup f14 = some ⟨oc14, od14, .func (PySem.W.fnOf "_law_pick" "_law_pick" (defArgs s__law_pick) (defBody s__law_pick) (defScope s__law_pick) .none kV14 dc14 pm14 an14 cd14 ct14), sl14⟩)
    (c14 : PySem.W.codeIn K cd14 "_law_pick" = true)
    (k14 : PySem.W.keepIn K (.ref f14) = true)
    (a15 : PySem.W.nsIn K mainGlobals "_law_of" = some (some (.ref f15)))
    (l15 : K.lookup f15 = some ⟨oc15, od15, .func (PySem.W.fnOf "_law_of" "_law_of" (defArgs s__law_of) (defBody s__law_of) (defScope s__law_of) .none kV15 dc15 pm15 an15 cd15 ct15), sl15⟩)
    (c15 : PySem.W.codeIn K cd15 "_law_of" = true)
    (k15 : PySem.W.keepIn K (.ref f15) = true)
    (a16 : PySem.W.nsIn K mainGlobals "_law_low" = some (some (.ref f16)))
    (l16 : K.lookup f16 = some ⟨oc16, od16, .func (PySem.W.fnOf "_law_low" "_law_low" (defArgs s__law_low) (defBody s__law_low) (defScope s__law_low) .none kV16 dc16 pm16 an16 cd16 ct16), sl16⟩)
    (c16 : PySem.W.codeIn K cd16 "_law_low" = true)
    (k16 : PySem.W.keepIn K (.ref f16) = true)
    (a17 : PySem.W.nsIn K mainGlobals "_law_plus" = some (some (.ref f17)))
    (l17 : K.lookup f17 = some ⟨oc17, od17, .func (PySem.W.fnOf "_law_plus" "_law_plus" (defArgs s__law_plus) (defBody s__law_plus) (defScope s__law_plus) .none kV17 dc17 pm17 an17 cd17 ct17), sl17⟩)
    (c17 : PySem.W.codeIn K cd17 "_law_plus" = true)
    (k17 : PySem.W.keepIn K (.ref f17) = true)
    (a18 : PySem.W.nsIn K mainGlobals "_law_times" = some (some (.ref f18)))
    (l18 : K.lookup f18 = some ⟨oc18, od18, .func (PySem.W.fnOf "_law_times" "_law_times" (defArgs s__law_times) (defBody s__law_times) (defScope s__law_times) .none kV18 dc18 pm18 an18 cd18 ct18), sl18⟩)
    (c18 : PySem.W.codeIn K cd18 "_law_times" = true)
    (k18 : PySem.W.keepIn K (.ref f18) = true)
    (a19 : PySem.W.nsIn K mainGlobals "_law_solved" = some (some (.ref f19)))
    (l19 : K.lookup f19 = some ⟨oc19, od19, .func (PySem.W.fnOf "_law_solved" "_law_solved" (defArgs s__law_solved) (defBody s__law_solved) (defScope s__law_solved) .none kV19 dc19 pm19 an19 cd19 ct19), sl19⟩)
    (c19 : PySem.W.codeIn K cd19 "_law_solved" = true)
    (k19 : PySem.W.keepIn K (.ref f19) = true)
    (a20 : PySem.W.nsIn K mainGlobals "_law_part" = some (some (.ref f20)))
    (l20 : K.lookup f20 = some ⟨oc20, od20, .func (PySem.W.fnOf "_law_part" "_law_part" (defArgs s__law_part) (defBody s__law_part) (defScope s__law_part) .none kV20 dc20 pm20 an20 cd20 ct20), sl20⟩)
    (c20 : PySem.W.codeIn K cd20 "_law_part" = true)
    (k20 : PySem.W.keepIn K (.ref f20) = true)
    (a21 : PySem.W.nsIn K mainGlobals "_law_point" = some (some (.ref f21)))
    (l21 : K.lookup f21 = some ⟨oc21, od21, .func (PySem.W.fnOf "_law_point" "_law_point" (defArgs s__law_point) (defBody s__law_point) (defScope s__law_point) .none kV21 dc21 pm21 an21 cd21 ct21), sl21⟩)
    (c21 : PySem.W.codeIn K cd21 "_law_point" = true)
    (k21 : PySem.W.keepIn K (.ref f21) = true)
    (a22 : PySem.W.nsIn K mainGlobals "_law_fractions" = some (some (.ref f22)))
    (l22 : K.lookup f22 = some ⟨oc22, od22, .func (PySem.W.fnOf "_law_fractions" "_law_fractions" (defArgs s__law_fractions) (defBody s__law_fractions) (defScope s__law_fractions) .none kV22 dc22 pm22 an22 cd22 ct22), sl22⟩)
    (c22 : PySem.W.codeIn K cd22 "_law_fractions" = true)
    (k22 : PySem.W.keepIn K (.ref f22) = true)
    (a23 : PySem.W.nsIn K mainGlobals "_law_led" = some (some (.ref f23)))
    (l23 : K.lookup f23 = some ⟨oc23, od23, .func (PySem.W.fnOf "_law_led" "_law_led" (defArgs s__law_led) (defBody s__law_led) (defScope s__law_led) .none kV23 dc23 pm23 an23 cd23 ct23), sl23⟩)
    (c23 : PySem.W.codeIn K cd23 "_law_led" = true)
    (k23 : PySem.W.keepIn K (.ref f23) = true)
    (a24 : PySem.W.nsIn K mainGlobals "_law_product" = some (some (.ref f24)))
    (l24 : K.lookup f24 = some ⟨oc24, od24, .func (PySem.W.fnOf "_law_product" "_law_product" (defArgs s__law_product) (defBody s__law_product) (defScope s__law_product) .none kV24 dc24 pm24 an24 cd24 ct24), sl24⟩)
    (c24 : PySem.W.codeIn K cd24 "_law_product" = true)
    (k24 : PySem.W.keepIn K (.ref f24) = true)
    (a25 : PySem.W.nsIn K mainGlobals "_law_is_small" = some (some (.ref f25)))
    (l25 : K.lookup f25 = some ⟨oc25, od25, .func (PySem.W.fnOf "_law_is_small" "_law_is_small" (defArgs s__law_is_small) (defBody s__law_is_small) (defScope s__law_is_small) .none kV25 dc25 pm25 an25 cd25 ct25), sl25⟩)
    (c25 : PySem.W.codeIn K cd25 "_law_is_small" = true)
    (k25 : PySem.W.keepIn K (.ref f25) = true)
    (a26 : PySem.W.nsIn K mainGlobals "_law_table" = some (some (.ref f26)))
    (l26 : K.lookup f26 = some ⟨oc26, od26, .func (PySem.W.fnOf "_law_table" "_law_table" (defArgs s__law_table) (defBody s__law_table) (defScope s__law_table) .none kV26 dc26 pm26 an26 cd26 ct26), sl26⟩)
    (c26 : PySem.W.codeIn K cd26 "_law_table" = true)
    (k26 : PySem.W.keepIn K (.ref f26) = true)
    (a27 : PySem.W.nsIn K mainGlobals "_law_drawn_point" = some (some (.ref f27)))
    (l27 : K.lookup f27 = some ⟨oc27, od27, .func (PySem.W.fnOf "_law_drawn_point" "_law_drawn_point" (defArgs s__law_drawn_point) (defBody s__law_drawn_point) (defScope s__law_drawn_point) .none kV27 dc27 pm27 an27 cd27 ct27), sl27⟩)
    (c27 : PySem.W.codeIn K cd27 "_law_drawn_point" = true)
    (k27 : PySem.W.keepIn K (.ref f27) = true)
    (a28 : PySem.W.nsIn K mainGlobals "point_of" = some (some (.ref f28)))
    (l28 : K.lookup f28 = some ⟨oc28, od28, .func (PySem.W.fnOf "point_of" "point_of" (defArgs s_point_of) (defBody s_point_of) (defScope s_point_of) .none kV28 dc28 pm28 an28 cd28 ct28), sl28⟩)
    (c28 : PySem.W.codeIn K cd28 "point_of" = true)
    (k28 : PySem.W.keepIn K (.ref f28) = true)
    (a29 : PySem.W.nsIn K mainGlobals "is_whole" = some (some (.ref f29)))
    (l29 : K.lookup f29 = some ⟨oc29, od29, .func (PySem.W.fnOf "is_whole" "is_whole" (defArgs s_is_whole) (defBody s_is_whole) (defScope s_is_whole) .none kV29 dc29 pm29 an29 cd29 ct29), sl29⟩)
    (c29 : PySem.W.codeIn K cd29 "is_whole" = true)
    (k29 : PySem.W.keepIn K (.ref f29) = true)
    (a30 : PySem.W.nsIn K mainGlobals "is_lot" = some (some (.ref f30)))
    (l30 : K.lookup f30 = some ⟨oc30, od30, .func (PySem.W.fnOf "is_lot" "is_lot" (defArgs s_is_lot) (defBody s_is_lot) (defScope s_is_lot) .none kV30 dc30 pm30 an30 cd30 ct30), sl30⟩)
    (c30 : PySem.W.codeIn K cd30 "is_lot" = true)
    (k30 : PySem.W.keepIn K (.ref f30) = true)
    (a31 : PySem.W.nsIn K mainGlobals "is_point" = some (some (.ref f31)))
    (l31 : K.lookup f31 = some ⟨oc31, od31, .func (PySem.W.fnOf "is_point" "is_point" (defArgs s_is_point) (defBody s_is_point) (defScope s_is_point) .none kV31 dc31 pm31 an31 cd31 ct31), sl31⟩)
    (c31 : PySem.W.codeIn K cd31 "is_point" = true)
    (k31 : PySem.W.keepIn K (.ref f31) = true)
    (a32 : PySem.W.nsIn K mainGlobals "points_added" = some (some (.ref f32)))
    (l32 : K.lookup f32 = some ⟨oc32, od32, .func (PySem.W.fnOf "points_added" "points_added" (defArgs s_points_added) (defBody s_points_added) (defScope s_points_added) .none kV32 dc32 pm32 an32 cd32 ct32), sl32⟩)
    (c32 : PySem.W.codeIn K cd32 "points_added" = true)
    (k32 : PySem.W.keepIn K (.ref f32) = true)
    (a33 : PySem.W.nsIn K mainGlobals "points_less" = some (some (.ref f33)))
    (l33 : K.lookup f33 = some ⟨oc33, od33, .func (PySem.W.fnOf "points_less" "points_less" (defArgs s_points_less) (defBody s_points_less) (defScope s_points_less) .none kV33 dc33 pm33 an33 cd33 ct33), sl33⟩)
    (c33 : PySem.W.codeIn K cd33 "points_less" = true)
    (k33 : PySem.W.keepIn K (.ref f33) = true)
    (a34 : PySem.W.nsIn K mainGlobals "point_parted" = some (some (.ref f34)))
    (l34 : K.lookup f34 = some ⟨oc34, od34, .func (PySem.W.fnOf "point_parted" "point_parted" (defArgs s_point_parted) (defBody s_point_parted) (defScope s_point_parted) .none kV34 dc34 pm34 an34 cd34 ct34), sl34⟩)
    (c34 : PySem.W.codeIn K cd34 "point_parted" = true)
    (k34 : PySem.W.keepIn K (.ref f34) = true)
    (a35 : PySem.W.nsIn K mainGlobals "points_sorted" = some (some (.ref f35)))
    (l35 : K.lookup f35 = some ⟨oc35, od35, .func (PySem.W.fnOf "points_sorted" "points_sorted" (defArgs s_points_sorted) (defBody s_points_sorted) (defScope s_points_sorted) .none kV35 dc35 pm35 an35 cd35 ct35), sl35⟩)
    (c35 : PySem.W.codeIn K cd35 "points_sorted" = true)
    (k35 : PySem.W.keepIn K (.ref f35) = true)
    (a36 : PySem.W.nsIn K mainGlobals "_law_is_pair" = some (some (.ref f36)))
    (l36 : K.lookup f36 = some ⟨oc36, od36, .func (PySem.W.fnOf "_law_is_pair" "_law_is_pair" (defArgs s__law_is_pair) (defBody s__law_is_pair) (defScope s__law_is_pair) .none kV36 dc36 pm36 an36 cd36 ct36), sl36⟩)
    (c36 : PySem.W.codeIn K cd36 "_law_is_pair" = true)
    (k36 : PySem.W.keepIn K (.ref f36) = true)
    (a37 : PySem.W.nsIn K mainGlobals "_law_is_point" = some (some (.ref f37)))
    (l37 : K.lookup f37 = some ⟨oc37, od37, .func (PySem.W.fnOf "_law_is_point" "_law_is_point" (defArgs s__law_is_point) (defBody s__law_is_point) (defScope s__law_is_point) .none kV37 dc37 pm37 an37 cd37 ct37), sl37⟩)
    (c37 : PySem.W.codeIn K cd37 "_law_is_point" = true)
    (k37 : PySem.W.keepIn K (.ref f37) = true)
    (a38 : PySem.W.nsIn K mainGlobals "_law_values" = some (some (.ref f38)))
    (l38 : K.lookup f38 = some ⟨oc38, od38, .func (PySem.W.fnOf "_law_values" "_law_values" (defArgs s__law_values) (defBody s__law_values) (defScope s__law_values) .none kV38 dc38 pm38 an38 cd38 ct38), sl38⟩)
    (c38 : PySem.W.codeIn K cd38 "_law_values" = true)
    (k38 : PySem.W.keepIn K (.ref f38) = true)
    (a39 : PySem.W.nsIn K mainGlobals "_law_points_right" = some (some (.ref f39)))
    (l39 : K.lookup f39 = some ⟨oc39, od39, .func (PySem.W.fnOf "_law_points_right" "_law_points_right" (defArgs s__law_points_right) (defBody s__law_points_right) (defScope s__law_points_right) .none kV39 dc39 pm39 an39 cd39 ct39), sl39⟩)
    (c39 : PySem.W.codeIn K cd39 "_law_points_right" = true)
    (k39 : PySem.W.keepIn K (.ref f39) = true)
    (a40 : PySem.W.nsIn K mainGlobals "law" = some (some (.ref f40)))
    (l40 : K.lookup f40 = some ⟨oc40, od40, .func (PySem.W.fnOf "law" "law" (defArgs s_law) (defBody s_law) (defScope s_law) .none kV40 dc40 pm40 an40 cd40 ct40), sl40⟩)
    (c40 : PySem.W.codeIn K cd40 "law" = true)
    (k40 : PySem.W.keepIn K (.ref f40) = true)
    (z_abs : PySem.W.nsIn K mainGlobals "abs" = some none)
    (z_range : PySem.W.nsIn K mainGlobals "range" = some none)
    (z_int : PySem.W.nsIn K mainGlobals "int" = some none)
    (z_len : PySem.W.nsIn K mainGlobals "len" = some none)
    (z_max : PySem.W.nsIn K mainGlobals "max" = some none)
    (z_tuple : PySem.W.nsIn K mainGlobals "tuple" = some none)
    (z_isinstance : PySem.W.nsIn K mainGlobals "isinstance" = some none)
    (z_bool : PySem.W.nsIn K mainGlobals "bool" = some none)
    (z_all : PySem.W.nsIn K mainGlobals "all" = some none)
    (z_sorted : PySem.W.nsIn K mainGlobals "sorted" = some none)
    (z_dict : PySem.W.nsIn K mainGlobals "dict" = some none)
    (z_repr : PySem.W.nsIn K mainGlobals "repr" = some none)
    (z_zip : PySem.W.nsIn K mainGlobals "zip" = some none)
    (m_gcd : PySem.W.nsIn K mainGlobals "gcd" = some (some (.builtin "math.gcd")))
    (holds : ∀ ns : List Int, ns.length ≤ 63 → m_law ns = .ok (.bool true)) :
    ∃ fd : FuncData, (∀ (s : Shared) (v : Value), BindsTo s fd ⟨[v], []⟩ [("script", v)]) ∧ ∀ base : Heap, K.In base → base.Ns mainGlobals mg → FnG l.prog w K mg base CX0 6 fa fd ["script"] (spLaw K) := by
  have e := hfa.symm.trans (PySem.W.mg_of X G a40)
  cases e
  have T : Txt K mg := {
    d_lots_added := At.mk X G a0 l0 c0 k0 fun _ _ _ _ _ _ us hl => match us, hl with | [_, _], _ => rfl
    d_lots_less := At.mk X G a1 l1 c1 k1 fun _ _ _ _ _ _ us hl => match us, hl with | [_, _], _ => rfl
    d_table_det := At.mk X G a2 l2 c2 k2 fun _ _ _ _ _ _ us hl => match us, hl with | [_], _ => rfl
    d_table_trace := At.mk X G a3 l3 c3 k3 fun _ _ _ _ _ _ us hl => match us, hl with | [_], _ => rfl
    d_does_grow := At.mk X G a4 l4 c4 k4 fun _ _ _ _ _ _ us hl => match us, hl with | [_], _ => rfl
    d_table_other := At.mk X G a5 l5 c5 k5 fun _ _ _ _ _ _ us hl => match us, hl with | [_], _ => rfl
    d_lot_led := At.mk X G a6 l6 c6 k6 fun _ _ _ _ _ _ us hl => match us, hl with | [_, _], _ => rfl
    d_table_behind := At.mk X G a7 l7 c7 k7 fun _ _ _ _ _ _ us hl => match us, hl with | [_, _], _ => rfl
    d_table_taken := At.mk X G a8 l8 c8 k8 fun _ _ _ _ _ _ us hl => match us, hl with | [_, _], _ => rfl
    d_lot_undone := At.mk X G a9 l9 c9 k9 fun _ _ _ _ _ _ us hl => match us, hl with | [_, _], _ => rfl
    d_point_low := At.mk X G a10 l10 c10 k10 fun _ _ _ _ _ _ us hl => match us, hl with | [_, _], _ => rfl
    d_point_led := At.mk X G a11 l11 c11 k11 fun _ _ _ _ _ _ us hl => match us, hl with | [_, _], _ => rfl
    d_point_undone := At.mk X G a12 l12 c12 k12 fun _ _ _ _ _ _ us hl => match us, hl with | [_, _], _ => rfl
    d__law_source := At.mk X G a13 l13 c13 k13 fun _ _ _ _ _ _ us hl => match us, hl with | [_], _ => rfl
    d__law_pick := At.mk X G a14 l14 c14 k14 fun _ _ _ _ _ _ us hl => match us, hl with | [_, _], _ => rfl
    d__law_of := At.mk X G a15 l15 c15 k15 fun _ _ _ _ _ _ us hl => match us, hl with | [_, _], _ => rfl
    d__law_low := At.mk X G a16 l16 c16 k16 fun _ _ _ _ _ _ us hl => match us, hl with | [_, _], _ => rfl
    d__law_plus := At.mk X G a17 l17 c17 k17 fun _ _ _ _ _ _ us hl => match us, hl with | [_, _], _ => rfl
    d__law_times := At.mk X G a18 l18 c18 k18 fun _ _ _ _ _ _ us hl => match us, hl with | [_, _], _ => rfl
    d__law_solved := At.mk X G a19 l19 c19 k19 fun _ _ _ _ _ _ us hl => match us, hl with | [_, _, _], _ => rfl
    d__law_part := At.mk X G a20 l20 c20 k20 fun _ _ _ _ _ _ us hl => match us, hl with | [_, _], _ => rfl
    d__law_point := At.mk X G a21 l21 c21 k21 fun _ _ _ _ _ _ us hl => match us, hl with | [_, _], _ => rfl
    d__law_fractions := At.mk X G a22 l22 c22 k22 fun _ _ _ _ _ _ us hl => match us, hl with | [_], _ => rfl
    d__law_led := At.mk X G a23 l23 c23 k23 fun _ _ _ _ _ _ us hl => match us, hl with | [_, _, _], _ => rfl
    d__law_product := At.mk X G a24 l24 c24 k24 fun _ _ _ _ _ _ us hl => match us, hl with | [_, _], _ => rfl
    d__law_is_small := At.mk X G a25 l25 c25 k25 fun _ _ _ _ _ _ us hl => match us, hl with | [_], _ => rfl
    d__law_table := At.mk X G a26 l26 c26 k26 fun _ _ _ _ _ _ us hl => match us, hl with | [_, _], _ => rfl
    d__law_drawn_point := At.mk X G a27 l27 c27 k27 fun _ _ _ _ _ _ us hl => match us, hl with | [_], _ => rfl
    d_point_of := At.mk X G a28 l28 c28 k28 fun _ _ _ _ _ _ us hl => match us, hl with | [_], _ => rfl
    d_is_whole := At.mk X G a29 l29 c29 k29 fun _ _ _ _ _ _ us hl => match us, hl with | [_], _ => rfl
    d_is_lot := At.mk X G a30 l30 c30 k30 fun _ _ _ _ _ _ us hl => match us, hl with | [_], _ => rfl
    d_is_point := At.mk X G a31 l31 c31 k31 fun _ _ _ _ _ _ us hl => match us, hl with | [_], _ => rfl
    d_points_added := At.mk X G a32 l32 c32 k32 fun _ _ _ _ _ _ us hl => match us, hl with | [_, _], _ => rfl
    d_points_less := At.mk X G a33 l33 c33 k33 fun _ _ _ _ _ _ us hl => match us, hl with | [_, _], _ => rfl
    d_point_parted := At.mk X G a34 l34 c34 k34 fun _ _ _ _ _ _ us hl => match us, hl with | [_], _ => rfl
    d_points_sorted := At.mk X G a35 l35 c35 k35 fun _ _ _ _ _ _ us hl => match us, hl with | [_], _ => rfl
    d__law_is_pair := At.mk X G a36 l36 c36 k36 fun _ _ _ _ _ _ us hl => match us, hl with | [_], _ => rfl
    d__law_is_point := At.mk X G a37 l37 c37 k37 fun _ _ _ _ _ _ us hl => match us, hl with | [_], _ => rfl
    d__law_values := At.mk X G a38 l38 c38 k38 fun _ _ _ _ _ _ us hl => match us, hl with | [_, _], _ => rfl
    d__law_points_right := At.mk X G a39 l39 c39 k39 fun _ _ _ _ _ _ us hl => match us, hl with | [_], _ => rfl
    z_abs := PySem.W.mg_none_of X G z_abs
    z_range := PySem.W.mg_none_of X G z_range
    z_int := PySem.W.mg_none_of X G z_int
    z_len := PySem.W.mg_none_of X G z_len
    z_max := PySem.W.mg_none_of X G z_max
    z_tuple := PySem.W.mg_none_of X G z_tuple
    z_isinstance := PySem.W.mg_none_of X G z_isinstance
    z_bool := PySem.W.mg_none_of X G z_bool
    z_all := PySem.W.mg_none_of X G z_all
    z_sorted := PySem.W.mg_none_of X G z_sorted
    z_dict := PySem.W.mg_none_of X G z_dict
    z_repr := PySem.W.mg_none_of X G z_repr
    z_zip := PySem.W.mg_none_of X G z_zip
    m_gcd := PySem.W.mg_of X G m_gcd
  }
  exact ⟨PySem.W.fnOf "law" "law" (defArgs s_law) (defBody s_law) (defScope s_law) .none kV40 dc40 pm40 an40 cd40 ct40, fun s v => .of_eq rfl, fun base _ _ =>
    fnLaw_of (fun_mk (st := s_law) l40 c40 k40) sc_law rfl (fun ns => p_law T ns) holds⟩

end K07

set_option autoImplicit false
set_option maxRecDepth 100000
set_option exponentiation.threshold 5000
namespace K07
open PySem L2 Z
/-- the cells are asked while they tell nothing -/
theorem pick_while (many : Int) {f : Src → R (Wl Src)} (hf : ∀ s1, f s1 = (
    ((gtD (.int many) (PyData.int 1)).bind fun z4 =>
    if z4 = true then
    (ltD (PyData.int s1.left) (PyData.int 2)).bind fun z5 =>
    if z5 = true then
    (gtD (PyData.int s1.cells.length) (PyData.int 0)).bind fun z6 =>
    R.ok z6
    else
    R.ok false
    else
    R.ok false : R Bool).bind fun t7 =>
    if t7 = true then
    (popC s1.cells).bind fun (z8, c9) =>
    (toI (PyData.int z8)).bind fun n10 =>
    R.ok (.go { { s1 with cells := c9 } with left := n10 })
    else
    R.ok (.done s1))) : ∀ (k : Nat) (s : Src), s.cells.length ≤ k → ∃ s', whileT (k + 1) s f = .ok (.nx s') ∧ s'.turn = s.turn := by
  intro k
  induction k with
  | zero =>
    intro s hs
    have h0 : s.cells = [] := List.eq_nil_of_length_eq_zero (Nat.le_zero.mp hs)
    refine ⟨s, ?_, rfl⟩
    simp only [whileT, hf, gt_i, lt_i, R.bind_ok, h0]
    by_cases c1 : 1 < many <;> by_cases c2 : s.left < 2 <;> simp [c1, c2, R.bind_ok]
  | succ k ih =>
    intro s hs
    rw [whileT, hf]
    simp only [gt_i, lt_i, R.bind_ok]
    by_cases c : 1 < many ∧ s.left < 2 ∧ 0 < s.cells.length
    · obtain ⟨c1, c2, c3⟩ := c
      have c3' : (0 : Int) < (s.cells.length : Int) := by omega
      cases hl : s.cells.getLast? with
      | none => rw [List.getLast?_eq_none_iff] at hl; rw [hl] at c3; simp at c3
      | some t =>
        obtain ⟨s', e, ht⟩ := ih { s with cells := s.cells.dropLast, left := t } (by simp [List.length_dropLast]; omega)
        refine ⟨s', ?_, ht⟩
        simp only [decide_eq_true c1, decide_eq_true c2, decide_eq_true c3', if_true, R.bind_ok, popC, hl, toI_i]
        exact e
    · refine ⟨s, ?_, rfl⟩
      by_cases c1 : 1 < many <;> by_cases c2 : s.left < 2 <;> by_cases c3 : 0 < s.cells.length
      · exact absurd ⟨c1, c2, c3⟩ c
      all_goals (have c3' : (0 : Int) < (s.cells.length : Int) ↔ 0 < s.cells.length := by omega); simp [c1, c2, c3, c3', R.bind_ok]
theorem pick_ok {n : Nat} {s : Src} {many : Int} (h : Ok (n + 1) s) (h1 : 1 ≤ many) (h2 : many < 2 ^ 100) : ∃ (r : Nat) (s' : Src), m__law_pick s (.int many) = .ok (.int (r : Int), s') ∧ (r : Int) < many ∧ Ok n s' := by
  unfold m__law_pick
  obtain ⟨s2, e, ht⟩ := pick_while many (fun _ => rfl) s.cells.length s (Nat.le_refl _)
  obtain ⟨h3, h4⟩ := h
  rw [e]
  simp only [R.bind_ok, lt_i, gt_i]
  have nat : ∀ {i : Int}, 0 ≤ i → i < many → ∃ r : Nat, i = (r : Int) ∧ (r : Int) < many := fun {i} a b => ⟨i.toNat, by omega, by omega⟩
  by_cases c : many < 2 ∨ 1 < s2.left
  · have ec : ((if decide (many < 2) = true then R.ok true else (R.ok (decide (1 < s2.left)))) : R Bool) = .ok true := by
      by_cases c1 : many < 2
      · simp [c1]
      · simp [c1, c.resolve_left c1]
    have hm : max 1 many = many := by omega
    have hn : many ≠ 0 := by omega
    have hb : bigD many = true := bigD_of (k := 100) (by omega) (by decide)
    rw [ec]
    simp only [R.bind_ok, if_true, max2_i, hm, fdiv_i hn hb, fmod_i hn, int_i, toI_i]
    obtain ⟨r, e1, e2⟩ := nat (Int.fmod_nonneg_of_pos s2.left (by omega : 0 < many)) (Int.fmod_lt_of_pos s2.left (by omega : 0 < many))
    exact ⟨r, _, by rw [e1], e2, by show 0 ≤ s2.turn; omega, by show s2.turn + _ ≤ _; omega⟩
  · have c1 : ¬ many < 2 := fun q => c (.inl q)
    have c2 : ¬ 1 < s2.left := fun q => c (.inr q)
    have hn : many ≠ 0 := by omega
    have lt : ∀ {i : Int}, 0 ≤ i → i ≤ 2 ^ 100 → Sz i := fun {i} a b => Sz.of (k := 101) (by omega) (by decide)
    have s1 : Sz (s2.turn + 1) := lt (by omega) (by omega)
    have s3 : Sz 104729 := lt (by decide) (by decide)
    have s4 : Sz 17 := lt (by decide) (by decide)
    have f1 : ∀ x : Int, 0 ≤ x.fmod 998244353 := fun x => Int.fmod_nonneg_of_pos x (by decide)
    have f2 : ∀ x : Int, x.fmod 998244353 < 998244353 := fun x => Int.fmod_lt_of_pos x (by decide)
    have s5 : ∀ x : Int, Sz (x.fmod 998244353) := fun x => lt (f1 x) (by have := f2 x; omega)
    have hb : bigD 16 = true := by decide
    simp only [decide_eq_false c1, decide_eq_false c2, R.bind_ok, if_false, Bool.false_eq_true, add_i, toI_i, mul_i s1 s3, mul_i s1 s4, int_i, fmod_i (by decide : (998244353 : Int) ≠ 0), fmod_i (by decide : (2147483647 : Int) ≠ 0), mul_i (s5 _) (s5 _), fdiv_i (by decide : (16 : Int) ≠ 0) hb, fmod_i hn]
    obtain ⟨r, e1, e2⟩ := nat (Int.fmod_nonneg_of_pos _ (by omega : 0 < many)) (Int.fmod_lt_of_pos _ (by omega : 0 < many))
    exact ⟨r, _, by rw [← e1], e2, by show 0 ≤ s2.turn + 1; omega, by show s2.turn + 1 + _ ≤ _; omega⟩
end K07
namespace K07
open PySem L2 Z
theorem source_ok (ns : List Int) (hl : ns.length ≤ 63) : ∃ s, m__law_source ns = .ok s ∧ Ok 1000000000 s := by
  unfold m__law_source
  obtain ⟨mx, e1, n, hn⟩ := forS_inv (xs := ns.map PyData.int) (st := PyData.int 11) (f := fun x1 s2 => (mul s2 (PyData.int 69069)).bind fun z4 => (mul x1 (PyData.int 31)).bind fun z5 => (add z4 z5).bind fun z6 => (add z6 (PyData.int 5)).bind fun z7 => (intD z7).bind fun z8 => (fmod z8 (PyData.int 2147483629)).bind fun z9 => R.ok z9)
    (fun _ s => ∃ n : Int, s = .int n) ⟨11, rfl⟩ (fun ys x s ⟨zs, e⟩ ⟨n, en⟩ => by
      have hx : x ∈ ns.map PyData.int := by rw [e]; simp
      obtain ⟨c, _, rfl⟩ := List.mem_map.mp hx
      subst en
      exact ⟨_, by simp only [mul_r (by decide : ((69069 : Int)).natAbs < 2 ^ 64), mul_r (by decide : ((31 : Int)).natAbs < 2 ^ 64), add_i, int_i, fmod_i (by decide : (2147483629 : Int) ≠ 0), R.bind_ok]; rfl, _, rfl⟩)
  subst hn
  rw [e1]
  simp only [R.bind_ok]
  rw [compL_all (h := fun n => PyData.int (n.natAbs : Int)) (by omega) fun x _ => by rw [abs_i]; rfl]
  simp only [R.bind_ok, revL]
  have e2 : ((ns.map fun n => PyData.int (n.natAbs : Int)).reverse : List D) = (ns.map fun n => (n.natAbs : Int)).reverse.map PyData.int := by rw [List.map_reverse, List.map_map]; rfl
  rw [e2]
  unfold mkSrc
  rw [intsD_map]
  simp only [toI_i, R.bind_ok]
  rw [if_pos (by simpa using hl)]
  exact ⟨_, rfl, by show (0 : Int) ≤ 0; decide, by show (0 : Int) + _ ≤ _; decide⟩
end K07

set_option autoImplicit false
set_option linter.all false
set_option maxRecDepth 100000
set_option exponentiation.threshold 5000
namespace K07
open PySem L2 Z
theorem bok {α β : Type} {m : R α} {f : α → R β} {a : α} {r : R β} (h : m = .ok a) (k : f a = r) : m.bind f = r := by rw [h]; exact k
theorem bokF {β : Type} {m : R Bool} {f g : R β} {r : R β} (h : m = .ok false) (k : g = r) : (m.bind fun t => if t = true then f else g) = r := by
  rw [h]; exact k
theorem bokT {β : Type} {m : R Bool} {f g : R β} {r : R β} (h : m = .ok true) (k : f = r) : (m.bind fun t => if t = true then f else g) = r := by
  rw [h]; exact k
structure Pt (x y c X Y C : Int) : Prop where
  low : IsLow x y c X Y C
  bx : X.natAbs ≤ x.natAbs
  by' : Y.natAbs ≤ y.natAbs
  bc : C.natAbs ≤ c.natAbs
theorem Pt.of {x y c : Int} (hc : c ≠ 0) (g : Int) (hg : g.natAbs = Nat.gcd (Nat.gcd x.natAbs y.natAbs) c.natAbs) (hs : 0 < g * c) : Pt x y c (x / g) (y / g) (c / g) ∧ x.fdiv g = x / g ∧ y.fdiv g = y / g ∧ c.fdiv g = c / g := by
  obtain ⟨h, r⟩ := IsLow.of hc g hg hs
  exact ⟨⟨h, Int.natAbs_ediv_le_natAbs _ _, Int.natAbs_ediv_le_natAbs _ _, Int.natAbs_ediv_le_natAbs _ _⟩, r⟩
theorem low_ok {x y c : Int} (hc : c ≠ 0) (hb : c.natAbs < 2 ^ 200) : ∃ X Y C, m_point_low (lotD (x, y)) (.int c) = .ok (pointD ((X, Y), C)) ∧ Pt x y c X Y C := by
  unfold m_point_low lotD
  have gpos : 0 < Nat.gcd (Nat.gcd x.natAbs y.natAbs) c.natAbs := Nat.gcd_pos_of_pos_right _ (by omega)
  have gle : Nat.gcd (Nat.gcd x.natAbs y.natAbs) c.natAbs ≤ c.natAbs := Nat.gcd_le_right _ (by omega)
  have bd : ∀ g : Int, g.natAbs = Nat.gcd (Nat.gcd x.natAbs y.natAbs) c.natAbs → bigD g = true := fun g e => bigD_of (k := 200) (by omega) (by decide)
  have ge : Nat.gcd (Nat.gcd x.natAbs y.natAbs) c.natAbs = Nat.gcd ((Nat.gcd x.natAbs y.natAbs : Nat) : Int).natAbs c.natAbs := rfl
  simp only [item0, item1, R.bind_ok, gcd_i, gt_i]
  by_cases h : 0 < c
  · have hg : ((Nat.gcd ((Nat.gcd x.natAbs y.natAbs : Nat) : Int).natAbs c.natAbs : Nat) : Int).natAbs = Nat.gcd (Nat.gcd x.natAbs y.natAbs) c.natAbs := rfl
    have g0 : ((Nat.gcd ((Nat.gcd x.natAbs y.natAbs : Nat) : Int).natAbs c.natAbs : Nat) : Int) ≠ 0 := by rw [← ge]; omega
    obtain ⟨p, e1, e2, e3⟩ := Pt.of (x := x) (y := y) hc _ hg (Int.mul_pos (by rw [← ge]; omega) h)
    simp only [decide_eq_true h, if_true, R.bind_ok, fdiv_i g0 (bd _ hg)]
    exact ⟨_, _, _, by rw [e1, e2, e3]; rfl, p⟩
  · have hg : (-((Nat.gcd ((Nat.gcd x.natAbs y.natAbs : Nat) : Int).natAbs c.natAbs : Nat) : Int)).natAbs = Nat.gcd (Nat.gcd x.natAbs y.natAbs) c.natAbs := by rw [Int.natAbs_neg]; rfl
    have g0 : (-((Nat.gcd ((Nat.gcd x.natAbs y.natAbs : Nat) : Int).natAbs c.natAbs : Nat) : Int)) ≠ 0 := by rw [← ge]; omega
    obtain ⟨p, e1, e2, e3⟩ := Pt.of (x := x) (y := y) hc _ hg (Int.mul_pos_of_neg_of_neg (by rw [← ge]; omega) (by omega))
    simp only [decide_eq_false h, if_false, Bool.false_eq_true, neg_i, R.bind_ok, fdiv_i g0 (bd _ hg)]
    exact ⟨_, _, _, by rw [e1, e2, e3]; rfl, p⟩
/-- Euclid's laps -/
theorem euclid_run {f : D × D → R (Wl (D × D))} (hf : ∀ s, f s = ((gtD s.2 (PyData.int 0)).bind fun z11 => if z11 = true then (intD s.1).bind fun z12 => (fmod z12 s.2).bind fun z13 => R.ok (.go (s.2, z13)) else R.ok (.done (s.1, s.2)))) :
    ∀ (k : Nat) (a b n : Nat), b < 2 ^ k → 2 * k + 1 ≤ n → whileT n (PyData.int (a : Int), PyData.int (b : Int)) f = .ok (.nx (PyData.int ((Nat.gcd a b : Nat) : Int), PyData.int 0)) := by
  have stop : ∀ (a n : Nat), 1 ≤ n → whileT n (PyData.int (a : Int), PyData.int ((0 : Nat) : Int)) f = .ok (.nx (PyData.int ((Nat.gcd a 0 : Nat) : Int), PyData.int 0)) := fun a n h => by
    obtain ⟨m, rfl⟩ : ∃ m, n = m + 1 := ⟨n - 1, by omega⟩
    rw [whileT, hf, Nat.gcd_zero_right]; rfl
  have step : ∀ (a b n : Nat), 0 < b → whileT (n + 1) (PyData.int (a : Int), PyData.int (b : Int)) f = whileT n (PyData.int (b : Int), PyData.int ((a % b : Nat) : Int)) f := fun a b n h => by
    have e : f (PyData.int (a : Int), PyData.int (b : Int)) = .ok (.go (PyData.int (b : Int), PyData.int ((a % b : Nat) : Int))) := by
      rw [hf]
      have hb : (b : Int) ≠ 0 := by omega
      refine bokT (by rw [gt_i, decide_eq_true (by omega)]) <| bok (int_i _) <| bok (fmod_i hb) ?_
      rw [Int.fmod_eq_emod_of_nonneg _ (by omega), Int.natCast_emod]
    rw [whileT, e]; rfl
  intro k
  induction k with
  | zero =>
    intro a b n hb hn
    have : b = 0 := by simpa using hb
    subst this
    exact stop a n (by omega)
  | succ k ih =>
    intro a b n hb hn
    by_cases h0 : b = 0
    · subst h0; exact stop a n (by omega)
    · obtain ⟨m, rfl⟩ : ∃ m, n = m + 1 := ⟨n - 1, by omega⟩
      rw [step a b m (by omega)]
      have hr : a % b < b := Nat.mod_lt _ (by omega)
      have g1 : Nat.gcd a b = Nat.gcd b (a % b) := by rw [Nat.gcd_comm a b, Nat.gcd_rec, Nat.gcd_comm]
      rw [g1]
      by_cases h1 : a % b < 2 ^ k
      · exact ih b (a % b) m h1 (by omega)
      · generalize a % b = r at *
        have r0 : 0 < r := by have := Nat.two_pow_pos k; omega
        obtain ⟨m', rfl⟩ : ∃ m', m = m' + 1 := ⟨m - 1, by omega⟩
        rw [step b r m' r0]
        have g2 : Nat.gcd b r = Nat.gcd r (b % r) := by rw [Nat.gcd_comm b r, Nat.gcd_rec, Nat.gcd_comm]
        rw [g2]
        have p2 : (2 : Nat) ^ (k + 1) = 2 * 2 ^ k := by rw [Nat.pow_succ]; omega
        have e2 : b % r = b - r := by
          rw [Nat.mod_eq_sub_mod (by omega), Nat.mod_eq_of_lt (by omega)]
        exact ih r (b % r) m' (by rw [e2]; omega) (by omega)

/-- P/Q is p/q in least terms -/
structure Lo (p q P Q : Int) : Prop where
  pos : 0 < Q
  co : Nat.gcd P.natAbs Q.natAbs = 1
  ex : P * q = p * Q
  bp : P.natAbs ≤ p.natAbs
  bq : Q.natAbs ≤ q.natAbs
theorem euc {f : D × D → R (Wl (D × D))} (hf : ∀ s, f s = ((gtD s.2 (PyData.int 0)).bind fun z11 => if z11 = true then (intD s.1).bind fun z12 => (fmod z12 s.2).bind fun z13 => R.ok (.go (s.2, z13)) else R.ok (.done (s.1, s.2)))) {k : Fl (D × D) → R D} {a b : Nat} {r : R D} (h : b < 2 ^ 200) (hk : k (.nx (PyData.int ((Nat.gcd a b : Nat) : Int), PyData.int 0)) = r) :
    (whileT 100000 (PyData.int (a : Int), PyData.int (b : Int)) f).bind k = r := by rw [euclid_run hf 200 a b 100000 h (by decide)]; exact hk
theorem lo_of {p q : Int} (hq : q ≠ 0) (g : Int) (hg : g.natAbs = Nat.gcd p.natAbs q.natAbs) (hs : 0 < g * q) : Lo p q (p / g) (q / g) ∧ p.fdiv g = p / g ∧ q.fdiv g = q / g := by
  obtain ⟨h, e1, _, e3⟩ := Pt.of (x := p) (y := 0) hq g (by rw [hg]; simp) hs
  have l := h.low
  refine ⟨⟨l.pos, ?_, l.ex, h.bx, h.bc⟩, e1, e3⟩
  have := l.co
  simpa using this
theorem flow_ok {p q : Int} (hq : q ≠ 0) (hb : q.natAbs < 2 ^ 200) : ∃ P Q, m__law_low (.int p) (.int q) = .ok (lotD (P, Q)) ∧ Lo p q P Q := by
  have gpos : 0 < Nat.gcd p.natAbs q.natAbs := Nat.gcd_pos_of_pos_right _ (by omega)
  have gle : Nat.gcd p.natAbs q.natAbs ≤ q.natAbs := Nat.gcd_le_right _ (by omega)
  have ea : ∀ i : Int, absD (.int i) = .ok (.int (i.natAbs : Int)) := abs_i
  by_cases h : 0 < q
  · obtain ⟨l, q1, q2⟩ := lo_of (p := p) hq ((Nat.gcd p.natAbs q.natAbs : Nat) : Int) rfl (Int.mul_pos (by omega) h)
    refine ⟨_, _, ?_, l⟩
    unfold m__law_low
    have g0 : ((Nat.gcd p.natAbs q.natAbs : Nat) : Int) ≠ 0 := by omega
    have gb : bigD ((Nat.gcd p.natAbs q.natAbs : Nat) : Int) = true := bigD_of (k := 200) (by omega) (by decide)
    refine bok (ea p) <| bok (ea q) <| euc (fun _ => rfl) hb <| bok (a := .int ((Nat.gcd p.natAbs q.natAbs : Nat) : Int)) (bokT (by rw [gt_i, decide_eq_true h]) rfl) <| bok (fdiv_i g0 gb) <| bok (fdiv_i g0 gb) ?_
    rw [q1, q2]; rfl
  · have hg' : (-((Nat.gcd p.natAbs q.natAbs : Nat) : Int)).natAbs = Nat.gcd p.natAbs q.natAbs := by omega
    obtain ⟨l, q1, q2⟩ := lo_of (p := p) hq (-((Nat.gcd p.natAbs q.natAbs : Nat) : Int)) hg' (Int.mul_pos_of_neg_of_neg (by omega) (by omega))
    refine ⟨_, _, ?_, l⟩
    unfold m__law_low
    have g0 : (-((Nat.gcd p.natAbs q.natAbs : Nat) : Int)) ≠ 0 := by omega
    have gb : bigD (-((Nat.gcd p.natAbs q.natAbs : Nat) : Int)) = true := bigD_of (k := 200) (by omega) (by decide)
    have sn : sub (PyData.int 0) (.int ((Nat.gcd p.natAbs q.natAbs : Nat) : Int)) = .ok (.int (-((Nat.gcd p.natAbs q.natAbs : Nat) : Int))) := by rw [sub_i]; congr 2; omega
    refine bok (ea p) <| bok (ea q) <| euc (fun _ => rfl) hb <| bok (a := .int (-((Nat.gcd p.natAbs q.natAbs : Nat) : Int))) (bokF (by rw [gt_i, decide_eq_false h]) <| bok sn rfl) <| bok (fdiv_i g0 gb) <| bok (fdiv_i g0 gb) ?_
    rw [q1, q2]; rfl
/-- a fraction in least terms that is u over v, of so many bits -/
structure Fq (f : Vc) (u v : Int) (n : Nat) : Prop where
  pos : 0 < f.2
  co : Nat.gcd f.1.natAbs f.2.natAbs = 1
  eq : f.1 * v = u * f.2
  b1 : f.1.natAbs < 2 ^ n
  b2 : f.2.natAbs < 2 ^ n
theorem Fq.to {f : Vc} {u v u' v' : Int} {n : Nat} (h : Fq f u v n) (hv : v ≠ 0) (e : u * v' = u' * v) : Fq f u' v' n :=
  ⟨h.pos, h.co, by
    refine Int.eq_of_mul_eq_mul_right hv ?_
    have := h.eq
    grind, h.b1, h.b2⟩
theorem Fq.mono {f : Vc} {u v : Int} {n m : Nat} (h : Fq f u v n) (k : n ≤ m) : Fq f u v m :=
  have e : 2 ^ n ≤ 2 ^ m := Nat.pow_le_pow_right (by decide) k
  ⟨h.pos, h.co, h.eq, Nat.lt_of_lt_of_le h.b1 e, Nat.lt_of_lt_of_le h.b2 e⟩
theorem szb {i : Int} {n : Nat} (h : i.natAbs < 2 ^ n) (hn : n ≤ 400000 := by decide) : Sz i := Sz.of h hn
theorem bmul {a b : Int} {n m : Nat} (ha : a.natAbs < 2 ^ n) (hb : b.natAbs < 2 ^ m) : (a * b).natAbs < 2 ^ (n + m) := by
  rw [Int.natAbs_mul, Nat.pow_add]
  exact Nat.mul_lt_mul'' ha hb
/-- a pair that is u over v -/
structure Ap (f : Vc) (u v : Int) (n : Nat) : Prop where
  nz : f.2 ≠ 0
  eq : f.1 * v = u * f.2
  b1 : f.1.natAbs < 2 ^ n
  b2 : f.2.natAbs < 2 ^ n
theorem Fq.ap {f : Vc} {u v : Int} {n : Nat} (h : Fq f u v n) : Ap f u v n := ⟨by have := h.pos; omega, h.eq, h.b1, h.b2⟩
theorem Ap.of {p q : Int} {n : Nat} (hq : q ≠ 0) (h1 : p.natAbs < 2 ^ n) (h2 : q.natAbs < 2 ^ n) : Ap (p, q) p q n := ⟨hq, rfl, h1, h2⟩
theorem plus_ok {f g : Vc} {u v s t : Int} {n m : Nat} (hf : Ap f u v n) (hg : Ap g s t m) (hv : v ≠ 0) (ht : t ≠ 0) (hn : n + m + 1 ≤ 200) : ∃ r : Vc, m__law_plus (lotD f) (lotD g) = .ok (lotD r) ∧ Fq r (u * t + s * v) (v * t) (n + m + 1) := by
  have p1 := bmul hf.b1 hg.b2
  have p2 := bmul hg.b1 hf.b2
  have p3 := bmul hf.b2 hg.b2
  have up : 2 ^ (n + m + 1) = 2 * 2 ^ (n + m) := by rw [Nat.pow_succ]; omega
  have cm : m + n = n + m := Nat.add_comm _ _
  rw [cm] at p2
  have q0 : f.2 * g.2 ≠ 0 := Int.mul_ne_zero hf.nz hg.nz
  have le : 2 ^ (n + m) ≤ 2 ^ 200 := Nat.pow_le_pow_right (by decide) (by omega)
  obtain ⟨P, Q, e, l⟩ := flow_ok (p := f.1 * g.2 + g.1 * f.2) q0 (by omega)
  refine ⟨(P, Q), ?_, l.pos, l.co, ?_, ?_, ?_⟩
  · unfold m__law_plus
    exact bok (item0 _ _) <| bok (item1 _ _ _) <| bok (mul_i (szb hf.b1 (by omega)) (szb hg.b2 (by omega))) <| bok (item0 _ _) <| bok (item1 _ _ _) <| bok (mul_i (szb hg.b1 (by omega)) (szb hf.b2 (by omega))) <| bok (add_i _ _) <| bok (item1 _ _ _) <| bok (item1 _ _ _) <| bok (mul_i (szb hf.b2 (by omega)) (szb hg.b2 (by omega))) <| bok e rfl
  · show P * (v * t) = (u * t + s * v) * Q
    refine Int.eq_of_mul_eq_mul_right q0 ?_
    have e1 := hf.eq
    have e2 := hg.eq
    have e3 := l.ex
    grind
  · have := l.bp
    have := Int.natAbs_add_le (f.1 * g.2) (g.1 * f.2)
    show P.natAbs < _
    omega
  · have := l.bq
    show Q.natAbs < _
    omega
theorem times_ok {f g : Vc} {u v s t : Int} {n m : Nat} (hf : Ap f u v n) (hg : Ap g s t m) (hn : n + m ≤ 200) : ∃ r : Vc, m__law_times (lotD f) (lotD g) = .ok (lotD r) ∧ Fq r (u * s) (v * t) (n + m) := by
  have p1 := bmul hf.b1 hg.b1
  have p3 := bmul hf.b2 hg.b2
  have q0 : f.2 * g.2 ≠ 0 := Int.mul_ne_zero hf.nz hg.nz
  have le : 2 ^ (n + m) ≤ 2 ^ 200 := Nat.pow_le_pow_right (by decide) (by omega)
  obtain ⟨P, Q, e, l⟩ := flow_ok (p := f.1 * g.1) q0 (by omega)
  refine ⟨(P, Q), ?_, l.pos, l.co, ?_, ?_, ?_⟩
  · unfold m__law_times
    exact bok (item0 _ _) <| bok (item0 _ _) <| bok (mul_i (szb hf.b1 (by omega)) (szb hg.b1 (by omega))) <| bok (item1 _ _ _) <| bok (item1 _ _ _) <| bok (mul_i (szb hf.b2 (by omega)) (szb hg.b2 (by omega))) <| bok e rfl
  · show P * (v * t) = (u * s) * Q
    refine Int.eq_of_mul_eq_mul_right q0 ?_
    have e1 := hf.eq
    have e2 := hg.eq
    have e3 := l.ex
    grind
  · have := l.bp
    show P.natAbs < _
    omega
  · have := l.bq
    show Q.natAbs < _
    omega
/-- a whole number over one; any numbers over a bottom above nothing -/
theorem Fq.whole (a : Int) {n : Nat} (h : a.natAbs < 2 ^ n) (hn : 1 ≤ n) : Fq (a, 1) a 1 n := ⟨Int.one_pos, by simp, rfl, h, by show Int.natAbs 1 < 2 ^ n; have : 2 ^ 1 ≤ 2 ^ n := Nat.pow_le_pow_right (by decide) hn; omega⟩
end K07

set_option autoImplicit false
set_option linter.all false
set_option maxRecDepth 100000
set_option exponentiation.threshold 5000
namespace K07
open PySem L2 Z
theorem lpart_ok {a b : Nat} (h : b < 2 ^ 200) : m__law_part (.int (a : Int)) (.int (b : Int)) = .ok (.int ((Nat.gcd a b : Nat) : Int)) := by
  unfold m__law_part
  exact euc (fun _ => rfl) h rfl
/-- a point of two fractions -/
theorem lpoint_ok {f g : Vc} {u v w : Int} {n : Nat} (hf : Fq f u w n) (hg : Fq g v w n) (hn : n ≤ 90) : ∃ p : Vc × Int, m__law_point (lotD f) (lotD g) = .ok (pointD p) ∧ IsLow u v w p.1.1 p.1.2 p.2 ∧ p.1.1.natAbs < 2 ^ (2 * n) ∧ p.1.2.natAbs < 2 ^ (2 * n) ∧ p.2.natAbs < 2 ^ (2 * n) := by
  have f0 := hf.pos
  have g0 := hg.pos
  have le : 2 ^ n ≤ 2 ^ 90 := Nat.pow_le_pow_right (by decide) hn
  have fb := hf.b2
  have gb := hg.b2
  obtain ⟨F, eF⟩ : ∃ F : Nat, f.2 = (F : Int) := ⟨f.2.toNat, by omega⟩
  obtain ⟨G, eG⟩ : ∃ G : Nat, g.2 = (G : Int) := ⟨g.2.toNat, by omega⟩
  have F0 : 0 < F := by omega
  have G0 : 0 < G := by omega
  have Fb : F < 2 ^ n := by rw [eF] at fb; simpa using fb
  have Gb : G < 2 ^ n := by rw [eG] at gb; simpa using gb
  have d0 : 0 < Nat.gcd F G := Nat.gcd_pos_of_pos_left _ F0
  obtain ⟨α, hα⟩ := Nat.gcd_dvd_left F G
  obtain ⟨β, hβ⟩ := Nat.gcd_dvd_right F G
  have cop : Nat.gcd α β = 1 := by
    have t := Nat.gcd_mul_left (Nat.gcd F G) α β
    rw [← hα, ← hβ] at t
    have e : Nat.gcd F G * Nat.gcd α β = Nat.gcd F G * 1 := by rw [Nat.mul_one]; exact t.symm
    exact Nat.eq_of_mul_eq_mul_left d0 e
  have dle : Nat.gcd F G ≤ F := Nat.gcd_le_left _ F0
  generalize hd : Nat.gcd F G = d at *
  have α1 : α ≤ F := by rw [hα]; exact Nat.le_mul_of_pos_left _ d0
  have β1 : β ≤ G := by rw [hβ]; exact Nat.le_mul_of_pos_left _ d0
  have α0 : 0 < α := Nat.pos_of_ne_zero fun e => by rw [e] at hα; omega
  have β0 : 0 < β := Nat.pos_of_ne_zero fun e => by rw [e] at hβ; omega
  have v1 : ((G : Int)).fdiv (d : Int) = (β : Int) := by
    rw [hβ, Int.natCast_mul]; exact Int.mul_fdiv_cancel_left _ (by omega)
  have v2 : ((F : Int) * (β : Int)).fdiv (F : Int) = (β : Int) := Int.mul_fdiv_cancel_left _ (by omega)
  have v3 : ((F : Int) * (β : Int)).fdiv (G : Int) = (α : Int) := by
    have : (F : Int) * (β : Int) = (G : Int) * (α : Int) := by rw [hα, hβ]; simp only [Int.natCast_mul]; grind
    rw [this]; exact Int.mul_fdiv_cancel_left _ (by omega)
  have bD : ∀ k : Nat, k < 2 ^ n → bigD (k : Int) = true := fun k hk => bigD_of (k := 90) (by simpa using Nat.lt_of_lt_of_le hk le) (by decide)
  have sz : ∀ k : Nat, k < 2 ^ n → Sz (k : Int) := fun k hk => szb (n := n) (by simpa using hk) (by omega)
  refine ⟨((f.1 * (β : Int), g.1 * (α : Int)), (F : Int) * (β : Int)), ?_, ⟨Int.mul_pos (by omega) (by omega), ?_, ?_, ?_⟩, ?_, ?_, ?_⟩
  · unfold m__law_point
    have i1 : item (lotD f) (PyData.int 1) = .ok (.int (F : Int)) := by rw [← eF]; exact item1 _ _ _
    have i2 : item (lotD g) (PyData.int 1) = .ok (.int (G : Int)) := by rw [← eG]; exact item1 _ _ _
    have lp := lpart_ok (a := F) (b := G) (Nat.lt_of_lt_of_le Gb (Nat.le_trans le (Nat.pow_le_pow_right (by decide) (by decide))))
    rw [hd] at lp
    have q1 : fdiv (.int (G : Int)) (.int (d : Int)) = .ok (.int (β : Int)) := by rw [fdiv_i (by omega) (bD d (by omega)), v1]
    have q2 : fdiv (.int ((F : Int) * (β : Int))) (.int (F : Int)) = .ok (.int (β : Int)) := by rw [fdiv_i (by omega) (bD F Fb), v2]
    have q3 : fdiv (.int ((F : Int) * (β : Int))) (.int (G : Int)) = .ok (.int (α : Int)) := by rw [fdiv_i (by omega) (bD G Gb), v3]
    exact bok i1 <| bok i2 <| bok i1 <| bok i2 <| bok lp <| bok q1 <| bok (mul_i (sz F Fb) (sz β (by omega))) <| bok (item0 _ _) <| bok i1 <| bok q2 <| bok (mul_i (szb hf.b1 (by omega)) (sz β (by omega))) <| bok (item0 _ _) <| bok i2 <| bok q3 <| bok (mul_i (szb hg.b1 (by omega)) (sz α (by omega))) rfl
  · refine Nat.dvd_one.mp ?_
    rw [← cop]
    have h1 := Nat.gcd_dvd_left (Nat.gcd (f.1 * (β : Int)).natAbs (g.1 * (α : Int)).natAbs) ((F : Int) * (β : Int)).natAbs
    have h2 := Nat.gcd_dvd_right (Nat.gcd (f.1 * (β : Int)).natAbs (g.1 * (α : Int)).natAbs) ((F : Int) * (β : Int)).natAbs
    show Nat.gcd (Nat.gcd (f.1 * (β : Int)).natAbs (g.1 * (α : Int)).natAbs) ((F : Int) * (β : Int)).natAbs ∣ Nat.gcd α β
    generalize Nat.gcd (Nat.gcd (f.1 * (β : Int)).natAbs (g.1 * (α : Int)).natAbs) ((F : Int) * (β : Int)).natAbs = h at *
    have a1 := Nat.dvd_trans h1 (Nat.gcd_dvd_left _ _)
    have a2 := Nat.dvd_trans h1 (Nat.gcd_dvd_right _ _)
    rw [Int.natAbs_mul, Int.natAbs_natCast] at a1 a2
    rw [Int.natAbs_mul, Int.natAbs_natCast, Int.natAbs_natCast] at h2
    have cf := hf.co
    have cg := hg.co
    rw [eF, Int.natAbs_natCast] at cf
    rw [eG, Int.natAbs_natCast] at cg
    have b1 : h ∣ β := by
      have := Nat.dvd_gcd a1 h2
      rw [Nat.gcd_mul_right, cf, Nat.one_mul] at this
      exact this
    have b2 : h ∣ α := by
      have e : F * β = G * α := by rw [hα, hβ]; grind
      rw [e] at h2
      have := Nat.dvd_gcd a2 h2
      rw [Nat.gcd_mul_right, cg, Nat.one_mul] at this
      exact this
    exact Nat.dvd_gcd b2 b1
  · show f.1 * (β : Int) * w = u * ((F : Int) * (β : Int))
    have := hf.eq
    rw [eF] at this
    grind
  · show g.1 * (α : Int) * w = v * ((F : Int) * (β : Int))
    have := hg.eq
    rw [eG] at this
    have e : (F : Int) * (β : Int) = (G : Int) * (α : Int) := by rw [hα, hβ]; simp only [Int.natCast_mul]; grind
    rw [e]; grind
  · rw [Nat.two_mul]; exact bmul hf.b1 (by simpa using (by omega : β < 2 ^ n))
  · rw [Nat.two_mul]; exact bmul hg.b1 (by simpa using (by omega : α < 2 ^ n))
  · rw [Nat.two_mul]; exact bmul (by simpa using Fb) (by simpa using (by omega : β < 2 ^ n))
/-- elimination, where the first entry isn't 0 -/
theorem solved_body {a b c d px py C : Int} {x y : Vc} {n : Nat} (ha : a ≠ 0) (ba : a.natAbs < 2 ^ 4) (bb : b.natAbs < 2 ^ 4) (bc : c.natAbs < 2 ^ 4) (bd : d.natAbs < 2 ^ 4) (hdet : a * d - b * c ≠ 0) (hC : C ≠ 0) (hx : Fq x px C n) (hy : Fq y py C n) (hn : n ≤ 20) (h1 : 1 ≤ n) :
    ∃ r1 r2 : Vc, ((sub (PyData.int 0) (PyData.int c)).bind fun z9 =>
(m__law_times (PyData.tuple [z9, (PyData.int a)]) (PyData.tuple [(PyData.int b), (PyData.int 1)])).bind fun z10 =>
(m__law_plus (PyData.tuple [(PyData.int d), (PyData.int 1)]) z10).bind fun z11 =>
(sub (PyData.int 0) (PyData.int c)).bind fun z12 =>
(m__law_times (PyData.tuple [z12, (PyData.int a)]) (lotD x)).bind fun z13 =>
(m__law_plus (lotD y) z13).bind fun z14 =>
((item z11 (PyData.int 0)).bind fun z15 =>
(gtD z15 (PyData.int 0)).bind fun z16 =>
if z16 = true then
(item z11 (PyData.int 1)).bind fun z17 =>
(item z11 (PyData.int 0)).bind fun z18 =>
R.ok (PyData.tuple [z17, z18])
else
(item z11 (PyData.int 1)).bind fun z19 =>
(sub (PyData.int 0) z19).bind fun z20 =>
(item z11 (PyData.int 0)).bind fun z21 =>
(sub (PyData.int 0) z21).bind fun z22 =>
R.ok (PyData.tuple [z20, z22]) : R D).bind fun z23 =>
(m__law_times z14 z23).bind fun z24 =>
(sub (PyData.int 0) (PyData.int b)).bind fun z25 =>
(m__law_times (PyData.tuple [z25, (PyData.int 1)]) z24).bind fun z26 =>
(m__law_plus (lotD x) z26).bind fun z27 =>
((gtD (PyData.int a) (PyData.int 0)).bind fun z28 =>
if z28 = true then
R.ok (PyData.tuple [(PyData.int 1), (PyData.int a)])
else
(sub (PyData.int 0) (PyData.int a)).bind fun z29 =>
R.ok (PyData.tuple [(PyData.int (-1)), z29]) : R D).bind fun z30 =>
(m__law_times z27 z30).bind fun z31 =>
R.ok (PyData.tuple [z31, z24]) : R D) = .ok (.tuple [lotD r1, lotD r2]) ∧ Fq r1 (d * px - b * py) (C * (a * d - b * c)) 88 ∧ Fq r2 (a * py - c * px) (C * (a * d - b * c)) 88 := by
  have bc' : (0 - c).natAbs < 2 ^ 4 := by omega
  have bb' : (0 - b).natAbs < 2 ^ 4 := by omega
  have wh : ∀ {i : Int}, i.natAbs < 2 ^ 4 → Ap (i, 1) i 1 4 := fun h => (Fq.whole _ h (by decide)).ap
  obtain ⟨r10, e10, f10⟩ := times_ok (Ap.of ha bc' ba) (wh bb) (by decide)
  obtain ⟨r11, e11, f11'⟩ := plus_ok (wh bd) f10.ap (by decide) (by simpa using ha) (by decide)
  have f11 : Fq r11 (a * d - b * c) a 13 := f11'.to (by simpa using ha) (by grind)
  obtain ⟨r13, e13, f13⟩ := times_ok (Ap.of ha bc' ba) hx.ap (by omega)
  obtain ⟨r14, e14, f14'⟩ := plus_ok hy.ap f13.ap hC (Int.mul_ne_zero ha hC) (by omega)
  have f14 : Fq r14 (a * py - c * px) (a * C) (n + (4 + n) + 1) := f14'.to (Int.mul_ne_zero hC (Int.mul_ne_zero ha hC)) (by grind)
  have l0 : r11.1 ≠ 0 := fun e => by
    have := f11.eq
    rw [e, Int.zero_mul] at this
    exact Int.mul_ne_zero hdet (by have := f11.pos; omega) this.symm
  obtain ⟨z23, e23, f23⟩ : ∃ z23 : Vc, ((item (lotD r11) (PyData.int 0)).bind fun z15 => (gtD z15 (PyData.int 0)).bind fun z16 => if z16 = true then (item (lotD r11) (PyData.int 1)).bind fun z17 => (item (lotD r11) (PyData.int 0)).bind fun z18 => R.ok (PyData.tuple [z17, z18]) else
      (item (lotD r11) (PyData.int 1)).bind fun z19 => (sub (PyData.int 0) z19).bind fun z20 => (item (lotD r11) (PyData.int 0)).bind fun z21 => (sub (PyData.int 0) z21).bind fun z22 => R.ok (PyData.tuple [z20, z22]) : R D) = .ok (lotD z23) ∧ Ap z23 a (a * d - b * c) 13 := by
    have := f11.eq
    by_cases h : 0 < r11.1
    · refine ⟨(r11.2, r11.1), bok (item0 _ _) <| bokT (by rw [gt_i, decide_eq_true h]) <| bok (item1 _ _ _) <| bok (item0 _ _) rfl, l0, ?_, f11.b2, f11.b1⟩
      show r11.2 * (a * d - b * c) = a * r11.1
      grind
    · refine ⟨(0 - r11.2, 0 - r11.1), bok (item0 _ _) <| bokF (by rw [gt_i, decide_eq_false h]) <| bok (item1 _ _ _) <| bok (sub_i _ _) <| bok (item0 _ _) <| bok (sub_i _ _) rfl, by show 0 - r11.1 ≠ 0; omega, ?_, ?_, ?_⟩
      · show (0 - r11.2) * (a * d - b * c) = a * (0 - r11.1)
        grind
      · have := f11.b2; show (0 - r11.2).natAbs < _; omega
      · have := f11.b1; show (0 - r11.1).natAbs < _; omega
  obtain ⟨r24, e24, f24'⟩ := times_ok f14.ap f23 (by omega)
  have f24 : Fq r24 (a * py - c * px) (C * (a * d - b * c)) (n + (4 + n) + 1 + 13) := f24'.to (Int.mul_ne_zero (Int.mul_ne_zero ha hC) hdet) (by grind)
  have cd0 : C * (a * d - b * c) ≠ 0 := Int.mul_ne_zero hC hdet
  obtain ⟨r26, e26, f26⟩ := times_ok (wh bb') f24.ap (by omega)
  obtain ⟨r27, e27, f27'⟩ := plus_ok hx.ap f26.ap hC (by rw [Int.one_mul]; exact cd0) (by omega)
  have f27 := f27'.to (u' := a * (d * px - b * py)) (v' := C * (a * d - b * c)) (Int.mul_ne_zero hC (by rw [Int.one_mul]; exact cd0)) (by grind)
  obtain ⟨z30, e30, f30⟩ : ∃ z30 : Vc, ((gtD (PyData.int a) (PyData.int 0)).bind fun z28 => if z28 = true then R.ok (PyData.tuple [(PyData.int 1), (PyData.int a)]) else (sub (PyData.int 0) (PyData.int a)).bind fun z29 => R.ok (PyData.tuple [(PyData.int (-1)), z29]) : R D) = .ok (lotD z30) ∧ Ap z30 1 a 4 := by
    by_cases h : 0 < a
    · exact ⟨(1, a), bokT (by rw [gt_i, decide_eq_true h]) rfl, ha, rfl, by show Int.natAbs 1 < _; decide, ba⟩
    · exact ⟨(-1, 0 - a), bokF (by rw [gt_i, decide_eq_false h]) <| bok (sub_i _ _) rfl, by show 0 - a ≠ 0; omega, by show -1 * a = 1 * (0 - a); omega, by show Int.natAbs (-1) < _; decide, by show (0 - a).natAbs < _; omega⟩
  obtain ⟨r31, e31, f31'⟩ := times_ok f27.ap f30 (by omega)
  have f31 := f31'.to (u' := d * px - b * py) (v' := C * (a * d - b * c)) (Int.mul_ne_zero cd0 ha) (by grind)
  refine ⟨r31, r24, ?_, f31.mono (by omega), f24.mono (by omega)⟩
  exact bok (sub_i _ _) <| bok e10 <| bok e11 <| bok (sub_i _ _) <| bok e13 <| bok e14 <| bok e23 <| bok e24 <| bok (sub_i _ _) <| bok e26 <| bok e27 <| bok e30 <| bok e31 rfl
end K07

set_option autoImplicit false
set_option linter.all false
set_option maxRecDepth 100000
set_option exponentiation.threshold 5000
namespace K07
open PySem L2 Z
def Tb.tr (M : Tb) : Int := M.a + M.d
def sm (P : Tb) (D : Int) : Bool := decide (0 < D) && decide (max ((P.a.natAbs : Int) + P.b.natAbs) ((P.c.natAbs : Int) + P.d.natAbs) < D)
def run : Nat → Tb → Int → Bool
  | 0, _, _ => false
  | n + 1, P, D => if sm P D then true else run n (P.mul P) (D * D)
theorem det_sq (P : Tb) : (P.mul P).det = P.det * P.det := by simp only [Tb.det, Tb.mul]; grind
theorem tr_sq (P : Tb) : Tb.tr (P.mul P) = Tb.tr P * Tb.tr P - 2 * P.det := by simp only [Tb.det, Tb.mul, Tb.tr]; grind
theorem sm_grow {P : Tb} {D : Int} (hD : D = P.det.natAbs) (h : sm P D = true) : 1 < P.det.natAbs ∧ (Tb.tr P).natAbs < (1 + P.det).natAbs := by
  simp only [sm, Bool.and_eq_true, decide_eq_true_eq] at h
  obtain ⟨h0, h1⟩ := h
  have r1 : (P.a.natAbs : Int) + P.b.natAbs < D := Int.lt_of_le_of_lt (Int.le_max_left _ _) h1
  have r2 : (P.c.natAbs : Int) + P.d.natAbs < D := Int.lt_of_le_of_lt (Int.le_max_right _ _) h1
  have bc : P.b * P.c ≤ P.b.natAbs * P.c.natAbs := by
    rw [← Int.natCast_mul, ← Int.natAbs_mul]; omega
  have key : ∀ x y : Int, (P.b.natAbs : Int) < x → (P.c.natAbs : Int) < y → P.b * P.c < x * y := fun x y hx hy => by
    have g1 : (P.b.natAbs : Int) * P.c.natAbs ≤ x * P.c.natAbs := Int.mul_le_mul_of_nonneg_right (by omega) (by omega)
    have g2 : x * (P.c.natAbs : Int) < x * y := Int.mul_lt_mul_of_pos_left hy (by omega)
    omega
  have k1 := key (D - P.a) (D - P.d) (by omega) (by omega)
  have k2 := key (D + P.a) (D + P.d) (by omega) (by omega)
  have e1 : (D - P.a) * (D - P.d) - P.b * P.c = D * D - D * Tb.tr P + P.det := by simp only [Tb.tr, Tb.det]; grind
  have e2 : (D + P.a) * (D + P.d) - P.b * P.c = D * D + D * Tb.tr P + P.det := by simp only [Tb.tr, Tb.det]; grind
  have d1 : 1 < P.det.natAbs := by
    by_cases c : P.det.natAbs = 1
    · have z1 : P.a = 0 := by omega
      have z2 : P.b = 0 := by omega
      have : P.det = 0 := by simp only [Tb.det, z1, z2]; simp
      omega
    · omega
  refine ⟨d1, ?_⟩
  generalize Tb.tr P = t at *
  generalize P.det = δ at *
  rcases Int.le_total 0 δ with s | s
  · have hδ : δ = D := by omega
    have f1 : D * t < D * (D + 1) := by rw [Int.mul_add, Int.mul_one]; omega
    have f2 : D * (-t) < D * (D + 1) := by rw [Int.mul_add, Int.mul_one, Int.mul_neg]; omega
    have g1 := Int.lt_of_mul_lt_mul_left f1 (by omega)
    have g2 := Int.lt_of_mul_lt_mul_left f2 (by omega)
    omega
  · have hδ : δ = -D := by omega
    have f1 : D * t < D * (D - 1) := by rw [Int.mul_sub, Int.mul_one]; omega
    have f2 : D * (-t) < D * (D - 1) := by rw [Int.mul_sub, Int.mul_one, Int.mul_neg]; omega
    have g1 := Int.lt_of_mul_lt_mul_left f1 (by omega)
    have g2 := Int.lt_of_mul_lt_mul_left f2 (by omega)
    omega
theorem abs_lt_of_sq {x y : Int} (h : x * x < y * y) : x.natAbs < y.natAbs := by
  have e1 : ((x.natAbs : Nat) : Int) * x.natAbs = x * x := Int.natAbs_mul_self
  have e2 : ((y.natAbs : Nat) : Int) * y.natAbs = y * y := Int.natAbs_mul_self
  rw [← e1, ← e2] at h
  by_cases c : x.natAbs < y.natAbs
  · exact c
  · have c' : (y.natAbs : Int) ≤ x.natAbs := by omega
    have g1 : (y.natAbs : Int) * y.natAbs ≤ x.natAbs * y.natAbs := Int.mul_le_mul_of_nonneg_right c' (by omega)
    have g2 : (x.natAbs : Int) * y.natAbs ≤ x.natAbs * x.natAbs := Int.mul_le_mul_of_nonneg_left c' (by omega)
    omega
theorem run_grow : ∀ (n : Nat) (P : Tb) (D : Int), D = P.det.natAbs → run n P D = true → 1 < P.det.natAbs ∧ (Tb.tr P).natAbs < (1 + P.det).natAbs
  | 0, P, D, _, h => by simp [run] at h
  | n + 1, P, D, hD, h => by
    unfold run at h
    split at h
    · rename_i hs; exact sm_grow hD hs
    · have e : D * D = ((P.mul P).det.natAbs : Nat) := by rw [det_sq, hD, Int.natAbs_mul, Int.natCast_mul]
      obtain ⟨h1, h2⟩ := run_grow n (P.mul P) (D * D) e h
      rw [det_sq] at h1 h2
      rw [tr_sq] at h2
      have sq : P.det * P.det = (P.det.natAbs : Int) * P.det.natAbs := Int.natAbs_mul_self.symm
      have p0 : 0 ≤ P.det * P.det := by rw [sq]; exact Int.mul_nonneg (by omega) (by omega)
      refine ⟨?_, abs_lt_of_sq ?_⟩
      · by_cases c : 1 < P.det.natAbs
        · exact c
        · have : P.det.natAbs = 0 ∨ P.det.natAbs = 1 := by omega
          rcases this with q | q <;> rw [sq, q] at h1 <;> simp at h1
      · have : (1 + P.det) * (1 + P.det) = 1 + 2 * P.det + P.det * P.det := by grind
        rw [this]
        generalize P.det * P.det = δ2 at *
        generalize Tb.tr P * Tb.tr P = t2 at *
        omega
/-! powers by squaring: u N + v -/
def uvs (t δ : Int) : Nat → Int × Int
  | 0 => (1, 0)
  | n + 1 => let p := uvs t δ n; (p.1 * p.1 * t + 2 * p.1 * p.2, p.2 * p.2 - p.1 * p.1 * δ)
def sqs (P : Tb) : Nat → Tb
  | 0 => P
  | n + 1 => (sqs P n).mul (sqs P n)
def dsq (D : Int) : Nat → Int
  | 0 => D
  | n + 1 => dsq D n * dsq D n
theorem sqs_uv (P : Tb) : ∀ n, sqs P n = ⟨(uvs (Tb.tr P) P.det n).1 * P.a + (uvs (Tb.tr P) P.det n).2, (uvs (Tb.tr P) P.det n).1 * P.b, (uvs (Tb.tr P) P.det n).1 * P.c, (uvs (Tb.tr P) P.det n).1 * P.d + (uvs (Tb.tr P) P.det n).2⟩
  | 0 => by simp [sqs, uvs]
  | n + 1 => by
    rw [sqs, sqs_uv P n]
    simp only [uvs]
    generalize (uvs (Tb.tr P) P.det n).1 = u
    generalize (uvs (Tb.tr P) P.det n).2 = v
    simp only [Tb.mul, Tb.tr, Tb.det, Tb.mk.injEq]
    refine ⟨?_, ?_, ?_, ?_⟩ <;> grind
theorem run_of : ∀ (n : Nat) (P : Tb) (D : Int), sm (sqs P n) (dsq D n) = true → run (n + 1) P D = true
  | 0, P, D, h => by
    unfold run
    have h' : sm P D = true := h
    rw [if_pos h']
  | n + 1, P, D, h => by
    unfold run
    split
    · rfl
    · refine run_of n _ _ ?_
      have e1 : ∀ n, sqs (P.mul P) n = sqs P (n + 1) := by
        intro n
        induction n with
        | zero => rfl
        | succ n ih => rw [sqs, ih]; rfl
      have e2 : ∀ n, dsq (D * D) n = dsq D (n + 1) := by
        intro n
        induction n with
        | zero => rfl
        | succ n ih => rw [dsq, ih]; rfl
      rw [e1, e2]; exact h
theorem check : ∀ i : Nat, i < 37 → ∀ j : Nat, j < 325 → (1 < ((j : Int) - 162).natAbs ∧ ((i : Int) - 18).natAbs < (1 + ((j : Int) - 162)).natAbs) → 18 * (uvs ((i : Int) - 18) ((j : Int) - 162) 7).1.natAbs + (uvs ((i : Int) - 18) ((j : Int) - 162) 7).2.natAbs < (dsq (((j : Int) - 162).natAbs : Int) 7).natAbs := by
  decide +kernel
end K07

set_option autoImplicit false
set_option linter.all false
set_option maxRecDepth 100000
set_option exponentiation.threshold 5000
namespace K07
open PySem L2 Z
/-- a table of small entries -/
structure SmT (M : Tb) : Prop where
  a : M.a.natAbs ≤ 9
  b : M.b.natAbs ≤ 9
  c : M.c.natAbs ≤ 9
  d : M.d.natAbs ≤ 9
/-- entries of so many bits -/
structure Et (n : Nat) (M : Tb) : Prop where
  a : M.a.natAbs < 2 ^ n
  b : M.b.natAbs < 2 ^ n
  c : M.c.natAbs < 2 ^ n
  d : M.d.natAbs < 2 ^ n
theorem b64 {i : Int} (h : i.natAbs ≤ 9) : i.natAbs < 2 ^ 64 := by omega
theorem SmT.et {M : Tb} (h : SmT M) : Et 4 M := ⟨by have := h.a; omega, by have := h.b; omega, by have := h.c; omega, by have := h.d; omega⟩
theorem Et.mono {n m : Nat} {M : Tb} (h : Et n M) (k : n ≤ m) : Et m M :=
  have e : 2 ^ n ≤ 2 ^ m := Nat.pow_le_pow_right (by decide) k
  ⟨Nat.lt_of_lt_of_le h.a e, Nat.lt_of_lt_of_le h.b e, Nat.lt_of_lt_of_le h.c e, Nat.lt_of_lt_of_le h.d e⟩
theorem adj_sm {M : Tb} (h : SmT M) : SmT M.adj := ⟨h.d, by have := h.b; simpa [Tb.adj] using this, by have := h.c; simpa [Tb.adj] using this, h.a⟩
theorem adj_det (M : Tb) : M.adj.det = M.det := by simp only [Tb.det, Tb.adj]; grind
theorem adj_tr (M : Tb) : Tb.tr M.adj = Tb.tr M := by simp only [Tb.tr, Tb.adj]; omega
theorem det_bd {M : Tb} (h : SmT M) : M.det.natAbs ≤ 162 := by
  have m1 : (M.a * M.d).natAbs ≤ 9 * 9 := by rw [Int.natAbs_mul]; exact Nat.mul_le_mul h.a h.d
  have m2 : (M.b * M.c).natAbs ≤ 9 * 9 := by rw [Int.natAbs_mul]; exact Nat.mul_le_mul h.b h.c
  unfold Tb.det
  omega
theorem tr_bd {M : Tb} (h : SmT M) : (Tb.tr M).natAbs ≤ 18 := by have := h.a; have := h.d; unfold Tb.tr; omega
theorem two_bd {a b x y : Int} {n m : Nat} (ha : a.natAbs < 2 ^ n) (hb : b.natAbs < 2 ^ n) (hx : x.natAbs < 2 ^ m) (hy : y.natAbs < 2 ^ m) : (a * x + b * y).natAbs < 2 ^ (n + m + 1) := by
  have p1 := bmul ha hx
  have p2 := bmul hb hy
  have up : 2 ^ (n + m + 1) = 2 * 2 ^ (n + m) := by rw [Nat.pow_succ]; omega
  have := Int.natAbs_add_le (a * x) (b * y)
  omega
theorem Et.mul {M N : Tb} {n m : Nat} (h : Et n M) (k : Et m N) : Et (n + m + 1) (M.mul N) :=
  ⟨two_bd h.a h.b k.a k.c, two_bd h.a h.b k.b k.d, two_bd h.c h.d k.a k.c, two_bd h.c h.d k.b k.d⟩
theorem det_ok {M : Tb} (h : SmT M) : m_table_det (tabD M) = .ok (.int M.det) := by
  unfold m_table_det
  exact bok (un2_t _ _) <| bok (un2_t _ _) <| bok (un2_t _ _) <| bok (mul_l (b64 h.a)) <| bok (mul_l (b64 h.b)) <| bok (sub_i _ _) rfl
theorem trace_ok (M : Tb) : m_table_trace (tabD M) = .ok (.int (Tb.tr M)) := by
  unfold m_table_trace
  exact bok (item0 _ _) <| bok (item0 _ _) <| bok (item1 _ _ _) <| bok (item1 _ _ _) <| bok (add_i _ _) rfl
theorem other_ok (M : Tb) : m_table_other (tabD M) = .ok (tabD M.adj) := by
  unfold m_table_other
  exact bok (un2_t _ _) <| bok (un2_t _ _) <| bok (un2_t _ _) <| bok (neg_i _) <| bok (neg_i _) rfl
theorem led_any {M : Tb} {n : Nat} (h : Et n M) (hn : n ≤ 3000) {v : Vc} {m : Nat} (h1 : v.1.natAbs < 2 ^ m) (h2 : v.2.natAbs < 2 ^ m) (hm : m ≤ 3000) : m_lot_led (tabD M) (lotD v) = .ok (lotD (M.led v)) := by
  unfold m_lot_led
  have s1 := szb h1 (by omega)
  have s2 := szb h2 (by omega)
  exact bok (un2_t _ _) <| bok (un2_t _ _) <| bok (un2_t _ _) <| bok (item0 _ _) <| bok (mul_i (szb h.a (by omega)) s1) <| bok (item1 _ _ _) <| bok (mul_i (szb h.b (by omega)) s2) <| bok (add_i _ _) <| bok (item0 _ _) <| bok (mul_i (szb h.c (by omega)) s1) <| bok (item1 _ _ _) <| bok (mul_i (szb h.d (by omega)) s2) <| bok (add_i _ _) rfl
theorem behind_ok {M N : Tb} {n m : Nat} (h : Et n M) (k : Et m N) (hn : n ≤ 3000) (hm : m ≤ 3000) : m_table_behind (tabD M) (tabD N) = .ok (tabD (M.mul N)) := by
  unfold m_table_behind
  exact bok (un2_t _ _) <| bok (un2_t _ _) <| bok (un2_t _ _) <| bok (led_any h hn (v := (N.a, N.c)) k.a k.c hm) <| bok (led_any h hn (v := (N.b, N.d)) k.b k.d hm) <| bok (item0 _ _) <| bok (item0 _ _) <| bok (item1 _ _ _) <| bok (item1 _ _ _) rfl
theorem compL2 {f : D → R (Option D)} {a b u v : D} (ha : f a = .ok (some u)) (hb : f b = .ok (some v)) : compL [a, b] f = .ok [u, v] := by
  rw [compL_of (by simp)]
  simp only [compP, ha, hb, R.bind_ok]
theorem rng2 : range1 (PyData.int 2) = .ok [.int 0, .int 1] := by rw [show (2 : Int) = ((2 : Nat) : Int) from rfl, range_i (by decide)]; rfl
theorem product_ok {M N : Tb} {n m : Nat} (h : Et n M) (k : Et m N) (hn : n ≤ 3000) (hm : m ≤ 3000) : m__law_product (tabD M) (tabD N) = .ok (tabD (M.mul N)) := by
  have row : ∀ {x y : Int} (acc : List D), x.natAbs < 2 ^ n → y.natAbs < 2 ^ n → acc.length < 100 → ∀ {f : List D → R (List D)}, (∀ s3, f s3 = ((range1 (PyData.int 2)).bind fun z5 => (compL z5 fun x6 => (item (.tuple [.int x, .int y]) (PyData.int 0)).bind fun z7 => (item (tabD N) (PyData.int 0)).bind fun z8 => (item z8 x6).bind fun z9 => (Z.mul z7 z9).bind fun z10 => (item (.tuple [.int x, .int y]) (PyData.int 1)).bind fun z11 => (item (tabD N) (PyData.int 1)).bind fun z12 => (item z12 x6).bind fun z13 => (Z.mul z11 z13).bind fun z14 => (add z10 z14).bind fun z15 => R.ok (some z15)).bind fun ys16 => (tupleD (PyData.list ys16)).bind fun z17 => (pushM s3 [z17]).bind fun (z18, y19) => R.ok y19)) → f acc = .ok (acc ++ [.tuple [.int (x * N.a + y * N.c), .int (x * N.b + y * N.d)]]) := by
    intro x y acc hx hy ha f hf
    rw [hf]
    have n0 : item (tabD N) (PyData.int 0) = .ok (.tuple [.int N.a, .int N.b]) := item0 _ _
    have n1 : item (tabD N) (PyData.int 1) = .ok (.tuple [.int N.c, .int N.d]) := item1 _ _ _
    have sx := szb hx (by omega)
    have sy := szb hy (by omega)
    refine bok rng2 <| bok (compL2 (u := .int (x * N.a + y * N.c)) (v := .int (x * N.b + y * N.d)) ?_ ?_) <| bok (tuple_l _) <| bok (push1 _ _ (by omega)) rfl
    · exact bok (item0 _ _) <| bok n0 <| bok (item0 _ _) <| bok (mul_i sx (szb k.a (by omega))) <| bok (item1 _ _ _) <| bok n1 <| bok (item0 _ _) <| bok (mul_i sy (szb k.c (by omega))) <| bok (add_i _ _) rfl
    · exact bok (item0 _ _) <| bok n0 <| bok (item1 _ _ _) <| bok (mul_i sx (szb k.b (by omega))) <| bok (item1 _ _ _) <| bok n1 <| bok (item1 _ _ _) <| bok (mul_i sy (szb k.d (by omega))) <| bok (add_i _ _) rfl
  unfold m__law_product
  refine bok (iter_t _) <| bok (a := [.tuple [.int (M.mul N).a, .int (M.mul N).b], .tuple [.int (M.mul N).c, .int (M.mul N).d]]) ?_ <| bok (tuple_l _) rfl
  rw [forS_cons]
  refine bok (row (x := M.a) (y := M.b) [] h.a h.b (by simp) (fun _ => rfl)) ?_
  rw [forS_cons]
  refine bok (row (x := M.c) (y := M.d) _ h.c h.d (by simp) (fun _ => rfl)) ?_
  rfl
theorem taken_ok {M : Tb} (h : SmT M) : ∀ (n : Nat), n ≤ 10 → m_table_taken (tabD M) (.int (n : Int)) = .ok (tabD (M.pw n)) ∧ Et (5 * n + 1) (M.pw n) := by
  intro n hn
  have comm : ∀ k, (M.pw k).mul M = M.mul (M.pw k) := by
    intro k
    induction k with
    | zero => simp [Tb.pw, Tb.one, Tb.mul]
    | succ k ih =>
      have asc : ∀ A B C : Tb, (A.mul B).mul C = A.mul (B.mul C) := fun A B C => by simp only [Tb.mul, Tb.mk.injEq]; refine ⟨?_, ?_, ?_, ?_⟩ <;> grind
      rw [Tb.pw, asc, ih]
  have et : ∀ k, Et (5 * k + 1) (M.pw k) := by
    intro k
    induction k with
    | zero => exact ⟨by show Int.natAbs 1 < 2 ^ 1; decide, by show Int.natAbs 0 < 2 ^ 1; decide, by show Int.natAbs 0 < 2 ^ 1; decide, by show Int.natAbs 1 < 2 ^ 1; decide⟩
    | succ k ih => exact (h.et.mul ih).mono (by omega)
  refine ⟨?_, et n⟩
  unfold m_table_taken
  refine bok (range_i (by omega)) <| bok (a := tabD (M.pw n)) ?_ rfl
  have key : ∀ (xs : List D) (i : Nat), i + xs.length ≤ 10 → forS xs (tabD (M.pw i)) (fun x2 s3 => (m_table_behind s3 (tabD M)).bind fun z5 => R.ok z5) = .ok (tabD (M.pw (i + xs.length))) := by
    intro xs
    induction xs with
    | nil => intro i _; rfl
    | cons x xs ih =>
      intro i hi
      simp only [List.length_cons] at hi
      rw [forS_cons]
      refine bok (a := tabD (M.pw (i + 1))) ?_ ?_
      · have e : M.pw (i + 1) = (M.pw i).mul M := (comm i).symm
        rw [e]
        exact bok (behind_ok (et i) h.et (by omega) (by omega)) rfl
      · rw [ih (i + 1) (by omega)]
        simp only [List.length_cons]
        rw [show i + 1 + xs.length = i + (xs.length + 1) by omega]
  have := key (rangeD 0 (n : Int)) 0 (by rw [rangeD_eq]; simp; omega)
  have l : (rangeD 0 (n : Int)).length = n := by rw [rangeD_eq]; simp
  rw [l, Nat.zero_add] at this
  exact this
/-- the law's own test of growth -/
theorem small_run : ∀ {xs : List D} {P : Tb} {D0 : Int} {b : Nat} {f : D → D × D → R (Fl (D × D))} (_ : ∀ x s15, f x s15 = (((gtD s15.1 (PyData.int 0)).bind fun z17 => if z17 = true then (iter s15.2).bind fun z18 => (compL z18 fun x19 => (item x19 (PyData.int 0)).bind fun z20 => (absD z20).bind fun z21 => (item x19 (PyData.int 1)).bind fun z22 => (absD z22).bind fun z23 => (add z21 z23).bind fun z24 => R.ok (some z24)).bind fun ys25 => (maxI (PyData.list ys25)).bind fun z26 => (ltD z26 s15.1).bind fun z27 => R.ok z27 else R.ok false : R Bool).bind fun t28 =>
      if t28 = true then R.ok (.rt (PyData.bool true) (s15.1, s15.2)) else (m__law_product s15.2 s15.2).bind fun z29 => (Z.mul s15.1 s15.1).bind fun z30 => R.ok (.nx (z30, z29)))) (_ : Et b P) (_ : D0.natAbs < 2 ^ b) (_ : (b + 1) * 2 ^ xs.length ≤ 3000),
      ∃ st, forT xs (PyData.int D0, tabD P) f = .ok (if run xs.length P D0 then .rt (.bool true) st else .nx st)
  | [], P, D0, b, f, hf, hP, hD, hb => ⟨_, rfl⟩
  | x :: xs, P, D0, b, f, hf, hP, hD, hb => by
    have p2 : (2 : Nat) ^ (xs.length + 1) = 2 * 2 ^ xs.length := by rw [Nat.pow_succ]; omega
    rw [List.length_cons, p2] at hb
    have pp : 0 < 2 ^ xs.length := Nat.two_pow_pos _
    have hb1 : b ≤ 3000 := by
      have : b + 1 ≤ (b + 1) * (2 * 2 ^ xs.length) := Nat.le_mul_of_pos_right _ (by omega)
      omega
    have hb2 : (2 * b + 1 + 1) * 2 ^ xs.length ≤ 3000 := by
      have : (2 * b + 1 + 1) * 2 ^ xs.length = (b + 1) * (2 * 2 ^ xs.length) := by rw [show 2 * b + 1 + 1 = (b + 1) * 2 by omega, Nat.mul_assoc]
      omega
    have test : ((gtD (.int D0) (PyData.int 0)).bind fun z17 => if z17 = true then (iter (tabD P)).bind fun z18 => (compL z18 fun x19 => (item x19 (PyData.int 0)).bind fun z20 => (absD z20).bind fun z21 => (item x19 (PyData.int 1)).bind fun z22 => (absD z22).bind fun z23 => (add z21 z23).bind fun z24 => R.ok (some z24)).bind fun ys25 => (maxI (PyData.list ys25)).bind fun z26 => (ltD z26 (.int D0)).bind fun z27 => R.ok z27 else R.ok false : R Bool) = .ok (sm P D0) := by
      unfold sm
      by_cases c : 0 < D0
      · rw [decide_eq_true c, Bool.true_and]
        refine bokT (by rw [gt_i, decide_eq_true c]) <| bok (iter_t _) <| bok (compL2 (u := .int ((P.a.natAbs : Int) + P.b.natAbs)) (v := .int ((P.c.natAbs : Int) + P.d.natAbs)) ?_ ?_) <| bok (a := .int (max ((P.a.natAbs : Int) + P.b.natAbs) ((P.c.natAbs : Int) + P.d.natAbs))) rfl <| bok (lt_i _ _) rfl
        · exact bok (item0 _ _) <| bok (abs_i _) <| bok (item1 _ _ _) <| bok (abs_i _) <| bok (add_i _ _) rfl
        · exact bok (item0 _ _) <| bok (abs_i _) <| bok (item1 _ _ _) <| bok (abs_i _) <| bok (add_i _ _) rfl
      · rw [decide_eq_false c, Bool.false_and]
        exact bokF (by rw [gt_i, decide_eq_false c]) rfl
    by_cases hs : sm P D0 = true
    · refine ⟨(.int D0, tabD P), ?_⟩
      have e : f x (.int D0, tabD P) = .ok (.rt (.bool true) (.int D0, tabD P)) := by rw [hf]; exact bokT (test.trans (by rw [hs])) rfl
      simp only [forT, e, R.bind_ok, List.length_cons, run, hs, if_true]
    · have hs' : sm P D0 = false := by simpa using hs
      have e : f x (.int D0, tabD P) = .ok (.nx (.int (D0 * D0), tabD (P.mul P))) := by
        rw [hf]
        exact bokF (test.trans (by rw [hs'])) <| bok (product_ok hP hP hb1 hb1) <| bok (mul_i (szb hD (by omega)) (szb hD (by omega))) rfl
      obtain ⟨st, e2⟩ := small_run (xs := xs) (P := P.mul P) (D0 := D0 * D0) (b := 2 * b + 1) hf ((hP.mul hP).mono (by omega)) (Nat.lt_of_lt_of_le (bmul hD hD) (Nat.pow_le_pow_right (by decide) (by omega))) hb2
      refine ⟨st, ?_⟩
      simp only [forT, e, R.bind_ok, List.length_cons, run, hs', Bool.false_eq_true, if_false]
      exact e2
theorem grow_run {M : Tb} (h : SmT M) : run 8 M.adj (M.det.natAbs : Int) = (decide (1 < M.det.natAbs) && decide ((Tb.tr M).natAbs < (1 + M.det).natAbs)) := by
  by_cases c : run 8 M.adj (M.det.natAbs : Int) = true
  · obtain ⟨h1, h2⟩ := run_grow 8 M.adj _ (by rw [adj_det]) c
    rw [adj_det] at h1 h2
    rw [adj_tr] at h2
    rw [c, decide_eq_true h1, decide_eq_true h2]; rfl
  · have c' : run 8 M.adj (M.det.natAbs : Int) = false := by simpa using c
    rw [c']
    by_cases g : 1 < M.det.natAbs ∧ (Tb.tr M).natAbs < (1 + M.det).natAbs
    · exfalso
      refine c (run_of 7 _ _ ?_)
      have db := det_bd h
      have tb := tr_bd h
      have ck := check ((Tb.tr M + 18).toNat) (by omega) ((M.det + 162).toNat) (by omega)
      have e1 : (((Tb.tr M + 18).toNat : Nat) : Int) - 18 = Tb.tr M := by omega
      have e2 : (((M.det + 162).toNat : Nat) : Int) - 162 = M.det := by omega
      rw [e1, e2] at ck
      have ck := ck g
      have hs := sqs_uv M.adj 7
      rw [adj_det, adj_tr] at hs
      rw [hs]
      have hA := adj_sm h
      generalize (uvs (Tb.tr M) M.det 7).1 = u at *
      generalize (uvs (Tb.tr M) M.det 7).2 = v at *
      have dp : ∀ n, 0 < dsq (M.det.natAbs : Int) n := by
        intro n
        induction n with
        | zero => show (0 : Int) < M.det.natAbs; omega
        | succ n ih => exact Int.mul_pos ih ih
      have d7 := dp 7
      generalize dsq (M.det.natAbs : Int) 7 = D at *
      have bd1 : ∀ x : Int, x.natAbs ≤ 9 → (u * x).natAbs ≤ 9 * u.natAbs := fun x hx => by
        rw [Int.natAbs_mul, Nat.mul_comm]; exact Nat.mul_le_mul hx (Nat.le_refl _)
      have q1 := bd1 _ hA.a
      have q2 := bd1 _ hA.b
      have q3 := bd1 _ hA.c
      have q4 := bd1 _ hA.d
      have r1 := Int.natAbs_add_le (u * M.adj.a) v
      have r2 := Int.natAbs_add_le (u * M.adj.d) v
      unfold sm
      rw [decide_eq_true d7, Bool.true_and, decide_eq_true]
      refine Int.max_lt.mpr ⟨?_, ?_⟩
      · show ((u * M.adj.a + v).natAbs : Int) + (u * M.adj.b).natAbs < D
        omega
      · show ((u * M.adj.c).natAbs : Int) + (u * M.adj.d + v).natAbs < D
        omega
    · by_cases g1 : 1 < M.det.natAbs
      · have g2 : ¬ (Tb.tr M).natAbs < (1 + M.det).natAbs := fun q => g ⟨g1, q⟩
        rw [decide_eq_false g2, Bool.and_false]
      · rw [decide_eq_false g1, Bool.false_and]
theorem grow_ok {M : Tb} (h : SmT M) : ∃ b, m_does_grow (tabD M) = .ok (.bool b) ∧ m__law_is_small (tabD M) = .ok (.bool b) := by
  refine ⟨decide (1 < M.det.natAbs) && decide ((Tb.tr M).natAbs < (1 + M.det).natAbs), ?_, ?_⟩
  · unfold m_does_grow
    have ab : ∀ i : Int, absD (.int i) = .ok (.int (i.natAbs : Int)) := abs_i
    refine bok (det_ok h) <| bok (a := .bool (decide (1 < M.det.natAbs) && decide ((Tb.tr M).natAbs < (1 + M.det).natAbs))) ?_ rfl
    by_cases g1 : 1 < M.det.natAbs
    · rw [decide_eq_true g1, Bool.true_and]
      refine bok (ab _) <| bok (by rw [gt_i, decide_eq_true (show (1 : Int) < (M.det.natAbs : Int) by omega)]) <| bokT rfl <| bok (trace_ok M) <| bok (ab _) <| bok (add_i _ _) <| bok (ab _) <| bok (lt_i _ _) ?_
      congr 2
      simp only [decide_eq_decide]; omega
    · rw [decide_eq_false g1, Bool.false_and]
      exact bok (ab _) <| bok (by rw [gt_i, decide_eq_false (show ¬ (1 : Int) < (M.det.natAbs : Int) by omega)]) <| bokF rfl rfl
  · unfold m__law_is_small
    have sb : sub (.int (M.a * M.d)) (.int (M.b * M.c)) = .ok (.int M.det) := sub_i _ _
    have s1 : sub (PyData.int 0) (.int M.b) = .ok (.int (-M.b)) := by rw [sub_i]; congr 2; omega
    have s2 : sub (PyData.int 0) (.int M.c) = .ok (.int (-M.c)) := by rw [sub_i]; congr 2; omega
    refine bok (un2_t _ _) <| bok (un2_t _ _) <| bok (un2_t _ _) <| bok (mul_l (b64 h.a)) <| bok (mul_l (b64 h.b)) <| bok sb <| bok (abs_i _) <| bok s1 <| bok s2 <| bok (range_i (n := 8) (by decide)) ?_
    have l8 : (rangeD 0 ((8 : Nat) : Int)).length = 8 := by rw [rangeD_eq]; simp
    obtain ⟨st, e⟩ := small_run (xs := rangeD 0 ((8 : Nat) : Int)) (P := M.adj) (D0 := (M.det.natAbs : Int)) (b := 8) (fun _ _ => rfl) ((adj_sm h).et.mono (by decide)) (by have := det_bd h; omega) (by rw [l8]; decide)
    rw [l8, grow_run h] at e
    generalize (decide (1 < M.det.natAbs) && decide ((Tb.tr M).natAbs < (1 + M.det).natAbs)) = g at e ⊢
    cases g with
    | true => exact bok e rfl
    | false => exact bok e rfl
end K07

set_option autoImplicit false
set_option linter.all false
set_option maxRecDepth 100000
set_option exponentiation.threshold 5000
namespace K07
open PySem L2 Z
theorem bokN {β : Type} {m : R Bool} {f g : R β} {r : R β} (h : m = .ok true) (k : g = r) : (m.bind fun t => if (!t) = true then f else g) = r := by
  rw [h]; exact k
theorem bokM {β : Type} {m : R Bool} {f g : R β} {r : R β} (h : m = .ok false) (k : f = r) : (m.bind fun t => if (!t) = true then f else g) = r := by
  rw [h]; exact k
def isN : D → Bool
  | .int _ => true
  | _ => false
theorem whole_ok {d : D} (h : isDctD d = false) : m_is_whole d = .ok (.bool (isN d)) := by
  unfold m_is_whole
  cases d with
  | dict _ => cases h
  | _ => rfl
def lotB : D → Bool
  | .tuple [a, b] => isN a && isN b
  | _ => false
theorem len2 (n : Nat) : eqD (.int (n : Int)) (PyData.int 2) = .ok (decide (n = 2)) := by
  rw [eq_i]; congr 1; simp only [decide_eq_decide]; omega
theorem lot_ok {d : D} (h : isDctD d = false) (h2 : ∀ xs, d = .tuple xs → ∀ a ∈ xs, isDctD a = false) : m_is_lot d = .ok (.bool (lotB d)) := by
  unfold m_is_lot
  cases d with
  | dict _ => cases h
  | tuple xs =>
    refine bok (a := .bool (lotB (.tuple xs))) ?_ rfl
    refine bok (a := true) rfl <| bok (a := true) rfl ?_
    rw [if_pos rfl]
    refine bok (len_t _) <| bok (len2 _) <| bok (a := decide (xs.length = 2)) rfl ?_
    by_cases c : xs.length = 2
    · rw [if_pos (decide_eq_true c)]
      obtain ⟨a, b, rfl⟩ : ∃ a b, xs = [a, b] := by
        match xs, c with
        | [a, b], _ => exact ⟨a, b, rfl⟩
      have ha := h2 _ rfl a (by simp)
      have hb := h2 _ rfl b (by simp)
      refine bok (iter_t _) <| bok (a := [.bool (isN a), .bool (isN b)]) ?_ <| bok (a := .bool (isN a && isN b)) ?_ rfl
      · have e : ∀ x : D, isDctD x = false → ((m_is_whole x).bind fun z8 => R.ok (some z8)) = .ok (some (.bool (isN x))) := fun x hx => bok (whole_ok hx) rfl
        have := compL_all (xs := [a, b]) (g := id) (h := fun x => PyData.bool (isN x)) (f := fun x7 => (m_is_whole x7).bind fun z8 => R.ok (some z8)) (by simp) fun x hx => by
          have : x = a ∨ x = b := by simpa using hx
          rcases this with rfl | rfl
          · exact e _ ha
          · exact e _ hb
        exact this
      · simp [allL, boolsD]
    · rw [if_neg (by simpa using c), decide_eq_false c]
      have : lotB (.tuple xs) = false := by
        match xs, c with
        | [], _ => rfl
        | [_], _ => rfl
        | [_, _], c => exact absurd rfl c
        | _ :: _ :: _ :: _, _ => rfl
      rw [this]
  | _ => rfl
theorem small_i {i : Int} (h : i.natAbs < 2 ^ 200) : Small 0 200 (.int i) := Small.int h
theorem small_lot {v : Vc} (h1 : v.1.natAbs < 2 ^ 200) (h2 : v.2.natAbs < 2 ^ 200) : Small 1 402 (lotD v) :=
  (SmallAll.tuple (SmallAll.cons (small_i h1) (SmallAll.cons (small_i h2) SmallAll.nil))).mono (by decide) (by decide)
theorem small_point {p : Vc × Int} (h1 : p.1.1.natAbs < 2 ^ 200) (h2 : p.1.2.natAbs < 2 ^ 200) (h3 : p.2.natAbs < 2 ^ 200) : Small 2 604 (pointD p) :=
  (SmallAll.tuple (SmallAll.cons (small_lot h1 h2) (SmallAll.cons (small_i h3) SmallAll.nil))).mono (by decide) (by decide)
theorem small_b (b : Bool) : Small 0 0 (.bool b) := ⟨by simp [PyData.plain], by simp [PyData.depth], by simp [PyData.showable], by simp [PyData.hasDict], by simp [PyData.leavesShort], by simp [PyData.weight]⟩
theorem ok_of {dp w : Nat} {d : D} (h : Small dp w d) (h1 : dp ≤ 40) : okD d = true := by
  unfold okD; rw [h.plain, decide_eq_true (Nat.le_trans h.depth h1)]; rfl
theorem eqv_lot (u v : Vc) : PyData.eqv (lotD u) (lotD v) = decide (u = v) := by
  unfold lotD
  simp only [PyData.eqv, PyData.eqvAll, eqv_i, Bool.and_true]
  by_cases h1 : u.1 = v.1 <;> by_cases h2 : u.2 = v.2 <;> simp [h1, h2, Prod.ext_iff]
theorem eqv_point (p q : Vc × Int) : PyData.eqv (pointD p) (pointD q) = decide (p = q) := by
  unfold pointD
  simp only [PyData.eqv, PyData.eqvAll, eqv_i, eqv_lot, Bool.and_true]
  by_cases h1 : p.1 = q.1 <;> by_cases h2 : p.2 = q.2 <;> simp [h1, h2, Prod.ext_iff]
/-- a point in least terms, not great -/
structure Pn (n : Nat) (p : Vc × Int) : Prop where
  pos : 0 < p.2
  co : Nat.gcd (Nat.gcd p.1.1.natAbs p.1.2.natAbs) p.2.natAbs = 1
  bx : p.1.1.natAbs < 2 ^ n
  by' : p.1.2.natAbs < 2 ^ n
  bc : p.2.natAbs < 2 ^ n
theorem Pn.self {n : Nat} {p : Vc × Int} (h : Pn n p) : IsLow p.1.1 p.1.2 p.2 p.1.1 p.1.2 p.2 := ⟨h.pos, h.co, rfl, rfl⟩
theorem Pn.mono {n m : Nat} {p : Vc × Int} (h : Pn n p) (k : n ≤ m) : Pn m p :=
  have e : 2 ^ n ≤ 2 ^ m := Nat.pow_le_pow_right (by decide) k
  ⟨h.pos, h.co, Nat.lt_of_lt_of_le h.bx e, Nat.lt_of_lt_of_le h.by' e, Nat.lt_of_lt_of_le h.bc e⟩
theorem Pt.pn {n : Nat} {x y c X Y C : Int} (h : Pt x y c X Y C) (hx : x.natAbs < 2 ^ n) (hy : y.natAbs < 2 ^ n) (hc : c.natAbs < 2 ^ n) : Pn n ((X, Y), C) :=
  ⟨h.low.pos, h.low.co, Nat.lt_of_le_of_lt h.bx hx, Nat.lt_of_le_of_lt h.by' hy, Nat.lt_of_le_of_lt h.bc hc⟩
theorem Pn.small {n : Nat} {p : Vc × Int} (h : Pn n p) (k : n ≤ 200) : Small 2 604 (pointD p) := by
  have h' := h.mono k
  exact small_point h'.bx h'.by' h'.bc
theorem Pt.eq {x y c x' y' c' : Int} {p q : Vc × Int} (h : Pt x y c p.1.1 p.1.2 p.2) (h' : IsLow x' y' c' q.1.1 q.1.2 q.2) (hc : c ≠ 0) (hc' : c' ≠ 0) (ex : x * c' = x' * c) (ey : y * c' = y' * c) : p = q := by
  obtain ⟨a, b, c⟩ := h.low.uniq h' hc hc' ex ey
  exact Prod.ext (Prod.ext a b) c

theorem small_n : Small 0 0 .none := ⟨by simp [PyData.plain], by simp [PyData.depth], by simp [PyData.showable], by simp [PyData.hasDict], by simp [PyData.leavesShort], by simp [PyData.weight]⟩
theorem eq_nil {ys : List D} (h : ∀ a ∈ ys, a.plain = true ∧ a.depth ≤ 10) : eqD (.list ys) (.list []) = .ok ys.isEmpty := by
  have p1 : ∀ l : List D, (∀ a ∈ l, a.plain = true ∧ a.depth ≤ 10) → PyData.plainAll l = true ∧ PyData.depthAll l ≤ 10 := by
    intro l
    induction l with
    | nil => intro _; simp [PyData.plainAll, PyData.depthAll]
    | cons a l ih =>
      intro hh
      obtain ⟨a1, a2⟩ := hh a (by simp)
      obtain ⟨b1, b2⟩ := ih fun x hx => hh x (by simp [hx])
      simp only [PyData.plainAll, PyData.depthAll, a1, b1, Bool.and_self, true_and]
      omega
  obtain ⟨q1, q2⟩ := p1 ys h
  have o : okD (.list ys) = true := by
    unfold okD
    rw [show (PyData.list ys).plain = true by simpa [PyData.plain] using q1, decide_eq_true (by simp only [PyData.depth]; omega)]; rfl
  have o2 : okD (.list []) = true := by decide
  unfold eqD
  rw [o, o2]
  cases ys <;> simp [PyData.eqv, PyData.eqvAll]
theorem pair_ok {d : D} (h : isDctD d = false) (h2 : ∀ xs, d = .tuple xs → ∀ a ∈ xs, isDctD a = false) (h3 : ∀ xs, d = .tuple xs → ∀ a ∈ xs, a.plain = true ∧ a.depth ≤ 10) : m__law_is_pair d = .ok (.bool (lotB d)) := by
  have no : ∀ {m : R Bool} {k : R D}, m = .ok true → (m.bind fun t11 => if t11 = true then R.ok (PyData.bool false) else k) = .ok (.bool false) := fun {m k} e => bokT e rfl
  unfold m__law_is_pair
  cases d with
  | dict _ => cases h
  | tuple xs =>
    have tt : isaD isTupD (.tuple xs) = .ok true := rfl
    by_cases c : xs.length = 2
    · obtain ⟨a, b, rfl⟩ : ∃ a b, xs = [a, b] := by
        match xs, c with
        | [a, b], _ => exact ⟨a, b, rfl⟩
      have ha := h2 _ rfl a (by simp)
      have hb := h2 _ rfl b (by simp)
      have ne2 : neD (.int (([a, b] : List D).length : Int)) (PyData.int 2) = .ok false := by rw [ne_i]; rfl
      refine bokF (bok tt <| bokN rfl <| bok (len_t _) <| bok ne2 rfl) <| bok (iter_t _) ?_
      have e : ∀ x : D, isDctD x = false → (((isaD isIntD x).bind fun z8 => (truth (PyData.bool z8)).bind fun z9 => if (!z9) = true then R.ok true else (isaD isBoolD x).bind fun z10 => (truth (PyData.bool z10)).bind fun z11 => R.ok z11 : R Bool).bind fun t12 => if t12 = true then R.ok (some x) else R.ok none : R (Option D)) = .ok (if isN x then none else some x) := by
        intro x hx
        cases x with
        | dict _ => cases hx
        | _ => rfl
      rw [compL_of (by simp)]
      have qa := h3 _ rfl a (by simp)
      have qb := h3 _ rfl b (by simp)
      have fin : ∀ {ys : List D} {r : Bool}, (∀ x ∈ ys, x = a ∨ x = b) → ys.isEmpty = r → ((eqD (PyData.list ys) (PyData.list [])).bind fun z14 => R.ok (PyData.bool z14)) = .ok (.bool r) := fun {ys r} hy hr =>
        bok (eq_nil fun x hx => by rcases hy x hx with rfl | rfl <;> assumption) (by rw [hr])
      simp only [compP, e _ ha, e _ hb, R.bind_ok, lotB]
      cases isN a <;> cases isN b
      · exact fin (ys := [a, b]) (by simp) rfl
      · exact fin (ys := [a]) (by simp) rfl
      · exact fin (ys := [b]) (by simp) rfl
      · exact fin (ys := []) (by simp) rfl
    · have ne2 : neD (.int (xs.length : Int)) (PyData.int 2) = .ok true := by rw [ne_i]; congr 1; simp; omega
      have : lotB (.tuple xs) = false := by
        match xs, c with
        | [], _ => rfl
        | [_], _ => rfl
        | [_, _], c => exact absurd rfl c
        | _ :: _ :: _ :: _, _ => rfl
      rw [this]
      exact no (bok tt <| bokN rfl <| bok (len_t _) <| bok ne2 rfl)
  | _ => exact no rfl
end K07

set_option autoImplicit false
set_option linter.all false
set_option maxRecDepth 100000
set_option exponentiation.threshold 5000
namespace K07
open PySem L2 Z
theorem lb1 (b : D) : lotB (.tuple [b, PyData.int 1]) = isN b := by simp [lotB, isN]
theorem point_alike {d : D} (h : isDctD d = false) (h2 : ∀ xs, d = .tuple xs → ∀ a ∈ xs, isDctD a = false) (h3 : ∀ xs, d = .tuple xs → ∀ a ∈ xs, ∀ ys, a = .tuple ys → ∀ b ∈ ys, isDctD b = false)
    (h4 : ∀ xs, d = .tuple xs → ∀ a ∈ xs, a.plain = true ∧ a.depth ≤ 10) (h5 : ∀ xs, d = .tuple xs → ∀ a ∈ xs, ∀ ys, a = .tuple ys → ∀ b ∈ ys, b.plain = true ∧ b.depth ≤ 10)
    (hb : ∀ p : Vc × Int, d = pointD p → p.1.1.natAbs < 2 ^ 200 ∧ p.1.2.natAbs < 2 ^ 200 ∧ p.2.natAbs < 2 ^ 200) : ∃ b, m_is_point d = .ok (.bool b) ∧ m__law_is_point d = .ok (.bool b) := by
  have no : ∀ {m : R Bool} {k : R D}, m = .ok true → (m.bind fun t11 => if t11 = true then R.ok (PyData.bool false) else k) = .ok (.bool false) := fun {m k} e => bokT e rfl
  cases d with
  | dict _ => cases h
  | tuple xs =>
    have tt : isaD isTupD (.tuple xs) = .ok true := rfl
    by_cases c : xs.length = 2
    · obtain ⟨a, b, rfl⟩ : ∃ a b, xs = [a, b] := by
        match xs, c with
        | [a, b], _ => exact ⟨a, b, rfl⟩
      have ha := h2 _ rfl a (by simp)
      have hb' := h2 _ rfl b (by simp)
      have hl := lot_ok ha (h3 _ rfl a (by simp))
      have hl' := pair_ok ha (h3 _ rfl a (by simp)) (h5 _ rfl a (by simp))
      have hw := whole_ok hb'
      have hw' : m__law_is_pair (.tuple [b, PyData.int 1]) = .ok (.bool (lotB (.tuple [b, PyData.int 1]))) := pair_ok rfl (fun xs e x hx => by
        cases e
        simp only [List.mem_cons, List.not_mem_nil, or_false] at hx
        rcases hx with rfl | rfl
        · exact hb'
        · rfl) (fun xs e x hx => by
        cases e
        simp only [List.mem_cons, List.not_mem_nil, or_false] at hx
        rcases hx with rfl | rfl
        · exact h4 _ rfl x (by simp)
        · simp [PyData.plain, PyData.depth])
      have i0 : item (.tuple [a, b]) (PyData.int 0) = .ok a := item0 _ _
      have i1 : item (.tuple [a, b]) (PyData.int 1) = .ok b := item1 _ _ _
      have ne2 : neD (.int (([a, b] : List D).length : Int)) (PyData.int 2) = .ok false := by rw [ne_i]; rfl
      have pre1 : ∀ {k : R D} {r : R D}, (if !(lotB a) then r = .ok (.bool false) else if !(isN b) then r = .ok (.bool false) else k = r) → ((isaD isTupD (.tuple [a, b])).bind fun z1 => (truth (PyData.bool z1)).bind fun z2 => if (!z2) = true then R.ok true else (lenD (.tuple [a, b])).bind fun z3 => (neD z3 (PyData.int 2)).bind fun z4 => if z4 = true then R.ok true else (item (.tuple [a, b]) (PyData.int 0)).bind fun z5 => (m_is_lot z5).bind fun z6 => (truth z6).bind fun z7 =>
          if (!z7) = true then R.ok true else (item (.tuple [a, b]) (PyData.int 1)).bind fun z8 => (m_is_whole z8).bind fun z9 => (truth z9).bind fun z10 => R.ok (!z10) : R Bool).bind (fun t11 => if t11 = true then R.ok (PyData.bool false) else k) = r := by
        intro k r hk
        by_cases cl : lotB a = true
        · by_cases cn : isN b = true
          · simp only [cl, cn, Bool.not_true, Bool.false_eq_true, if_false] at hk
            exact bokF (bok tt <| bokN rfl <| bok (len_t _) <| bokF ne2 <| bok i0 <| bok hl <| bokN (by rw [cl]; rfl) <| bok i1 <| bok hw <| bok (a := true) (by rw [cn]; rfl) rfl) hk
          · have cn' : isN b = false := by simpa using cn
            simp only [cl, cn', Bool.not_true, Bool.false_eq_true, if_false, Bool.not_false, if_true] at hk
            rw [hk]
            exact bokT (bok tt <| bokN rfl <| bok (len_t _) <| bokF ne2 <| bok i0 <| bok hl <| bokN (by rw [cl]; rfl) <| bok i1 <| bok hw <| bok (a := false) (by rw [cn']; rfl) rfl) rfl
        · have cl' : lotB a = false := by simpa using cl
          simp only [cl', Bool.not_false, if_true] at hk
          rw [hk]
          exact bokT (bok tt <| bokN rfl <| bok (len_t _) <| bokF ne2 <| bok i0 <| bok hl <| bokM (by rw [cl']; rfl) rfl) rfl
      have pre2 : ∀ {k : R D} {r : R D}, (if !(lotB a) then r = .ok (.bool false) else if !(isN b) then r = .ok (.bool false) else k = r) → ((isaD isTupD (.tuple [a, b])).bind fun z1 => (truth (PyData.bool z1)).bind fun z2 => if (!z2) = true then R.ok true else (lenD (.tuple [a, b])).bind fun z3 => (neD z3 (PyData.int 2)).bind fun z4 => if z4 = true then R.ok true else (item (.tuple [a, b]) (PyData.int 0)).bind fun z5 => (m__law_is_pair z5).bind fun z6 => (truth z6).bind fun z7 =>
          if (!z7) = true then R.ok true else (item (.tuple [a, b]) (PyData.int 1)).bind fun z8 => (m__law_is_pair (PyData.tuple [z8, (PyData.int 1)])).bind fun z9 => (truth z9).bind fun z10 => R.ok (!z10) : R Bool).bind (fun t11 => if t11 = true then R.ok (PyData.bool false) else k) = r := by
        intro k r hk
        by_cases cl : lotB a = true
        · by_cases cn : isN b = true
          · simp only [cl, cn, Bool.not_true, Bool.false_eq_true, if_false] at hk
            exact bokF (bok tt <| bokN rfl <| bok (len_t _) <| bokF ne2 <| bok i0 <| bok hl' <| bokN (by rw [cl]; rfl) <| bok i1 <| bok hw' <| bok (a := true) (by rw [lb1, cn]; rfl) rfl) hk
          · have cn' : isN b = false := by simpa using cn
            simp only [cl, cn', Bool.not_true, Bool.false_eq_true, if_false, Bool.not_false, if_true] at hk
            rw [hk]
            exact bokT (bok tt <| bokN rfl <| bok (len_t _) <| bokF ne2 <| bok i0 <| bok hl' <| bokN (by rw [cl]; rfl) <| bok i1 <| bok hw' <| bok (a := false) (by rw [lb1, cn']; rfl) rfl) rfl
        · have cl' : lotB a = false := by simpa using cl
          simp only [cl', Bool.not_false, if_true] at hk
          rw [hk]
          exact bokT (bok tt <| bokN rfl <| bok (len_t _) <| bokF ne2 <| bok i0 <| bok hl' <| bokM (by rw [cl']; rfl) rfl) rfl
      by_cases cl : lotB a = true
      · by_cases cn : isN b = true
        · obtain ⟨e, rfl⟩ : ∃ e, b = .int e := by cases b <;> simp [isN] at cn; exact ⟨_, rfl⟩
          obtain ⟨x, y, rfl⟩ : ∃ x y, a = .tuple [.int x, .int y] := by
            unfold lotB at cl
            split at cl
            · rename_i u v
              simp only [Bool.and_eq_true] at cl
              obtain ⟨x, rfl⟩ : ∃ x, u = .int x := by cases u <;> simp [isN] at cl; exact ⟨_, rfl⟩
              obtain ⟨y, rfl⟩ : ∃ y, v = .int y := by cases v <;> simp [isN] at cl; exact ⟨_, rfl⟩
              exact ⟨x, y, rfl⟩
            · cases cl
          obtain ⟨b1, b2, b3⟩ := hb ((x, y), e) rfl
          simp only at b1 b2 b3
          by_cases hc : 0 < e
          · obtain ⟨X, Y, C, e1, p1⟩ := low_ok (x := x) (y := y) (c := e) (by omega) b3
            have sP : Small 2 604 (pointD ((X, Y), C)) := small_point (by have := p1.bx; show X.natAbs < _; omega) (by have := p1.by'; show Y.natAbs < _; omega) (by have := p1.bc; show C.natAbs < _; omega)
            have sd : Small 2 604 (pointD ((x, y), e)) := small_point b1 b2 b3
            have eqP : eqD (pointD ((X, Y), C)) (pointD ((x, y), e)) = .ok (decide (((X, Y), C) = ((x, y), e))) := by
              unfold eqD
              rw [ok_of sP (by decide), ok_of sd (by decide), eqv_point]; rfl
            have gc : gtD (.int e) (PyData.int 0) = .ok true := by rw [gt_i, decide_eq_true hc]
            obtain ⟨E, hE⟩ : ∃ E : Nat, e = (E : Int) := ⟨e.toNat, by omega⟩
            have g1 := lpart_ok (a := x.natAbs) (b := E) (by rw [hE] at b3; simpa using b3)
            have g2 := lpart_ok (a := Nat.gcd x.natAbs E) (b := y.natAbs) b2
            have ga : Nat.gcd (Nat.gcd x.natAbs E) y.natAbs = Nat.gcd (Nat.gcd x.natAbs y.natAbs) e.natAbs := by
              rw [hE, Int.natAbs_natCast, Nat.gcd_assoc, Nat.gcd_comm E, ← Nat.gcd_assoc]
            have q : (((X, Y), C) = ((x, y), e)) ↔ Nat.gcd (Nat.gcd x.natAbs E) y.natAbs = 1 := by
              rw [ga]
              constructor
              · intro h
                simp only [Prod.mk.injEq] at h
                obtain ⟨⟨rfl, rfl⟩, rfl⟩ := h
                exact p1.low.co
              · intro h
                exact Pt.eq (p := ((X, Y), C)) (q := ((x, y), e)) p1 ⟨hc, h, rfl, rfl⟩ (by omega) (by omega) rfl rfl
            refine ⟨decide (((X, Y), C) = ((x, y), e)), ?_, ?_⟩
            · unfold m_is_point
              refine pre1 ?_
              simp only [cl, cn, Bool.not_true, Bool.false_eq_true, if_false]
              exact bok (bok i1 <| bok gc <| bokT rfl <| bok i0 <| bok i1 <| bok e1 <| bok eqP rfl) rfl
            · unfold m__law_is_point
              refine pre2 ?_
              simp only [cl, cn, Bool.not_true, Bool.false_eq_true, if_false]
              have e1' : eqD (.int ((Nat.gcd (Nat.gcd x.natAbs E) y.natAbs : Nat) : Int)) (PyData.int 1) = .ok (decide (((X, Y), C) = ((x, y), e))) := by
                rw [eq_i]; congr 1; simp only [decide_eq_decide]; rw [q]; omega
              rw [hE] at i1 gc ⊢
              exact bok i1 <| bok (bok gc <| bokT rfl <| bok i0 <| bok (item0 _ _) <| bok (abs_i _) <| bok g1 <| bok i0 <| bok (item1 _ _ _) <| bok (abs_i _) <| bok g2 <| bok (by rw [hE] at e1'; exact e1') rfl) rfl
          · have gc : gtD (.int e) (PyData.int 0) = .ok false := by rw [gt_i, decide_eq_false hc]
            refine ⟨false, ?_, ?_⟩
            · unfold m_is_point
              refine pre1 ?_
              simp only [cl, cn, Bool.not_true, Bool.false_eq_true, if_false]
              exact bok (bok i1 <| bok gc <| bokF rfl rfl) rfl
            · unfold m__law_is_point
              refine pre2 ?_
              simp only [cl, cn, Bool.not_true, Bool.false_eq_true, if_false]
              exact bok i1 <| bok (bok gc <| bokF rfl rfl) rfl
        · have cn' : isN b = false := by simpa using cn
          refine ⟨false, ?_, ?_⟩
          · unfold m_is_point
            exact pre1 (by simp [cl, cn'])
          · unfold m__law_is_point
            exact pre2 (by simp [cl, cn'])
      · have cl' : lotB a = false := by simpa using cl
        refine ⟨false, ?_, ?_⟩
        · unfold m_is_point
          exact pre1 (by simp [cl'])
        · unfold m__law_is_point
          exact pre2 (by simp [cl'])
    · have ne2 : neD (.int (xs.length : Int)) (PyData.int 2) = .ok true := by rw [ne_i]; congr 1; simp; omega
      exact ⟨false, by unfold m_is_point; exact no (bok tt <| bokN rfl <| bok (len_t _) <| bokT ne2 rfl), by unfold m__law_is_point; exact no (bok tt <| bokN rfl <| bok (len_t _) <| bokT ne2 rfl)⟩
  | _ => exact ⟨false, by unfold m_is_point; exact no rfl, by unfold m__law_is_point; exact no rfl⟩
end K07

set_option autoImplicit false
set_option linter.all false
set_option maxRecDepth 100000
set_option exponentiation.threshold 5000
namespace K07
open PySem L2 Z
theorem bd4 {i : Int} (h : i.natAbs ≤ 9) : i.natAbs < 2 ^ 4 := by omega
/-- elimination tells the table undone -/
theorem solved_ok {M : Tb} (h : SmT M) (hd : M.det ≠ 0) {x y : Vc} {px py C : Int} {n : Nat} (hC : C ≠ 0) (hx : Fq x px C n) (hy : Fq y py C n) (hn : n ≤ 20) (h1 : 1 ≤ n) :
    ∃ r1 r2 : Vc, m__law_solved (tabD M) (lotD x) (lotD y) = .ok (.tuple [lotD r1, lotD r2]) ∧ Fq r1 (M.adj.led (px, py)).1 (C * M.det) 88 ∧ Fq r2 (M.adj.led (px, py)).2 (C * M.det) 88 := by
  obtain ⟨a, b, c, d⟩ := M
  have cd : C * (a * d - b * c) ≠ 0 := Int.mul_ne_zero hC hd
  by_cases ha : a = 0
  · subst ha
    have hc : c ≠ 0 := by
      intro e; subst e; simp [Tb.det] at hd
    have hd' : c * b - d * 0 ≠ 0 := by simp [Tb.det] at hd; rw [Int.mul_comm]; simpa using hd
    obtain ⟨r1, r2, e, f1, f2⟩ := solved_body (a := c) (b := d) (c := 0) (d := b) hc (bd4 h.c) (bd4 h.d) (bd4 h.a) (bd4 h.b) hd' hC hy hx hn h1
    refine ⟨r1, r2, ?_, ?_, ?_⟩
    · unfold m__law_solved
      refine bok (un2_t _ _) <| bok (un2_t _ _) <| bok (un2_t _ _) <| bokT (by rw [eq_i]; rfl) <| bok (a := .tuple [lotD r1, lotD r2]) ?_ rfl
      unfold m__law_solved__1
      refine bok (un2_t _ _) <| bok (un2_t _ _) <| bok (un2_t _ _) <| bokF (by rw [eq_i, decide_eq_false hc]) ?_
      exact e
    · refine f1.to (Int.mul_ne_zero hC hd') ?_
      clear e
      simp only [Tb.led, Tb.adj, Tb.det]; grind
    · refine f2.to (Int.mul_ne_zero hC hd') ?_
      clear e
      simp only [Tb.led, Tb.adj, Tb.det]; grind
  · obtain ⟨r1, r2, e, f1, f2⟩ := solved_body ha (bd4 h.a) (bd4 h.b) (bd4 h.c) (bd4 h.d) hd hC hx hy hn h1
    refine ⟨r1, r2, ?_, ?_, ?_⟩
    · unfold m__law_solved
      refine bok (un2_t _ _) <| bok (un2_t _ _) <| bok (un2_t _ _) <| bokF (by rw [eq_i, decide_eq_false ha]) ?_
      exact e
    · refine f1.to cd ?_
      clear e
      simp only [Tb.led, Tb.adj, Tb.det]; grind
    · refine f2.to cd ?_
      clear e
      simp only [Tb.led, Tb.adj, Tb.det]; grind
/-- led by own fractions -/
theorem lled_ok {M : Tb} (h : SmT M) {x y : Vc} {px py C : Int} {n : Nat} (hC : C ≠ 0) (hx : Fq x px C n) (hy : Fq y py C n) (hn : n ≤ 20) :
    ∃ r1 r2 : Vc, m__law_led (tabD M) (lotD x) (lotD y) = .ok (.tuple [lotD r1, lotD r2]) ∧ Fq r1 (M.led (px, py)).1 C 60 ∧ Fq r2 (M.led (px, py)).2 C 60 := by
  have row : ∀ {a b : Int}, a.natAbs ≤ 9 → b.natAbs ≤ 9 → ∃ t u r : Vc, m__law_times (.tuple [.int a, .int 1]) (lotD x) = .ok (lotD t) ∧ m__law_times (.tuple [.int b, .int 1]) (lotD y) = .ok (lotD u) ∧ m__law_plus (lotD t) (lotD u) = .ok (lotD r) ∧ Fq r (a * px + b * py) C 60 := by
    intro a b ha hb
    obtain ⟨t, e1, f1⟩ := times_ok (Ap.of (p := a) (q := 1) (n := 4) (by decide) (bd4 ha) (by decide)) hx.ap (by omega)
    obtain ⟨u, e2, f2⟩ := times_ok (Ap.of (p := b) (q := 1) (n := 4) (by decide) (bd4 hb) (by decide)) hy.ap (by omega)
    have c1 : (1 : Int) * C ≠ 0 := by omega
    obtain ⟨r, e3, f3⟩ := plus_ok f1.ap f2.ap c1 c1 (by omega)
    exact ⟨t, u, r, e1, e2, e3, (f3.to (Int.mul_ne_zero c1 c1) (by grind)).mono (by omega)⟩
  obtain ⟨t1, u1, r1, a1, a2, a3, a4⟩ := row h.a h.b
  obtain ⟨t2, u2, r2, b1, b2, b3, b4⟩ := row h.c h.d
  refine ⟨r1, r2, ?_, a4, b4⟩
  unfold m__law_led
  refine bok (iter_t _) <| bok (a := [lotD r1, lotD r2]) ?_ <| bok (item_l0 _ _) <| bok (item_l1 _ _ _) rfl
  rw [forS_cons]
  refine bok (a := [lotD r1]) ?_ ?_
  · exact bok (un2_t _ _) <| bok a1 <| bok a2 <| bok a3 <| bok (push1 _ _ (by decide)) rfl
  · rw [forS_cons]
    exact bok (a := [lotD r1, lotD r2]) (bok (un2_t _ _) <| bok b1 <| bok b2 <| bok b3 <| bok (push1 _ _ (by show 1 < _; decide)) rfl) rfl
theorem Lo.fq {p q P Q : Int} {n : Nat} (h : Lo p q P Q) (h1 : p.natAbs < 2 ^ n) (h2 : q.natAbs < 2 ^ n) : Fq (P, Q) p q n := ⟨h.pos, h.co, h.ex, Nat.lt_of_le_of_lt h.bp h1, Nat.lt_of_le_of_lt h.bq h2⟩
theorem fracs_ok {p : Vc × Int} {n : Nat} (h : Pn n p) (hn : n ≤ 200) : ∃ f g : Vc, m__law_fractions (pointD p) = .ok (.tuple [lotD f, lotD g]) ∧ Fq f p.1.1 p.2 n ∧ Fq g p.1.2 p.2 n := by
  have c0 : p.2 ≠ 0 := by have := h.pos; omega
  have h' := h.mono hn
  obtain ⟨P, Q, e1, f1⟩ := flow_ok (p := p.1.1) c0 h'.bc
  obtain ⟨P', Q', e2, f2⟩ := flow_ok (p := p.1.2) c0 h'.bc
  refine ⟨(P, Q), (P', Q'), ?_, f1.fq h.bx h.bc, f2.fq h.by' h.bc⟩
  unfold m__law_fractions
  have i0 : item (pointD p) (PyData.int 0) = .ok (lotD p.1) := item0 _ _
  have i1 : item (pointD p) (PyData.int 1) = .ok (.int p.2) := item1 _ _ _
  exact bok i0 <| bok (item0 _ _) <| bok i1 <| bok e1 <| bok i0 <| bok (item1 _ _ _) <| bok i1 <| bok e2 rfl
/-- a drawn point -/
theorem drawn_ok {n : Nat} {s : Src} (h : Ok (n + 4) s) : ∃ (p : Vc × Int) (s' : Src), m__law_drawn_point s = .ok (pointD p, s') ∧ Pn 10 p ∧ Ok n s' := by
  obtain ⟨r1, s1, e1, h1, o1⟩ := pick_ok (n := n + 3) h (many := 41) (by decide) (by decide)
  obtain ⟨r2, s2, e2, h2, o2⟩ := pick_ok (n := n + 2) o1 (many := 6) (by decide) (by decide)
  obtain ⟨r3, s3, e3, h3, o3⟩ := pick_ok (n := n + 1) o2 (many := 41) (by decide) (by decide)
  obtain ⟨r4, s4, e4, h4, o4⟩ := pick_ok (n := n) o3 (many := 6) (by decide) (by decide)
  obtain ⟨P, Q, f1, g1⟩ := flow_ok (p := (r1 : Int) - 20) (q := 1 + (r2 : Int)) (by omega) (by omega)
  obtain ⟨P', Q', f2, g2⟩ := flow_ok (p := (r3 : Int) - 20) (q := 1 + (r4 : Int)) (by omega) (by omega)
  have q1 : (1 + (r2 : Int)) ≠ 0 := by omega
  have q2 : (1 + (r4 : Int)) ≠ 0 := by omega
  have k1 := (g1.fq (n := 5) (by omega) (by omega)).to (u' := ((r1 : Int) - 20) * (1 + (r4 : Int))) (v' := (1 + (r2 : Int)) * (1 + (r4 : Int))) q1 (by grind)
  have k2 := (g2.fq (n := 5) (by omega) (by omega)).to (u' := ((r3 : Int) - 20) * (1 + (r2 : Int))) (v' := (1 + (r2 : Int)) * (1 + (r4 : Int))) q2 (by grind)
  obtain ⟨p, e5, l1, b1, b2, b3⟩ := lpoint_ok k1 k2 (by decide)
  refine ⟨p, s4, ?_, ⟨l1.pos, l1.co, b1, b2, b3⟩, o4⟩
  unfold m__law_drawn_point
  exact bok e1 <| bok (sub_i _ _) <| bok e2 <| bok (add_i _ _) <| bok f1 <| bok e3 <| bok (sub_i _ _) <| bok e4 <| bok (add_i _ _) <| bok f2 <| bok e5 rfl
/-- a drawn table -/
theorem row_ok {n : Nat} {s : Src} (h : Ok (n + 2) s) {far : Int} (h1 : 1 ≤ far) (h2 : far ≤ 9) {f : D → Src → R (Option D × Src)} (hf : ∀ x5 s6, f x5 s6 = ((mul (PyData.int 2) (.int far)).bind fun z7 =>
    (add z7 (PyData.int 1)).bind fun z8 =>
    (m__law_pick s6 z8).bind fun (z9, s10) =>
    (sub z9 (.int far)).bind fun z11 =>
    R.ok (some z11, s10))) : ∃ (a b : Int) (s' : Src), compS [.int 0, .int 1] s f = .ok ([.int a, .int b], s') ∧ a.natAbs ≤ 9 ∧ b.natAbs ≤ 9 ∧ Ok n s' := by
  have two : mul (PyData.int 2) (.int far) = .ok (.int (2 * far)) := mul_l (by decide)
  obtain ⟨r1, s1, e1, g1, o1⟩ := pick_ok (n := n + 1) h (many := 2 * far + 1) (by omega) (by omega)
  obtain ⟨r2, s2, e2, g2, o2⟩ := pick_ok (n := n) o1 (many := 2 * far + 1) (by omega) (by omega)
  refine ⟨(r1 : Int) - far, (r2 : Int) - far, s2, ?_, by omega, by omega, o2⟩
  rw [compS_of (by simp)]
  simp only [compT]
  refine bok (a := (some (PyData.int ((r1 : Int) - far)), s1)) (by rw [hf]; exact bok two <| bok (add_i _ _) <| bok e1 <| bok (sub_i _ _) rfl) ?_
  exact bok (a := ([PyData.int ((r2 : Int) - far)], s2)) (bok (a := (some (PyData.int ((r2 : Int) - far)), s2)) (by rw [hf]; exact bok two <| bok (add_i _ _) <| bok e2 <| bok (sub_i _ _) rfl) rfl) rfl
theorem table_ok {n : Nat} {s : Src} (h : Ok (n + 4) s) {far : Int} (h1 : 1 ≤ far) (h2 : far ≤ 9) : ∃ (M : Tb) (s' : Src), m__law_table s (.int far) = .ok (tabD M, s') ∧ SmT M ∧ Ok n s' := by
  obtain ⟨a, b, s1, e1, ha, hb, o1⟩ := row_ok (n := n + 2) h h1 h2 (fun _ _ => rfl)
  obtain ⟨c, d, s2, e2, hc, hd, o2⟩ := row_ok (n := n) o1 h1 h2 (fun _ _ => rfl)
  refine ⟨⟨a, b, c, d⟩, s2, ?_, ⟨ha, hb, hc, hd⟩, o2⟩
  unfold m__law_table
  refine bok rng2 <| bok (a := ([.tuple [.int a, .int b], .tuple [.int c, .int d]], s2)) ?_ rfl
  rw [compS_of (by simp)]
  simp only [compT]
  refine bok (a := (some (.tuple [.int a, .int b]), s1)) (bok rng2 <| bok e1 rfl) ?_
  exact bok (a := ([.tuple [.int c, .int d]], s2)) (bok (a := (some (.tuple [.int c, .int d]), s2)) (bok rng2 <| bok e2 rfl) rfl) rfl
end K07

set_option autoImplicit false
set_option linter.all false
set_option maxRecDepth 100000
set_option exponentiation.threshold 5000
namespace K07
open PySem L2 Z
theorem bet {α β : Type} {f : α → R β} {a b : α} (h : a = b) : f a = f b := by rw [h]
/-- least terms by the program, as a point -/
theorem lowp {x y c : Int} {n : Nat} (hc : c ≠ 0) (hn : n ≤ 200) (hx : x.natAbs < 2 ^ n) (hy : y.natAbs < 2 ^ n) (hb : c.natAbs < 2 ^ n) : ∃ p : Vc × Int, m_point_low (lotD (x, y)) (.int c) = .ok (pointD p) ∧ Pt x y c p.1.1 p.1.2 p.2 ∧ Pn n p := by
  obtain ⟨X, Y, C, e1, p1⟩ := low_ok (x := x) (y := y) hc (Nat.lt_of_lt_of_le hb (Nat.pow_le_pow_right (by decide) hn))
  exact ⟨((X, Y), C), e1, p1, p1.pn hx hy hb⟩
/-- the sum of two points, by the program and by own fractions -/
theorem sum_ok {p q : Vc × Int} (hp : Pn 10 p) (c0 : 0 < q.2) (bx : q.1.1.natAbs < 2 ^ 10) (by' : q.1.2.natAbs < 2 ^ 10) (bc : q.2.natAbs < 2 ^ 10) {f1 f2 g1 g2 : Vc} (hf1 : Fq f1 p.1.1 p.2 10) (hf2 : Fq f2 p.1.2 p.2 10) (hg1 : Ap g1 q.1.1 q.2 10) (hg2 : Ap g2 q.1.2 q.2 10) :
    ∃ (r : Vc × Int) (a b : Vc), m_points_added (pointD p) (pointD q) = .ok (pointD r) ∧ Pn 30 r ∧ m__law_plus (lotD f1) (lotD g1) = .ok (lotD a) ∧ m__law_plus (lotD f2) (lotD g2) = .ok (lotD b) ∧ m__law_point (lotD a) (lotD b) = .ok (pointD r) := by
  have p0 := hp.pos
  have cc : p.2 * q.2 ≠ 0 := Int.mul_ne_zero (by omega) (by omega)
  have x1 := bmul hp.bx bc
  have x2 := bmul bx hp.bc
  have y1 := bmul hp.by' bc
  have y2 := bmul by' hp.bc
  have z1 := bmul hp.bc bc
  obtain ⟨r, e1, e2, e3⟩ := lowp (x := p.1.1 * q.2 + q.1.1 * p.2) (y := p.1.2 * q.2 + q.1.2 * p.2) (c := p.2 * q.2) (n := 30) cc (by decide) (by have := Int.natAbs_add_le (p.1.1 * q.2) (q.1.1 * p.2); omega) (by have := Int.natAbs_add_le (p.1.2 * q.2) (q.1.2 * p.2); omega) (by omega)
  obtain ⟨a, a1, a2⟩ := plus_ok hf1.ap hg1 (by omega) (by omega) (by decide)
  obtain ⟨b, b1, b2⟩ := plus_ok hf2.ap hg2 (by omega) (by omega) (by decide)
  obtain ⟨r', l1, l2, _⟩ := lpoint_ok a2 b2 (by decide)
  have : r = r' := e2.eq l2 cc cc rfl rfl
  subst this
  refine ⟨r, a, b, ?_, e3, a1, b1, l1⟩
  unfold m_points_added
  exact bok (un2_t _ _) <| bok (un2_t _ _) <| bok (un2_t _ _) <| bok (un2_t _ _) <| bok (mul_i (szb hp.bx) (szb bc)) <| bok (mul_i (szb bx) (szb hp.bc)) <| bok (add_i _ _) <| bok (mul_i (szb hp.by') (szb bc)) <| bok (mul_i (szb by') (szb hp.bc)) <| bok (add_i _ _) <| bok (mul_i (szb hp.bc) (szb bc)) <| bok e1 rfl
theorem less_is {p q r : Vc × Int} (h : m_points_added (pointD p) (pointD ((-q.1.1, -q.1.2), q.2)) = .ok (pointD r)) : m_points_less (pointD p) (pointD q) = .ok (pointD r) := by
  unfold m_points_less
  exact bok (un2_t _ _) <| bok (un2_t _ _) <| bok (neg_i _) <| bok (neg_i _) <| bok h rfl
theorem Fq.neg {f : Vc} {u v : Int} {n : Nat} (h : Fq f u v n) : Ap (0 - f.1, f.2) (-u) v n := by
  refine ⟨by have := h.pos; show f.2 ≠ 0; omega, ?_, by have := h.b1; show (0 - f.1).natAbs < _; omega, h.b2⟩
  have := h.eq
  show (0 - f.1) * v = -u * f.2
  grind
theorem led_bd {M : Tb} (h : SmT M) {x y : Int} {n : Nat} (hx : x.natAbs < 2 ^ n) (hy : y.natAbs < 2 ^ n) : (M.led (x, y)).1.natAbs < 2 ^ (n + 5) ∧ (M.led (x, y)).2.natAbs < 2 ^ (n + 5) := by
  have e := h.et
  have e5 : 4 + n + 1 = n + 5 := by omega
  have a := two_bd e.a e.b hx hy
  have b := two_bd e.c e.d hx hy
  rw [e5] at a b
  exact ⟨a, b⟩
theorem led_lot {M : Tb} (h : SmT M) {v : Vc} {n : Nat} (h1 : v.1.natAbs < 2 ^ n) (h2 : v.2.natAbs < 2 ^ n) (hn : n ≤ 3000) : m_lot_led (tabD M) (lotD v) = .ok (lotD (M.led v)) := led_any h.et (by decide) h1 h2 hn
/-- led: by the program and by own fractions -/
theorem led_pt {M : Tb} (h : SmT M) {p : Vc × Int} (hp : Pn 10 p) {f g : Vc} (hf : Fq f p.1.1 p.2 10) (hg : Fq g p.1.2 p.2 10) :
    ∃ (r : Vc × Int) (a b : Vc), m_point_led (tabD M) (pointD p) = .ok (pointD r) ∧ Pn 15 r ∧ m__law_led (tabD M) (lotD f) (lotD g) = .ok (.tuple [lotD a, lotD b]) ∧ m__law_point (lotD a) (lotD b) = .ok (pointD r) := by
  have c0 : p.2 ≠ 0 := by have := hp.pos; omega
  obtain ⟨b1, b2⟩ := led_bd h hp.bx hp.by'
  have bc := hp.bc
  obtain ⟨r, e1, e2, e3⟩ := lowp (x := (M.led p.1).1) (y := (M.led p.1).2) (c := p.2) (n := 15) c0 (by decide) b1 b2 (by omega)
  obtain ⟨a, b, l1, l2, l3⟩ := lled_ok h c0 hf hg (by decide)
  obtain ⟨r', k1, k2, _⟩ := lpoint_ok l2 l3 (by decide)
  have : r = r' := e2.eq k2 c0 c0 rfl rfl
  subst this
  refine ⟨r, a, b, ?_, e3, l1, k1⟩
  unfold m_point_led
  have i0 : item (pointD p) (PyData.int 0) = .ok (lotD p.1) := item0 _ _
  have i1 : item (pointD p) (PyData.int 1) = .ok (.int p.2) := item1 _ _ _
  exact bok i0 <| bok (led_lot h hp.bx hp.by' (by decide)) <| bok i1 <| bok e1 rfl
/-- undone: by the program and by elimination -/
theorem undone_pt {M : Tb} (h : SmT M) (hd : M.det ≠ 0) {p : Vc × Int} (hp : Pn 10 p) {f g : Vc} (hf : Fq f p.1.1 p.2 10) (hg : Fq g p.1.2 p.2 10) :
    ∃ (r : Vc × Int) (a b : Vc), m_point_undone (tabD M) (pointD p) = .ok (pointD r) ∧ Pn 20 r ∧ m__law_solved (tabD M) (lotD f) (lotD g) = .ok (.tuple [lotD a, lotD b]) ∧ m__law_point (lotD a) (lotD b) = .ok (pointD r) := by
  have c0 : p.2 ≠ 0 := by have := hp.pos; omega
  obtain ⟨b1, b2⟩ := led_bd (adj_sm h) hp.bx hp.by'
  have bc := hp.bc
  have bd := det_bd h
  have cc : p.2 * M.det ≠ 0 := Int.mul_ne_zero c0 hd
  have m1 : (p.2 * M.det).natAbs < 2 ^ 20 := Nat.lt_of_lt_of_le (bmul bc (show M.det.natAbs < 2 ^ 8 by omega)) (by decide)
  obtain ⟨r, e1, e2, e3⟩ := lowp (x := (M.adj.led p.1).1) (y := (M.adj.led p.1).2) (c := p.2 * M.det) (n := 20) cc (by decide) (by show (M.adj.led (p.1.1, p.1.2)).1.natAbs < _; omega) (by show (M.adj.led (p.1.1, p.1.2)).2.natAbs < _; omega) m1
  obtain ⟨a, b, l1, l2, l3⟩ := solved_ok h hd c0 hf hg (by decide) (by decide)
  obtain ⟨r', k1, k2, _⟩ := lpoint_ok l2 l3 (by decide)
  have : r = r' := e2.eq k2 cc cc rfl rfl
  subst this
  refine ⟨r, a, b, ?_, e3, l1, k1⟩
  unfold m_point_undone
  have i0 : item (pointD p) (PyData.int 0) = .ok (lotD p.1) := item0 _ _
  have i1 : item (pointD p) (PyData.int 1) = .ok (.int p.2) := item1 _ _ _
  exact bok (other_ok _) <| bok i0 <| bok (led_lot (adj_sm h) hp.bx hp.by' (by decide)) <| bok i1 <| bok (det_ok h) <| bok (mul_r (by omega)) <| bok e1 rfl
/-- a fraction is whole exactly if its bottom parts it -/
theorem Fq.dvd {f : Vc} {u v : Int} {n : Nat} (h : Fq f u v n) (hv : v ≠ 0) : f.2 = 1 ↔ v ∣ u := by
  have e := h.eq
  constructor
  · intro h1
    rw [h1, Int.mul_one] at e
    exact ⟨f.1, by rw [← e, Int.mul_comm]⟩
  · rintro ⟨k, rfl⟩
    have e2 : f.1 = k * f.2 := by
      have : v * f.1 = v * (k * f.2) := by grind
      exact Int.eq_of_mul_eq_mul_left hv this
    have co := h.co
    rw [e2, Int.natAbs_mul, Nat.gcd_eq_right (Nat.dvd_mul_left _ _)] at co
    have := h.pos
    omega
theorem Fq.whole_is {f : Vc} {u v : Int} {n : Nat} (h : Fq f u v n) (hv : v ≠ 0) (h1 : f.2 = 1) : u.fdiv v = f.1 := by
  have e := h.eq
  rw [h1, Int.mul_one] at e
  rw [← e, Int.mul_fdiv_cancel _ hv]
/-- a lot undone, told by whether the fractions solved are whole -/
theorem lundone_ok {M : Tb} (h : SmT M) (hd : M.det ≠ 0) {v : Vc} {n : Nat} (h1 : v.1.natAbs < 2 ^ n) (h2 : v.2.natAbs < 2 ^ n) (hn : n ≤ 3000) :
    m_lot_undone (tabD M) (lotD v) = .ok (if M.det ∣ (M.adj.led v).1 ∧ M.det ∣ (M.adj.led v).2 then lotD ((M.adj.led v).1.fdiv M.det, (M.adj.led v).2.fdiv M.det) else .none) := by
  have bd := det_bd h
  have big : bigD M.det = true := bigD_of (k := 8) (by omega) (by decide)
  have md : ∀ x : Int, (M.det ∣ x) ↔ x.fmod M.det = 0 := fun x => by
    rw [Int.dvd_iff_fmod_eq_zero]
  have i0 : item (lotD (M.adj.led v)) (PyData.int 0) = .ok (.int (M.adj.led v).1) := item0 _ _
  have i1 : item (lotD (M.adj.led v)) (PyData.int 1) = .ok (.int (M.adj.led v).2) := item1 _ _ _
  unfold m_lot_undone
  refine bok (det_ok h) <| bok (other_ok _) <| bok (led_lot (adj_sm h) h1 h2 hn) ?_
  by_cases c1 : M.det ∣ (M.adj.led v).1
  · have f1 : neD (.int ((M.adj.led v).1.fmod M.det)) (PyData.int 0) = .ok false := by rw [ne_i, decide_eq_true ((md _).mp c1)]; rfl
    by_cases c2 : M.det ∣ (M.adj.led v).2
    · have f2 : neD (.int ((M.adj.led v).2.fmod M.det)) (PyData.int 0) = .ok false := by rw [ne_i, decide_eq_true ((md _).mp c2)]; rfl
      rw [if_pos ⟨c1, c2⟩]
      refine bokF (bok i0 <| bok (fmod_i hd) <| bokF f1 <| bok i1 <| bok (fmod_i hd) <| bok f2 rfl) ?_
      exact bok i0 <| bok (fdiv_i hd big) <| bok i1 <| bok (fdiv_i hd big) rfl
    · have f2 : neD (.int ((M.adj.led v).2.fmod M.det)) (PyData.int 0) = .ok true := by rw [ne_i, decide_eq_false (fun e => c2 ((md _).mpr e))]; rfl
      rw [if_neg (fun e => c2 e.2)]
      exact bokT (bok i0 <| bok (fmod_i hd) <| bokF f1 <| bok i1 <| bok (fmod_i hd) <| bok f2 rfl) rfl
  · have f1 : neD (.int ((M.adj.led v).1.fmod M.det)) (PyData.int 0) = .ok true := by rw [ne_i, decide_eq_false (fun e => c1 ((md _).mpr e))]; rfl
    rw [if_neg (fun e => c1 e.1)]
    exact bokT (bok i0 <| bok (fmod_i hd) <| bokT f1 rfl) rfl
theorem lundone_led {M : Tb} (h : SmT M) (hd : M.det ≠ 0) {v : Vc} (h1 : v.1.natAbs < 2 ^ 10) (h2 : v.2.natAbs < 2 ^ 10) : m_lot_undone (tabD M) (lotD (M.led v)) = .ok (lotD v) := by
  obtain ⟨b1, b2⟩ := led_bd h h1 h2
  rw [lundone_ok h hd b1 b2 (by decide), adj_led]
  have e1 : (vmul M.det v).1.fdiv M.det = v.1 := Int.mul_fdiv_cancel_left _ hd
  have e2 : (vmul M.det v).2.fdiv M.det = v.2 := Int.mul_fdiv_cancel_left _ hd
  rw [if_pos ⟨Int.dvd_mul_right _ _, Int.dvd_mul_right _ _⟩, e1, e2]
end K07

set_option autoImplicit false
set_option linter.all false
set_option maxRecDepth 100000
set_option exponentiation.threshold 5000
namespace K07
open PySem L2 Z
theorem fdiv_bd {x c : Int} (hc : 0 < c) : (x.fdiv c).natAbs ≤ x.natAbs := by
  rw [Int.fdiv_eq_ediv_of_nonneg _ (by omega)]; exact Int.natAbs_ediv_le_natAbs _ _
/-! ### dicts that drop what comes again -/
section
variable {α : Type} [DecidableEq α]
def uniq : List α → List α → List α
  | acc, [] => acc
  | acc, p :: r => uniq (if p ∈ acc then acc else acc ++ [p]) r
theorem uniq_nodup : ∀ (l acc : List α), acc.Nodup → (uniq acc l).Nodup
  | [], acc, h => h
  | p :: r, acc, h => by
    unfold uniq
    refine uniq_nodup r _ ?_
    split
    · exact h
    · rename_i c
      rw [List.nodup_append]
      refine ⟨h, by simp, fun a ha b hb => ?_⟩
      have : b = p := by simpa using hb
      intro e
      exact c (by rw [← this, ← e]; exact ha)
theorem uniq_mem : ∀ (l acc : List α) (x : α), x ∈ uniq acc l ↔ x ∈ acc ∨ x ∈ l
  | [], acc, x => by simp [uniq]
  | p :: r, acc, x => by
    unfold uniq
    rw [uniq_mem r]
    split
    · rename_i c
      constructor
      · rintro (h | h)
        · exact .inl h
        · exact .inr (by simp [h])
      · rintro (h | h)
        · exact .inl h
        · rcases List.mem_cons.mp h with rfl | h
          · exact .inl c
          · exact .inr h
    · simp only [List.mem_append, List.mem_cons, List.not_mem_nil, or_false]
      constructor
      · rintro ((h | h) | h) <;> simp [h]
      · rintro (h | h | h) <;> simp [h]
theorem uniq_all : ∀ (l acc : List α), (∀ x ∈ l, x ∈ acc) → uniq acc l = acc
  | [], acc, _ => rfl
  | p :: r, acc, h => by
    unfold uniq
    rw [if_pos (h p (by simp))]
    exact uniq_all r acc fun x hx => h x (by simp [hx])
theorem uniq_append : ∀ (l m acc : List α), uniq acc (l ++ m) = uniq (uniq acc l) m
  | [], m, acc => rfl
  | p :: r, m, acc => by
    show uniq (if p ∈ acc then acc else acc ++ [p]) (r ++ m) = uniq (uniq (if p ∈ acc then acc else acc ++ [p]) r) m
    exact uniq_append r m _
theorem uniq_len : ∀ (l acc : List α), (uniq acc l).length ≤ acc.length + l.length
  | [], acc => by simp [uniq]
  | p :: r, acc => by
    show (uniq (if p ∈ acc then acc else acc ++ [p]) r).length ≤ _
    have h2 := uniq_len r (if p ∈ acc then acc else acc ++ [p])
    have h3 : (if p ∈ acc then acc else acc ++ [p]).length ≤ acc.length + 1 := by split <;> simp
    rw [List.length_cons]
    omega
theorem uniq_again {l m : List α} (h : ∀ x ∈ m, x ∈ l) : uniq [] (l ++ m) = uniq [] l := by
  rw [uniq_append]
  exact uniq_all m _ fun x hx => (uniq_mem l [] x).mpr (.inr (h x hx))
theorem pairs_enc (enc : α → D) (nkf : α → NestedKey) (v : D) : ∀ l : List α, (∀ p ∈ l, keyN (enc p) = some (nkf p)) → pairsK (l.map fun p => PyData.tuple [enc p, v]) = some (l.map fun p => (enc p, nkf p, v))
  | [], _ => rfl
  | p :: r, h => by
    have e := pairs_enc enc nkf v r fun q hq => h q (by simp [hq])
    simp only [List.map_cons, pairsK, h p (by simp), e]; rfl
theorem dget_enc {enc : α → D} {nkf : α → NestedKey} (hk : ∀ p, nk (enc p) = some (nkf p)) (inj : ∀ p q, nkf p = nkf q → p = q) : ∀ (acc : List α) (kvs : List (D × D)) (p : α), kvs.map (·.1) = acc.map enc → (dGet kvs (nkf p)).isSome = decide (p ∈ acc)
  | [], kvs, p, e => by
    have : kvs = [] := by simpa using e
    subst this; rfl
  | a :: acc, [], p, e => by simp at e
  | a :: acc, kv :: kvs, p, e => by
    simp only [List.map_cons, List.cons.injEq] at e
    have ih := dget_enc hk inj acc kvs p e.2
    unfold dGet at ih ⊢
    rw [List.find?_cons]
    by_cases c : p = a
    · subst c
      rw [decide_eq_true (by rw [e.1]; exact hk p)]
      simp
    · have : decide (nk kv.1 = some (nkf p)) = false := decide_eq_false fun q => c (by
        rw [e.1, hk a] at q
        exact (inj _ _ (Option.some.inj q)).symm)
      rw [this]
      show (Option.map _ (kvs.find? _)).isSome = _
      rw [ih]
      simp [c]
theorem dmerge_enc {enc : α → D} {nkf : α → NestedKey} (hk : ∀ p, nk (enc p) = some (nkf p)) (inj : ∀ p q, nkf p = nkf q → p = q) (v : D) : ∀ (l acc : List α) (kvs : List (D × D)), kvs.map (·.1) = acc.map enc →
    (dMerge kvs (l.map fun p => (enc p, nkf p, v))).map (·.1) = (uniq acc l).map enc
  | [], acc, kvs, e => e
  | p :: r, acc, kvs, e => by
    rw [List.map_cons]
    show (dMerge (dSet kvs (enc p) (nkf p) v) _).map _ = _
    unfold uniq
    refine dmerge_enc hk inj v r _ _ ?_
    unfold dSet
    rw [dget_enc hk inj acc kvs p e]
    by_cases c : p ∈ acc
    · rw [if_pos (decide_eq_true c), if_pos c, ← e, List.map_map]
      refine List.map_congr_left fun q _ => ?_
      simp only [Function.comp_apply]
      split <;> rfl
    · rw [if_neg (by simpa using c), if_neg c, List.map_append, e, List.map_append]; rfl
theorem dict_enc {enc : α → D} {nkf : α → NestedKey} (hk : ∀ p, keyN (enc p) = some (nkf p)) (inj : ∀ p q, nkf p = nkf q → p = q) (v : D) (l : List α) (hl : l.length ≤ 16777216) :
    ∃ kvs, dictL (.list (l.map fun p => PyData.tuple [enc p, v])) = .ok (.dict kvs) ∧ kvs.map (·.1) = (uniq [] l).map enc := by
  have e := pairs_enc enc nkf v l fun p _ => hk p
  refine ⟨_, ?_, dmerge_enc (fun p => (keyN_nk (hk p)).1) inj v l [] [] rfl⟩
  unfold dictL
  simp only [e, List.length_map]
  rw [if_pos (by unfold szOk; exact decide_eq_true hl)]
end

section
variable (B : Int)
def k0 (p : Vc × Int) : Int := B.fdiv p.2
def k1 (p : Vc × Int) : Int := p.1.1 * k0 B p
def k2 (p : Vc × Int) : Int := p.1.2 * k0 B p
def keyD (p : Vc × Int) : D := .tuple [.int (k1 B p), .int (k2 B p), pointD p]
def keyK (p : Vc × Int) : NestedKey := .tup [.num (k1 B p), .num (k2 B p), .tup [.tup [.num p.1.1, .num p.1.2], .num p.2]]
theorem keyN_key (p : Vc × Int) : keyN (keyD B p) = some (keyK B p) := by
  have e : nk (keyD B p) = some (keyK B p) := rfl
  have : keyN (keyD B p) = (nk (keyD B p)).bind fun k => if decide (k.depth ≤ 8) then some k else none := rfl
  rw [this, e]
  show (if decide ((keyK B p).depth ≤ 8) then some (keyK B p) else none) = _
  rw [if_pos]
  simp [keyK, NestedKey.depth, NestedKey.depthAll]
theorem keyK_inj (p q : Vc × Int) (h : keyK B p = keyK B q) : p = q := by
  simp only [keyK, NestedKey.tup.injEq, List.cons.injEq, NestedKey.num.injEq, and_true] at h
  exact Prod.ext (Prod.ext h.2.2.1.1 h.2.2.1.2) h.2.2.2
def pointK (p : Vc × Int) : NestedKey := .tup [.tup [.num p.1.1, .num p.1.2], .num p.2]
theorem keyN_point (p : Vc × Int) : keyN (pointD p) = some (pointK p) := by
  have e : nk (pointD p) = some (pointK p) := rfl
  have : keyN (pointD p) = (nk (pointD p)).bind fun k => if decide (k.depth ≤ 8) then some k else none := rfl
  rw [this, e]
  show (if decide ((pointK p).depth ≤ 8) then some (pointK p) else none) = _
  rw [if_pos]
  simp [pointK, NestedKey.depth, NestedKey.depthAll]
theorem pointK_inj (p q : Vc × Int) (h : pointK p = pointK q) : p = q := by
  simp only [pointK, NestedKey.tup.injEq, List.cons.injEq, NestedKey.num.injEq, and_true] at h
  exact Prod.ext (Prod.ext h.1.1 h.1.2) h.2
/-- B is a common bottom -/
structure Bot (ps : List (Vc × Int)) : Prop where
  pos : 0 < B
  dvd : ∀ p ∈ ps, p.2 ∣ B
variable {B} {ps : List (Vc × Int)}
theorem k0_mul (b : Bot B ps) {p : Vc × Int} (hp : p ∈ ps) (h : Pn 72 p) : p.2 * k0 B p = B ∧ 0 < k0 B p := by
  have e : p.2 * k0 B p = B := by
    unfold k0
    rw [Int.fdiv_eq_ediv_of_nonneg _ (by have := h.pos; omega)]
    exact Int.mul_ediv_cancel' (b.dvd p hp)
  refine ⟨e, ?_⟩
  have h1 := b.pos
  have h2 := h.pos
  by_cases c : 0 < k0 B p
  · exact c
  · have : p.2 * k0 B p ≤ 0 := Int.mul_nonpos_of_nonneg_of_nonpos (by omega) (by omega)
    omega
/-- one coordinate against another -/
theorem cmp_iff (b : Bot B ps) {p q : Vc × Int} (hp : p ∈ ps) (hq : q ∈ ps) (h : Pn 72 p) (h' : Pn 72 q) (x y : Int) : (x * k0 B p < y * k0 B q ↔ x * q.2 < y * p.2) ∧ (x * k0 B p = y * k0 B q ↔ x * q.2 = y * p.2) := by
  obtain ⟨e1, g1⟩ := k0_mul b hp h
  obtain ⟨e2, g2⟩ := k0_mul b hq h'
  have c1 := h.pos
  have c2 := h'.pos
  have b0 := b.pos
  have f1 : (x * k0 B p) * (p.2 * q.2) = (x * q.2) * B := by rw [← e1]; grind
  have f2 : (y * k0 B q) * (p.2 * q.2) = (y * p.2) * B := by rw [← e2]; grind
  have cc : 0 < p.2 * q.2 := Int.mul_pos c1 c2
  constructor
  · constructor
    · intro hh
      have := Int.mul_lt_mul_of_pos_right hh cc
      rw [f1, f2] at this
      exact Int.lt_of_mul_lt_mul_right this (by omega)
    · intro hh
      have := Int.mul_lt_mul_of_pos_right hh b0
      rw [← f1, ← f2] at this
      exact Int.lt_of_mul_lt_mul_right this (by omega)
  · constructor
    · intro hh
      rw [hh, f2] at f1
      exact (Int.eq_of_mul_eq_mul_right (by omega) f1).symm
    · intro hh
      rw [hh, ← f2] at f1
      exact Int.eq_of_mul_eq_mul_right (by omega) f1
theorem same_of (b : Bot B ps) {p q : Vc × Int} (hp : p ∈ ps) (hq : q ∈ ps) (h : Pn 72 p) (h' : Pn 72 q) (e1 : k1 B p = k1 B q) (e2 : k2 B p = k2 B q) : p = q := by
  have x := (cmp_iff b hp hq h h' p.1.1 q.1.1).2.mp e1
  have y := (cmp_iff b hp hq h h' p.1.2 q.1.2).2.mp e2
  obtain ⟨a, c, d⟩ := h.self.uniq h'.self (by have := h.pos; omega) (by have := h'.pos; omega) x y
  exact Prod.ext (Prod.ext a c) d
def le2 (B : Int) (p q : Vc × Int) : Bool := decide (k1 B p < k1 B q ∨ k1 B p = k1 B q ∧ k2 B p ≤ k2 B q)
theorem le2_data (b : Bot B ps) {p q : Vc × Int} (hp : p ∈ ps) (hq : q ∈ ps) (h : Pn 72 p) (h' : Pn 72 q) : le2 B p q = W.dataLe false id (keyD B p) (keyD B q) := by
  show _ = !W.dataLt (keyD B q) (keyD B p)
  unfold keyD
  rw [W.dataLt_tuple, W.dataLt_cons (by simp [W.alike]), W.dataLt_cons (by simp [W.alike]), eqv_i, eqv_i, W.dataLt_int, W.dataLt_int]
  unfold le2
  by_cases c1 : k1 B q = k1 B p
  · rw [if_pos (decide_eq_true c1)]
    by_cases c2 : k2 B q = k2 B p
    · rw [if_pos (decide_eq_true c2)]
      have := same_of b hq hp h' h c1 c2
      subst this
      rw [show PyProof.Rows.lexLt PyProof.Rows.itemOrd (W.keyToksAll [pointD q]) (W.keyToksAll [pointD q]) = false from PyProof.Rows.lex_irrefl _]
      simp
    · rw [if_neg (by simpa using c2)]
      by_cases c3 : k2 B q < k2 B p
      · rw [decide_eq_true c3]; simp [c1.symm]; omega
      · rw [decide_eq_false c3]; simp [c1.symm]; omega
  · rw [if_neg (by simpa using c1)]
    by_cases c3 : k1 B q < k1 B p
    · rw [decide_eq_true c3]; simp; omega
    · rw [decide_eq_false c3]; simp; omega
theorem alike_key (p q : Vc × Int) : W.alike (keyD B p) (keyD B q) = true := by
  simp [keyD, pointD, lotD, W.alike, W.alikeAll]
/-- the sorted ones -/
theorem sorted_ok (b : Bot B ps) (hps : ∀ p ∈ ps, Pn 72 p) {us : List (Vc × Int)} (hu : ∀ p ∈ us, p ∈ ps) (hl : us.length ≤ 1000) (hB : B.natAbs < 2 ^ 1000) : ∃ ts : List (Vc × Int), sortL (us.map (keyD B)) = .ok (.list (ts.map (keyD B))) ∧ ts.Perm us ∧ ts.Pairwise (fun p q => le2 B p q = true) := by
  refine ⟨us.mergeSort (le2 B), ?_, List.mergeSort_perm _ _, ?_⟩
  · have hok : okD (.list (us.map (keyD B))) = true := by
      have pl : ∀ l : List (Vc × Int), PyData.plainAll (l.map (keyD B)) = true := by
        intro l; induction l with
        | nil => rfl
        | cons p l ih => simp [PyData.plainAll, keyD, pointD, lotD, PyData.plain, ih]
      have dp : ∀ l : List (Vc × Int), PyData.depthAll (l.map (keyD B)) ≤ 5 := by
        intro l; induction l with
        | nil => simp [PyData.depthAll]
        | cons p l ih =>
          simp only [List.map_cons, PyData.depthAll]
          have : (keyD B p).depth ≤ 5 := by simp [keyD, pointD, lotD, PyData.depth, PyData.depthAll]
          omega
      have d := dp us
      unfold okD
      rw [show (PyData.list (us.map (keyD B))).plain = true by simpa [PyData.plain] using pl us, decide_eq_true (by simp only [PyData.depth]; omega)]; rfl
    unfold sortL
    rw [if_pos, ← List.map_mergeSort (r := le2 B) fun p hp q hq => le2_data b (hu p hp) (hu q hq) (hps p (hu p hp)) (hps q (hu q hq))]
    simp only [Bool.and_eq_true, Bool.or_eq_true]
    refine ⟨⟨⟨hok, ?_⟩, .inl ?_⟩, by unfold szOk; rw [List.length_map]; exact decide_eq_true (by omega)⟩
    · rw [List.all_eq_true]
      intro x hx
      rw [List.all_eq_true]
      intro y hy
      obtain ⟨p, _, rfl⟩ := List.mem_map.mp hx
      obtain ⟨q, _, rfl⟩ := List.mem_map.mp hy
      exact alike_key p q
    · rw [List.all_eq_true]
      intro x hx
      obtain ⟨p, _, rfl⟩ := List.mem_map.mp hx
      rfl
  · refine List.pairwise_mergeSort (le := le2 B) (fun p q r h1 h2 => ?_) (fun p q => ?_) us
    · simp only [le2, decide_eq_true_eq] at h1 h2 ⊢; omega
    · simp only [le2, Bool.or_eq_true, decide_eq_true_eq]; omega
end
theorem bottoms_ok (ps : List (Vc × Int)) (h : ∀ p ∈ ps, Pn 72 p) (hl : ps.length ≤ 12) {f : D → D → R D} (hf : ∀ x s, f x s = (un2 x).bind fun (p5, p6) => (mul s p6).bind fun z7 => (gcdD s p6).bind fun z8 => (fdiv z7 z8).bind fun z9 => R.ok z9) :
    ∃ B : Int, forS (ps.map pointD) (PyData.int 1) f = .ok (.int B) ∧ Bot B ps ∧ B.natAbs < 2 ^ 1000 := by
  have key : ∀ (qs : List (Vc × Int)) (n : Nat) (B : Int), (∀ p ∈ qs, Pn 72 p) → 0 < B → B.natAbs < 2 ^ n → n + 72 * qs.length ≤ 1000 → ∃ B' : Int, forS (qs.map pointD) (.int B) f = .ok (.int B') ∧ 0 < B' ∧ B ∣ B' ∧ (∀ p ∈ qs, p.2 ∣ B') ∧ B'.natAbs < 2 ^ (n + 72 * qs.length) := by
    intro qs
    induction qs with
    | nil => exact fun n B _ hB hb _ => ⟨B, rfl, hB, Int.dvd_refl _, by simp, by simpa using hb⟩
    | cons p qs ih =>
      intro n B hq hB hb hn
      have hp := hq p (by simp)
      have c0 := hp.pos
      simp only [List.length_cons] at hn
      have gpos : 0 < Nat.gcd B.natAbs p.2.natAbs := Nat.gcd_pos_of_pos_left _ (by omega)
      have gle : Nat.gcd B.natAbs p.2.natAbs ≤ p.2.natAbs := Nat.gcd_le_right _ (by omega)
      have bc := hp.bc
      have e : f (pointD p) (.int B) = .ok (.int ((B * p.2).fdiv ((Nat.gcd B.natAbs p.2.natAbs : Nat) : Int))) := by
        rw [hf]
        exact bok (un2_t _ _) <| bok (mul_i (szb hb (by omega)) (szb bc)) <| bok (gcd_i _ _) <| bok (fdiv_i (by omega) (bigD_of (k := 72) (by omega) (by decide))) rfl
      have g1 : ((Nat.gcd B.natAbs p.2.natAbs : Nat) : Int) ∣ p.2 := Int.natAbs_dvd_natAbs.mp (by simpa using Nat.gcd_dvd_right _ _)
      have g2 : ((Nat.gcd B.natAbs p.2.natAbs : Nat) : Int) ∣ B := Int.natAbs_dvd_natAbs.mp (by simpa using Nat.gcd_dvd_left _ _)
      generalize hg : Nat.gcd B.natAbs p.2.natAbs = g at *
      have ef : (B * p.2).fdiv (g : Int) = B * (p.2 / (g : Int)) := by
        rw [Int.fdiv_eq_ediv_of_nonneg _ (by omega), Int.mul_ediv_assoc _ g1]
      have ef2 : (B * p.2).fdiv (g : Int) = (B / (g : Int)) * p.2 := by
        rw [Int.fdiv_eq_ediv_of_nonneg _ (by omega), Int.mul_comm, Int.mul_ediv_assoc _ g2, Int.mul_comm]
      have pos : 0 < (B * p.2).fdiv (g : Int) := by
        rw [ef]
        refine Int.mul_pos hB ?_
        obtain ⟨k, hk⟩ := g1
        have : p.2 / (g : Int) = k := by rw [hk, Int.mul_ediv_cancel_left _ (by omega)]
        rw [this]
        by_cases hk0 : 0 < k
        · exact hk0
        · have : (g : Int) * k ≤ 0 := Int.mul_nonpos_of_nonneg_of_nonpos (by omega) (by omega)
          omega
      have bd : ((B * p.2).fdiv (g : Int)).natAbs < 2 ^ (n + 72) := Nat.lt_of_le_of_lt (fdiv_bd (by omega)) (bmul hb bc)
      obtain ⟨B', h1, h2, h3, h4, h5⟩ := ih (n + 72) _ (fun q hq' => hq q (by simp [hq'])) pos bd (by omega)
      refine ⟨B', ?_, h2, Int.dvd_trans (by rw [ef]; exact Int.dvd_mul_right _ _) h3, fun q hq' => ?_, by simp only [List.length_cons]; rw [show n + 72 * (qs.length + 1) = n + 72 + 72 * qs.length by omega]; exact h5⟩
      · rw [List.map_cons, forS_cons, e]; exact h1
      · rcases List.mem_cons.mp hq' with rfl | hq'
        · exact Int.dvd_trans (by rw [ef2]; exact Int.dvd_mul_left _ _) h3
        · exact h4 q hq'
  obtain ⟨B', h1, h2, _, h4, h5⟩ := key ps 1 1 h (by decide) (by decide) (by omega)
  exact ⟨B', h1, ⟨h2, h4⟩, Nat.lt_of_lt_of_le h5 (Nat.pow_le_pow_right (by decide) (by omega))⟩
theorem points_sorted_ok {ps : List (Vc × Int)} (h : ∀ p ∈ ps, Pn 72 p) (hl : ps.length ≤ 12) : ∃ (B : Int) (ts : List (Vc × Int)), m_points_sorted (.list (ps.map pointD)) = .ok (.list (ts.map pointD)) ∧ Bot B ps ∧ ts.Perm (uniq [] ps) ∧ ts.Pairwise (fun p q => le2 B p q = true) := by
  obtain ⟨B, e1, b, hB⟩ := bottoms_ok ps h hl (f := fun x s => (un2 x).bind fun (p5, p6) => (mul s p6).bind fun z7 => (gcdD s p6).bind fun z8 => (fdiv z7 z8).bind fun z9 => R.ok z9) fun _ _ => rfl
  have e2 : ∀ (qs : List (Vc × Int)) (acc : List D), (∀ p ∈ qs, p ∈ ps) → acc.length + qs.length ≤ 1000 → forS (qs.map pointD) acc (fun x11 s12 => (un2 x11).bind fun (p14, p15) => (item p14 (PyData.int 0)).bind fun z16 => (fdiv (.int B) p15).bind fun z17 => (mul z16 z17).bind fun z18 => (item p14 (PyData.int 1)).bind fun z19 => (fdiv (.int B) p15).bind fun z20 => (mul z19 z20).bind fun z21 => (pushM s12 [(PyData.tuple [z18, z21, (PyData.tuple [p14, p15])])]).bind fun (z22, y23) => R.ok y23) = .ok (acc ++ qs.map (keyD B)) := by
    intro qs
    induction qs with
    | nil => intro acc _ _; simp [forS_nil]
    | cons p qs ih =>
      intro acc hm hl2
      simp only [List.length_cons] at hl2
      have hp := h p (hm p (by simp))
      have c0 := hp.pos
      have fd : fdiv (.int B) (.int p.2) = .ok (.int (k0 B p)) := fdiv_i (by omega) (bigD_of (k := 72) hp.bc (by decide))
      have kb : Sz (k0 B p) := szb (n := 1000) (Nat.lt_of_le_of_lt (fdiv_bd c0) hB)
      rw [List.map_cons, forS_cons]
      refine bok (a := acc ++ [keyD B p]) ?_ ?_
      · exact bok (un2_t _ _) <| bok (item0 _ _) <| bok fd <| bok (mul_i (szb hp.bx) kb) <| bok (item1 _ _ _) <| bok fd <| bok (mul_i (szb hp.by') kb) <| bok (push1 _ _ (by omega)) rfl
      · rw [ih _ (fun q hq => hm q (by simp [hq])) (by simp; omega)]; simp
  have hu : ∀ p ∈ uniq [] ps, p ∈ ps := fun p hp => by
    rcases (uniq_mem ps [] p).mp hp with q | q
    · simp at q
    · exact q
  have hlu : (uniq [] ps).length ≤ ps.length := by
    simpa using uniq_len ps []
  obtain ⟨ts, e3, p3, s3⟩ := sorted_ok b h hu (by omega) hB
  obtain ⟨kvs, e4, e5⟩ := dict_enc (keyN_key B) (keyK_inj B) (.bool true) ps (by omega)
  have lt : ts.length ≤ 1000 := by rw [p3.length_eq]; omega
  refine ⟨B, ts, ?_, b, p3, s3⟩
  unfold m_points_sorted
  refine bok (iter_l _) <| bok e1 <| bok (iter_l _) <| bok (e2 ps [] (fun p hp => hp) (by simp; omega)) <| bok (iter_l _) <| bok (a := ps.map fun p => PyData.tuple [keyD B p, .bool true]) ?_ <| bok e4 <| bok (a := .list (ts.map (keyD B))) ?_ <| bok (iter_l _) <| bok (a := ts.map pointD) ?_ rfl
  · rw [List.nil_append]
    exact compL_all (by omega) fun x _ => rfl
  · show sortL (kvs.map (·.1)) = _
    rw [e5]; exact e3
  · exact compL_all (by omega) fun x _ => bok (item_n (n := 2) (by rfl)) rfl
end K07

set_option autoImplicit false
set_option linter.all false
set_option maxRecDepth 100000
set_option exponentiation.threshold 5000
namespace K07
open PySem L2 Z
/-- one coordinate less its whole part -/
theorem part_ok {f : Vc} {x c : Int} (hc : 0 < c) (hx : x.natAbs < 2 ^ 10) (hf : Fq f x c 10) : ∃ r : Vc, m__law_plus (lotD f) (.tuple [.int (0 - x.fdiv c), .int 1]) = .ok (lotD r) ∧ Fq r (x.fmod c) c 30 ∧ 0 ≤ r.1 ∧ r.1 < r.2 := by
  have bd : (0 - x.fdiv c).natAbs < 2 ^ 11 := by have := fdiv_bd (x := x) hc; omega
  obtain ⟨r, e1, f1⟩ := plus_ok hf.ap (Ap.of (p := 0 - x.fdiv c) (q := 1) (n := 11) (by decide) bd (by decide)) (by omega) (by decide) (by decide)
  have ed : c * x.fdiv c + x.fmod c = x := Int.mul_fdiv_add_fmod x c
  have f2 : Fq r (x.fmod c) c 30 := (f1.to (u' := x.fmod c) (v' := c) (by omega) (by grind)).mono (by decide)
  have g1 : 0 ≤ x.fmod c := Int.fmod_nonneg_of_pos x hc
  have g2 : x.fmod c < c := Int.fmod_lt_of_pos x hc
  have e := f2.eq
  have p := f2.pos
  refine ⟨r, e1, f2, ?_, ?_⟩
  · by_cases h : 0 ≤ r.1
    · exact h
    · have a : r.1 * c < 0 := Int.mul_neg_of_neg_of_pos (by omega) hc
      have b : 0 ≤ x.fmod c * r.2 := Int.mul_nonneg g1 (by omega)
      omega
  · have a : x.fmod c * r.2 < c * r.2 := Int.mul_lt_mul_of_pos_right g2 p
    rw [← e, Int.mul_comm c] at a
    exact Int.lt_of_mul_lt_mul_right a (by omega)
theorem parted_ok {p : Vc × Int} (hp : Pn 10 p) {f g : Vc} (hf : Fq f p.1.1 p.2 10) (hg : Fq g p.1.2 p.2 10) : ∃ (r : Vc × Int) (a b : Vc), m_point_parted (pointD p) = .ok (.tuple [lotD (p.1.1.fdiv p.2, p.1.2.fdiv p.2), pointD r]) ∧ Pn 10 r ∧
    m__law_plus (lotD f) (.tuple [.int (0 - p.1.1.fdiv p.2), .int 1]) = .ok (lotD a) ∧ 0 ≤ a.1 ∧ a.1 < a.2 ∧ m__law_plus (lotD g) (.tuple [.int (0 - p.1.2.fdiv p.2), .int 1]) = .ok (lotD b) ∧ 0 ≤ b.1 ∧ b.1 < b.2 ∧ m__law_point (lotD a) (lotD b) = .ok (pointD r) := by
  have c0 := hp.pos
  have bc := hp.bc
  have f1 : ∀ x : Int, 0 ≤ x.fmod p.2 := fun x => Int.fmod_nonneg_of_pos x c0
  have f2 : ∀ x : Int, x.fmod p.2 < p.2 := fun x => Int.fmod_lt_of_pos x c0
  have ed : ∀ x : Int, p.2 * x.fdiv p.2 + x.fmod p.2 = x := fun x => Int.mul_fdiv_add_fmod x p.2
  have hr : Pn 10 ((p.1.1.fmod p.2, p.1.2.fmod p.2), p.2) := by
    refine ⟨c0, ?_, by have := f1 p.1.1; have := f2 p.1.1; show (p.1.1.fmod p.2).natAbs < _; omega, by have := f1 p.1.2; have := f2 p.1.2; show (p.1.2.fmod p.2).natAbs < _; omega, bc⟩
    show Nat.gcd (Nat.gcd (p.1.1.fmod p.2).natAbs (p.1.2.fmod p.2).natAbs) p.2.natAbs = 1
    refine Nat.dvd_one.mp ?_
    rw [← hp.co]
    generalize hg : Nat.gcd (Nat.gcd (p.1.1.fmod p.2).natAbs (p.1.2.fmod p.2).natAbs) p.2.natAbs = g
    have g1 : (g : Int) ∣ p.1.1.fmod p.2 := Int.natAbs_dvd_natAbs.mp (by rw [← hg]; exact Nat.dvd_trans (Nat.gcd_dvd_left _ _) (Nat.gcd_dvd_left _ _))
    have g2 : (g : Int) ∣ p.1.2.fmod p.2 := Int.natAbs_dvd_natAbs.mp (by rw [← hg]; exact Nat.dvd_trans (Nat.gcd_dvd_left _ _) (Nat.gcd_dvd_right _ _))
    have g3 : (g : Int) ∣ p.2 := Int.natAbs_dvd_natAbs.mp (by rw [← hg]; exact Nat.gcd_dvd_right _ _)
    have up : ∀ x : Int, (g : Int) ∣ x.fmod p.2 → g ∣ x.natAbs := fun x h => by
      have : (g : Int) ∣ x := by rw [← ed x]; exact Int.dvd_add (Int.dvd_trans g3 (Int.dvd_mul_right _ _)) h
      simpa using Int.natAbs_dvd_natAbs.mpr this
    exact Nat.dvd_gcd (Nat.dvd_gcd (up _ g1) (up _ g2)) (by simpa using Int.natAbs_dvd_natAbs.mpr g3)
  obtain ⟨a, a1, a2, a3, a4⟩ := part_ok c0 hp.bx hf
  obtain ⟨b, b1, b2, b3, b4⟩ := part_ok c0 hp.by' hg
  obtain ⟨r', k1, k2, _⟩ := lpoint_ok a2 b2 (by decide)
  have cn : p.2 ≠ 0 := by omega
  have e : ((p.1.1.fmod p.2, p.1.2.fmod p.2), p.2) = r' := by
    obtain ⟨q1, q2, q3⟩ := hr.self.uniq k2 cn cn rfl rfl
    exact Prod.ext (Prod.ext q1 q2) q3
  rw [← e] at k1
  refine ⟨_, a, b, ?_, hr, a1, a3, a4, b1, b3, b4, k1⟩
  unfold m_point_parted
  have cb : bigD p.2 = true := bigD_of (k := 10) bc (by decide)
  exact bok (un2_t _ _) <| bok (un2_t _ _) <| bok (fdiv_i cn cb) <| bok (fdiv_i cn cb) <| bok (fmod_i cn) <| bok (fmod_i cn) rfl
/-- told k times over -/
theorem told_ok {p : Vc × Int} (hp : Pn 10 p) {k : Int} (hk : k ≠ 0) (hb : k.natAbs ≤ 3) : m_point_low (lotD (p.1.1 * k, p.1.2 * k)) (.int (p.2 * k)) = .ok (pointD p) := by
  have c0 : p.2 ≠ 0 := by have := hp.pos; omega
  have cc := Int.mul_ne_zero c0 hk
  have b : ∀ {i : Int}, i.natAbs < 2 ^ 10 → (i * k).natAbs < 2 ^ (10 + 2) := fun h => bmul h (by omega)
  obtain ⟨r, e1, e2, e3⟩ := lowp (n := 12) cc (by decide) (b hp.bx) (b hp.by') (b hp.bc)
  have : r = p := e2.eq hp.self cc c0 (by grind) (by grind)
  rw [this] at e1
  exact e1
/-! ### sorted points -/
def lep (p q : Vc × Int) : Bool := decide (p.1.1 < q.1.1 ∨ p.1.1 = q.1.1 ∧ (p.1.2 < q.1.2 ∨ p.1.2 = q.1.2 ∧ p.2 ≤ q.2))
theorem lep_data (p q : Vc × Int) : lep p q = W.dataLe false id (pointD p) (pointD q) := by
  show _ = !W.dataLt (pointD q) (pointD p)
  have lots : ∀ u v : Vc, W.dataLt (lotD u) (lotD v) = decide (u.1 < v.1 ∨ u.1 = v.1 ∧ u.2 < v.2) := by
    intro u v
    unfold lotD
    rw [W.dataLt_tuple, W.dataLt_cons (by simp [W.alike]), W.dataLt_cons (by simp [W.alike]), eqv_i, eqv_i, W.dataLt_int, W.dataLt_int]
    rw [show PyProof.Rows.lexLt PyProof.Rows.itemOrd (W.keyToksAll []) (W.keyToksAll []) = false from PyProof.Rows.lex_irrefl _]
    by_cases c1 : u.1 = v.1
    · rw [if_pos (decide_eq_true c1)]
      by_cases c2 : u.2 = v.2
      · rw [if_pos (decide_eq_true c2)]; simp [c2]; omega
      · rw [if_neg (by simpa using c2)]; simp [c1]
    · rw [if_neg (by simpa using c1)]; simp [c1]
  unfold pointD
  rw [W.dataLt_tuple, W.dataLt_cons (by simp [W.alike, W.alikeAll, lotD]), W.dataLt_cons (by simp [W.alike]), eqv_lot, eqv_i, W.dataLt_int, lots]
  rw [show PyProof.Rows.lexLt PyProof.Rows.itemOrd (W.keyToksAll []) (W.keyToksAll []) = false from PyProof.Rows.lex_irrefl _]
  unfold lep
  obtain ⟨⟨a, b⟩, c⟩ := p
  obtain ⟨⟨a', b'⟩, c'⟩ := q
  by_cases c1 : (a', b') = (a, b)
  · rw [if_pos (decide_eq_true c1)]
    simp only [Prod.mk.injEq] at c1
    obtain ⟨rfl, rfl⟩ := c1
    by_cases c2 : c' = c
    · rw [if_pos (decide_eq_true c2)]; simp [c2]
    · rw [if_neg (by simpa using c2)]; rw [← decide_not, decide_eq_decide]; simp
  · rw [if_neg (by simpa using c1)]
    simp only [Prod.mk.injEq] at c1
    rw [← decide_not, decide_eq_decide]
    show (a < a' ∨ a = a' ∧ (b < b' ∨ b = b' ∧ c ≤ c')) ↔ ¬ (a' < a ∨ a' = a ∧ b' < b)
    omega
theorem lep_trans (p q r : Vc × Int) (h1 : lep p q = true) (h2 : lep q r = true) : lep p r = true := by
  simp only [lep, decide_eq_true_eq] at h1 h2 ⊢; omega
theorem lep_total (p q : Vc × Int) : (lep p q || lep q p) = true := by
  simp only [lep, Bool.or_eq_true, decide_eq_true_eq]; omega
theorem lep_anti (p q : Vc × Int) (h1 : lep p q = true) (h2 : lep q p = true) : p = q := by
  simp only [lep, decide_eq_true_eq] at h1 h2
  refine Prod.ext (Prod.ext ?_ ?_) ?_ <;> omega
theorem pts_ok (l : List (Vc × Int)) : PyData.plainAll (l.map pointD) = true ∧ PyData.depthAll (l.map pointD) ≤ 5 := by
  induction l with
  | nil => exact ⟨rfl, by simp [PyData.depthAll]⟩
  | cons p l ih =>
    refine ⟨by simp [PyData.plainAll, pointD, lotD, PyData.plain, ih.1], ?_⟩
    simp only [List.map_cons, PyData.depthAll]
    have : (pointD p).depth ≤ 5 := by simp [pointD, lotD, PyData.depth, PyData.depthAll]
    have := ih.2
    omega
theorem pts_okD (l : List (Vc × Int)) : okD (.list (l.map pointD)) = true := by
  obtain ⟨a, b⟩ := pts_ok l
  unfold okD
  rw [show (PyData.list (l.map pointD)).plain = true by simpa [PyData.plain] using a, decide_eq_true (by simp only [PyData.depth]; omega)]; rfl
theorem sort_pts {us : List (Vc × Int)} (hl : us.length ≤ 1000) : sortL (us.map pointD) = .ok (.list ((us.mergeSort lep).map pointD)) := by
  unfold sortL
  rw [if_pos, ← List.map_mergeSort (r := lep) fun p _ q _ => lep_data p q]
  simp only [Bool.and_eq_true, Bool.or_eq_true]
  refine ⟨⟨⟨pts_okD us, ?_⟩, .inl ?_⟩, by unfold szOk; rw [List.length_map]; exact decide_eq_true (by omega)⟩
  · rw [List.all_eq_true]
    intro x hx
    rw [List.all_eq_true]
    intro y hy
    obtain ⟨p, _, rfl⟩ := List.mem_map.mp hx
    obtain ⟨q, _, rfl⟩ := List.mem_map.mp hy
    simp [pointD, lotD, W.alike, W.alikeAll]
  · rw [List.all_eq_true]
    intro x hx
    obtain ⟨p, _, rfl⟩ := List.mem_map.mp hx
    rfl
theorem sort_perm {us vs : List (Vc × Int)} (h : us.Perm vs) : us.mergeSort lep = vs.mergeSort lep := by
  refine List.Perm.eq_of_pairwise (le := fun a b => lep a b = true) (fun a b _ _ h1 h2 => lep_anti a b h1 h2) (List.pairwise_mergeSort lep_trans lep_total us) (List.pairwise_mergeSort lep_trans lep_total vs) ?_
  exact ((List.mergeSort_perm us lep).trans h).trans (List.mergeSort_perm vs lep).symm
theorem eqv_pts : ∀ l : List (Vc × Int), PyData.eqvAll (l.map pointD) (l.map pointD) = true
  | [] => by simp [PyData.eqvAll]
  | p :: l => by simp only [List.map_cons, PyData.eqvAll, eqv_point, eqv_pts l]; simp
theorem ne_pts (l : List (Vc × Int)) : neD (.list (l.map pointD)) (.list (l.map pointD)) = .ok false := by
  unfold neD eqD
  rw [pts_okD l]
  simp [PyData.eqv, eqv_pts]
end K07

set_option autoImplicit false
set_option linter.all false
set_option maxRecDepth 100000
set_option exponentiation.threshold 5000
namespace K07
open PySem L2 Z
theorem of_ok {n : Nat} {s : Src} {xs : List D} (h : Ok (n + 1) s) (h0 : 0 < xs.length) (hl : xs.length < 2 ^ 60) : ∃ (d : D) (s' : Src), m__law_of s (.list xs) = .ok (d, s') ∧ d ∈ xs ∧ Ok n s' := by
  obtain ⟨r, s', e, hr, ho⟩ := pick_ok h (many := (xs.length : Int)) (by omega) (by omega)
  have hr' : r < xs.length := by omega
  refine ⟨xs[r], s', ?_, List.getElem_mem hr', ho⟩
  unfold m__law_of
  exact bok (len_l _) <| bok e <| bok (item_ln (List.getElem?_eq_getElem hr')) rfl
theorem forT_inv {τ β : Type} {f : D → τ → R (Fl τ)} {k : Fl τ → R β} {r : R β} (I : Nat → τ → Prop) (h : ∀ n x st, I (n + 1) st → ∃ st', f x st = .ok (.nx st') ∧ I n st') : ∀ {xs : List D} {st : τ}, I xs.length st → (∀ st', I 0 st' → k (.nx st') = r) → (forT xs st f).bind k = r
  | [], st, i, hk => hk st i
  | x :: xs, st, i, hk => by
    obtain ⟨s1, e1, i1⟩ := h xs.length x st i
    show ((f x st).bind _).bind k = r
    rw [e1]
    exact forT_inv I h i1 hk
theorem forT_mem {β : Type} {f : D → Unit → R (Fl Unit)} {k : Fl Unit → R β} {r : R β} : ∀ {xs : List D}, (∀ x ∈ xs, f x () = .ok (.nx ())) → k (.nx ()) = r → (forT xs () f).bind k = r
  | [], _, hk => hk
  | x :: xs, h, hk => by
    show ((f x ()).bind _).bind k = r
    rw [h x (by simp)]
    exact forT_mem (fun y hy => h y (by simp [hy])) hk
theorem slice_2n {xs : List D} (h : 2 ≤ xs.length) : slice (.list xs) none (some 2) = .ok (.list (xs.take 2)) := by
  have e : HT.sIx xs.length xs.length (some 2) = 2 := by
    rw [show (some (2 : Int)) = some ((2 : Nat) : Int) from rfl, HT.sIx_nat]; omega
  simp only [slice, cut, HT.sIx_none, e]; rfl
theorem slice_2l (a : D) (l : List D) : slice (.list (a :: l)) (some 1) none = .ok (.list l) := by
  have e : HT.sIx (a :: l).length 0 (some 1) = 1 := by
    rw [show (some (1 : Int)) = some ((1 : Nat) : Int) from rfl, HT.sIx_nat]; simp
  simp only [slice, cut, HT.sIx_none, e]
  simp
theorem add_l {xs ys : List D} (h : xs.length + ys.length < 16777216) : add (.list xs) (.list ys) = .ok (.list (xs ++ ys)) := by
  have c1 : szOk (xs.length + ys.length) = true := by unfold szOk; exact decide_eq_true (by omega)
  simp only [add, c1, if_true]
theorem pairwise_zip {α : Type} {R : α → α → Prop} : ∀ {l : List α}, l.Pairwise R → ∀ p ∈ l.zip l.tail, R p.1 p.2
  | [], _, p, hp => by simp at hp
  | [a], _, p, hp => by simp at hp
  | a :: b :: l, h, p, hp => by
    rw [List.pairwise_cons] at h
    simp only [List.tail_cons, List.zip_cons_cons, List.mem_cons] at hp
    rcases hp with rfl | hp
    · exact h.1 b (by simp)
    · exact pairwise_zip h.2 p (by simpa using hp)
theorem small_pts {ps : List (Vc × Int)} {n : Nat} (h : ∀ p ∈ ps, Pn n p) (hn : n ≤ 200) (hl : ps.length ≤ 20) : Small 3 12100 (.list (ps.map pointD)) := by
  have h2 : SmallAll 2 ((ps.map pointD).length * (604 + 1)) (ps.map pointD) := SmallAll.all fun d hd => by
    obtain ⟨p, hp, rfl⟩ := List.mem_map.mp hd
    exact (h p hp).small hn
  rw [List.length_map] at h2
  exact h2.list.mono (by decide) (by omega)

/-- a chosen pair of fractions for each point -/
theorem choice : ∃ fr : Vc × Int → Vc × Vc, ∀ p, Pn 10 p → m__law_fractions (pointD p) = .ok (.tuple [lotD (fr p).1, lotD (fr p).2]) ∧ Fq (fr p).1 p.1.1 p.2 10 ∧ Fq (fr p).2 p.1.2 p.2 10 := by
  refine Classical.axiomOfChoice (r := fun p (q : Vc × Vc) => Pn 10 p → m__law_fractions (pointD p) = .ok (.tuple [lotD q.1, lotD q.2]) ∧ Fq q.1 p.1.1 p.2 10 ∧ Fq q.2 p.1.2 p.2 10) fun p => ?_
  by_cases h : Pn 10 p
  · obtain ⟨f, g, e1, e2, e3⟩ := fracs_ok h (by decide)
    exact ⟨(f, g), fun _ => ⟨e1, e2, e3⟩⟩
  · exact ⟨((0, 0), (0, 0)), fun k => absurd k h⟩
/-- sign of a difference of fractions -/
theorem sign_of {f g : Vc} {u v s t : Int} {n : Nat} (hf : Fq f u v n) (hg : Fq g s t n) (hv : 0 < v) (ht : 0 < t) : (f.1 * g.2 - g.1 * f.2 < 0 ↔ u * t < s * v) ∧ (f.1 * g.2 - g.1 * f.2 = 0 ↔ u * t = s * v) := by
  have e1 := hf.eq
  have e2 := hg.eq
  have p1 := hf.pos
  have p2 := hg.pos
  have key : (f.1 * g.2 - g.1 * f.2) * (v * t) = (u * t - s * v) * (f.2 * g.2) := by grind
  have vt : 0 < v * t := Int.mul_pos hv ht
  have fg : 0 < f.2 * g.2 := Int.mul_pos p1 p2
  generalize f.1 * g.2 - g.1 * f.2 = A at *
  generalize hB : u * t - s * v = B at *
  have iff1 : A < 0 ↔ B < 0 := by
    constructor
    · intro h
      have a := Int.mul_neg_of_neg_of_pos h vt
      rw [key] at a
      by_cases c : B < 0
      · exact c
      · have := Int.mul_nonneg (show 0 ≤ B by omega) (show 0 ≤ f.2 * g.2 by omega)
        omega
    · intro h
      have a := Int.mul_neg_of_neg_of_pos h fg
      rw [← key] at a
      by_cases c : A < 0
      · exact c
      · have := Int.mul_nonneg (show 0 ≤ A by omega) (show 0 ≤ v * t by omega)
        omega
  have iff2 : A = 0 ↔ B = 0 := by
    constructor
    · intro h
      rw [h, Int.zero_mul] at key
      rcases Int.mul_eq_zero.mp key.symm with h | h
      · exact h
      · omega
    · intro h
      rw [h, Int.zero_mul] at key
      rcases Int.mul_eq_zero.mp key with h | h
      · exact h
      · omega
  constructor
  · rw [iff1]; omega
  · rw [iff2]; omega
theorem asc_ok {ps ts : List (Vc × Int)} {B : Int} (b : Bot B ps) (hps : ∀ p ∈ ps, Pn 10 p) (ht : ∀ p ∈ ts, p ∈ ps) (hn : ts.Nodup) (hs : ts.Pairwise fun p q => le2 B p q = true)
    {fr : Vc × Int → Vc × Vc} (hfr : ∀ p, Pn 10 p → m__law_fractions (pointD p) = .ok (.tuple [lotD (fr p).1, lotD (fr p).2]) ∧ Fq (fr p).1 p.1.1 p.2 10 ∧ Fq (fr p).2 p.1.2 p.2 10) {f : D → Unit → R (Fl Unit)} (hf : ∀ x101 s102, f x101 s102 = ((un2 x101).bind fun (p104, p105) =>
(zipI p104 p105).bind fun z106 =>
(compL z106 fun x107 =>
(un2 x107).bind fun (p108, p109) =>
(item p108 (PyData.int 0)).bind fun z110 =>
(item p109 (PyData.int 1)).bind fun z111 =>
(mul z110 z111).bind fun z112 =>
(item p109 (PyData.int 0)).bind fun z113 =>
(item p108 (PyData.int 1)).bind fun z114 =>
(mul z113 z114).bind fun z115 =>
(sub z112 z115).bind fun z116 =>
R.ok (some z116)).bind fun ys117 =>
((item (PyData.list ys117) (PyData.int 0)).bind fun z118 =>
(gtD z118 (PyData.int 0)).bind fun z119 =>
if z119 = true then
R.ok true
else
((item (PyData.list ys117) (PyData.int 0)).bind fun z120 =>
(eqD z120 (PyData.int 0)).bind fun z121 =>
if z121 = true then
(item (PyData.list ys117) (PyData.int 1)).bind fun z122 =>
(geD z122 (PyData.int 0)).bind fun z123 =>
R.ok z123
else
R.ok false : R Bool).bind fun t124 =>
R.ok t124 : R Bool).bind fun t125 =>
if t125 = true then
R.ok (.rt (PyData.bool false) ())
else
R.ok (.nx ()))) : ∀ x ∈ zipD (ts.map fun p => PyData.tuple [lotD (fr p).1, lotD (fr p).2]) (ts.tail.map fun p => PyData.tuple [lotD (fr p).1, lotD (fr p).2]), f x () = .ok (.nx ()) := by
  intro x hx
  unfold zipD at hx
  obtain ⟨⟨u, v⟩, huv, rfl⟩ := List.mem_map.mp hx
  rw [List.zip_map] at huv
  obtain ⟨⟨p, q⟩, hpq, e⟩ := List.mem_map.mp huv
  simp only [Prod.map_apply, Prod.mk.injEq] at e
  obtain ⟨rfl, rfl⟩ := e
  have hle := pairwise_zip hs (p, q) hpq
  have hne := pairwise_zip hn (p, q) hpq
  have hp := ht p (List.of_mem_zip hpq).1
  have hq := ht q (List.mem_of_mem_tail (List.of_mem_zip hpq).2)
  have pp := hps p hp
  have pq := hps q hq
  have pp' := pp.mono (show 10 ≤ 72 by decide)
  have pq' := pq.mono (show 10 ≤ 72 by decide)
  have cx := cmp_iff b hp hq pp' pq' p.1.1 q.1.1
  have cy := cmp_iff b hp hq pp' pq' p.1.2 q.1.2
  obtain ⟨_, fx, fy⟩ := hfr p pp
  obtain ⟨_, gx, gy⟩ := hfr q pq
  have sx := sign_of fx gx pp.pos pq.pos
  have sy := sign_of fy gy pp.pos pq.pos
  simp only [le2, decide_eq_true_eq] at hle
  have mu : ∀ {a c : Int}, a.natAbs < 2 ^ 10 → c.natAbs < 2 ^ 10 → mul (.int a) (.int c) = .ok (.int (a * c)) := fun ha hc => mul_i (szb ha) (szb hc)
  have one : ∀ {f g : Vc} {u v s t : Int}, Fq f u v 10 → Fq g s t 10 → ((un2 (PyData.tuple [lotD f, lotD g])).bind fun (p108, p109) => (item p108 (PyData.int 0)).bind fun z110 => (item p109 (PyData.int 1)).bind fun z111 => (mul z110 z111).bind fun z112 => (item p109 (PyData.int 0)).bind fun z113 => (item p108 (PyData.int 1)).bind fun z114 => (mul z113 z114).bind fun z115 => (sub z112 z115).bind fun z116 => R.ok (some z116)) = .ok (some (.int (f.1 * g.2 - g.1 * f.2))) := fun {f g u v s t} hf hg =>
    bok (un2_t _ _) <| bok (item0 _ _) <| bok (item1 _ _ _) <| bok (mu hf.b1 hg.b2) <| bok (item0 _ _) <| bok (item1 _ _ _) <| bok (mu hg.b1 hf.b2) <| bok (sub_i _ _) rfl
  rw [hf]
  refine bok (un2_t _ _) <| bok (a := [.tuple [lotD (fr p).1, lotD (fr q).1], .tuple [lotD (fr p).2, lotD (fr q).2]]) rfl <| bok (compL2 (one fx gx) (one fy gy)) ?_
  refine bokF (bok (item_l0 _ _) ?_) rfl
  rcases hle with h | ⟨h, h2⟩
  · have c1 := sx.1.mpr (cx.1.mp h)
    refine bokF (by rw [gt_i, decide_eq_false (by omega)]) <| bok (a := false) ?_ rfl
    exact bok (item_l0 _ _) <| bokF (by rw [eq_i, decide_eq_false (by omega)]) rfl
  · have c1 := sx.2.mpr (cx.2.mp h)
    have c2 : p.1.2 * q.2 < q.1.2 * p.2 := by
      by_cases e : k2 B p = k2 B q
      · exact absurd (same_of b hp hq pp' pq' h e) hne
      · exact cy.1.mp (by have h2' : p.1.2 * k0 B p ≤ q.1.2 * k0 B q := h2
                          have e' : ¬ p.1.2 * k0 B p = q.1.2 * k0 B q := e
                          omega)
    have c3 := sy.1.mpr c2
    refine bokF (by rw [gt_i, decide_eq_false (by omega)]) <| bok (a := false) ?_ rfl
    exact bok (item_l0 _ _) <| bokT (by rw [eq_i, decide_eq_true c1]) <| bok (item_l1 _ _ _) <| bok (by rw [ge_i, decide_eq_false (by omega)]) rfl
theorem forT_memS {τ β : Type} {f : D → τ → R (Fl τ)} {k : Fl τ → R β} {r : R β} (st : τ) : ∀ {xs : List D}, (∀ x ∈ xs, f x st = .ok (.nx st)) → k (.nx st) = r → (forT xs st f).bind k = r
  | [], _, hk => hk
  | x :: xs, h, hk => by
    show ((f x st).bind _).bind k = r
    rw [h x (by simp)]
    exact forT_memS st (fun y hy => h y (by simp [hy])) hk
/-- all values: both sorts of asking tell alike -/
theorem values_ok {s : Src} {p : Vc × Int} (hp : Pn 10 p) : ∃ L : List D, m__law_values s (pointD p) = .ok (.list L, s) ∧ ∀ d ∈ L, ∃ b l, m_is_point d = .ok (.bool b) ∧ m__law_is_point d = .ok (.bool b) ∧ m_is_lot d = .ok (.bool l) ∧ m__law_is_pair d = .ok (.bool l) := by
  obtain ⟨⟨x, y⟩, c⟩ := p
  have bx : x.natAbs < 2 ^ 10 := hp.bx
  have by' : y.natAbs < 2 ^ 10 := hp.by'
  have bc : c.natAbs < 2 ^ 10 := hp.bc
  have two : ∀ i : Int, mul (PyData.int 2) (.int i) = .ok (.int (2 * i)) := fun i => mul_l (by decide)
  let L : List D := [pointD ((x, y), c), (PyData.tuple [(PyData.tuple [.int (2 * x), .int (2 * y)]), .int (2 * c)]), (PyData.tuple [(PyData.tuple [.int x, .int y]), .int (0 - c)]), (PyData.tuple [(PyData.tuple [.int x, .int y]), (PyData.int 0)]), (PyData.list [.int x, .int y]), (PyData.tuple [(PyData.tuple [.int x]), .int c]), (PyData.tuple [(PyData.tuple [.int x, .int y]), (PyData.bool true)]), PyData.none,
    (PyData.tuple [(PyData.tuple [.int x, .int y, (PyData.int 1)]), .int c]), (PyData.tuple [(PyData.tuple [(PyData.bool true), .int y]), .int c]), (PyData.tuple [(PyData.tuple [(PyData.int 0), (PyData.int 0)]), (PyData.int 1)]), (PyData.tuple [(PyData.tuple [(PyData.int 0), (PyData.int 0)]), (PyData.int 2)]), (PyData.tuple [pointD ((x, y), c), (PyData.int 1)]), (PyData.tuple [(PyData.tuple [.int x, .int y]), .int c, (PyData.int 1)]),
    (PyData.tuple [(PyData.tuple [.int x, .int y]), (PyData.int 1)]), (PyData.tuple [.int x, .int y])]
  refine ⟨L, ?_, fun d hd => ?_⟩
  · unfold m__law_values
    exact bok (un2_t _ _) <| bok (un2_t _ _) <| bok (two x) <| bok (two y) <| bok (two c) <| bok (sub_i _ _) <| bok (add_l (by simp)) <| bok (add_l (by simp)) rfl
  have t1 : ∀ d ∈ L, isDctD d = false := by simp [L, isDctD, pointD]
  have t2 : ∀ d ∈ L, ∀ xs, d = .tuple xs → ∀ a ∈ xs, isDctD a = false := by
    intro d hd xs e
    subst e
    simp only [L, pointD, List.mem_cons, List.not_mem_nil, or_false, PyData.tuple.injEq, reduceCtorEq, false_or] at hd
    rcases hd with rfl | rfl | rfl | rfl | rfl | rfl | rfl | rfl | rfl | rfl | rfl | rfl | rfl | rfl <;> simp [isDctD, lotD]
  have t3 : ∀ d ∈ L, ∀ xs, d = .tuple xs → ∀ a ∈ xs, ∀ ys, a = .tuple ys → ∀ b ∈ ys, isDctD b = false := by
    intro d hd xs e a ha ys e2
    subst e e2
    simp only [L, pointD, List.mem_cons, List.not_mem_nil, or_false, PyData.tuple.injEq, reduceCtorEq, false_or] at hd
    rcases hd with rfl | rfl | rfl | rfl | rfl | rfl | rfl | rfl | rfl | rfl | rfl | rfl | rfl | rfl <;> simp [lotD] at ha <;> subst ha <;> simp [isDctD, lotD]
  have t4 : ∀ d ∈ L, ∀ xs, d = .tuple xs → ∀ a ∈ xs, a.plain = true ∧ a.depth ≤ 10 := by
    intro d hd xs e
    subst e
    simp only [L, pointD, List.mem_cons, List.not_mem_nil, or_false, PyData.tuple.injEq, reduceCtorEq, false_or] at hd
    rcases hd with rfl | rfl | rfl | rfl | rfl | rfl | rfl | rfl | rfl | rfl | rfl | rfl | rfl | rfl <;> simp [lotD, PyData.plain, PyData.plainAll, PyData.depth, PyData.depthAll]
  have t5 : ∀ d ∈ L, ∀ xs, d = .tuple xs → ∀ a ∈ xs, ∀ ys, a = .tuple ys → ∀ b ∈ ys, b.plain = true ∧ b.depth ≤ 10 := by
    intro d hd xs e a ha ys e2
    subst e e2
    simp only [L, pointD, List.mem_cons, List.not_mem_nil, or_false, PyData.tuple.injEq, reduceCtorEq, false_or] at hd
    rcases hd with rfl | rfl | rfl | rfl | rfl | rfl | rfl | rfl | rfl | rfl | rfl | rfl | rfl | rfl <;> simp [lotD] at ha <;> subst ha <;> simp [lotD, PyData.plain, PyData.plainAll, PyData.depth, PyData.depthAll]
  have t6 : ∀ d ∈ L, ∀ p : Vc × Int, d = pointD p → p.1.1.natAbs < 2 ^ 200 ∧ p.1.2.natAbs < 2 ^ 200 ∧ p.2.natAbs < 2 ^ 200 := by
    intro d hd p e
    subst e
    simp only [L, pointD, lotD, List.mem_cons, List.not_mem_nil, or_false, PyData.tuple.injEq, reduceCtorEq, false_or, List.cons.injEq, PyData.int.injEq, and_true, and_false, false_and, or_false, false_or] at hd
    omega
  obtain ⟨b, b1, b2⟩ := point_alike (t1 d hd) (t2 d hd) (t3 d hd) (t4 d hd) (t5 d hd) (t6 d hd)
  exact ⟨b, lotB d, b1, b2, lot_ok (t1 d hd) (t2 d hd), pair_ok (t1 d hd) (t2 d hd) (t4 d hd)⟩
end K07

set_option autoImplicit false
set_option linter.all false
set_option maxRecDepth 100000
set_option exponentiation.threshold 5000
namespace K07
open PySem L2 Z
theorem drawn_many {f : D → Src → R (Option D × Src)} (hf : ∀ x s, f x s = (m__law_drawn_point s).bind fun (z4, s5) => R.ok (some z4, s5)) : ∀ (xs : List D) (n : Nat) (s : Src), Ok (n + 4 * xs.length) s → ∃ (ps : List (Vc × Int)) (s' : Src), compT xs s f = .ok (ps.map pointD, s') ∧ ps.length = xs.length ∧ (∀ p ∈ ps, Pn 10 p) ∧ Ok n s'
  | [], n, s, h => ⟨[], s, rfl, rfl, by simp, Ok.le h (by omega)⟩
  | x :: xs, n, s, h => by
    simp only [List.length_cons] at h
    obtain ⟨p, s1, e1, h1, o1⟩ := drawn_ok (n := n + 4 * xs.length) (Ok.le h (by omega))
    obtain ⟨ps, s2, e2, h2, h3, o2⟩ := drawn_many hf xs n s1 o1
    refine ⟨p :: ps, s2, ?_, by simp [h2], fun q hq => ?_, o2⟩
    · simp only [compT]
      exact bok (a := (some (pointD p), s1)) (by rw [hf]; exact bok e1 rfl) <| bok e2 rfl
    · rcases List.mem_cons.mp hq with rfl | hq
      · exact h1
      · exact h3 q hq
theorem points_right_ok {n : Nat} {s : Src} (ho : Ok (n + 30) s) : ∃ s', m__law_points_right s = .ok (.bool true, s') := by
  obtain ⟨ps, s1, e1, hlen, hps, o1⟩ := drawn_many (f := fun x2 s3 => (m__law_drawn_point s3).bind fun (z4, s5) => R.ok (some z4, s5)) (fun _ _ => rfl) (rangeD 0 5) (n + 5) s (Ok.le ho (by simp [rangeD]))
  have hlen' : ps.length = 5 := by rw [hlen]; simp [rangeD]
  obtain ⟨p, q, l, hpq⟩ : ∃ p q l, ps = p :: q :: l := by
    match ps, hlen' with
    | p :: q :: l, _ => exact ⟨p, q, l, rfl⟩
  have hp : Pn 10 p := hps p (by rw [hpq]; simp)
  have hq : Pn 10 q := hps q (by rw [hpq]; simp)
  obtain ⟨fr, hfr⟩ := choice
  obtain ⟨ep, fp1, fp2⟩ := hfr p hp
  obtain ⟨eq, fq1, fq2⟩ := hfr q hq
  obtain ⟨ra, a, b, a1, a2, a3, a4, a5⟩ := sum_ok hp hq.pos hq.bx hq.by' hq.bc fp1 fp2 fq1.ap fq2.ap
  have nb : ∀ {i : Int}, i.natAbs < 2 ^ 10 → (-i).natAbs < 2 ^ 10 := fun h => by rw [Int.natAbs_neg]; exact h
  obtain ⟨rl, c, d, b1, b2, b3, b4, b5⟩ := sum_ok (q := ((-q.1.1, -q.1.2), q.2)) hp hq.pos (nb hq.bx) (nb hq.by') hq.bc fp1 fp2 fq1.neg fq2.neg
  have b1' := less_is b1
  have rAL := repr_l ((SmallAll.list (SmallAll.cons (a2.small (by decide)) (SmallAll.cons (b2.small (by decide)) SmallAll.nil))).mono (dp' := 3) (w' := 2000) (by decide) (by decide))
  obtain ⟨rr, u, v, c1, c2, c3, c4, c5, c6, c7, c8, c9⟩ := parted_ok hp fp1 fp2
  have rR : reprD (pointD rr) = _ := repr_t (c2.small (by decide))
  have rP : reprD (pointD p) = _ := repr_t (hp.small (by decide))
  obtain ⟨dk, s2, e2, h2, o2⟩ := of_ok (n := n + 4) (xs := [(PyData.int 1), (PyData.int 2), (PyData.int 3), (PyData.int (-1)), (PyData.int (-2))]) o1 (by decide) (by decide)
  obtain ⟨k, rfl, k0, k3⟩ : ∃ k : Int, dk = .int k ∧ k ≠ 0 ∧ k.natAbs ≤ 3 := by
    simp only [List.mem_cons, List.not_mem_nil, or_false] at h2
    rcases h2 with rfl | rfl | rfl | rfl | rfl
    · exact ⟨1, rfl, by decide, by decide⟩
    · exact ⟨2, rfl, by decide, by decide⟩
    · exact ⟨3, rfl, by decide, by decide⟩
    · exact ⟨-1, rfl, by decide, by decide⟩
    · exact ⟨-2, rfl, by decide, by decide⟩
  have told := told_ok hp k0 k3
  have mk : ∀ i : Int, mul (.int i) (.int k) = .ok (.int (i * k)) := fun i => mul_r (by omega)
  have rK := repr_t ((small_point (p := ((k, 7), 1)) (by show k.natAbs < _; omega) (by show Int.natAbs 7 < _; decide) (by show Int.natAbs 1 < _; decide)))
  have rK' : reprD (PyData.tuple [PyData.tuple [PyData.int k, PyData.int 7], PyData.int 1]) = _ := rK
  have po : m_point_of (.tuple [.int k, .int 7]) = .ok (PyData.tuple [PyData.tuple [PyData.int k, PyData.int 7], PyData.int 1]) := by unfold m_point_of; rfl
  have hq2 : ∀ x ∈ ps ++ ps.take 2, Pn 10 x := fun x hx => by
    rcases List.mem_append.mp hx with hx | hx
    · exact hps x hx
    · exact hps x (List.mem_of_mem_take hx)
  have lq : (ps ++ ps.take 2).length = 7 := by rw [List.length_append, List.length_take, hlen']; rfl
  obtain ⟨B, ts, t1, t2, t3, t4⟩ := points_sorted_ok (fun x hx => (hq2 x hx).mono (show 10 ≤ 72 by decide)) (by omega)
  have eu : uniq [] (ps ++ ps.take 2) = uniq [] ps := uniq_again fun x hx => List.mem_of_mem_take hx
  rw [eu] at t3
  obtain ⟨kvs, k1, k2⟩ := dict_enc keyN_point pointK_inj (.int 0) ps (by omega)
  have hts : ∀ x ∈ ts, x ∈ uniq [] ps := fun x hx => t3.mem_iff.mp hx
  have hus : ∀ x, x ∈ uniq [] ps ↔ x ∈ ps := fun x => by rw [uniq_mem]; simp
  have lu : (uniq [] ps).length ≤ 5 := by have := uniq_len ps []; simp at this; omega
  have lt : ts.length = (uniq [] ps).length := t3.length_eq
  have hts10 : ∀ x ∈ ts, Pn 10 x := fun x hx => hps x ((hus x).mp (hts x hx))
  have sl : slice (.list (ps.map pointD)) none (some 2) = .ok (.list ((ps.take 2).map pointD)) := by
    rw [slice_2n (by rw [List.length_map]; omega), List.map_take]
  have et : ps.take 2 = [p, q] := by rw [hpq]; rfl
  have ad : add (.list (ps.map pointD)) (.list ((ps.take 2).map pointD)) = .ok (.list ((ps ++ ps.take 2).map pointD)) := by
    rw [List.map_append]; exact add_l (by rw [List.length_map, List.length_map, List.length_take]; omega)
  have s1' : sortedL (.list (ts.map pointD)) = .ok (.list ((ts.mergeSort lep).map pointD)) := sort_pts (by omega)
  have s2' : sortedL (.dict kvs) = .ok (.list ((ts.mergeSort lep).map pointD)) := by
    show sortL (kvs.map (·.1)) = _
    rw [k2, sort_pts (by omega), sort_perm t3]
  obtain ⟨L, v1, v2⟩ := values_ok (s := s2) hp
  have tne : ts ≠ [] := fun e => by
    rw [e] at t3
    have h0 : uniq [] ps = [] := t3.symm.eq_nil
    have := (hus p).mpr (by rw [hpq]; simp)
    rw [h0] at this; simp at this
  obtain ⟨t0, tr, ets⟩ : ∃ t0 tr, ts = t0 :: tr := by
    cases ts with
    | nil => exact absurd rfl tne
    | cons a l => exact ⟨a, l, rfl⟩
  have hnd : ts.Nodup := t3.nodup_iff.mpr (uniq_nodup ps [] List.nodup_nil)
  let FR : Vc × Int → D := fun x => PyData.tuple [lotD (fr x).1, lotD (fr x).2]
  have sl2 : slice (.list (ts.map FR)) (some 1) none = .ok (.list (ts.tail.map FR)) := by rw [ets]; exact slice_2l _ _
  have zp : zipI (.list (ts.map FR)) (.list (ts.tail.map FR)) = .ok (zipD (ts.map FR) (ts.tail.map FR)) := rfl
  have e0l : neD (PyData.list []) (PyData.list []) = .ok false := rfl
  have u2l : un2 (.list ([p, q].map pointD)) = .ok (pointD p, pointD q) := rfl
  have neg1 : ∀ {f : Vc}, ((un2 (lotD f)).bind fun (p15, p16) => (sub (PyData.int 0) p15).bind fun z17 => R.ok (some (PyData.tuple [z17, p16]))) = .ok (some (lotD (0 - f.1, f.2))) := rfl
  have zl : zipI (.tuple [lotD (fr p).1, lotD (fr p).2]) (lotD (p.1.1.fdiv p.2, p.1.2.fdiv p.2)) = .ok [.tuple [lotD (fr p).1, .int (p.1.1.fdiv p.2)], .tuple [lotD (fr p).2, .int (p.1.2.fdiv p.2)]] := rfl
  have i0 : item (pointD p) (PyData.int 0) = .ok (lotD p.1) := item0 _ _
  have i1 : item (pointD p) (PyData.int 1) = .ok (.int p.2) := item1 _ _ _
  have j0 : item (lotD p.1) (PyData.int 0) = .ok (.int p.1.1) := item0 _ _
  have j1 : item (lotD p.1) (PyData.int 1) = .ok (.int p.1.2) := item1 _ _ _
  have inr : ∀ {w : Vc}, 0 ≤ w.1 → w.1 < w.2 → ((un2 (lotD w)).bind fun (p52, p53) => ((leD (PyData.int 0) p52).bind fun t55 => if t55 = true then (ltD p52 p53).bind fun z54 => R.ok z54 else R.ok false : R Bool).bind fun t56 => if (!t56) = true then R.ok (some (PyData.int 1)) else R.ok none) = .ok none := fun {w} h1 h2 => by
    refine bok (a := (.int w.1, .int w.2)) rfl <| bok (a := true) ?_ rfl
    exact bokT (by rw [le_i, decide_eq_true h1]) <| bok (by rw [lt_i, decide_eq_true h2]) rfl
  refine ⟨s2, ?_⟩
  unfold m__law_points_right
  refine bok (range_i (n := 5) (by decide)) <| bok (a := (ps.map pointD, s1)) (by rw [compS_of (by simp [rangeD])]; exact e1) <| bok sl ?_
  rw [et]
  refine bok u2l <| bok ep <| bok eq <| bok (iter_t _) <| bok (compL2 neg1 neg1) <| bok (item0 _ _) <| bok (item0 _ _) <| bok a3 <| bok (item1 _ _ _) <| bok (item1 _ _ _) <| bok a4 <| bok a5 ?_
  refine bok (item0 _ _) <| bok (item_l0 _ _) <| bok b3 <| bok (item1 _ _ _) <| bok (item_l1 _ _ _) <| bok b4 <| bok b5 <| bok (push1 _ _ (by show 1 < _; decide)) <| bok a1 <| bok b1' <| bok rAL <| bok rAL <| bokF (ne_s _) ?_
  refine bok c1 <| bok (un2_t _ _) <| bok zl <| bok (compL2 (bok (un2_t _ _) <| bok (sub_i _ _) <| bok c3 rfl) (bok (un2_t _ _) <| bok (sub_i _ _) <| bok c6 rfl)) ?_
  refine bokF (bok (iter_l _) <| bok (a := []) (by rw [compL_of (by simp)]; simp only [compP]; exact bok (inr c4 c5) <| bok (a := []) (bok (inr c7 c8) rfl) rfl) <| bokF e0l <| bok rR <| bok (item_l0 _ _) <| bok (item_l1 _ _ _) <| bok c9 <| bok rR <| bok (ne_s _) rfl) ?_
  refine bok e2 <| bok i0 <| bok j0 <| bok (mk _) <| bok i0 <| bok j1 <| bok (mk _) <| bok i1 <| bok (mk _) <| bok told ?_
  refine bokF (bok rP <| bok rP <| bokF (ne_s _) <| bok po <| bok rK' <| bok rK' <| bok (ne_s _) rfl) ?_
  refine bok sl <| bok ad <| bok t1 <| bok s1' <| bok (iter_l _) <| bok (a := ps.map fun p => PyData.tuple [pointD p, PyData.int 0]) (compL_all (by omega) fun x _ => rfl) <| bok k1 <| bok s2' <| bokF (ne_pts _) ?_
  refine bok (iter_l _) <| bok (a := ts.map FR) (compL_all (by omega) fun x hx => bok (hfr x (hts10 x hx)).1 rfl) <| bok sl2 <| bok zp <| forT_mem ?_ ?_
  · exact asc_ok t2 hq2 (fun x hx => List.mem_append_left _ ((hus x).mp (hts x hx))) hnd t4 hfr (fun _ _ => rfl)
  · refine bok v1 <| bok (iter_l _) <| forT_memS s2 ?_ rfl
    intro d hd
    obtain ⟨b, l, w1, w2, w3, w4⟩ := v2 d hd
    have sbl : Small 1 2 (.list [.bool b, .bool l]) := (SmallAll.list (SmallAll.cons (small_b b) (SmallAll.cons (small_b l) SmallAll.nil))).mono (by decide) (by decide)
    have rbl := repr_l sbl
    exact bok w1 <| bok w3 <| bok rbl <| bok w2 <| bok w4 <| bok rbl <| bokF (ne_s _) rfl
end K07

set_option autoImplicit false
set_option linter.all false
set_option maxRecDepth 100000
set_option exponentiation.threshold 5000
namespace K07
open PySem L2 Z
theorem small_tab {M : Tb} {n : Nat} (h : Et n M) (hn : n ≤ 200) : Small 2 900 (tabD M) := by
  have e : 2 ^ n ≤ 2 ^ 200 := Nat.pow_le_pow_right (by decide) hn
  have a := small_lot (v := (M.a, M.b)) (Nat.lt_of_lt_of_le h.a e) (Nat.lt_of_lt_of_le h.b e)
  have b := small_lot (v := (M.c, M.d)) (Nat.lt_of_lt_of_le h.c e) (Nat.lt_of_lt_of_le h.d e)
  exact (SmallAll.tuple (SmallAll.cons a (SmallAll.cons b SmallAll.nil))).mono (by decide) (by decide)
theorem adj_mul (M : Tb) : M.adj.mul M = ⟨M.det, 0, 0, M.det⟩ := by
  simp only [Tb.mul, Tb.adj, Tb.det, Tb.mk.injEq]
  refine ⟨?_, ?_, ?_, ?_⟩ <;> grind
theorem pows_ok {M : Tb} (h : SmT M) {f : D → D → R D} (hf : ∀ x s, f x s = (m__law_product (tabD M) s).bind fun z51 => R.ok z51) : ∀ (xs : List D) (j : Nat), j + xs.length ≤ 10 → forS xs (tabD (M.pw j)) f = .ok (tabD (M.pw (j + xs.length)))
  | [], j, _ => rfl
  | x :: xs, j, hj => by
    simp only [List.length_cons] at hj
    have e := (taken_ok h j (by omega)).2
    rw [forS_cons, hf, product_ok h.et e (by decide) (by omega)]
    show forS xs (tabD (M.pw (j + 1))) f = _
    rw [pows_ok h hf xs (j + 1) (by omega), List.length_cons, Nat.add_assoc, Nat.add_comm 1]
theorem added_lots (u v : Vc) : m_lots_added (lotD u) (lotD v) = .ok (lotD (vadd u v)) := by
  unfold m_lots_added
  exact bok (item0 _ _) <| bok (item0 _ _) <| bok (add_i _ _) <| bok (item1 _ _ _) <| bok (item1 _ _ _) <| bok (add_i _ _) rfl
theorem less_lots (u v : Vc) : m_lots_less (lotD u) (lotD v) = .ok (lotD (vsub u v)) := by
  unfold m_lots_less
  exact bok (item0 _ _) <| bok (item0 _ _) <| bok (sub_i _ _) <| bok (item1 _ _ _) <| bok (item1 _ _ _) <| bok (sub_i _ _) rfl
/-- one lap -/
theorem lap_ok {f : D → Src → R (Fl Src)} (hf : ∀ x3 s4, f x3 s4 = ((m__law_of s4 (PyData.list [(PyData.int 1), (PyData.int 2), (PyData.int 2), (PyData.int 4), (PyData.int 9)])).bind fun (z6, s7) =>
(m__law_table s7 z6).bind fun (z8, s9) =>
(m__law_table s9 z6).bind fun (z10, s11) =>
(un2 z8).bind fun (p12, p13) =>
(un2 p12).bind fun (p14, p15) =>
(un2 p13).bind fun (p16, p17) =>
(mul p14 p17).bind fun z18 =>
(mul p15 p16).bind fun z19 =>
(sub z18 z19).bind fun z20 =>
(m__law_pick s11 (PyData.int 41)).bind fun (z21, s22) =>
(sub z21 (PyData.int 20)).bind fun z23 =>
(m__law_pick s22 (PyData.int 41)).bind fun (z24, s25) =>
(sub z24 (PyData.int 20)).bind fun z26 =>
(m_table_det z8).bind fun z27 =>
(m_table_trace z8).bind fun z28 =>
(m_does_grow z8).bind fun z29 =>
(reprD (PyData.list [z27, z28, z29])).bind fun z30 =>
(add p14 p17).bind fun z31 =>
(m__law_is_small z8).bind fun z32 =>
(reprD (PyData.list [z20, z31, z32])).bind fun z33 =>
(neD z30 z33).bind fun z34 =>
if z34 = true then
R.ok (.rt (PyData.bool false) s25)
else
(m_table_behind z8 z10).bind fun z35 =>
(reprD z35).bind fun z36 =>
(m__law_product z8 z10).bind fun z37 =>
(reprD z37).bind fun z38 =>
(neD z36 z38).bind fun z39 =>
if z39 = true then
R.ok (.rt (PyData.bool false) s25)
else
(m_table_other z8).bind fun z40 =>
(m_table_behind z40 z8).bind fun z41 =>
(reprD z41).bind fun z42 =>
(reprD (PyData.tuple [(PyData.tuple [z20, (PyData.int 0)]), (PyData.tuple [(PyData.int 0), z20])])).bind fun z43 =>
(neD z42 z43).bind fun z44 =>
if z44 = true then
R.ok (.rt (PyData.bool false) s25)
else
(m__law_pick s25 (PyData.int 5)).bind fun (z45, s46) =>
(range1 z45).bind fun z47 =>
(forS z47 (PyData.tuple [(PyData.tuple [(PyData.int 1), (PyData.int 0)]), (PyData.tuple [(PyData.int 0), (PyData.int 1)])]) fun x48 s49 =>
(m__law_product z8 s49).bind fun z51 =>
R.ok z51).bind fun s50 =>
(item (PyData.tuple [z23, z26]) (PyData.int 0)).bind fun z52 =>
(mul p14 z52).bind fun z53 =>
(item (PyData.tuple [z23, z26]) (PyData.int 1)).bind fun z54 =>
(mul p15 z54).bind fun z55 =>
(add z53 z55).bind fun z56 =>
(item (PyData.tuple [z23, z26]) (PyData.int 0)).bind fun z57 =>
(mul p16 z57).bind fun z58 =>
(item (PyData.tuple [z23, z26]) (PyData.int 1)).bind fun z59 =>
(mul p17 z59).bind fun z60 =>
(add z58 z60).bind fun z61 =>
(m_table_taken z8 z45).bind fun z62 =>
(m_lot_led z8 (PyData.tuple [z23, z26])).bind fun z63 =>
(m_lots_added (PyData.tuple [z23, z26]) (PyData.tuple [z56, z61])).bind fun z64 =>
(m_lots_less (PyData.tuple [z23, z26]) (PyData.tuple [z56, z61])).bind fun z65 =>
(item (PyData.tuple [z23, z26]) (PyData.int 0)).bind fun z66 =>
(item (PyData.tuple [z56, z61]) (PyData.int 0)).bind fun z67 =>
(add z66 z67).bind fun z68 =>
(item (PyData.tuple [z23, z26]) (PyData.int 1)).bind fun z69 =>
(item (PyData.tuple [z56, z61]) (PyData.int 1)).bind fun z70 =>
(add z69 z70).bind fun z71 =>
(item (PyData.tuple [z23, z26]) (PyData.int 0)).bind fun z72 =>
(item (PyData.tuple [z56, z61]) (PyData.int 0)).bind fun z73 =>
(sub z72 z73).bind fun z74 =>
(item (PyData.tuple [z23, z26]) (PyData.int 1)).bind fun z75 =>
(item (PyData.tuple [z56, z61]) (PyData.int 1)).bind fun z76 =>
(sub z75 z76).bind fun z77 =>
(reprD (PyData.list [z62, z63, z64, z65])).bind fun z78 =>
(add (PyData.list [s50, (PyData.tuple [z56, z61])]) (PyData.list [(PyData.tuple [z68, z71]), (PyData.tuple [z74, z77])])).bind fun z79 =>
(reprD z79).bind fun z80 =>
(neD z78 z80).bind fun z81 =>
if z81 = true then
R.ok (.rt (PyData.bool false) s46)
else
(m__law_drawn_point s46).bind fun (z82, s83) =>
(m__law_fractions z82).bind fun z84 =>
(un2 z84).bind fun (p85, p86) =>
(m__law_led z8 p85 p86).bind fun z87 =>
(m_point_led z8 z82).bind fun z88 =>
(reprD z88).bind fun z89 =>
(item z87 (PyData.int 0)).bind fun z90 =>
(item z87 (PyData.int 1)).bind fun z91 =>
(m__law_point z90 z91).bind fun z92 =>
(reprD z92).bind fun z93 =>
(neD z89 z93).bind fun z94 =>
if z94 = true then
R.ok (.rt (PyData.bool false) s83)
else
(neD z20 (PyData.int 0)).bind fun z95 =>
if z95 = true then
(m__law_solved z8 p85 p86).bind fun z96 =>
(item (PyData.tuple [z23, z26]) (PyData.int 0)).bind fun z97 =>
(item (PyData.tuple [z23, z26]) (PyData.int 1)).bind fun z98 =>
(m__law_solved z8 (PyData.tuple [z97, (PyData.int 1)]) (PyData.tuple [z98, (PyData.int 1)])).bind fun z99 =>
(((item z99 (PyData.int 0)).bind fun z100 =>
(item z100 (PyData.int 1)).bind fun z101 =>
(eqD z101 (PyData.int 1)).bind fun z102 =>
if z102 = true then
(item z99 (PyData.int 1)).bind fun z103 =>
(item z103 (PyData.int 1)).bind fun z104 =>
(eqD z104 (PyData.int 1)).bind fun z105 =>
R.ok z105
else
R.ok false : R Bool).bind fun t106 =>
if t106 = true then
(item z99 (PyData.int 0)).bind fun z107 =>
(item z107 (PyData.int 0)).bind fun z108 =>
(item z99 (PyData.int 1)).bind fun z109 =>
(item z109 (PyData.int 0)).bind fun z110 =>
R.ok (PyData.tuple [z108, z110])
else
R.ok PyData.none : R D).bind fun z111 =>
(m_point_undone z8 z82).bind fun z112 =>
(m_lot_undone z8 (PyData.tuple [z23, z26])).bind fun z113 =>
(m_lot_undone z8 (PyData.tuple [z56, z61])).bind fun z114 =>
(reprD (PyData.list [z112, z113, z114])).bind fun z115 =>
(item z96 (PyData.int 0)).bind fun z116 =>
(item z96 (PyData.int 1)).bind fun z117 =>
(m__law_point z116 z117).bind fun z118 =>
(reprD (PyData.list [z118, z111, (PyData.tuple [z23, z26])])).bind fun z119 =>
(neD z115 z119).bind fun z120 =>
if z120 = true then
R.ok (.rt (PyData.bool false) s83)
else
R.ok (.nx s83)
else
R.ok (.nx s83))) {n : Nat} {s : Src} (ho : Ok (n + 20) s) (x : D) : ∃ s', f x s = .ok (.nx s') ∧ Ok n s' := by
  obtain ⟨d1, s1, e1, h1, o1⟩ := of_ok (n := n + 19) (xs := [(PyData.int 1), (PyData.int 2), (PyData.int 2), (PyData.int 4), (PyData.int 9)]) ho (by decide) (by decide)
  obtain ⟨far, rfl, hf1, hf2⟩ : ∃ far : Int, d1 = .int far ∧ 1 ≤ far ∧ far ≤ 9 := by
    simp only [List.mem_cons, List.not_mem_nil, or_false] at h1
    rcases h1 with rfl | rfl | rfl | rfl | rfl
    · exact ⟨1, rfl, by decide, by decide⟩
    · exact ⟨2, rfl, by decide, by decide⟩
    · exact ⟨2, rfl, by decide, by decide⟩
    · exact ⟨4, rfl, by decide, by decide⟩
    · exact ⟨9, rfl, by decide, by decide⟩
  obtain ⟨T, s2, e2, hT, o2⟩ := table_ok (n := n + 15) o1 hf1 hf2
  obtain ⟨N, s3, e3, hN, o3⟩ := table_ok (n := n + 11) o2 hf1 hf2
  obtain ⟨r1, s4, e4, g1, o4⟩ := pick_ok (n := n + 10) o3 (many := 41) (by decide) (by decide)
  obtain ⟨r2, s5, e5, g2, o5⟩ := pick_ok (n := n + 9) o4 (many := 41) (by decide) (by decide)
  obtain ⟨r3, s6, e6, g3, o6⟩ := pick_ok (n := n + 8) o5 (many := 5) (by decide) (by decide)
  obtain ⟨p, s7, e7, hp, o7⟩ := drawn_ok (n := n + 4) o6
  obtain ⟨lot, hl1, hl2, hlb1, hlb2⟩ : ∃ lot : Vc, (r1 : Int) - 20 = lot.1 ∧ (r2 : Int) - 20 = lot.2 ∧ lot.1.natAbs < 2 ^ 10 ∧ lot.2.natAbs < 2 ^ 10 := ⟨((r1 : Int) - 20, (r2 : Int) - 20), rfl, rfl, by show ((r1 : Int) - 20).natAbs < _; omega, by show ((r2 : Int) - 20).natAbs < _; omega⟩
  have q1 : sub (.int (r1 : Int)) (PyData.int 20) = .ok (.int lot.1) := by rw [sub_i, hl1]
  have q2 : sub (.int (r2 : Int)) (PyData.int 20) = .ok (.int lot.2) := by rw [sub_i, hl2]
  obtain ⟨b, w1, w2⟩ := grow_ok hT
  have bd := det_bd hT
  have bt := tr_bd hT
  have rD := repr_l ((SmallAll.list (SmallAll.cons (small_i (i := T.det) (by omega)) (SmallAll.cons (small_i (i := Tb.tr T) (by omega)) (SmallAll.cons (small_b b) SmallAll.nil)))).mono (dp' := 3) (w' := 2000) (by decide) (by decide))
  have eT := hT.et
  have eN := hN.et
  have eA := (adj_sm hT).et
  have beh := behind_ok eT eN (by decide) (by decide)
  have pro := product_ok eT eN (by decide) (by decide)
  have rB : reprD (tabD (T.mul N)) = _ := repr_t (small_tab (eT.mul eN) (by decide))
  have beh2 := behind_ok eA eT (by decide) (by decide)
  have rA : reprD (tabD (T.adj.mul T)) = _ := repr_t (small_tab (eA.mul eT) (by decide))
  have rA' : reprD (PyData.tuple [(PyData.tuple [.int T.det, (PyData.int 0)]), (PyData.tuple [(PyData.int 0), .int T.det])]) = reprD (tabD (T.adj.mul T)) := by rw [adj_mul]; rfl
  rw [rA] at rA'
  have r3' : r3 < 5 := by omega
  obtain ⟨tk, te⟩ := taken_ok hT r3 (by omega)
  have pw := pows_ok hT (f := fun x48 s49 => (m__law_product (tabD T) s49).bind fun z51 => R.ok z51) (fun _ _ => rfl) (rangeD 0 r3) 0 (by simp [rangeD]; omega)
  have lr : 0 + (rangeD 0 r3).length = r3 := by simp [rangeD]
  rw [lr] at pw
  have lb : (T.led lot).1.natAbs < 2 ^ (10 + 5) ∧ (T.led lot).2.natAbs < 2 ^ (10 + 5) := led_bd hT hlb1 hlb2
  have ll := led_lot hT hlb1 hlb2 (by decide)
  have up : (2 : Nat) ^ (10 + 5) + 2 ^ 10 < 2 ^ 200 := by decide
  have sL : Small 1 402 (lotD lot) := small_lot (by omega) (by omega)
  have sLed : Small 1 402 (lotD (T.led lot)) := small_lot (by have := lb.1; omega) (by have := lb.2; omega)
  have sAdd : Small 1 402 (lotD (vadd lot (T.led lot))) := small_lot (by have := lb.1; show (lot.1 + (T.led lot).1).natAbs < _; omega) (by have := lb.2; show (lot.2 + (T.led lot).2).natAbs < _; omega)
  have sSub : Small 1 402 (lotD (vsub lot (T.led lot))) := small_lot (by have := lb.1; show (lot.1 - (T.led lot).1).natAbs < _; omega) (by have := lb.2; show (lot.2 - (T.led lot).2).natAbs < _; omega)
  have rTold := repr_l ((SmallAll.list (SmallAll.cons (small_tab te (by omega)) (SmallAll.cons sLed (SmallAll.cons sAdd (SmallAll.cons sSub SmallAll.nil))))).mono (dp' := 3) (w' := 3000) (by decide) (by decide))
  obtain ⟨f, g, e8, hf8, hg8⟩ := fracs_ok hp (by decide)
  obtain ⟨rl, a1, b1, l1, l2, l3, l4⟩ := led_pt hT hp hf8 hg8
  have rL : reprD (pointD rl) = _ := repr_t (l2.small (by decide))
  have ut : un2 (tabD T) = .ok (.tuple [.int T.a, .int T.b], .tuple [.int T.c, .int T.d]) := rfl
  have ma : ∀ i : Int, mul (.int T.a) (.int i) = .ok (.int (T.a * i)) := fun i => mul_l (b64 hT.a)
  have mb : ∀ i : Int, mul (.int T.b) (.int i) = .ok (.int (T.b * i)) := fun i => mul_l (b64 hT.b)
  have mc : ∀ i : Int, mul (.int T.c) (.int i) = .ok (.int (T.c * i)) := fun i => mul_l (b64 hT.c)
  have md : ∀ i : Int, mul (.int T.d) (.int i) = .ok (.int (T.d * i)) := fun i => mul_l (b64 hT.d)
  have sd : sub (.int (T.a * T.d)) (.int (T.b * T.c)) = .ok (.int T.det) := rfl
  have at' : add (.int T.a) (.int T.d) = .ok (.int (Tb.tr T)) := rfl
  have ad1 : add (.int (T.a * lot.1)) (.int (T.b * lot.2)) = .ok (.int (T.led lot).1) := rfl
  have ad2 : add (.int (T.c * lot.1)) (.int (T.d * lot.2)) = .ok (.int (T.led lot).2) := rfl
  refine ⟨s7, ?_, Ok.le o7 (by omega)⟩
  rw [hf]
  refine bok e1 <| bok e2 <| bok e3 <| bok ut <| bok (un2_t _ _) <| bok (un2_t _ _) <| bok (ma _) <| bok (mb _) <| bok sd <| bok e4 <| bok q1 <| bok e5 <| bok q2 ?_
  refine bok (det_ok hT) <| bok (trace_ok T) <| bok w1 <| bok rD <| bok at' <| bok w2 <| bok rD <| bokF (ne_s _) ?_
  refine bok beh <| bok rB <| bok pro <| bok rB <| bokF (ne_s _) ?_
  refine bok (other_ok T) <| bok beh2 <| bok rA <| bok rA' <| bokF (ne_s _) ?_
  refine bok e6 <| bok (range_i (n := r3) (by omega)) <| bok pw ?_
  refine bok (item0 _ _) <| bok (ma _) <| bok (item1 _ _ _) <| bok (mb _) <| bok ad1 <| bok (item0 _ _) <| bok (mc _) <| bok (item1 _ _ _) <| bok (md _) <| bok ad2 ?_
  refine bok tk <| bok ll <| bok (added_lots lot (T.led lot)) <| bok (less_lots lot (T.led lot)) ?_
  refine bok (item0 _ _) <| bok (item0 _ _) <| bok (add_i _ _) <| bok (item1 _ _ _) <| bok (item1 _ _ _) <| bok (add_i _ _) <| bok (item0 _ _) <| bok (item0 _ _) <| bok (sub_i _ _) <| bok (item1 _ _ _) <| bok (item1 _ _ _) <| bok (sub_i _ _) ?_
  refine bok rTold <| bok (add_l (by show 2 + 2 < _; decide)) <| bok rTold <| bokF (ne_s _) ?_
  refine bok e7 <| bok e8 <| bok (un2_t _ _) <| bok l3 <| bok l1 <| bok rL <| bok (item0 _ _) <| bok (item1 _ _ _) <| bok l4 <| bok rL <| bokF (ne_s _) ?_
  by_cases hd : T.det = 0
  · exact bokF (by rw [ne_i, hd]; rfl) rfl
  · refine bokT (by rw [ne_i, decide_eq_false hd]; rfl) ?_
    obtain ⟨ru, a2, b2, u1, u2, u3, u4⟩ := undone_pt hT hd hp hf8 hg8
    obtain ⟨x1, x2, v1, v2, v3⟩ := solved_ok hT hd (x := (lot.1, 1)) (y := (lot.2, 1)) (C := 1) (by decide) (Fq.whole lot.1 (n := 10) hlb1 (by decide)) (Fq.whole lot.2 (n := 10) hlb2 (by decide)) (by decide) (by decide)
    rw [Int.one_mul] at v2 v3
    have lu := lundone_ok hT hd hlb1 hlb2 (by decide)
    have lu2 := lundone_led hT hd hlb1 hlb2
    have dv1 := v2.dvd hd
    have dv2 := v3.dvd hd
    obtain ⟨W, sW, lu', lw⟩ : ∃ W : D, Small 1 402 W ∧ m_lot_undone (tabD T) (lotD lot) = .ok W ∧ ((((item (PyData.tuple [lotD x1, lotD x2]) (PyData.int 0)).bind fun z100 =>
(item z100 (PyData.int 1)).bind fun z101 =>
(eqD z101 (PyData.int 1)).bind fun z102 =>
if z102 = true then
(item (PyData.tuple [lotD x1, lotD x2]) (PyData.int 1)).bind fun z103 =>
(item z103 (PyData.int 1)).bind fun z104 =>
(eqD z104 (PyData.int 1)).bind fun z105 =>
R.ok z105
else
R.ok false : R Bool).bind fun t106 =>
if t106 = true then
(item (PyData.tuple [lotD x1, lotD x2]) (PyData.int 0)).bind fun z107 =>
(item z107 (PyData.int 0)).bind fun z108 =>
(item (PyData.tuple [lotD x1, lotD x2]) (PyData.int 1)).bind fun z109 =>
(item z109 (PyData.int 0)).bind fun z110 =>
R.ok (PyData.tuple [z108, z110])
else
R.ok PyData.none : R D)) = .ok W := by
      have up : (2 : Nat) ^ 88 < 2 ^ 200 := by decide
      by_cases c1 : x1.2 = 1
      · by_cases c2 : x2.2 = 1
        · refine ⟨lotD (x1.1, x2.1), small_lot (by have := v2.b1; show x1.1.natAbs < _; omega) (by have := v3.b1; show x2.1.natAbs < _; omega), ?_, ?_⟩
          · rw [lu, if_pos ⟨dv1.mp c1, dv2.mp c2⟩, v2.whole_is hd c1, v3.whole_is hd c2]
          · refine bokT (bok (item0 _ _) <| bok (item1 _ _ _) <| bokT (by rw [eq_i, decide_eq_true c1]) <| bok (item1 _ _ _) <| bok (item1 _ _ _) <| bok (by rw [eq_i, decide_eq_true c2]) rfl) ?_
            exact bok (item0 _ _) <| bok (item0 _ _) <| bok (item1 _ _ _) <| bok (item0 _ _) rfl
        · refine ⟨.none, small_n.mono (by decide) (by decide), ?_, ?_⟩
          · rw [lu, if_neg (fun e => c2 (dv2.mpr e.2))]
          · exact bokF (bok (item0 _ _) <| bok (item1 _ _ _) <| bokT (by rw [eq_i, decide_eq_true c1]) <| bok (item1 _ _ _) <| bok (item1 _ _ _) <| bok (by rw [eq_i, decide_eq_false c2]) rfl) rfl
      · refine ⟨.none, small_n.mono (by decide) (by decide), ?_, ?_⟩
        · rw [lu, if_neg (fun e => c1 (dv1.mpr e.1))]
        · exact bokF (bok (item0 _ _) <| bok (item1 _ _ _) <| bokF (by rw [eq_i, decide_eq_false c1]) rfl) rfl
    have rW := repr_l ((SmallAll.list (SmallAll.cons (u2.small (by decide)) (SmallAll.cons sW (SmallAll.cons sL SmallAll.nil)))).mono (dp' := 3) (w' := 3000) (by decide) (by decide))
    refine bok u3 <| bok (item0 _ _) <| bok (item1 _ _ _) <| bok v1 <| bok lw ?_
    refine bok u1 <| bok lu' <| bok lu2 <| bok rW <| bok (item0 _ _) <| bok (item1 _ _ _) <| bok u4 <| bok rW <| bokF (ne_s _) rfl
theorem holds : ∀ ns : List Int, ns.length ≤ 63 → m_law ns = .ok (.bool true) := by
  intro ns hl
  obtain ⟨s0, e0, o0⟩ := source_ok ns hl
  unfold m_law
  refine bok e0 <| bok (range_i (n := 4) (by decide)) <| forT_inv (fun n st => Ok (n * 20 + 100) st) ?_ (Ok.le o0 (by simp [rangeD])) ?_
  · intro n x st ho
    exact lap_ok (fun _ _ => rfl) (n := n * 20 + 100) (Ok.le ho (by omega)) x
  · intro st o1
    obtain ⟨s', e⟩ := points_right_ok (n := 50) (Ok.le o1 (by decide))
    exact bok e rfl
end K07

open PySem PySem.W PyProof.Rows in
set_option maxRecDepth 100000 in
set_option maxHeartbeats 0 in
theorem PySem.Challenge.cw_touchingtiles_k07_powers_undone_by_elimi_holds : PySem.Challenge.rw_touchingtiles_k07_powers_undone_by_elimi.Holds := by
  w_on; o_law; k_head; (case hw => w_witness2)
  k_fill
  refine Z.walkG (l := PySem.Challenge.rw_touchingtiles_k07_powers_undone_by_elimi) (n := 63) (k := 6) (x := "script") (sp := Z.spLaw) rfl (by decide) rfl ⟨rfl, by decide, by decide⟩ (fun w h Y => PySem.W.kIn_of Y) ?F (fun _ H a ns hl hS => ⟨a, ns, rfl, hS, hl, fun _ => rfl⟩)
  case F =>
    intro w mg fa h KX G hmg
    refine' K07.all_mk KX G hmg ?a0 ?l0 ?c0 ?k0 ?a1 ?l1 ?c1 ?k1 ?a2 ?l2 ?c2 ?k2 ?a3 ?l3 ?c3 ?k3 ?a4 ?l4 ?c4 ?k4 ?a5 ?l5 ?c5 ?k5 ?a6 ?l6 ?c6 ?k6 ?a7 ?l7 ?c7 ?k7 ?a8 ?l8 ?c8 ?k8 ?a9 ?l9 ?c9 ?k9 ?a10 ?l10 ?c10 ?k10 ?a11 ?l11 ?c11 ?k11 ?a12 ?l12 ?c12 ?k12 ?a13 ?l13 ?c13 ?k13 ?a14 ?l14 ?c14 ?k14 ?a15 ?l15 ?c15 ?k15 ?a16 ?l16 ?c16 ?k16 ?a17 ?l17 ?c17 ?k17 ?a18 ?l18 ?c18 ?k18 ?a19 ?l19 ?c19 ?k19 ?a20 ?l20 ?c20 ?k20 ?a21 ?l21 ?c21 ?k21 ?a22 ?l22 ?c22 ?k22 ?a23 ?l23 ?c23 ?k23 ?a24 ?l24 ?c24 ?k24 ?a25 ?l25 ?c25 ?k25 ?a26 ?l26 ?c26 ?k26 ?a27 ?l27 ?c27 ?k27 ?a28 ?l28 ?c28 ?k28 ?a29 ?l29 ?c29 ?k29 ?a30 ?l30 ?c30 ?k30 ?a31 ?l31 ?c31 ?k31 ?a32 ?l32 ?c32 ?k32 ?a33 ?l33 ?c33 ?k33 ?a34 ?l34 ?c34 ?k34 ?a35 ?l35 ?c35 ?k35 ?a36 ?l36 ?c36 ?k36 ?a37 ?l37 ?c37 ?k37 ?a38 ?l38 ?c38 ?k38 ?a39 ?l39 ?c39 ?k39 ?a40 ?l40 ?c40 ?k40 ?z_abs ?z_range ?z_int ?z_len ?z_max ?z_tuple ?z_isinstance ?z_bool ?z_all ?z_sorted ?z_dict ?z_repr ?z_zip ?m_gcd K07.holds
    (case a0 => k_is)
    (case l0 => k_is)
    (case c0 => k_is)
    (case k0 => k_is)
    (case a1 => k_is)
    (case l1 => k_is)
    (case c1 => k_is)
    (case k1 => k_is)
    (case a2 => k_is)
    (case l2 => k_is)
    (case c2 => k_is)
    (case k2 => k_is)
    (case a3 => k_is)
    (case l3 => k_is)
    (case c3 => k_is)
    (case k3 => k_is)
    (case a4 => k_is)
    (case l4 => k_is)
    (case c4 => k_is)
    (case k4 => k_is)
    (case a5 => k_is)
    (case l5 => k_is)
    (case c5 => k_is)
    (case k5 => k_is)
    (case a6 => k_is)
    (case l6 => k_is)
    (case c6 => k_is)
    (case k6 => k_is)
    (case a7 => k_is)
    (case l7 => k_is)
    (case c7 => k_is)
    (case k7 => k_is)
    (case a8 => k_is)
    (case l8 => k_is)
    (case c8 => k_is)
    (case k8 => k_is)
    (case a9 => k_is)
    (case l9 => k_is)
    (case c9 => k_is)
    (case k9 => k_is)
    (case a10 => k_is)
    (case l10 => k_is)
    (case c10 => k_is)
    (case k10 => k_is)
    (case a11 => k_is)
    (case l11 => k_is)
    (case c11 => k_is)
    (case k11 => k_is)
    (case a12 => k_is)
    (case l12 => k_is)
    (case c12 => k_is)
    (case k12 => k_is)
    (case a13 => k_is)
    (case l13 => k_is)
    (case c13 => k_is)
    (case k13 => k_is)
    (case a14 => k_is)
    (case l14 => k_is)
    (case c14 => k_is)
    (case k14 => k_is)
    (case a15 => k_is)
    (case l15 => k_is)
    (case c15 => k_is)
    (case k15 => k_is)
    (case a16 => k_is)
    (case l16 => k_is)
    (case c16 => k_is)
    (case k16 => k_is)
    (case a17 => k_is)
    (case l17 => k_is)
    (case c17 => k_is)
    (case k17 => k_is)
    (case a18 => k_is)
    (case l18 => k_is)
    (case c18 => k_is)
    (case k18 => k_is)
    (case a19 => k_is)
    (case l19 => k_is)
    (case c19 => k_is)
    (case k19 => k_is)
    (case a20 => k_is)
    (case l20 => k_is)
    (case c20 => k_is)
    (case k20 => k_is)
    (case a21 => k_is)
    (case l21 => k_is)
    (case c21 => k_is)
    (case k21 => k_is)
    (case a22 => k_is)
    (case l22 => k_is)
    (case c22 => k_is)
    (case k22 => k_is)
    (case a23 => k_is)
    (case l23 => k_is)
    (case c23 => k_is)
    (case k23 => k_is)
    (case a24 => k_is)
    (case l24 => k_is)
    (case c24 => k_is)
    (case k24 => k_is)
    (case a25 => k_is)
    (case l25 => k_is)
    (case c25 => k_is)
    (case k25 => k_is)
    (case a26 => k_is)
    (case l26 => k_is)
    (case c26 => k_is)
    (case k26 => k_is)
    (case a27 => k_is)
    (case l27 => k_is)
    (case c27 => k_is)
    (case k27 => k_is)
    (case a28 => k_is)
    (case l28 => k_is)
    (case c28 => k_is)
    (case k28 => k_is)
    (case a29 => k_is)
    (case l29 => k_is)
    (case c29 => k_is)
    (case k29 => k_is)
    (case a30 => k_is)
    (case l30 => k_is)
    (case c30 => k_is)
    (case k30 => k_is)
    (case a31 => k_is)
    (case l31 => k_is)
    (case c31 => k_is)
    (case k31 => k_is)
    (case a32 => k_is)
    (case l32 => k_is)
    (case c32 => k_is)
    (case k32 => k_is)
    (case a33 => k_is)
    (case l33 => k_is)
    (case c33 => k_is)
    (case k33 => k_is)
    (case a34 => k_is)
    (case l34 => k_is)
    (case c34 => k_is)
    (case k34 => k_is)
    (case a35 => k_is)
    (case l35 => k_is)
    (case c35 => k_is)
    (case k35 => k_is)
    (case a36 => k_is)
    (case l36 => k_is)
    (case c36 => k_is)
    (case k36 => k_is)
    (case a37 => k_is)
    (case l37 => k_is)
    (case c37 => k_is)
    (case k37 => k_is)
    (case a38 => k_is)
    (case l38 => k_is)
    (case c38 => k_is)
    (case k38 => k_is)
    (case a39 => k_is)
    (case l39 => k_is)
    (case c39 => k_is)
    (case k39 => k_is)
    (case a40 => k_is)
    (case l40 => k_is)
    (case c40 => k_is)
    (case k40 => k_is)
    (case z_abs => k_is)
    (case z_range => k_is)
    (case z_int => k_is)
    (case z_len => k_is)
    (case z_max => k_is)
    (case z_tuple => k_is)
    (case z_isinstance => k_is)
    (case z_bool => k_is)
    (case z_all => k_is)
    (case z_sorted => k_is)
    (case z_dict => k_is)
    (case z_repr => k_is)
    (case z_zip => k_is)
    (case m_gcd => k_is)

import PyProof.Rows.All
import HandS.ForMost
import HandS.Wide
import KE.DataEq
import KE.DataCmp
import KE.DataMinMax
import KE.DataAny
import KE.DataFind
import KE.SortData
import PyProof.ReprRoads
import HandS.Comp
import HandS.Walk
import HandS.Zip
import HandS.Words
import HandS.Ends
import HandS.TupAny
import HandS.TupMul
import HandS.Gcd
import HandS.More
import HandS.IsInst
import PyProof.Rows.ReprR
import HandS.Style
import HandS.Iter
import KE.GoesMore
import KE.GoesEnum
import PyProof.ReprLen
import PySem.Challenge.RW_touchingtiles_k10_worths_of_names_by_own
set_option Elab.async false
set_option linter.all false
set_option maxRecDepth 100000
set_option maxHeartbeats 0
set_option autoImplicit false
set_option exponentiation.threshold 5000
set_option Elab.async false
set_option linter.all false
set_option maxRecDepth 100000
/-! # Z1: plain data, outcomes, the operations that the mirrors name -/
namespace Z
open PySem

abbrev D := PyData

/-- an outcome: a value; an exception, its class's name and what it was made of; nothing is said -/
inductive R (α : Type) where
  | ok (a : α) | exc (cls : Str) (args : List D) | stuck

namespace R
def bind {α β : Type} (m : R α) (f : α → R β) : R β :=
  match m with
  | ok a => f a
  | exc c a => exc c a
  | stuck => stuck
@[simp] theorem bind_ok {α β : Type} (a : α) (f : α → R β) : (ok a).bind f = f a := rfl
@[simp] theorem bind_stuck {α β : Type} (f : α → R β) : (stuck : R α).bind f = stuck := rfl
@[simp] theorem bind_exc {α β : Type} (c : Str) (a : List D) (f : α → R β) : (exc c a : R α).bind f = exc c a := rfl
theorem bind_assoc {α β γ : Type} (m : R α) (f : α → R β) (g : β → R γ) : (m.bind f).bind g = m.bind fun a => (f a).bind g := by
  cases m <;> rfl
theorem bind_eq_ok {α β : Type} {m : R α} {f : α → R β} {b : β} (h : m.bind f = ok b) : ∃ a, m = ok a ∧ f a = ok b := by
  cases m with
  | ok a => exact ⟨a, rfl, h⟩
  | exc c a => cases h
  | stuck => cases h
end R

/-- how a loop's turn, a block ends -/
inductive Fl (τ : Type) where
  | nx (st : τ) | bk (st : τ) | rt (d : D) (st : τ)

def forT {τ : Type} : List D → τ → (D → τ → R (Fl τ)) → R (Fl τ)
  | [], st, _ => .ok (.nx st)
  | x :: xs, st, f => (f x st).bind fun
    | .nx s => forT xs s f
    | .bk s => .ok (.nx s)
    | .rt d s => .ok (.rt d s)

/-- a loop without break and return -/
def forS {τ : Type} : List D → τ → (D → τ → R τ) → R τ
  | [], st, _ => .ok st
  | x :: xs, st, f => (f x st).bind fun s => forS xs s f

inductive Wl (τ : Type) where
  | go (st : τ) | done (st : τ) | rt (d : D) (st : τ)

def whileT {τ : Type} : Nat → τ → (τ → R (Wl τ)) → R (Fl τ)
  | 0, _, _ => .stuck
  | n + 1, st, f => (f st).bind fun
    | .go s => whileT n s f
    | .done s => .ok (.nx s)
    | .rt d s => .ok (.rt d s)

/-- a comprehension's list; the state is what its element changes -/
def compT {τ : Type} : List D → τ → (D → τ → R (Option D × τ)) → R (List D × τ)
  | [], st, _ => .ok ([], st)
  | x :: xs, st, f => (f x st).bind fun p => (compT xs p.2 f).bind fun q =>
    match p.1 with
    | some y => .ok (y :: q.1, q.2)
    | none => .ok (q.1, q.2)
/-- without a state -/
def compP : List D → (D → R (Option D)) → R (List D)
  | [], _ => .ok []
  | x :: xs, f => (f x).bind fun p => (compP xs f).bind fun q =>
    match p with
    | some y => .ok (y :: q)
    | none => .ok q

/-- .. of not too many items -/
def compL (xs : List D) (f : D → R (Option D)) : R (List D) := if decide (xs.length < 16777216) then compP xs f else .stuck
def compS {τ : Type} (xs : List D) (st : τ) (f : D → τ → R (Option D × τ)) : R (List D × τ) := if decide (xs.length < 16777216) then compT xs st f else .stuck

/-! ### operations -/
def okD (d : D) : Bool := d.plain && decide (d.depth ≤ 40)
def bigM (i j : Int) : Bool := decide (i.natAbs < 2 ^ 64) || decide (j.natAbs < 2 ^ 64) || decide (i.natAbs.log2 + j.natAbs.log2 < 1000000)
def bigD (j : Int) : Bool := decide (j.natAbs.log2 < 9000)
def szOk (n : Nat) : Bool := decide (n ≤ 16777216)

def add : D → D → R D
  | .int i, .int j => .ok (.int (i + j))
  | .str a, .str b => if szOk (a.length + b.length) then .ok (.str (a ++ b)) else .stuck
  | .list a, .list b => if szOk (a.length + b.length) then .ok (.list (a ++ b)) else .stuck
  | .tuple a, .tuple b => if szOk (a.length + b.length) then .ok (.tuple (a ++ b)) else .stuck
  | _, _ => .stuck
def sub : D → D → R D
  | .int i, .int j => .ok (.int (i - j))
  | _, _ => .stuck
def repl (xs : List D) (k : Int) : List D := (List.replicate k.toNat xs).flatten
def mul : D → D → R D
  | .int i, .int j => if bigM i j then .ok (.int (i * j)) else .stuck
  | .list a, .int k => if decide (-(2 ^ 63) ≤ k) && decide (k < 2 ^ 63) && szOk (a.length * k.toNat) then .ok (.list (repl a k)) else .stuck
  | .tuple a, .int k => if decide (2 ≤ k) && decide (k ≤ 1000) && !a.isEmpty && decide (a.length ≤ 1000) then .ok (.tuple (repl a k)) else .stuck
  | _, _ => .stuck
def fdiv : D → D → R D
  | .int i, .int j => if decide (j ≠ 0) && bigD j then .ok (.int (i.fdiv j)) else .stuck
  | _, _ => .stuck
def fmod : D → D → R D
  | .int i, .int j => if decide (j ≠ 0) then .ok (.int (i.fmod j)) else .stuck
  | _, _ => .stuck
def pow : D → D → R D
  | .int i, .int j => if decide (0 ≤ j) && decide (j ≤ 1000000) && decide (i.natAbs < 2 ^ 64) then .ok (.int (i ^ j.toNat)) else .stuck
  | _, _ => .stuck
def neg : D → R D
  | .int i => .ok (.int (-i))
  | _ => .stuck

def eqD (a b : D) : R Bool := if okD a && okD b then .ok (PyData.eqv a b) else .stuck
def isNone : D → Bool
  | .none => true
  | _ => false
/-- a < b -/
def ltD : D → D → R Bool
  | .int i, .int j => .ok (decide (i < j))
  | a, b => if W.alike a b && !isNone a && okD a && okD b then .ok (W.dataLt a b) else .stuck
def neD (a b : D) : R Bool := (eqD a b).bind fun t => .ok (!t)
/-- a <= b -/
def leD : D → D → R Bool
  | .int i, .int j => .ok (decide (i ≤ j))
  | a, b => if W.alike a b && !isNone a && okD a && okD b then .ok (!W.dataLt b a) else .stuck
def gtD (a b : D) : R Bool := ltD b a
def geD (a b : D) : R Bool := leD b a
def inD (x : D) : D → R Bool
  | .list ys => if okD x && okD (.list ys) then .ok (ys.any fun y => PyData.eqv y x) else .stuck
  | .tuple ys => if okD x && okD (.tuple ys) then .ok (ys.any fun y => PyData.eqv y x) else .stuck
  | .str z => match x with
    | .str c => .ok (!(Builtin.Str.occurrences z c 0 z.length 1).isEmpty)
    | _ => .stuck
  | _ => .stuck

def notInD (x y : D) : R Bool := (inD x y).bind fun t => .ok (!t)

def truth : D → R Bool
  | .none => .ok false
  | .bool b => .ok b
  | .int i => .ok (i != 0)
  | .str x => if szOk x.length then .ok (x.length != 0) else .stuck
  | .list xs => .ok (!xs.isEmpty)
  | .tuple xs => .ok (!xs.isEmpty)
  | .dict _ => .stuck

/-- the item at a place, from the end below 0 -/
def atD (xs : List D) (i : Int) : R D :=
  match L2.atI xs i with
  | some x => .ok x
  | none => .stuck
def item : D → D → R D
  | .tuple xs, .int i => atD xs i
  | .list xs, .int i => atD xs i
  | .str s, .int i => if szOk s.length then match L2.atI s.cps.toList i with
    | some c => .ok (.str ⟨#[c]⟩)
    | none => .stuck
    else .stuck
  | _, _ => .stuck
/-- an end of a slice -/
def toI : D → R Int
  | .int i => .ok i
  | _ => .stuck
def cut {α : Type} (xs : List α) (lo hi : Option Int) : List α := (xs.drop (HT.sIx xs.length 0 lo)).take (HT.sIx xs.length xs.length hi - HT.sIx xs.length 0 lo)
def slice (a : D) (l u : Option Int) : R D := match a with
  | .tuple xs => .ok (.tuple (cut xs l u))
  | .list xs => .ok (.list (cut xs l u))
  | .str s => if szOk s.length then .ok (.str (L2.cutS s l u)) else .stuck
  | _ => .stuck
/-- xs[::-1] -/
def backwards : D → R D
  | .list xs => .ok (.list xs.reverse)
  | _ => .stuck
/-- the items that a loop, a star, list(..) walk -/
def iter : D → R (List D)
  | .tuple xs => .ok xs
  | .list xs => .ok xs
  | .str s => .ok (s.cps.toList.map fun c => .str ⟨#[c]⟩)
  | _ => .stuck
def rangeD (lo hi : Int) : List D := (List.range (hi - lo).toNat).map fun (k : Nat) => .int (lo + k)
def range2 : D → D → R (List D)
  | .int lo, .int hi => if decide (-(2 ^ 62) ≤ lo) && decide (lo < 2 ^ 62) && decide (-(2 ^ 62) ≤ hi) && decide (hi < 2 ^ 62) then .ok (rangeD lo hi) else .stuck
  | _, _ => .stuck
def range1 (a : D) : R (List D) := range2 (.int 0) a
def enumD (xs : List D) : List D := xs.zipIdx.map fun p => .tuple [.int (p.2 : Nat), p.1]
def zipD (xs ys : List D) : List D := (xs.zip ys).map fun p => .tuple [p.1, p.2]

def lenD : D → R D
  | .tuple xs => .ok (.int xs.length)
  | .list xs => .ok (.int xs.length)
  | .str s => if szOk s.length then .ok (.int s.length) else .stuck
  | _ => .stuck
def absD : D → R D
  | .int i => .ok (.int (if i < 0 then -i else i))
  | _ => .stuck
def maxD2 : D → D → R D
  | .int i, .int j => .ok (.int (if j > i then j else i))
  | _, _ => .stuck
def minD2 : D → D → R D
  | .int i, .int j => .ok (.int (if j < i then j else i))
  | _, _ => .stuck
def maxL : D → R D
  | .list (x :: xs) => if okD (.list (x :: xs)) && (x :: xs).all (fun a => !isNone a && (x :: xs).all fun b => W.alike a b) then .ok (W.maxD x xs) else .stuck
  | .tuple (x :: xs) => if okD (.list (x :: xs)) && (x :: xs).all (fun a => !isNone a && (x :: xs).all fun b => W.alike a b) then .ok (W.maxD x xs) else .stuck
  | _ => .stuck
def minL : D → R D
  | .list (x :: xs) => if okD (.list (x :: xs)) && (x :: xs).all (fun a => !isNone a && (x :: xs).all fun b => W.alike a b) then .ok (W.minD x xs) else .stuck
  | .tuple (x :: xs) => if okD (.list (x :: xs)) && (x :: xs).all (fun a => !isNone a && (x :: xs).all fun b => W.alike a b) then .ok (W.minD x xs) else .stuck
  | _ => .stuck
def isTup1 : D → Bool
  | .tuple (_ :: _) => true
  | _ => false
def isTup : D → Bool
  | .tuple _ => true
  | _ => false
/-- sorted(xs) -/
def sortedL : D → R D
  | .list xs => if okD (.list xs) && xs.all (fun a => xs.all fun b => W.alike a b) && (xs.all isTup1 || xs.all fun a => !isNone a && !isTup a) && szOk xs.length then .ok (.list (xs.mergeSort (W.dataLe false id))) else .stuck
  | _ => .stuck
def intsD : List D → Option (List Int)
  | [] => some []
  | .int i :: r => (intsD r).map (i :: ·)
  | _ => none
def boolsD : List D → Option (List Bool)
  | [] => some []
  | .bool i :: r => (boolsD r).map (i :: ·)
  | _ => none
def sumL : D → R D
  | .list xs => match intsD xs with
    | some ns => .ok (.int ns.sum)
    | none => .stuck
  | _ => .stuck
def allL : D → R D
  | .list xs => match boolsD xs with
    | some bs => .ok (.bool (bs.all id))
    | none => .stuck
  | _ => .stuck
def anyL : D → R D
  | .list xs => match boolsD xs with
    | some bs => .ok (.bool (bs.any id))
    | none => .stuck
  | _ => .stuck
def tupleD : D → R D
  | .list xs => .ok (.tuple xs)
  | .tuple xs => .ok (.tuple xs)
  | _ => .stuck
def listD : D → R D
  | .list xs => .ok (.list xs)
  | .tuple xs => .ok (.list xs)
  | _ => .stuck
def fn1 (f : D → R D) : List D → R D
  | [a] => f a
  | _ => .stuck
def fn2 (f : D → D → R D) : List D → R D
  | [a, b] => f a b
  | _ => .stuck
def fn3 (f : D → D → D → R D) : List D → R D
  | [a, b, c] => f a b c
  | _ => .stuck
def fn4 (f : D → D → D → D → R D) : List D → R D
  | [a, b, c, d] => f a b c d
  | _ => .stuck
def intD : D → R D
  | .int i => .ok (.int i)
  | .bool b => .ok (.int (if b then 1 else 0))
  | _ => .stuck
def gcdD : D → D → R D
  | .int i, .int j => .ok (.int ((Nat.gcd i.natAbs j.natAbs : Nat) : Int))
  | _, _ => .stuck
/-- the parts of a row that is unpacked -/
def unpack (n : Nat) : D → R (List D)
  | .tuple xs => if xs.length = n then .ok xs else .stuck
  | _ => .stuck

def iterL : D → R (List D)
  | .tuple xs => .ok xs
  | .list xs => .ok xs
  | _ => .stuck
/-! what changes a list of one's own: the answer, the list -/
def pushM (xs : List D) : List D → R (D × List D)
  | [d] => if decide (xs.length < 16777216) then .ok (.none, xs ++ [d]) else .stuck
  | _ => .stuck
def extendM (xs : List D) : List D → R (D × List D)
  | [.list ys] => if szOk (xs.length + ys.length) then .ok (.none, xs ++ ys) else .stuck
  | _ => .stuck
def pop0M (xs : List D) : List D → R (D × List D)
  | [] => match xs.getLast? with
    | some d => .ok (d, xs.dropLast)
    | none => .stuck
  | _ => .stuck
def pop1M (xs : List D) : List D → R (D × List D)
  | [.int i] => match L2.ixN xs.length i with
    | some j => match xs[j]? with
      | some d => .ok (d, xs.eraseIdx j)
      | none => .stuck
    | none => .stuck
  | _ => .stuck
def setM (xs : List D) (j d : D) : R (List D) := match j with
  | .int i => match L2.ixN xs.length i with
    | some j => .ok (xs.set j d)
    | none => .stuck
  | _ => .stuck
def flatB : D → Bool
  | .none => true
  | .bool _ => true
  | .int _ => true
  | .str _ => true
  | _ => false
/-- a value that has no parts -/
def flatR (r : R D) : R D := r.bind fun d => if flatB d then .ok d else .stuck

/-- what is shown fits -/
def reprOk (d : D) : Bool := okD d && d.showable && !d.hasDict && decide (d.shown.length ≤ 16777216)
def reprD : D → R D
  | .list xs => if reprOk (.list xs) then .ok (.str (PyData.list xs).shown) else .stuck
  | .tuple xs => if reprOk (.tuple xs) then .ok (.str (PyData.tuple xs).shown) else .stuck
  | _ => .stuck
/-- the law's source of choices -/
structure Src where
  cells : List Int
  left : Int
  mixed : Int
  turn : Int

/-- the source's last cell -/
def popC (cs : List Int) : R (Int × List Int) := match cs.getLast? with
  | some n => .ok (n, cs.dropLast)
  | none => .stuck
def mkSrc (ds : List D) (l mx t : D) : R Src := match intsD ds with
  | some ns => if decide (ns.length ≤ 63) then (toI l).bind fun l => (toI mx).bind fun mx => (toI t).bind fun t => .ok ⟨ns, l, mx, t⟩ else .stuck
  | none => .stuck
def revL : D → R (List D)
  | .list xs => .ok xs.reverse
  | _ => .stuck

/-- what a slot holds: a value that nobody changes; a list of its own; the source -/
inductive Sl where
  | val (d : D)
  | own (xs : List D)
  | src (a : Addr) (s : Src)
  | scr (ns : List Int)
abbrev Env := List (Option Sl)
end Z

set_option Elab.async false
set_option linter.all false
set_option maxRecDepth 100000
set_option autoImplicit false
/-! # Z2: data in the heap, the state of a body, the judgements -/
namespace Z
open PySem L2

/-- what stands for a dict at an address: its keys (data), the keys' and the items' values (told in Z4) -/
def IsDictO (u : HO) (ks : List D) (kvs : List V) (vs : List V) : Prop := False

mutual
/-- v reads as the data d -/
inductive Rp (K : PySem.W.Frag) (F : Hp) : V → D → Prop
  | non : Rp K F .non .none
  | bl (b : Bool) : Rp K F (.bl b) (.bool b)
  | int (i : Int) : Rp K F (.int i) (.int i)
  | str (x : Str) : Rp K F (.str x) (.str x)
  | lst {a : Addr} {xs : List V} {ds : List D} : F a = some (.lst xs) → RpAll K F xs ds → Rp K F (.ref a) (.list ds)
  | tup {a : Addr} {xs : List V} {ds : List D} : SqT K F a xs → RpAll K F xs ds → Rp K F (.ref a) (.tuple ds)
  | dct {a : Addr} {u : HO} {kvs vs : List V} {ks ds : List D} : F a = some u → IsDictO u ks kvs vs → RpAll K F kvs ks → RpAll K F vs ds → Rp K F (.ref a) (.dict (ks.zip ds))
inductive RpAll (K : PySem.W.Frag) (F : Hp) : List V → List D → Prop
  | nil : RpAll K F [] []
  | cons {v : V} {vs : List V} {d : D} {ds : List D} : Rp K F v d → RpAll K F vs ds → RpAll K F (v :: vs) (d :: ds)
end
theorem seqT {K : PySem.W.Frag} {H H' : Hp} {a : Addr} {xs : List V} (e : Same H H') (h : SqT K H a xs) : SqT K H' a xs := by
  rcases h with (h | ⟨o, h⟩) | h
  · exact .inl (.inl (e _ _ h))
  · exact .inl (.inr ⟨o, e _ _ h⟩)
  · exact .inr h
section
variable {K : PySem.W.Frag} {F F' : Hp}
mutual
theorem Rp.mono (e : Same F F') : ∀ {v : V} {d : D}, Rp K F v d → Rp K F' v d
  | _, _, .non => .non
  | _, _, .bl b => .bl b
  | _, _, .int i => .int i
  | _, _, .str x => .str x
  | _, _, .lst h r => .lst (e _ _ h) (RpAll.mono e r)
  | _, _, .tup h r => .tup (seqT e h) (RpAll.mono e r)
  | _, _, .dct h i r r' => .dct (e _ _ h) i (RpAll.mono e r) (RpAll.mono e r')
theorem RpAll.mono (e : Same F F') : ∀ {vs : List V} {ds : List D}, RpAll K F vs ds → RpAll K F' vs ds
  | _, _, .nil => .nil
  | _, _, .cons h r => .cons (Rp.mono e h) (RpAll.mono e r)
end
theorem RpAll.length : ∀ {vs : List V} {ds : List D}, RpAll K F vs ds → vs.length = ds.length
  | _, _, .nil => rfl
  | _, _, .cons _ r => by simp [RpAll.length r]
theorem RpAll.isEmpty : ∀ {vs : List V} {ds : List D}, RpAll K F vs ds → vs.isEmpty = ds.isEmpty
  | _, _, .nil => rfl
  | _, _, .cons _ r => rfl
theorem RpAll.append : ∀ {vs ws : List V} {ds es : List D}, RpAll K F vs ds → RpAll K F ws es → RpAll K F (vs ++ ws) (ds ++ es)
  | _, _, _, _, .nil, r => r
  | _, _, _, _, .cons h t, r => .cons h (RpAll.append t r)
theorem RpAll.at : ∀ {vs : List V} {ds : List D}, RpAll K F vs ds → ∀ {i : Nat} {d : D}, ds[i]? = some d → ∃ v, vs[i]? = some v ∧ Rp K F v d
  | _, _, .nil, i, d, h => by simp at h
  | _, _, .cons h t, 0, d, e => by simp at e; subst e; exact ⟨_, by simp, h⟩
  | _, _, .cons h t, i + 1, d, e => by
    obtain ⟨v, h1, h2⟩ := RpAll.at t (i := i) (d := d) (by simpa using e)
    exact ⟨v, by simpa using h1, h2⟩
theorem RpAll.at' : ∀ {vs : List V} {ds : List D}, RpAll K F vs ds → ∀ {i : Nat} {v : V}, vs[i]? = some v → ∃ d, ds[i]? = some d ∧ Rp K F v d
  | _, _, .nil, i, d, h => by simp at h
  | _, _, .cons h t, 0, d, e => by simp at e; subst e; exact ⟨_, by simp, h⟩
  | _, _, .cons h t, i + 1, d, e => by
    obtain ⟨v, h1, h2⟩ := RpAll.at' t (i := i) (v := d) (by simpa using e)
    exact ⟨v, by simpa using h1, h2⟩
mutual
/-- without a dict it is the library's reading -/
theorem Rp.dp : ∀ {v : V} {d : D}, Rp K F v d → d.plain = true → Dp K F v d
  | _, _, .non, _ => .non
  | _, _, .bl b, _ => .bl b
  | _, _, .int i, _ => .int i
  | _, _, .str x, _ => .str x
  | _, _, .lst h r, p => .lst (SqL.of h) (RpAll.dp r (by simpa [PyData.plain] using p))
  | _, _, .tup h r, p => .tup h (RpAll.dp r (by simpa [PyData.plain] using p))
theorem RpAll.dp : ∀ {vs : List V} {ds : List D}, RpAll K F vs ds → PyData.plainAll ds = true → DpAll K F vs ds
  | _, _, .nil, _ => .nil
  | _, _, .cons h r, p => by
    simp [PyData.plainAll] at p
    exact .cons (Rp.dp h p.1) (RpAll.dp r p.2)
end
end

theorem okD_plain {d : D} (h : okD d = true) : d.plain = true := by simp [okD] at h; exact h.1
theorem okD_depth {d : D} (h : okD d = true) : d.depth ≤ 40 := by simp [okD] at h; exact h.2
section
variable {X : Cx} {pins : List (Addr × Obj)} {σ : St} {H F : Hp} {s : Shared}
theorem Dp.up {K : PySem.W.Frag} {F H : Hp} (e : Same F H) : (∀ (v : V) (d : D), Rp K F v d → Rp K H v d) := fun v d h => h.mono e
/-- the reads of the library -/
theorem Rp.reads (I : Inv X pins σ H s) (e : Same F H) {v : V} {u : Value} {d : D} (h : Rp X.K F v d) (r : RelV v u) (p : d.plain = true) : ∃ as, Reads s.heap u d as :=
  L2.Dp.reads I d v u ((h.mono e).dp p) r
theorem RpAll.reads (I : Inv X pins σ H s) (e : Same F H) {vs : List V} {us : List Value} {ds : List D} (h : RpAll X.K F vs ds) (r : Vals vs us) (p : PyData.plainAll ds = true) : ∃ as, ReadsAll s.heap us ds as :=
  L2.Dp.readsAll I ds vs us ((h.mono e).dp p) r
end

/-! ### the state of a body -/
/-- what a slot holds, the addresses that it alone has -/
def SlR (K : PySem.W.Frag) (F H : Hp) : Sl → V → List Addr → Prop
  | .val d, v, as => Rp K F v d ∧ as = []
  | .own xs, v, as => ∃ (p : Addr) (vs : List V), v = .ref p ∧ as = [p] ∧ H p = some (.lst vs) ∧ F p = none ∧ RpAll K F vs xs
  | .src a s, v, as => ∃ (c : Addr), v = .ref a ∧ as = [a, c] ∧ a ≠ c ∧ F a = none ∧ F c = none ∧
      H a = some (.dK [(.inr "cells", .ref c), (.inr "left", .int s.left), (.inr "mixed", .int s.mixed), (.inr "turn", .int s.turn)]) ∧ H c = some (.lst (s.cells.map V.int)) ∧ s.cells.length ≤ 63
  | .scr ns, v, as => ∃ a, v = .ref a ∧ SqL K F a (ns.map V.int) ∧ ns.length ≤ 63 ∧ as = []

/-- what is handed out to its new owner -/
inductive Ow where
  | src (s : Src)
  | own (xs : List D)
def OwR (K : PySem.W.Frag) (F H : Hp) (ow : Ow) (v : V) (as : List Addr) : Prop := match ow with
  | .src s => ∃ a, SlR K F H (.src a s) v as
  | .own xs => SlR K F H (.own xs) v as

/-- the entry of a body: its heap, what nobody changes, the addresses that are handed in to be changed -/
structure Wd where
  K : PySem.W.Frag
  F0 : Hp
  H0 : Hp
  io : List Addr

structure Rel (W : Wd) (ρ : Env) (σ : St) (H F : Hp) : Prop where
  sub : Same F H
  sub0 : Same W.F0 F
  keep : ∀ b o, W.H0 b = some o → b ∉ W.io → H b = some o
  fresh : ∀ b o, F b = some o → W.F0 b = some o ∨ W.H0 b = none ∨ b ∈ W.io
  env : ∃ ad : Nat → List Addr, ∀ i sl, ρ[i]? = some (some sl) → ∃ v, σ[i]? = some (some v) ∧ SlR W.K F H sl v (ad i) ∧
    (∀ b ∈ ad i, b ∈ W.io ∨ W.H0 b = none) ∧ ∀ j sl', i ≠ j → ρ[j]? = some (some sl') → ∀ b ∈ ad i, b ∉ ad j
  len : ρ.length ≤ σ.length
  trk : ∀ b o, W.H0 b = some o → ∃ o', H b = some o'

/-- the text around: the program, its module, the names by slot, the scope, the room -/
structure Ct where
  P : Program
  w : World
  K : PySem.W.Frag
  mg : Str → Option Value
  base : Heap
  k : Nat
  N : List Str
  sc : Scope
  fn : Str → Bool

structure XOk (C : Ct) (X : Cx) : Prop where
  prog : X.prog = C.P
  w : X.w = C.w
  K : X.K = C.K
  mg : X.mg = C.mg
  base : X.base = C.base
  N : X.N = C.N
  nd : C.N.Nodup
  sc : X.env.scope = C.sc
  calm : X.calm = true
  room : Room C.k X.A
  grd : X.A.guards = some []
  own : PassesOwn (model X.prog X.w) X.A X.env X.xe
  /-- which names' cells are the body's own -/
  fnl : ∀ x, C.fn x = true → X.fn x = true

/-- what is known of a mirror: it tells a value -/
structure Cl {α : Type} (Z : R α → Prop) : Prop where
  st : ¬ Z .stuck
  ex : ∀ c a, ¬ Z (.exc c a)
theorem Cl.bind {α β : Type} {Z : R α → Prop} (c : Cl Z) {m : R β} {f : β → R α} (h : Z (m.bind f)) : ∃ b, m = .ok b ∧ Z (f b) := by
  cases m with
  | ok b => exact ⟨b, rfl, h⟩
  | exc x a => exact (c.ex x a h).elim
  | stuck => exact (c.st h).elim

/-! ### judgements -/
/-- e in ρ: m is what is reckoned from here; κ d ρ' m': m' is what is reckoned behind e, its value d -/
def DE {α : Type} (C : Ct) (ρ : Env) (e : Expr) (m : R α) (κ : D → Env → R α → Prop) : Prop :=
  ∀ (X : Cx) (W : Wd) (Z : R α → Prop), XOk C X → W.K = C.K → Cl Z → Z m →
    PE X e fun σ H Q => ∃ F, Rel W ρ σ H F ∧ ∀ d ρ' m' v H' F', κ d ρ' m' → Z m' → Rel W ρ' σ H' F' → Same F F' → Rp W.K F' v d → Q v H'
/-- a test -/
def DT {α : Type} (C : Ct) (ρ : Env) (e : Expr) (m : R α) (κ : Bool → Env → R α → Prop) : Prop :=
  ∀ (X : Cx) (W : Wd) (Z : R α → Prop), XOk C X → W.K = C.K → Cl Z → Z m →
    PT X e fun σ H Q => ∃ F, Rel W ρ σ H F ∧ ∀ b ρ' m' H' F', κ b ρ' m' → Z m' → Rel W ρ' σ H' F' → Same F F' → Q b H'
def DW {α : Type} (C : Ct) (ρ : Env) (e : Expr) (m : R α) (κ : Bool → Env → R α → Prop) : Prop :=
  ∀ (X : Cx) (W : Wd) (Z : R α → Prop), XOk C X → W.K = C.K → Cl Z → Z m →
    PW X e fun σ H Q => ∃ F, Rel W ρ σ H F ∧ ∀ b ρ' m' H' F', κ b ρ' m' → Z m' → Rel W ρ' σ H' F' → Same F F' → Q b H'
/-- arguments -/
def DA {α : Type} (C : Ct) (ρ : Env) (es : List Expr) (m : R α) (κ : List D → Env → R α → Prop) : Prop :=
  ∀ (X : Cx) (W : Wd) (Z : R α → Prop), XOk C X → W.K = C.K → Cl Z → Z m →
    PA X es fun σ H Q => ∃ F, Rel W ρ σ H F ∧ ∀ ds ρ' m' vs H' F', κ ds ρ' m' → Z m' → Rel W ρ' σ H' F' → Same F F' → RpAll W.K F' vs ds → Q vs H'

/-- what the mirror must be at each way out of a block -/
structure Jd (α : Type) where
  nx : Env → R α → Prop
  rt : D → Env → R α → Prop
  bk : Env → R α → Prop
  ct : Env → R α → Prop
  rn : Ow → Env → R α → Prop := fun _ _ _ => False
structure Lk {α : Type} (W : Wd) (J : Jd α) (Z : R α → Prop) (D : Ends) : Prop where
  nx : ∀ ρ m σ H F, J.nx ρ m → Z m → Rel W ρ σ H F → D.nx σ H
  rt : ∀ d ρ m v σ H F, J.rt d ρ m → Z m → Rel W ρ σ H F → Rp W.K F v d → D.rt v H
  bk : ∀ ρ m σ H F, J.bk ρ m → Z m → Rel W ρ σ H F → D.bk σ H
  ct : ∀ ρ m σ H F, J.ct ρ m → Z m → Rel W ρ σ H F → D.ct σ H
  rn : ∀ (ow : Ow) (ρ : Env) (m : R α) (v : V) (as : List Addr) (H F : Hp), J.rn ow ρ m → Z m → Rel W [] [] H F → OwR W.K F H ow v as → (∀ b ∈ as, W.H0 b = none) → D.rt v H
def DSs {α : Type} (C : Ct) (ρ : Env) (sts : List Stmt) (m : R α) (J : Jd α) : Prop :=
  ∀ (X : Cx) (W : Wd) (Z : R α → Prop), XOk C X → W.K = C.K → Cl Z → Z m →
    PSs X sts fun D σ H => ∃ F, Rel W ρ σ H F ∧ Lk W J Z D

/-! ### readings weakened -/
theorem PE_imp {X : Cx} {e : Expr} {t t' : TE} (h : PE X e t) (i : ∀ σ H Q, t' σ H Q → t σ H Q) : PE X e t' := ⟨fun p s σ H Q I q => h.run p s σ H Q I (i σ H Q q)⟩
theorem PT_imp {X : Cx} {e : Expr} {t t' : TT} (h : PT X e t) (i : ∀ σ H Q, t' σ H Q → t σ H Q) : PT X e t' := ⟨fun p s σ H Q I q => h.run p s σ H Q I (i σ H Q q)⟩
theorem PW_imp {X : Cx} {e : Expr} {t t' : TT} (h : PW X e t) (i : ∀ σ H Q, t' σ H Q → t σ H Q) : PW X e t' := ⟨fun wh p s σ H Q I q => h.run wh p s σ H Q I (i σ H Q q)⟩
theorem PA_imp {X : Cx} {e : List Expr} {t t' : TA} (h : PA X e t) (i : ∀ σ H Q, t' σ H Q → t σ H Q) : PA X e t' := ⟨fun po p s σ H Q I q => h.run po p s σ H Q I (i σ H Q q)⟩
theorem PS_imp {X : Cx} {e : Stmt} {t t' : TS} (h : PS X e t) (i : ∀ D σ H, t' D σ H → t D σ H) : PS X e t' := ⟨fun p s σ H D I q => h.run p s σ H D I (i D σ H q)⟩
theorem PSs_imp {X : Cx} {e : List Stmt} {t t' : TS} (h : PSs X e t) (i : ∀ D σ H, t' D σ H → t D σ H) : PSs X e t' := ⟨fun p s σ H D I q => h.run p s σ H D I (i D σ H q)⟩
/-- by what is known: a reading for each -/
theorem PE_any {ι : Type 1} {X : Cx} {e : Expr} {t : ι → TE} (h : ∀ i, PE X e (t i)) : PE X e fun σ H Q => ∃ i, t i σ H Q := ⟨fun p s σ H Q I ⟨i, q⟩ => (h i).run p s σ H Q I q⟩
theorem PE_if {X : Cx} {e : Expr} {t : TE} {c : Prop} (h : c → PE X e t) : PE X e fun σ H Q => c ∧ t σ H Q := ⟨fun p s σ H Q I ⟨i, q⟩ => (h i).run p s σ H Q I q⟩
end Z

set_option Elab.async false
set_option linter.all false
set_option maxRecDepth 100000
set_option autoImplicit false
/-! # Z3: the rules: names, constants, operators, tests, joins, blocks -/
namespace Z
open PySem L2

/-- a step: what nobody changes grows by new objects alone -/
structure Fx (F H F' H' : Hp) : Prop where
  ff : Same F F'
  fh : Same F' H'
  hh : Same H H'
  new : ∀ b o, F' b = some o → F b = some o ∨ H b = none
theorem Fx.refl {F H : Hp} (e : Same F H) : Fx F H F H := ⟨Same.refl _, e, Same.refl _, fun _ _ h => .inl h⟩
theorem Fx.alloc {F H : Hp} {p : Addr} {u : HO} (e : Same F H) (hp : H p = none) : Fx F H (upd F p u) (upd H p u) := by
  have hf : F p = none := e.free hp
  refine ⟨fun b o h => ?_, fun b o h => ?_, fun b o h => ?_, fun b o h => ?_⟩
  · rw [upd_ne (ne_of_none h hf)]; exact h
  · by_cases hb : b = p
    · subst hb; rw [upd_same] at h ⊢; exact h
    · rw [upd_ne hb] at h ⊢; exact e b o h
  · rw [upd_ne (ne_of_none h hp)]; exact h
  · by_cases hb : b = p
    · subst hb; exact .inr hp
    · rw [upd_ne hb] at h; exact .inl h
theorem Fx.trans {F H F1 H1 F2 H2 : Hp} (a : Fx F H F1 H1) (b : Fx F1 H1 F2 H2) : Fx F H F2 H2 :=
  ⟨a.ff.trans b.ff, b.fh, a.hh.trans b.hh, fun c o h => (b.new c o h).elim (fun q => a.new c o q) fun q => .inr (a.hh.free q)⟩

theorem Fx.none {F H F' H' : Hp} (x : Fx F H F' H') {p : Addr} {u : HO} (hf : F p = none) (h : H p = some u) : F' p = none := by
  cases q : F' p with
  | none => rfl
  | some o =>
    rcases x.new p o q with z | z
    · rw [hf] at z; cases z
    · rw [h] at z; cases z
theorem SlR.step {K : PySem.W.Frag} {F H F' H' : Hp} (x : Fx F H F' H') : ∀ {sl : Sl} {v : V} {as : List Addr}, SlR K F H sl v as → SlR K F' H' sl v as
  | .val d, v, as, ⟨h, e⟩ => ⟨h.mono x.ff, e⟩
  | .own xs, v, as, ⟨p, vs, e1, e2, h, hf, r⟩ => ⟨p, vs, e1, e2, x.hh _ _ h, x.none hf h, r.mono x.ff⟩
  | .src a s, v, as, ⟨c, e1, e2, ne, ha, hc, h1, h2, l⟩ => ⟨c, e1, e2, ne, x.none ha h1, x.none hc h2, x.hh _ _ h1, x.hh _ _ h2, l⟩
  | .scr ns, v, as, ⟨a, e1, h, l, e2⟩ => ⟨a, e1, x.ff.seq h, l, e2⟩

section
variable {W : Wd} {ρ : Env} {σ : L2.St} {H F F' H' : Hp}
theorem Rel.step (r : Rel W ρ σ H F) (x : Fx F H F' H') : Rel W ρ σ H' F' := by
  refine ⟨x.fh, r.sub0.trans x.ff, fun b o h n => x.hh _ _ (r.keep b o h n), fun b o h => ?_, ?_, r.len, fun b o h => ?_⟩
  · rcases x.new b o h with q | q
    · exact r.fresh b o q
    · refine .inr (.inl ?_)
      cases e : W.H0 b with
      | none => rfl
      | some u => obtain ⟨o', q'⟩ := r.trk b u e; rw [q] at q'; cases q'
  · obtain ⟨ad, h⟩ := r.env
    refine ⟨ad, fun i sl e => ?_⟩
    obtain ⟨v, h1, h2, h3, h4⟩ := h i sl e
    exact ⟨v, h1, h2.step x, h3, h4⟩
  · obtain ⟨o', q⟩ := r.trk b o h
    exact ⟨o', x.hh _ _ q⟩
theorem Rel.val (r : Rel W ρ σ H F) {i : Nat} {d : D} (e : ρ[i]? = some (some (.val d))) : ∃ v, σ[i]? = some (some v) ∧ Rp W.K F v d := by
  obtain ⟨ad, h⟩ := r.env
  obtain ⟨v, h1, ⟨h2, _⟩, _⟩ := h i _ e
  exact ⟨v, h1, h2⟩
theorem get_set {α : Type} {l : List α} {i j : Nat} {x y : α} (h : (l.set i x)[j]? = some y) : (i = j ∧ j < l.length ∧ y = x) ∨ (i ≠ j ∧ l[j]? = some y) := by
  rw [List.getElem?_set] at h
  split at h
  · rename_i e
    split at h
    · cases h; rename_i hl; exact .inl ⟨e, e ▸ hl, rfl⟩
    · cases h
  · rename_i e; exact .inr ⟨e, h⟩
theorem Rel.set (r : Rel W ρ σ H F) (i : Nat) {v : V} {d : D} (h : Rp W.K F v d) : Rel W (ρ.set i (some (.val d))) (σ.set i (some v)) H F := by
  refine ⟨r.sub, r.sub0, r.keep, r.fresh, ?_, by rw [List.length_set, List.length_set]; exact r.len, r.trk⟩
  obtain ⟨ad, k⟩ := r.env
  refine ⟨fun j => if j = i then [] else ad j, fun j sl e => ?_⟩
  rcases get_set e with ⟨e1, e2, e3⟩ | ⟨e1, e2⟩
  · subst e1
    cases e3
    refine ⟨v, by rw [List.getElem?_set_self (Nat.lt_of_lt_of_le e2 r.len)], ⟨h, by simp⟩, by simp, by simp⟩
  · obtain ⟨u, h1, h2, h3, h4⟩ := k j sl e2
    have ne : j ≠ i := fun z => e1 z.symm
    refine ⟨u, by rw [List.getElem?_set_ne e1]; exact h1, by simpa [ne] using h2, by simpa [ne] using h3, fun l sl' hl e' b hb => ?_⟩
    simp only [ne, if_false] at hb
    rcases get_set e' with ⟨z1, z2, z3⟩ | ⟨z1, z2⟩
    · subst z1; simp
    · have ne' : l ≠ i := fun z => z1 z.symm
      simp only [ne', if_false]
      exact h4 l sl' hl z2 b hb
/-- a slot is forgotten -/
theorem Rel.forget (r : Rel W ρ σ H F) (i : Nat) (x : Option V) : Rel W (ρ.set i none) (σ.set i x) H F := by
  refine ⟨r.sub, r.sub0, r.keep, r.fresh, ?_, by rw [List.length_set, List.length_set]; exact r.len, r.trk⟩
  obtain ⟨ad, k⟩ := r.env
  refine ⟨ad, fun j sl e => ?_⟩
  rcases get_set e with ⟨e1, e2, e3⟩ | ⟨e1, e2⟩
  · cases e3
  · obtain ⟨u, h1, h2, h3, h4⟩ := k j sl e2
    refine ⟨u, by rw [List.getElem?_set_ne e1]; exact h1, h2, h3, fun l sl' hl e' b hb => ?_⟩
    rcases get_set e' with ⟨z1, z2, z3⟩ | ⟨z1, z2⟩
    · cases z3
    · exact h4 l sl' hl z2 b hb
end

section
variable {α : Type} {C : Ct} {ρ : Env} {m : R α}

theorem XOk.vis {X : Cx} (x : XOk C X) {n : Str} (h : Vis C.sc n) : Vis X.env.scope n := by rw [x.sc]; exact h
theorem XOk.gl {X : Cx} (x : XOk C X) {n : Str} (h : C.sc.names.lookup n = some .globalImplicit) : Gl X n := by unfold Gl PySem.Env.kindOf; rw [x.sc]; exact h
theorem XOk.mg0 {X : Cx} (x : XOk C X) {n : Str} (h : C.mg n = none) : X.mg n = none := by rw [x.mg]; exact h

/-! ### names, constants -/
theorem de_var {κ : D → Env → R α → Prop} {n : Str} {pos : Pos} (i : Nat) {d : D} (hρ : ρ[i]? = some (some (.val d))) (k : κ d ρ m) (hN : C.N[i]? = some n := by rfl)
    (hv : Vis C.sc n := by first | exact Or.inl rfl | exact Or.inr (Or.inl rfl) | exact Or.inr (Or.inr rfl)) (hd : (n == ("__debug__" : Str)) = false := by decide) (hcd : (n == ("__classdict__" : Str)) = false := by decide) : DE C ρ (.Name n pos) m κ := by
  intro X W Z x hK c z
  refine PE_imp (pe_var (i := i) (by rw [x.N]; exact hN) (x.vis hv) hd hcd) fun σ H Q ⟨F, r, q⟩ => ?_
  obtain ⟨v, h1, h2⟩ := r.val hρ
  exact ⟨v, h1, q d ρ m v H F k z r (Same.refl _) h2⟩
theorem de_int {κ : D → Env → R α → Prop} {i : Int} {j : Nat} {pos : Pos} (k : κ (.int i) ρ m) : DE C ρ (.Constant (.int i) j pos) m κ := fun X W Z x hK c z =>
  PE_imp pe_int fun σ H Q ⟨F, r, q⟩ => q _ ρ m _ H F k z r (Same.refl _) (.int i)
theorem de_str {κ : D → Env → R α → Prop} {i : Str} {j : Nat} {pos : Pos} (k : κ (.str i) ρ m) : DE C ρ (.Constant (.str i) j pos) m κ := fun X W Z x hK c z =>
  PE_imp pe_str fun σ H Q ⟨F, r, q⟩ => q _ ρ m _ H F k z r (Same.refl _) (.str i)
theorem de_bool {κ : D → Env → R α → Prop} {i : Bool} {j : Nat} {pos : Pos} (k : κ (.bool i) ρ m) : DE C ρ (.Constant (.bool i) j pos) m κ := fun X W Z x hK c z =>
  PE_imp pe_bl fun σ H Q ⟨F, r, q⟩ => q _ ρ m _ H F k z r (Same.refl _) (.bl i)
theorem de_none {κ : D → Env → R α → Prop} {j : Nat} {pos : Pos} (k : κ .none ρ m) : DE C ρ (.Constant .none j pos) m κ := fun X W Z x hK c z =>
  PE_imp pe_non fun σ H Q ⟨F, r, q⟩ => q _ ρ m _ H F k z r (Same.refl _) .non
/-- a module's constant -/
structure ConD (C : Ct) (n : Str) (d : D) : Prop where
  ex : ∃ v u, C.mg n = some u ∧ RelV v u ∧ Rp C.K (fun _ => none) v d
theorem de_con {κ : D → Env → R α → Prop} {n : Str} {pos : Pos} {d : D} (h : ConD C n d) (k : κ d ρ m) (hg : C.sc.names.lookup n = some .globalImplicit := by rfl) (hd : (n == ("__debug__" : Str)) = false := by decide) : DE C ρ (.Name n pos) m κ := fun X W Z x hK c z => by
  obtain ⟨v, u, h1, h2, h3⟩ := h.ex
  refine PE_imp (pe_glob (x.gl hg) (by rw [x.mg]; exact h1) h2 hd) fun σ H Q ⟨F, r, q⟩ => ?_
  exact q _ ρ m _ H F k z r (Same.refl _) (by rw [hK]; exact h3.mono fun b o e => by cases e)

/-! ### operators -/
/-- what an operator of two values tells, by data -/
def r2D (K : PySem.W.Frag) (f : D → D → R D) : R2 := fun x y H Q => ∃ F a b c, Same F H ∧ Rp K F x a ∧ Rp K F y b ∧ f a b = .ok c ∧ ∀ v H' F', Fx F H F' H' → Rp K F' v c → Q v H'
def r2B (K : PySem.W.Frag) (f : D → D → R Bool) : R2 := fun x y H Q => ∃ F a b c, Same F H ∧ Rp K F x a ∧ Rp K F y b ∧ f a b = .ok c ∧ Q (.bl c) H
def r1D (K : PySem.W.Frag) (f : D → R D) : V → Hp → VK → Prop := fun x H Q => ∃ F a c, Same F H ∧ Rp K F x a ∧ f a = .ok c ∧ ∀ v H' F', Fx F H F' H' → Rp K F' v c → Q v H'
def BinS (op : Operator) (f : D → D → R D) : Prop := ∀ (X : Cx) (k : Nat), Room k X.A → OpR X (binaryOp op) (r2D X.K f)
def CmpS (op : CmpOp) (f : D → D → R Bool) : Prop := ∀ (X : Cx) (k : Nat), Room k X.A → OpR X (compareOp op) (r2B X.K f)
def UnS (op : UnaryOp) (f : D → R D) : Prop := ∀ (X : Cx) (k : Nat), Room k X.A → UnR X (unaryOp op) (r1D X.K f)

/-- two parts, then what is reckoned of both -/
theorem de_op {κ : D → Env → R α → Prop} {op : Operator} {f : D → D → R D} {a b : Expr} {pos : Pos} (ho : BinS op f)
    (h : DE C ρ a m fun x ρ1 m1 => DE C ρ1 b m1 fun y ρ2 m2 => ∃ g, m2 = (f x y).bind g ∧ ∀ z, κ z ρ2 (g z)) : DE C ρ (.BinOp a op b pos) m κ := by
  intro X W Z x hK c z
  refine ⟨fun pins s σ H Q I hq => ?_⟩
  obtain ⟨F, r, q⟩ := hq
  refine wpAny_BinOp (thn ((h X W Z x hK c z).run pins s σ H (fun vx H1 => ∃ F1 dx ρ1 m1, DE C ρ1 b m1 (fun y ρ2 m2 => ∃ g, m2 = (f dx y).bind g ∧ ∀ z, κ z ρ2 (g z)) ∧ Z m1 ∧ Rel W ρ1 σ H1 F1 ∧ Same F F1 ∧ Rp W.K F1 vx dx) I
    ⟨F, r, fun d ρ' m' v H' F' h1 h2 h3 h4 h5 => ⟨F', d, ρ', m', h1, h2, h3, h4, h5⟩⟩) fun v s1 ⟨vx, H1, I1, r1, F1, dx, ρ1, m1, h1, z1, rel1, s1', p1⟩ => ?_)
  refine thn ((h1 X W Z x hK c z1).run pins s1 σ H1 (fun vy H2 => ∃ F2 dy ρ2 m2, (∃ g, m2 = (f dx dy).bind g ∧ ∀ z, κ z ρ2 (g z)) ∧ Z m2 ∧ Rel W ρ2 σ H2 F2 ∧ Same F1 F2 ∧ Rp W.K F2 vy dy) I1
    ⟨F1, rel1, fun d ρ' m' v H' F' h1 h2 h3 h4 h5 => ⟨F', d, ρ', m', h1, h2, h3, h4, h5⟩⟩) fun u s2 ⟨vy, H2, I2, r2, F2, dy, ρ2, m2, ⟨g, e2, hg⟩, z2, rel2, s2', p2⟩ => ?_
  subst e2
  obtain ⟨w, ew, zw⟩ := c.bind z2
  refine ho X _ x.room pins s2 σ H2 vx vy v u Q I2 r1 r2 ⟨F2, dx, dy, w, rel2.sub, ?_, ?_, ew, fun v' H' F' fx p' => ?_⟩
  · rw [x.K, ← hK]; exact p1.mono s2'
  · rw [x.K, ← hK]; exact p2
  · exact q _ ρ2 _ v' H' F' (hg w) zw (rel2.step fx) ((s1'.trans s2').trans fx.ff) (by rw [hK, ← x.K]; exact p')

/-- a pair of parts in a test or a value, by the operator's reading -/
theorem cmp_run {X : Cx} {W : Wd} {Z : R α → Prop} (x : XOk C X) (hK : W.K = C.K) (c : Cl Z) (z : Z m) {op : CmpOp} {f : D → D → R Bool} {a b : Expr} (ho : CmpS op f) {κ : Bool → Env → R α → Prop}
    (h : DE C ρ a m fun x ρ1 m1 => DE C ρ1 b m1 fun y ρ2 m2 => ∃ g, m2 = (f x y).bind g ∧ ∀ t, κ t ρ2 (g t)) :
    PC X op a b fun σ H Q => ∃ F, Rel W ρ σ H F ∧ ∀ t ρ' m' H' F', κ t ρ' m' → Z m' → Rel W ρ' σ H' F' → Same F F' → Q (.bl t) H' := by
  refine ⟨fun pins s σ H Q I hq => ?_⟩
  obtain ⟨F, r, q⟩ := hq
  refine thn ((h X W Z x hK c z).run pins s σ H (fun vx H1 => ∃ F1 dx ρ1 m1, DE C ρ1 b m1 (fun y ρ2 m2 => ∃ g, m2 = (f dx y).bind g ∧ ∀ t, κ t ρ2 (g t)) ∧ Z m1 ∧ Rel W ρ1 σ H1 F1 ∧ Same F F1 ∧ Rp W.K F1 vx dx) I
    ⟨F, r, fun d ρ' m' v H' F' h1 h2 h3 h4 h5 => ⟨F', d, ρ', m', h1, h2, h3, h4, h5⟩⟩) fun v s1 ⟨vx, H1, I1, r1, F1, dx, ρ1, m1, h1, z1, rel1, s1', p1⟩ => ?_
  refine thn ((h1 X W Z x hK c z1).run pins s1 σ H1 (fun vy H2 => ∃ F2 dy ρ2 m2, (∃ g, m2 = (f dx dy).bind g ∧ ∀ t, κ t ρ2 (g t)) ∧ Z m2 ∧ Rel W ρ2 σ H2 F2 ∧ Same F1 F2 ∧ Rp W.K F2 vy dy) I1
    ⟨F1, rel1, fun d ρ' m' v H' F' h1 h2 h3 h4 h5 => ⟨F', d, ρ', m', h1, h2, h3, h4, h5⟩⟩) fun u s2 ⟨vy, H2, I2, r2, F2, dy, ρ2, m2, ⟨g, e2, hg⟩, z2, rel2, s2', p2⟩ => ?_
  subst e2
  obtain ⟨w, ew, zw⟩ := c.bind z2
  exact ho X _ x.room pins s2 σ H2 vx vy v u Q I2 r1 r2 ⟨F2, dx, dy, w, rel2.sub, by rw [x.K, ← hK]; exact p1.mono s2', by rw [x.K, ← hK]; exact p2, ew, q _ ρ2 _ H2 F2 (hg w) zw rel2 (s1'.trans s2')⟩
theorem de_cmp {κ : D → Env → R α → Prop} {op : CmpOp} {f : D → D → R Bool} {a b : Expr} {pos : Pos} (ho : CmpS op f)
    (h : DE C ρ a m fun x ρ1 m1 => DE C ρ1 b m1 fun y ρ2 m2 => ∃ g, m2 = (f x y).bind g ∧ ∀ t, κ (.bool t) ρ2 (g t)) (hm : behindInMarks op b = false := by first | exact nobehind _ (by decide) (by decide) | rfl) : DE C ρ (.Compare a [op] [b] pos) m κ := by
  intro X W Z x hK c z
  refine PE_imp (pe_cmp (cmp_run (κ := fun t => κ (.bool t)) x hK c z ho h) hm) fun σ H Q ⟨F, r, q⟩ => ⟨F, r, fun t ρ' m' H' F' h1 h2 h3 h4 => q _ ρ' m' _ H' F' h1 h2 h3 h4 (.bl t)⟩
theorem dt_cmp {κ : Bool → Env → R α → Prop} {op : CmpOp} {f : D → D → R Bool} {a b : Expr} {pos : Pos} (ho : CmpS op f)
    (h : DE C ρ a m fun x ρ1 m1 => DE C ρ1 b m1 fun y ρ2 m2 => ∃ g, m2 = (f x y).bind g ∧ ∀ t, κ t ρ2 (g t)) (hm : behindInMarks op b = false := by first | exact nobehind _ (by decide) (by decide) | rfl) : DT C ρ (.Compare a [op] [b] pos) m κ := by
  intro X W Z x hK c z
  refine PT_imp (pt_cmp (cmp_run x hK c z ho h) hm) fun σ H Q ⟨F, r, q⟩ => ⟨F, r, fun t ρ' m' H' F' h1 h2 h3 h4 => ⟨t, rfl, q t ρ' m' H' F' h1 h2 h3 h4⟩⟩
/-- is None, is not None -/
theorem dt_isN {κ : Bool → Env → R α → Prop} {a : Expr} {j : Nat} {p pos : Pos} (h : DE C ρ a m fun x ρ1 m1 => κ (isNone x) ρ1 m1) : DT C ρ (.Compare a [.Is] [.Constant .none j p] pos) m κ := by
  intro X W Z x hK c z
  refine PT_imp (pt_cmp (pc_isN (h X W Z x hK c z))) fun σ H Q ⟨F, r, q⟩ => ⟨F, r, fun d ρ' m' v H' F' h1 h2 h3 h4 h5 => ⟨_, rfl, ?_⟩⟩
  have e : decide (v = V.non) = isNone d := by cases h5 <;> rfl
  rw [e]; exact q _ ρ' m' H' F' h1 h2 h3 h4
theorem dt_notN {κ : Bool → Env → R α → Prop} {a : Expr} {j : Nat} {p pos : Pos} (h : DE C ρ a m fun x ρ1 m1 => κ (!isNone x) ρ1 m1) : DT C ρ (.Compare a [.IsNot] [.Constant .none j p] pos) m κ := by
  intro X W Z x hK c z
  refine PT_imp (pt_cmp (pc_notN (h X W Z x hK c z))) fun σ H Q ⟨F, r, q⟩ => ⟨F, r, fun d ρ' m' v H' F' h1 h2 h3 h4 h5 => ⟨_, rfl, ?_⟩⟩
  have e : decide (v = V.non) = isNone d := by cases h5 <;> rfl
  rw [e]; exact q _ ρ' m' H' F' h1 h2 h3 h4
theorem de_isN {κ : D → Env → R α → Prop} {a : Expr} {j : Nat} {p pos : Pos} (h : DE C ρ a m fun x ρ1 m1 => κ (.bool (isNone x)) ρ1 m1) : DE C ρ (.Compare a [.Is] [.Constant .none j p] pos) m κ := by
  intro X W Z x hK c z
  refine PE_imp (pe_cmp (pc_isN (h X W Z x hK c z))) fun σ H Q ⟨F, r, q⟩ => ⟨F, r, fun d ρ' m' v H' F' h1 h2 h3 h4 h5 => ?_⟩
  have e : decide (v = V.non) = isNone d := by cases h5 <;> rfl
  show Q (V.bl (decide (v = V.non))) H'
  rw [e]; exact q _ ρ' m' _ H' F' h1 h2 h3 h4 (.bl _)
theorem de_notN {κ : D → Env → R α → Prop} {a : Expr} {j : Nat} {p pos : Pos} (h : DE C ρ a m fun x ρ1 m1 => κ (.bool (!isNone x)) ρ1 m1) : DE C ρ (.Compare a [.IsNot] [.Constant .none j p] pos) m κ := by
  intro X W Z x hK c z
  refine PE_imp (pe_cmp (pc_notN (h X W Z x hK c z))) fun σ H Q ⟨F, r, q⟩ => ⟨F, r, fun d ρ' m' v H' F' h1 h2 h3 h4 h5 => ?_⟩
  have e : decide (v = V.non) = isNone d := by cases h5 <;> rfl
  show Q (V.bl (!decide (v = V.non))) H'
  rw [e]; exact q _ ρ' m' _ H' F' h1 h2 h3 h4 (.bl _)
theorem de_un {κ : D → Env → R α → Prop} {op : UnaryOp} {f : D → R D} {a : Expr} {pos : Pos} (ho : UnS op f)
    (h : DE C ρ a m fun x ρ1 m1 => ∃ g, m1 = (f x).bind g ∧ ∀ z, κ z ρ1 (g z)) : DE C ρ (.UnaryOp op a pos) m κ := by
  intro X W Z x hK c z
  refine PE_imp (pe_un (ho X _ x.room) (h X W Z x hK c z)) fun σ H Q ⟨F, r, q⟩ => ⟨F, r, fun d ρ' m' v H' F' ⟨g, e, hg⟩ h2 h3 h4 h5 => ?_⟩
  subst e
  obtain ⟨w, ew, zw⟩ := c.bind h2
  refine ⟨F', d, w, h3.sub, by rw [x.K, ← hK]; exact h5, ew, fun v' H2 F2 fx p' => ?_⟩
  exact q _ ρ' _ v' H2 F2 (hg w) zw (h3.step fx) (h4.trans fx.ff) (by rw [hK, ← x.K]; exact p')

/-! ### tests -/
/-- a value's truth, of a bool -/
theorem dt_bool {κ : Bool → Env → R α → Prop} {e : Expr} (h : DE C ρ e m fun d ρ1 m1 => ∃ t, d = .bool t ∧ κ t ρ1 m1)
    (he : ∀ (env : PySem.Env) (whole : Sem Value), isTrue e env whole = (do let v ← whole; standAt e.pos; holding [v] (truthy v)) := by intro _ _; rfl) : DT C ρ e m κ := by
  intro X W Z x hK c z
  refine PT_imp (pt_val (h X W Z x hK c z) (he _)) fun σ H Q ⟨F, r, q⟩ => ⟨F, r, fun d ρ' m' v H' F' ⟨t, e1, h1⟩ h2 h3 h4 h5 => ?_⟩
  subst e1
  cases h5
  exact ⟨t, rfl, q t ρ' m' H' F' h1 h2 h3 h4⟩
/-- any value's truth -/
theorem dt_truth {κ : Bool → Env → R α → Prop} {e : Expr} (h : DE C ρ e m fun d ρ1 m1 => ∃ g, m1 = (truth d).bind g ∧ ∀ t, κ t ρ1 (g t))
    (he : ∀ (env : PySem.Env) (whole : Sem Value), isTrue e env whole = (do let v ← whole; standAt e.pos; holding [v] (truthy v)) := by intro _ _; rfl) : DT C ρ e m κ := by
  intro X W Z x hK c z
  refine PT_imp (pt_truth (h X W Z x hK c z) (he _)) fun σ H Q ⟨F, r, q⟩ => ⟨F, r, fun d ρ' m' v H' F' ⟨g, e1, h1⟩ h2 h3 h4 h5 => ?_⟩
  subst e1
  obtain ⟨t, et, zt⟩ := c.bind h2
  refine ⟨t, ?_, q t ρ' _ H' F' (h1 t) zt h3 h4⟩
  have sub := h3.sub
  cases h5 with
  | non => cases et; rfl
  | bl b => cases et; rfl
  | int i => cases et; rfl
  | str y =>
    simp only [truth] at et
    split at et
    · rename_i hz
      cases et
      exact ⟨by rw [sizeLine_eq]; simpa [szOk] using hz, by cases hh : y.length <;> simp <;> omega⟩
    · cases et
  | lst a b =>
    have e0 := b.isEmpty
    cases et
    exact .inl ⟨_, .inl (.inl (sub _ _ a)), by rw [e0]⟩
  | tup a b =>
    have e0 := b.isEmpty
    cases et
    exact .inr (.inl ⟨_, by rw [x.K, ← hK]; exact seqT sub a, by rw [e0]⟩)
  | dct _ i _ _ => exact i.elim
theorem dt_not {κ : Bool → Env → R α → Prop} {e : Expr} {pos : Pos} (h : DT C ρ e m fun t ρ1 m1 => κ (!t) ρ1 m1) : DT C ρ (.UnaryOp .Not e pos) m κ := by
  intro X W Z x hK c z
  refine PT_imp (pt_not (h X W Z x hK c z)) fun σ H Q ⟨F, r, q⟩ => ⟨F, r, fun t ρ' m' H' F' h1 h2 h3 h4 => q _ ρ' m' H' F' h1 h2 h3 h4⟩
theorem dt_w {κ : Bool → Env → R α → Prop} {e : Expr} (h : DW C ρ e m κ) : DT C ρ e m κ := fun X W Z x hK c z => (h X W Z x hK c z).pt
theorem dw_and1 {κ : Bool → Env → R α → Prop} {e : Expr} {pos : Pos} (h : DT C ρ e m κ) : DW C ρ (.BoolOp .And [e] pos) m κ := fun X W Z x hK c z => pw_and1 (h X W Z x hK c z)
theorem dw_or1 {κ : Bool → Env → R α → Prop} {e : Expr} {pos : Pos} (h : DT C ρ e m κ) : DW C ρ (.BoolOp .Or [e] pos) m κ := fun X W Z x hK c z => pw_or1 (h X W Z x hK c z)
/-- readings chosen by what came -/
theorem PW_all {ι : Type 1} {X : Cx} {e : Expr} {P : ι → Prop} {t : ι → TT} (h : ∀ i, P i → PW X e (t i)) : PW X e fun σ H Q => ∃ i, P i ∧ t i σ H Q := ⟨fun wh p s σ H Q I ⟨i, pi, q⟩ => (h i pi).run wh p s σ H Q I q⟩
theorem dw_and {κ : Bool → Env → R α → Prop} {a b : Expr} {rest : List Expr} {pos : Pos}
    (h : DT C ρ a m fun t ρ1 m1 => ∃ A B, m1 = (if t = true then A else B) ∧ DW C ρ1 (.BoolOp .And (b :: rest) pos) A κ ∧ κ false ρ1 B) : DW C ρ (.BoolOp .And (a :: b :: rest) pos) m κ := by
  intro X W Z x hK c z
  have hb : PW X (.BoolOp .And (b :: rest) pos) fun σ H Q => ∃ i : R α × Env, (DW C i.2 (.BoolOp .And (b :: rest) pos) i.1 κ ∧ Z i.1) ∧ ∃ F, Rel W i.2 σ H F ∧ ∀ b ρ' m' H' F', κ b ρ' m' → Z m' → Rel W ρ' σ H' F' → Same F F' → Q b H' :=
    ⟨fun wh p s σ H Q I ⟨i, pi, q⟩ => (pi.1 X W Z x hK c pi.2).run wh p s σ H Q I q⟩
  refine PW_imp (pw_and (h X W Z x hK c z) hb) fun σ H Q ⟨F, r, q⟩ => ⟨F, r, fun t ρ' m' H' F' ⟨A, B, e, hA, hB⟩ h2 h3 h4 => ?_⟩
  subst e
  cases t with
  | true => exact ⟨(A, ρ'), ⟨hA, h2⟩, F', h3, fun b ρ2 m2 H2 F2 k1 k2 k3 k4 => q b ρ2 m2 H2 F2 k1 k2 k3 (h4.trans k4)⟩
  | false => exact q _ ρ' _ H' F' hB h2 h3 h4
theorem dw_or {κ : Bool → Env → R α → Prop} {a b : Expr} {rest : List Expr} {pos : Pos}
    (h : DT C ρ a m fun t ρ1 m1 => ∃ A B, m1 = (if t = true then A else B) ∧ κ true ρ1 A ∧ DW C ρ1 (.BoolOp .Or (b :: rest) pos) B κ) : DW C ρ (.BoolOp .Or (a :: b :: rest) pos) m κ := by
  intro X W Z x hK c z
  have hb : PW X (.BoolOp .Or (b :: rest) pos) fun σ H Q => ∃ i : R α × Env, (DW C i.2 (.BoolOp .Or (b :: rest) pos) i.1 κ ∧ Z i.1) ∧ ∃ F, Rel W i.2 σ H F ∧ ∀ b ρ' m' H' F', κ b ρ' m' → Z m' → Rel W ρ' σ H' F' → Same F F' → Q b H' :=
    ⟨fun wh p s σ H Q I ⟨i, pi, q⟩ => (pi.1 X W Z x hK c pi.2).run wh p s σ H Q I q⟩
  refine PW_imp (pw_or (h X W Z x hK c z) hb) fun σ H Q ⟨F, r, q⟩ => ⟨F, r, fun t ρ' m' H' F' ⟨A, B, e, hA, hB⟩ h2 h3 h4 => ?_⟩
  subst e
  cases t with
  | true => exact q _ ρ' _ H' F' hA h2 h3 h4
  | false => exact ⟨(B, ρ'), ⟨hB, h2⟩, F', h3, fun b ρ2 m2 H2 F2 k1 k2 k3 k4 => q b ρ2 m2 H2 F2 k1 k2 k3 (h4.trans k4)⟩

/-! ### joins: a part reckoned by itself -/
theorem Cl.at {β : Type} {Z : R α → Prop} (c : Cl Z) (g : β → R α) : Cl fun r : R β => ∃ p, r = .ok p ∧ Z (g p) := ⟨(fun ⟨_, e, _⟩ => nomatch e), (fun _ _ ⟨_, e, _⟩ => nomatch e)⟩
theorem de_join {τ : Type} {κ : D → Env → R α → Prop} {e : Expr} (pack : τ → Env) {r : R (D × τ)} {g : D × τ → R α}
    (h : DE C ρ e r fun d ρ' m' => ∃ st, ρ' = pack st ∧ m' = .ok (d, st)) (k : ∀ d st, κ d (pack st) (g (d, st))) : DE C ρ e (r.bind g) κ := by
  intro X W Z x hK c z
  obtain ⟨p, e1, z1⟩ := c.bind z
  refine PE_imp (h X W _ x hK (c.at g) ⟨p, e1, z1⟩) fun σ H Q ⟨F, rl, q⟩ => ⟨F, rl, fun d ρ' m' v H' F' ⟨st, e2, e3⟩ ⟨p', e4, z2⟩ h3 h4 h5 => ?_⟩
  subst e2 e3; cases e4
  exact q _ _ _ v H' F' (k _ _) z2 h3 h4 h5
/-- .. that changes nothing -/
theorem de_dir {κ : D → Env → R α → Prop} {e : Expr} {r : R D} {g : D → R α} (h : DE C ρ e r fun d ρ' m' => ρ' = ρ ∧ m' = .ok d) (k : ∀ d, κ d ρ (g d)) : DE C ρ e (r.bind g) κ := by
  intro X W Z x hK c z
  obtain ⟨p, e1, z1⟩ := c.bind z
  refine PE_imp (h X W _ x hK (c.at g) ⟨p, e1, z1⟩) fun σ H Q ⟨F, rl, q⟩ => ⟨F, rl, fun d ρ' m' v H' F' ⟨e2, e3⟩ ⟨p', e4, z2⟩ h3 h4 h5 => ?_⟩
  subst e2 e3; cases e4
  exact q _ _ _ v H' F' (k _) z2 h3 h4 h5
theorem dt_join {τ : Type} {κ : Bool → Env → R α → Prop} {e : Expr} (pack : τ → Env) {r : R (Bool × τ)} {g : Bool × τ → R α}
    (h : DT C ρ e r fun d ρ' m' => ∃ st, ρ' = pack st ∧ m' = .ok (d, st)) (k : ∀ d st, κ d (pack st) (g (d, st))) : DT C ρ e (r.bind g) κ := by
  intro X W Z x hK c z
  obtain ⟨p, e1, z1⟩ := c.bind z
  refine PT_imp (h X W _ x hK (c.at g) ⟨p, e1, z1⟩) fun σ H Q ⟨F, rl, q⟩ => ⟨F, rl, fun d ρ' m' H' F' ⟨st, e2, e3⟩ ⟨p', e4, z2⟩ h3 h4 => ?_⟩
  subst e2 e3; cases e4
  exact q _ _ _ H' F' (k _ _) z2 h3 h4
theorem dt_dir {κ : Bool → Env → R α → Prop} {e : Expr} {r : R Bool} {g : Bool → R α} (h : DT C ρ e r fun d ρ' m' => ρ' = ρ ∧ m' = .ok d) (k : ∀ d, κ d ρ (g d)) : DT C ρ e (r.bind g) κ := by
  intro X W Z x hK c z
  obtain ⟨p, e1, z1⟩ := c.bind z
  refine PT_imp (h X W _ x hK (c.at g) ⟨p, e1, z1⟩) fun σ H Q ⟨F, rl, q⟩ => ⟨F, rl, fun d ρ' m' H' F' ⟨e2, e3⟩ ⟨p', e4, z2⟩ h3 h4 => ?_⟩
  subst e2 e3; cases e4
  exact q _ _ _ H' F' (k _) z2 h3 h4
/-- a if t else b -/
theorem de_ifx {κ : D → Env → R α → Prop} {t a b : Expr} {pos : Pos} (h : DT C ρ t m fun t ρ1 m1 => ∃ A B, m1 = (if t = true then A else B) ∧ DE C ρ1 a A κ ∧ DE C ρ1 b B κ) : DE C ρ (.IfExp t a b pos) m κ := by
  intro X W Z x hK c z
  have each : ∀ e : Expr, PE X e fun σ H Q => ∃ i : R α × Env, (DE C i.2 e i.1 κ ∧ Z i.1) ∧ ∃ F, Rel W i.2 σ H F ∧ ∀ d ρ' m' v H' F', κ d ρ' m' → Z m' → Rel W ρ' σ H' F' → Same F F' → Rp W.K F' v d → Q v H' := fun e =>
    ⟨fun p s σ H Q I ⟨i, pi, q⟩ => (pi.1 X W Z x hK c pi.2).run p s σ H Q I q⟩
  refine PE_imp (pe_ifExp (h X W Z x hK c z) (each a) (each b)) fun σ H Q ⟨F, r, q⟩ => ⟨F, r, fun t ρ' m' H' F' ⟨A, B, e, hA, hB⟩ h2 h3 h4 => ?_⟩
  subst e
  cases t with
  | true => exact ⟨(A, ρ'), ⟨hA, h2⟩, F', h3, fun d ρ2 m2 v H2 F2 k1 k2 k3 k4 k5 => q d ρ2 m2 v H2 F2 k1 k2 k3 (h4.trans k4) k5⟩
  | false => exact ⟨(B, ρ'), ⟨hB, h2⟩, F', h3, fun d ρ2 m2 v H2 F2 k1 k2 k3 k4 k5 => q d ρ2 m2 v H2 F2 k1 k2 k3 (h4.trans k4) k5⟩

/-! ### arguments, displays -/
theorem da_nil {κ : List D → Env → R α → Prop} (k : κ [] ρ m) : DA C ρ [] m κ := fun X W Z x hK c z =>
  PA_imp pa_nil fun σ H Q ⟨F, r, q⟩ => q _ ρ m _ H F k z r (Same.refl _) .nil
theorem da_cons {κ : List D → Env → R α → Prop} {e : Expr} {es : List Expr} (h : DE C ρ e m fun d ρ1 m1 => DA C ρ1 es m1 fun ds ρ2 m2 => κ (d :: ds) ρ2 m2)
    (hs : ∀ env : PySem.Env, starEach (e :: es) env = (false, eval e env) :: starEach es env := by intro _; rfl) : DA C ρ (e :: es) m κ := by
  intro X W Z x hK c z
  have rest : PA X es fun σ H Q => ∃ i : R α × Env × D, (DA C i.2.1 es i.1 (fun ds ρ2 m2 => κ (i.2.2 :: ds) ρ2 m2) ∧ Z i.1) ∧ ∃ F, Rel W i.2.1 σ H F ∧ ∀ ds ρ' m' vs H' F', κ (i.2.2 :: ds) ρ' m' → Z m' → Rel W ρ' σ H' F' → Same F F' → RpAll W.K F' vs ds → Q vs H' :=
    ⟨fun po p s σ H Q I ⟨i, pi, q⟩ => (pi.1 X W Z x hK c pi.2).run po p s σ H Q I q⟩
  refine PA_imp (pa_cons (h X W Z x hK c z) rest (hs _)) fun σ H Q ⟨F, r, q⟩ => ⟨F, r, fun d ρ' m' v H' F' h1 h2 h3 h4 h5 => ?_⟩
  exact ⟨(m', ρ', d), ⟨h1, h2⟩, F', h3, fun ds ρ2 m2 vs H2 F2 k1 k2 k3 k4 k5 => q _ ρ2 m2 _ H2 F2 k1 k2 k3 (h4.trans k4) (.cons (h5.mono k4) k5)⟩
theorem de_tup {κ : D → Env → R α → Prop} {es : List Expr} {k : Nat} {pos : Pos} (h : DA C ρ es m fun ds ρ1 m1 => ds.length ≤ 16777216 ∧ κ (.tuple ds) ρ1 m1) : DE C ρ (.Tuple es k pos) m κ := by
  intro X W Z x hK c z
  refine PE_imp (pe_tup (h X W Z x hK c z)) fun σ H Q ⟨F, r, q⟩ => ⟨F, r, fun ds ρ' m' vs H' F' ⟨hz, h1⟩ h2 h3 h4 h5 => ⟨by rw [h5.length, sizeLine_eq]; exact hz, fun p hp => ?_⟩⟩
  have fx : Fx F' H' _ _ := Fx.alloc (u := .tup vs) h3.sub hp
  exact q _ ρ' m' _ _ _ h1 h2 (h3.step fx) (h4.trans fx.ff) (.tup (.inl (.inl upd_same)) (h5.mono fx.ff))
theorem de_lst {κ : D → Env → R α → Prop} {es : List Expr} {pos : Pos} (h : DA C ρ es m fun ds ρ1 m1 => ds.length ≤ 16777216 ∧ κ (.list ds) ρ1 m1) : DE C ρ (.List es pos) m κ := by
  intro X W Z x hK c z
  refine PE_imp (pe_lst (h X W Z x hK c z)) fun σ H Q ⟨F, r, q⟩ => ⟨F, r, fun ds ρ' m' vs H' F' ⟨hz, h1⟩ h2 h3 h4 h5 => ⟨by rw [h5.length, sizeLine_eq]; exact hz, fun p hp => ?_⟩⟩
  have fx : Fx F' H' _ _ := Fx.alloc (u := .lst vs) h3.sub hp
  exact q _ ρ' m' _ _ _ h1 h2 (h3.step fx) (h4.trans fx.ff) (.lst upd_same (h5.mono fx.ff))
end
end Z

set_option Elab.async false
set_option linter.all false
set_option maxRecDepth 100000
set_option autoImplicit false
/-! # Z4: targets, blocks, loops, a def by its mirror -/
namespace Z
open PySem L2

/-! ### less is known -/
def Le : Env → Env → Prop
  | [], [] => True
  | none :: r, _ :: r' => Le r r'
  | some a :: r, some b :: r' => a = b ∧ Le r r'
  | _, _ => False
theorem Le.refl : ∀ ρ : Env, Le ρ ρ
  | [] => trivial
  | none :: r => Le.refl r
  | some a :: r => ⟨rfl, Le.refl r⟩
theorem Le.len : ∀ {ρ ρ' : Env}, Le ρ ρ' → ρ.length = ρ'.length
  | [], [], _ => rfl
  | none :: r, _ :: r', h => by simp [Le.len (ρ := r) (ρ' := r') h]
  | some a :: r, some b :: r', h => by simp [Le.len (ρ := r) (ρ' := r') h.2]
  | [], _ :: _, h => h.elim
  | some a :: r, [], h => h.elim
  | none :: r, [], h => h.elim
  | some a :: r, none :: r', h => h.elim
theorem Le.get : ∀ {ρ ρ' : Env}, Le ρ ρ' → ∀ {i : Nat} {sl : Sl}, ρ[i]? = some (some sl) → ρ'[i]? = some (some sl)
  | [], [], _, i, sl, e => by simp at e
  | none :: r, _ :: r', h, 0, sl, e => by simp at e
  | none :: r, _ :: r', h, i + 1, sl, e => by
    have := Le.get (ρ := r) (ρ' := r') h (i := i) (sl := sl) (by simpa using e)
    simpa using this
  | some a :: r, some b :: r', h, 0, sl, e => by
    have h1 := h.1
    subst h1; simpa using e
  | some a :: r, some b :: r', h, i + 1, sl, e => by
    have := Le.get (ρ := r) (ρ' := r') h.2 (i := i) (sl := sl) (by simpa using e)
    simpa using this
  | [], _ :: _, h, _, _, _ => h.elim
  | some a :: r, [], h, _, _, _ => h.elim
  | none :: r, [], h, _, _, _ => h.elim
  | some a :: r, none :: r', h, _, _, _ => h.elim
theorem Rel.le {W : Wd} {ρ ρ' : Env} {σ : L2.St} {H F : Hp} (r : Rel W ρ' σ H F) (h : Le ρ ρ') : Rel W ρ σ H F := by
  refine ⟨r.sub, r.sub0, r.keep, r.fresh, ?_, by rw [h.len]; exact r.len, r.trk⟩
  obtain ⟨ad, k⟩ := r.env
  refine ⟨ad, fun i sl e => ?_⟩
  obtain ⟨v, h1, h2, h3, h4⟩ := k i sl (h.get e)
  exact ⟨v, h1, h2, h3, fun j sl' ne e' => h4 j sl' ne (h.get e')⟩

section
variable {α : Type} {C : Ct} {ρ : Env} {m : R α}

/-! ### targets -/
theorem set_wipe {σ : L2.St} {i : Nat} {x : Option V} : ∀ {vs : List Nat}, i ∈ vs → wipe (σ.set i x) vs = wipe σ vs
  | v :: vs, h => by
    unfold wipe
    by_cases hv : i ∈ vs
    · rw [set_wipe hv]
    · have e : v = i := by
        rcases List.mem_cons.mp h with q | q
        · exact q.symm
        · exact absurd q hv
      subst e
      refine List.ext_getElem? fun j => ?_
      have key : ∀ (us : List Nat) (τ : L2.St) (k : Nat), (wipe τ us)[k]? = if k ∈ us then (τ[k]?.map fun _ => none) else τ[k]? := by
        intro us τ k
        induction us with
        | nil => simp [wipe]
        | cons u us ih =>
          unfold wipe
          rw [List.getElem?_set, ih]
          by_cases e : u = k
          · subst e
            have hl : (wipe τ us).length = τ.length := wipe_length τ us
            by_cases hk : u < τ.length
            · simp [hl, hk]
            · simp [hl, hk]
          · have e' : ¬ k = u := fun q => e q.symm
            simp [e, e']
      rw [List.getElem?_set, List.getElem?_set, key, key]
      by_cases e : v = j
      · subst e
        simp [wipe_length]
      · simp only [if_neg e, List.getElem?_set_ne e]
/-- L tells the slots that the target may set -/
def DG {α : Type} (C : Ct) (L : Nat → Prop) (ρ : Env) (tg : Expr) (d : D) (m : R α) (κ : Env → R α → Prop) : Prop :=
  ∀ (X : Cx) (W : Wd) (Z : R α → Prop), XOk C X → W.K = C.K → Cl Z → Z m →
    PG X tg fun v σ H Q => ∃ F, Rel W ρ σ H F ∧ Rp W.K F v d ∧ ∀ ρ' m' σ' H' F', κ ρ' m' → Z m' → Rel W ρ' σ' H' F' → Same F F' → (∀ vs, (∀ i, L i → i ∈ vs) → wipe σ' vs = wipe σ vs) → Q σ' H'
def DGs {α : Type} (C : Ct) (L : Nat → Prop) (ρ : Env) (tgs : List Expr) (ds : List D) (m : R α) (κ : Env → R α → Prop) : Prop :=
  ∀ (X : Cx) (W : Wd) (Z : R α → Prop), XOk C X → W.K = C.K → Cl Z → Z m →
    PGs X tgs fun vs σ H Q => ∃ F, Rel W ρ σ H F ∧ RpAll W.K F vs ds ∧ ∀ ρ' m' σ' H' F', κ ρ' m' → Z m' → Rel W ρ' σ' H' F' → Same F F' → (∀ vs, (∀ i, L i → i ∈ vs) → wipe σ' vs = wipe σ vs) → Q σ' H'
theorem PG_imp {X : Cx} {e : Expr} {t t' : TG} (h : PG X e t) (i : ∀ v σ H Q, t' v σ H Q → t v σ H Q) : PG X e t' := ⟨fun p s σ H v u Q I r q => h.run p s σ H v u Q I r (i v σ H Q q)⟩
theorem PGs_imp {X : Cx} {e : List Expr} {t t' : TGs} (h : PGs X e t) (i : ∀ v σ H Q, t' v σ H Q → t v σ H Q) : PGs X e t' := ⟨fun p s σ H v u Q I r q => h.run p s σ H v u Q I r (i v σ H Q q)⟩
theorem dg_name {L : Nat → Prop} {κ : Env → R α → Prop} {n : Str} {pos : Pos} {d : D} (i : Nat) (k : κ (ρ.set i (some (.val d))) m) (hN : C.N[i]? = some n := by rfl)
    (hx : Loc C.sc n := by first | exact Or.inl rfl | exact Or.inr rfl) (hfn : C.fn n = true ∨ C.sc.names.lookup n = some .local := by first | exact Or.inl rfl | exact Or.inr rfl) (hL : L i := by first | trivial | simp) : DG C L ρ (.Name n pos) d m κ := by
  intro X W Z x hK c z
  have hf : X.fn n = true ∨ X.env.scope.names.lookup n = some .local := hfn.elim (fun h => .inl (x.fnl n h)) fun h => .inr (by rw [x.sc]; exact h)
  refine PG_imp (pg_name (i := i) (by rw [x.N]; exact x.nd) (by rw [x.N]; exact hN) (by rw [x.sc]; exact hx) hf) fun v σ H Q ⟨F, r, p, q⟩ => ?_
  exact q _ m _ H F k z (r.set i p) (Same.refl _) fun vs hv => set_wipe (hv i hL)
theorem dgs_nil {L : Nat → Prop} {κ : Env → R α → Prop} (k : κ ρ m) : DGs C L ρ [] [] m κ := fun X W Z x hK c z =>
  PGs_imp pgs_nil fun v σ H Q ⟨F, r, p, q⟩ => ⟨by cases p; rfl, q _ m _ H F k z r (Same.refl _) fun _ _ => rfl⟩
theorem dgs_cons {L : Nat → Prop} {κ : Env → R α → Prop} {e : Expr} {es : List Expr} {d : D} {ds : List D} (h : DG C L ρ e d m fun ρ1 m1 => DGs C L ρ1 es ds m1 κ)
    (hs : ∀ env : PySem.Env, (assignEach (e :: es) env).map (·.2) = assign e env :: (assignEach es env).map (·.2) := by intro _; rfl) : DGs C L ρ (e :: es) (d :: ds) m κ := by
  intro X W Z x hK c z
  have rest : PGs X es fun vs σ H Q => ∃ i : R α × Env, (DGs C L i.2 es ds i.1 κ ∧ Z i.1) ∧ ∃ F, Rel W i.2 σ H F ∧ RpAll W.K F vs ds ∧ ∀ ρ' m' σ' H' F', κ ρ' m' → Z m' → Rel W ρ' σ' H' F' → Same F F' → (∀ vs, (∀ i, L i → i ∈ vs) → wipe σ' vs = wipe σ vs) → Q σ' H' :=
    ⟨fun p s σ H v u Q I r ⟨i, pi, q⟩ => (pi.1 X W Z x hK c pi.2).run p s σ H v u Q I r q⟩
  refine PGs_imp (pgs_cons (h X W Z x hK c z) rest (hs _)) fun vs σ H Q ⟨F, r, p, q⟩ => ?_
  cases p with
  | cons p ps =>
    refine ⟨_, _, rfl, F, r, p, fun ρ1 m1 σ1 H1 F1 k1 k2 k3 k4 k5 => ?_⟩
    exact ⟨(m1, ρ1), ⟨k1, k2⟩, F1, k3, ps.mono k4, fun ρ' m' σ' H' F' h1 h2 h3 h4 h5 => q ρ' m' σ' H' F' h1 h2 h3 (k4.trans h4) fun vs hv => (h5 vs hv).trans (k5 vs hv)⟩
theorem dg_tup {L : Nat → Prop} {κ : Env → R α → Prop} {es : List Expr} {k n : Nat} {pos : Pos} {d : D} {g : List D → R α} (hm : m = (unpack n d).bind g) (h : ∀ ds, ds.length = n → DGs C L ρ es ds (g ds) κ)
    (hn : ∀ env : PySem.Env, (assignEach es env).length = n := by intro _; rfl) (hst : ∀ env : PySem.Env, (assignEach es env).findIdx? (·.1) = none := by intro _; rfl) : DG C L ρ (.Tuple es k pos) d m κ := by
  intro X W Z x hK c z
  subst hm
  obtain ⟨ds, e1, z1⟩ := c.bind z
  have hd : ∃ xs, d = .tuple xs ∧ xs.length = n ∧ ds = xs := by
    unfold unpack at e1
    split at e1
    · split at e1
      · cases e1; rename_i hl; exact ⟨_, rfl, hl, rfl⟩
      · cases e1
    · cases e1
  obtain ⟨xs, rfl, hl, rfl⟩ := hd
  refine PG_imp (pg_tup (n := n) x.calm (h ds hl X W Z x hK c z1) (hn _) (hst _)) fun v σ H Q ⟨F, r, p, q⟩ => ?_
  cases p with
  | tup a b => exact ⟨_, _, rfl, by rw [x.K, ← hK]; exact seqT r.sub a, by rw [b.length]; exact hl, F, r, b, q⟩
/-- two, three parts -/
def un2 (d : D) : R (D × D) := (unpack 2 d).bind fun
  | [a, b] => .ok (a, b)
  | _ => .stuck
def un3 (d : D) : R (D × D × D) := (unpack 3 d).bind fun
  | [a, b, c] => .ok (a, b, c)
  | _ => .stuck
theorem dg_tup2 {L : Nat → Prop} {κ : Env → R α → Prop} {e1 e2 : Expr} {k : Nat} {pos : Pos} {d : D} {g : D × D → R α} (hm : m = (un2 d).bind g) (h : ∀ a b, DGs C L ρ [e1, e2] [a, b] (g (a, b)) κ)
    (hn : ∀ env : PySem.Env, (assignEach [e1, e2] env).length = 2 := by intro _; rfl) (hst : ∀ env : PySem.Env, (assignEach [e1, e2] env).findIdx? (·.1) = none := by intro _; rfl) : DG C L ρ (.Tuple [e1, e2] k pos) d m κ := by
  unfold un2 at hm
  rw [R.bind_assoc] at hm
  refine dg_tup hm (fun ds hl => ?_) hn hst
  match ds, hl with
  | [a, b], _ => exact h a b
theorem dg_tup3 {L : Nat → Prop} {κ : Env → R α → Prop} {e1 e2 e3 : Expr} {k : Nat} {pos : Pos} {d : D} {g : D × D × D → R α} (hm : m = (un3 d).bind g) (h : ∀ a b c, DGs C L ρ [e1, e2, e3] [a, b, c] (g (a, b, c)) κ)
    (hn : ∀ env : PySem.Env, (assignEach [e1, e2, e3] env).length = 3 := by intro _; rfl) (hst : ∀ env : PySem.Env, (assignEach [e1, e2, e3] env).findIdx? (·.1) = none := by intro _; rfl) : DG C L ρ (.Tuple [e1, e2, e3] k pos) d m κ := by
  unfold un3 at hm
  rw [R.bind_assoc] at hm
  refine dg_tup hm (fun ds hl => ?_) hn hst
  match ds, hl with
  | [a, b, c], _ => exact h a b c

/-! ### blocks -/
def Jd.sq (C : Ct) (J : Jd α) (rest : List Stmt) : Jd α := { J with nx := fun ρ' m' => DSs C ρ' rest m' J }
theorem rest_run {J : Jd α} {rest : List Stmt} {X : Cx} {W : Wd} {Z : R α → Prop} (x : XOk C X) (hK : W.K = C.K) (c : Cl Z) :
    PSs X rest fun D σ H => ∃ i : R α × Env, (DSs C i.2 rest i.1 J ∧ Z i.1) ∧ ∃ F, Rel W i.2 σ H F ∧ Lk W J Z D :=
  ⟨fun p s σ H D I ⟨i, pi, q⟩ => (pi.1 X W Z x hK c pi.2).run p s σ H D I q⟩
theorem Lk.sq {J : Jd α} {rest : List Stmt} {W : Wd} {Z : R α → Prop} {D : Ends} (l : Lk W J Z D) :
    Lk W (J.sq C rest) Z { D with nx := fun σ H => ∃ i : R α × Env, (DSs C i.2 rest i.1 J ∧ Z i.1) ∧ ∃ F, Rel W i.2 σ H F ∧ Lk W J Z D } :=
  ⟨fun ρ m σ H F h1 h2 h3 => ⟨(m, ρ), ⟨h1, h2⟩, F, h3, l⟩, l.rt, l.bk, l.ct, l.rn⟩
theorem ds_nil {J : Jd α} (k : J.nx ρ m) : DSs C ρ [] m J := fun X W Z x hK c z => PSs_imp pss_nil fun D σ H ⟨F, r, l⟩ => l.nx ρ m σ H F k z r
theorem ds_le {ρ' : Env} {J : Jd α} {sts : List Stmt} (l : Le ρ ρ') (h : DSs C ρ sts m J) : DSs C ρ' sts m J := fun X W Z x hK c z => PSs_imp (h X W Z x hK c z) fun D σ H ⟨F, r, k⟩ => ⟨F, r.le l, k⟩
theorem ds_set {J : Jd α} {n : Str} {e : Expr} {p pos : Pos} {rest : List Stmt} (i : Nat) (h : DE C ρ e m fun d ρ1 m1 => DSs C (ρ1.set i (some (.val d))) rest m1 J) (hN : C.N[i]? = some n := by rfl)
    (hx : Loc C.sc n := by first | exact Or.inl rfl | exact Or.inr rfl) (hfn : C.fn n = true ∨ C.sc.names.lookup n = some .local := by first | exact Or.inl rfl | exact Or.inr rfl) (hs : ∀ env : PySem.Env, env.scope = C.sc → swapsWith e (some (.Name n p)) pos.line env = pure false := by intro env he; rfl) : DSs C ρ (.Assign [.Name n p] e pos :: rest) m J := by
  intro X W Z x hK c z
  have hf : X.fn n = true ∨ X.env.scope.names.lookup n = some .local := hfn.elim (fun h => .inl (x.fnl n h)) fun h => .inr (by rw [x.sc]; exact h)
  refine PSs_imp (pss_cons (ps_set (i := i) (by rw [x.N]; exact x.nd) (by rw [x.N]; exact hN) (by rw [x.sc]; exact hx) (h X W Z x hK c z) (hs _ x.sc) hf) (rest_run (J := J) x hK c)) fun D σ H ⟨F, r, l⟩ => ?_
  exact ⟨F, r, fun d ρ' m' v H' F' h1 h2 h3 h4 h5 => ⟨(m', _), ⟨h1, h2⟩, F', h3.set i h5, l⟩⟩
theorem ds_asg {J : Jd α} {tg e : Expr} {pos : Pos} {rest : List Stmt} (h : DE C ρ e m fun d ρ1 m1 => DG C (fun _ => True) ρ1 tg d m1 fun ρ2 m2 => DSs C ρ2 rest m2 J)
    (hs : ∀ env : PySem.Env, env.scope = C.sc → swapsWithSole [tg] e pos.line env = pure false := by intro env he; rfl) (hw : ∀ env : PySem.Env, env.scope = C.sc → swappedStores [tg] e env = pure none := by intro env he; first | rfl | (cases env; cases he; rfl))
    (h1 : ∀ env : PySem.Env, (assignEach [tg] env).map (·.2) = [assign tg env] := by intro _; rfl) : DSs C ρ (.Assign [tg] e pos :: rest) m J := by
  intro X W Z x hK c z
  have hg : PG X tg fun v σ H Q => ∃ i : R α × Env × D, (DG C (fun _ => True) i.2.1 tg i.2.2 i.1 (fun ρ2 m2 => DSs C ρ2 rest m2 J) ∧ Z i.1) ∧ ∃ F, Rel W i.2.1 σ H F ∧ Rp W.K F v i.2.2 ∧ ∀ ρ' m' σ' H' F', DSs C ρ' rest m' J → Z m' → Rel W ρ' σ' H' F' → Same F F' → (∀ vs, (∀ i, (fun _ : Nat => True) i → i ∈ vs) → wipe σ' vs = wipe σ vs) → Q σ' H' :=
    ⟨fun p s σ H v u Q I r ⟨i, pi, q⟩ => (pi.1 X W Z x hK c pi.2).run p s σ H v u Q I r q⟩
  refine PSs_imp (pss_cons (ps_asg (h X W Z x hK c z) hg (hs _ x.sc) (hw _ x.sc) (h1 _)) (rest_run (J := J) x hK c)) fun D σ H ⟨F, r, l⟩ => ?_
  exact ⟨F, r, fun d ρ' m' v H' F' h1 h2 h3 h4 h5 => ⟨(m', ρ', d), ⟨h1, h2⟩, F', h3, h5, fun ρ2 m2 σ2 H2 F2 k1 k2 k3 k4 _ => ⟨(m2, ρ2), ⟨k1, k2⟩, F2, k3, l⟩⟩⟩
/-- a, b = e1, e2, both plain locals: no tuple is made -/
theorem ds_par {J : Jd α} {n1 n2 : Str} {e1 e2 : Expr} {px py pt pt2 pos : Pos} {kt k2 : Nat} {rest : List Stmt} (i j : Nat)
    (h : DE C ρ e1 m fun d1 ρ1 m1 => DE C ρ1 e2 m1 fun d2 ρ2 m2 => DSs C ((ρ2.set i (some (.val d1))).set j (some (.val d2))) rest m2 J) (hN : C.N[i]? = some n1 := by rfl) (hN2 : C.N[j]? = some n2 := by rfl) (hij : i ≠ j := by decide)
    (hx : C.sc.names.lookup n1 = some .local := by rfl) (hy : C.sc.names.lookup n2 = some .local := by rfl)
    (hst : ∀ env : PySem.Env, starEach [e1, e2] env = (false, eval e1 env) :: starEach [e2] env := by intro _; rfl) (hst2 : ∀ env : PySem.Env, starEach [e2] env = (false, eval e2 env) :: starEach [] env := by intro _; rfl)
    (hw : ∀ env : PySem.Env, env.scope = C.sc → swappedStores [.Tuple [.Name n1 px, .Name n2 py] kt pt] (.Tuple [e1, e2] k2 pt2) env = pure (some [n1, n2])) : DSs C ρ (.Assign [.Tuple [.Name n1 px, .Name n2 py] kt pt] (.Tuple [e1, e2] k2 pt2) pos :: rest) m J := by
  intro X W Z x hK c z
  have ha : DA C ρ [e1, e2] m fun ds ρ2 m2 => ∃ d1 d2, ds = [d1, d2] ∧ DSs C ((ρ2.set i (some (.val d1))).set j (some (.val d2))) rest m2 J := by
    refine da_cons (fun X W Z x hK c z => PE_imp (h X W Z x hK c z) fun σ H Q ⟨F, r, q⟩ => ⟨F, r, fun d ρ' m' v H' F' k1 => q d ρ' m' v H' F' (da_cons (fun X W Z x hK c z => PE_imp (k1 X W Z x hK c z) fun σ H Q ⟨F, r, q⟩ => ⟨F, r, fun d' ρ2 m2 v H' F' k2 => q d' ρ2 m2 v H' F' (da_nil ⟨d, d', rfl, k2⟩)⟩) hst2)⟩) hst
  refine PSs_imp (pss_cons (ps_par (i := i) (j := j) x.calm (by rw [x.N]; exact x.nd) (by rw [x.N]; exact hN) (by rw [x.N]; exact hN2) hij (by rw [x.sc]; exact hx) (by rw [x.sc]; exact hy) (ha X W Z x hK c z) (hw _ x.sc)) (rest_run (J := J) x hK c)) fun D σ H ⟨F, r, l⟩ => ?_
  refine ⟨F, r, fun ds ρ' m' vs H' F' ⟨d1, d2, e, h1⟩ h2 h3 h4 h5 => ?_⟩
  subst e
  cases h5 with
  | cons p1 t => cases t with
    | cons p2 t => cases t; exact ⟨_, _, rfl, (m', _), ⟨h1, h2⟩, F', (h3.set i p1).set j p2, l⟩
theorem ds_ret {J : Jd α} {e : Expr} {pos : Pos} {rest : List Stmt} (h : DE C ρ e m fun d ρ1 m1 => J.rt d ρ1 m1) : DSs C ρ (.Return (some e) pos :: rest) m J := by
  intro X W Z x hK c z
  refine PSs_imp (pss_cons (ps_ret (h X W Z x hK c z)) pss_never) fun D σ H ⟨F, r, l⟩ => ?_
  exact ⟨F, r, fun d ρ' m' v H' F' h1 h2 h3 h4 h5 => l.rt d ρ' m' v σ H' F' h1 h2 h3 h5⟩
theorem ds_brk {J : Jd α} {pos : Pos} {rest : List Stmt} (k : J.bk ρ m) : DSs C ρ (.Break pos :: rest) m J := fun X W Z x hK c z =>
  PSs_imp (pss_cons ps_break pss_never) fun D σ H ⟨F, r, l⟩ => l.bk ρ m σ H F k z r
theorem ds_cnt {J : Jd α} {pos : Pos} {rest : List Stmt} (k : J.ct ρ m) : DSs C ρ (.Continue pos :: rest) m J := fun X W Z x hK c z =>
  PSs_imp (pss_cons ps_continue pss_never) fun D σ H ⟨F, r, l⟩ => l.ct ρ m σ H F k z r
theorem ds_if {J : Jd α} {t : Expr} {a b rest : List Stmt} {pos : Pos} (h : DT C ρ t m fun t ρ1 m1 => ∃ A B, m1 = (if t = true then A else B) ∧ DSs C ρ1 a A (J.sq C rest) ∧ DSs C ρ1 b B (J.sq C rest)) : DSs C ρ (.If t a b pos :: rest) m J := by
  intro X W Z x hK c z
  refine PSs_imp (pss_cons (ps_if (h X W Z x hK c z) (rest_run (J := J.sq C rest) x hK c) (rest_run (J := J.sq C rest) x hK c)) (rest_run (J := J) x hK c)) fun D σ H ⟨F, r, l⟩ => ?_
  refine ⟨F, r, fun t ρ' m' H' F' ⟨A, B, e, hA, hB⟩ h2 h3 h4 => ?_⟩
  subst e
  cases t with
  | true => exact ⟨(A, ρ'), ⟨hA, h2⟩, F', h3, l.sq⟩
  | false => exact ⟨(B, ρ'), ⟨hB, h2⟩, F', h3, l.sq⟩

/-- a part's ends as data: what the packed state is -/
def Jq {τ : Type} (pack : τ → Env) : Jd τ := { nx := fun ρ m => ∃ st, Le (pack st) ρ ∧ m = .ok st, rt := fun _ _ _ => False, bk := fun _ _ => False, ct := fun ρ m => ∃ st, Le (pack st) ρ ∧ m = .ok st }
def Jl {τ : Type} (pack : τ → Env) : Jd (Fl τ) := { nx := fun ρ m => ∃ st, Le (pack st) ρ ∧ m = .ok (.nx st), rt := fun d ρ m => ∃ st, Le (pack st) ρ ∧ m = .ok (.rt d st), bk := fun ρ m => ∃ st, Le (pack st) ρ ∧ m = .ok (.bk st), ct := fun ρ m => ∃ st, Le (pack st) ρ ∧ m = .ok (.nx st) }
def Jw {τ : Type} (pack : τ → Env) : Jd (Wl τ) := { nx := fun ρ m => ∃ st, Le (pack st) ρ ∧ m = .ok (.go st), rt := fun d ρ m => ∃ st, Le (pack st) ρ ∧ m = .ok (.rt d st), bk := fun ρ m => ∃ st, Le (pack st) ρ ∧ m = .ok (.done st), ct := fun ρ m => ∃ st, Le (pack st) ρ ∧ m = .ok (.go st) }
def Jn {τ : Type} (pack : τ → Env) : Jd τ := { nx := fun ρ m => ∃ st, Le (pack st) ρ ∧ m = .ok st, rt := fun _ _ _ => False, bk := fun _ _ => False, ct := fun _ _ => False }
/-- an if whose ways meet -/
theorem ds_ifq {J : Jd α} {τ : Type} {t : Expr} {a b rest : List Stmt} {pos : Pos} (pack : τ → Env) {r : R τ} {g : τ → R α} (hm : m = r.bind g)
    (h : DT C ρ t r fun t ρ1 m1 => ∃ A B, m1 = (if t = true then A else B) ∧ DSs C ρ1 a A (Jn pack) ∧ DSs C ρ1 b B (Jn pack)) (k : ∀ st, DSs C (pack st) rest (g st) J) : DSs C ρ (.If t a b pos :: rest) m J := by
  intro X W Z x hK c z
  subst hm
  obtain ⟨st0, e1, z1⟩ := c.bind z
  refine PSs_imp (pss_cons (ps_if (h X W _ x hK (c.at g) ⟨st0, e1, z1⟩) (rest_run (J := Jn pack) x hK (c.at g)) (rest_run (J := Jn pack) x hK (c.at g))) (rest_run (J := J) x hK c)) fun D σ H ⟨F, rl, l⟩ => ?_
  have lk : Lk W (Jn pack) (fun r : R τ => ∃ p, r = .ok p ∧ Z (g p)) { D with nx := fun σ H => ∃ i : R α × Env, (DSs C i.2 rest i.1 J ∧ Z i.1) ∧ ∃ F, Rel W i.2 σ H F ∧ Lk W J Z D } :=
    ⟨fun ρ m σ H F ⟨st, hl, e⟩ ⟨p, e2, zp⟩ h3 => by subst e; cases e2; exact ⟨(g st, pack st), ⟨k st, zp⟩, F, h3.le hl, l⟩, fun _ _ _ _ _ _ _ h => h.elim, fun _ _ _ _ _ h => h.elim,
     fun _ _ _ _ _ h => h.elim, fun _ _ _ _ _ _ _ h => h.elim⟩
  refine ⟨F, rl, fun t ρ' m' H' F' ⟨A, B, e, hA, hB⟩ h2 h3 h4 => ?_⟩
  subst e
  cases t with
  | true => exact ⟨(A, ρ'), ⟨hA, h2⟩, F', h3, lk⟩
  | false => exact ⟨(B, ρ'), ⟨hB, h2⟩, F', h3, lk⟩
end
end Z

set_option Elab.async false
set_option linter.all false
set_option maxRecDepth 100000
set_option autoImplicit false
/-! # Z5: what is walked, loops, comprehensions -/
namespace Z
open PySem L2

/-- the iterator J yields these data, whatever grows meanwhile -/
structure ItD (K : PySem.W.Frag) (J : It) (items : List D) (F0 : Hp) : Prop where
  goes : ∀ i F H, i < items.length → Same F0 F → Same F H → J.go i H
  stops : ∀ F H, Same F0 F → Same F H → J.stop items.length H
  yields : ∀ i F H x H', i < items.length → Same F0 F → Same F H → J.yld i H x H' → ∃ F' d, items[i]? = some d ∧ Fx F H F' H' ∧ Rp K F' x d
theorem ItD.mono {K : PySem.W.Frag} {J : It} {items : List D} {F0 F1 : Hp} (x : ItD K J items F0) (e : Same F0 F1) : ItD K J items F1 :=
  ⟨fun i F H h a b => x.goes i F H h (e.trans a) b, fun F H a b => x.stops F H (e.trans a) b, fun i F H y H' h a b c => x.yields i F H y H' h (e.trans a) b c⟩

theorem itd_list {K : PySem.W.Frag} {a : Addr} {xs : List V} {items : List D} {F : Hp} (h : SqL K F a xs) (r : RpAll K F xs items) : ItD K (Itl K a) items F where
  goes := fun i F1 H hi e1 e2 => walk_list.goes i H (by rw [r.length]; exact hi) (e2.seq (e1.seq h))
  stops := fun F1 H e1 e2 => by rw [← r.length]; exact walk_list.stops H (e2.seq (e1.seq h))
  yields := fun i F1 H x H' hi e1 e2 y => by
    obtain ⟨e, hx⟩ := walk_list.yields i H x H' (by rw [r.length]; exact hi) (e2.seq (e1.seq h)) y
    subst e
    obtain ⟨d, h1, h2⟩ := r.at' hx
    exact ⟨F1, d, h1, Fx.refl e2, h2.mono e1⟩
theorem itd_tup {K : PySem.W.Frag} {a : Addr} {xs : List V} {items : List D} {F : Hp} (h : SqT K F a xs) (r : RpAll K F xs items) : ItD K (Itt K a) items F where
  goes := fun i F1 H hi e1 e2 => walk_tup.goes i H (by rw [r.length]; exact hi) (seqT e2 (seqT e1 h))
  stops := fun F1 H e1 e2 => by rw [← r.length]; exact walk_tup.stops H (seqT e2 (seqT e1 h))
  yields := fun i F1 H x H' hi e1 e2 y => by
    obtain ⟨e, hx⟩ := walk_tup.yields i H x H' (by rw [r.length]; exact hi) (seqT e2 (seqT e1 h)) y
    subst e
    obtain ⟨d, h1, h2⟩ := r.at' hx
    exact ⟨F1, d, h1, Fx.refl e2, h2.mono e1⟩
theorem rangeD_at {lo hi : Int} {i : Nat} (h : i < (hi - lo).toNat) : (rangeD lo hi)[i]? = some (.int (lo + i)) := by
  unfold rangeD
  rw [List.getElem?_map, List.getElem?_range h]
  rfl
theorem rangeD_len {lo hi : Int} : (rangeD lo hi).length = (hi - lo).toNat := by simp [rangeD]
theorem itd_range {K : PySem.W.Frag} {lo hi : Int} {F : Hp} : ItD K (Itr lo (hi - lo).toNat) (rangeD lo hi) F where
  goes := fun i F1 H hh e1 e2 => by rw [rangeD_len] at hh; exact hh
  stops := fun F1 H e1 e2 => by rw [rangeD_len]; exact Nat.le_refl _
  yields := fun i F1 H x H' hh e1 e2 y => by
    obtain ⟨e, hx⟩ := y
    subst e hx
    rw [rangeD_len] at hh
    exact ⟨F1, _, rangeD_at hh, Fx.refl e2, .int _⟩
theorem itd_str {K : PySem.W.Frag} {z : Str} {F : Hp} : ItD K (Its z) (z.cps.toList.map fun c => .str ⟨#[c]⟩) F where
  goes := fun i F1 H hi e1 e2 => by
    show i < z.cps.size
    simpa using hi
  stops := fun F1 H e1 e2 => by show z.cps.size ≤ _; simp
  yields := fun i F1 H x H' hi e1 e2 y => by
    obtain ⟨e, c, hc, hx⟩ := y
    subst e hx
    refine ⟨F1, .str ⟨#[c]⟩, ?_, Fx.refl e2, .str _⟩
    rw [List.getElem?_map, Array.getElem?_toList, hc]
    rfl

section
variable {α : Type} {C : Ct} {ρ : Env} {m : R α} {tg : Expr}
def DI {α : Type} (C : Ct) (ρ : Env) (tg it : Expr) (m : R α) (κ : List D → Env → R α → Prop) : Prop :=
  ∀ (X : Cx) (W : Wd) (Z : R α → Prop), XOk C X → W.K = C.K → Cl Z → Z m →
    PI X tg it fun σ H Rr => ∃ F, Rel W ρ σ H F ∧ ∀ items ρ' m' J H' F', κ items ρ' m' → Z m' → Rel W ρ' σ H' F' → Same F F' → ItD W.K J items F' → Rr J H'
theorem PI_imp {X : Cx} {it : Expr} {t t' : TI} (h : PI X tg it t) (i : ∀ σ H Q, t' σ H Q → t σ H Q) : PI X tg it t' := ⟨fun p s σ H Q I q => h.run p s σ H Q I (i σ H Q q)⟩
/-- a list, a tuple, a text is walked -/
theorem di_val {κ : List D → Env → R α → Prop} {it : Expr} (h : DE C ρ it m fun d ρ1 m1 => ∃ g, m1 = (iter d).bind g ∧ ∀ items, κ items ρ1 (g items)) : DI C ρ tg it m κ := by
  intro X W Z x hK c z
  refine ⟨fun pins s σ H Rr I ⟨F, r, q⟩ => ?_⟩
  refine thn ((h X W Z x hK c z).run pins s σ H (fun v H1 => ∃ (J : It) (t : TI), PI X tg it t ∧ True ∧ ∃ F1 d ρ1 m1, (∃ g, m1 = (iter d).bind g ∧ ∀ items, κ items ρ1 (g items)) ∧ Z m1 ∧ Rel W ρ1 σ H1 F1 ∧ Same F F1 ∧ Rp W.K F1 v d) I
    ⟨F, r, fun d ρ' m' v H' F' h1 h2 h3 h4 h5 => ⟨⟨fun _ _ => True, fun _ _ _ _ => True, fun _ _ => True⟩, fun _ _ _ => False, ⟨fun _ _ _ _ _ _ q => q.elim⟩, trivial, F', d, ρ', m', h1, h2, h3, h4, h5⟩⟩) fun v s1 ⟨vx, H1, I1, r1, _, _, _, _, F1, d, ρ1, m1, ⟨g, e, hg⟩, z1, rel1, ss, p⟩ => ?_
  subst e
  obtain ⟨items, ei, zi⟩ := c.bind z1
  cases p with
  | lst a b =>
    cases ei
    cases r1
    rename_i ad xs _x0
    have aX : SqL X.K H1 ad xs := SqL.of (rel1.sub _ _ a)
    obtain ⟨its, rv, p, hz⟩ := I1.list aX
    refine wpAny_pyIter_list p.isList (pi_one (tk := s1.toks) I1 _ (turn_list _ _) ⟨_, Heap.get?_push_size _ rfl, rfl, rfl⟩ ?_)
    refine q _ ρ1 _ _ H1 F1 (hg _) zi rel1 ss ?_
    rw [x.K, ← hK]; exact itd_list (SqL.of a) b
  | tup a b =>
    cases ei
    cases r1
    rename_i ad xs _x0
    have aX : SqT X.K H1 ad xs := by rw [x.K, ← hK]; exact seqT rel1.sub a
    obtain ⟨its, rv, p, hz⟩ := I1.tuple aX
    refine wpAny_pyIter_tuple (show s1.heap.IsTuple ad its.toArray from p) (pi_one (tk := s1.toks) I1 _ (turn_tuple _ _) ⟨_, Heap.get?_push_size _ rfl, rfl, rfl⟩ ?_)
    refine q _ ρ1 _ _ H1 F1 (hg _) zi rel1 ss ?_
    rw [x.K, ← hK]; exact itd_tup a b
  | str y =>
    cases ei
    obtain ⟨t, rfl⟩ := r1
    have fin := q _ ρ1 _ (Its y) H1 F1 (hg _) zi rel1 ss itd_str
    cases ha : y.cps.all (· < 128)
    · exact wpAny_pyIter_wide ha (pi_one (tk := s1.toks) I1 _ (turn_str _ y t "str_iterator" (.inr rfl)) ⟨_, Heap.get?_push_size _ rfl, rfl, rfl⟩ fin)
    · exact wpAny_pyIter_ascii ha (pi_one (tk := s1.toks) I1 _ (turn_str _ y t "str_ascii_iterator" (.inl rfl)) ⟨_, Heap.get?_push_size _ rfl, rfl, rfl⟩ fin)
  | _ => cases ei
theorem range2_ok {a b : D} {items : List D} (h : range2 a b = .ok items) : ∃ lo hi : Int, a = .int lo ∧ b = .int hi ∧ -(2 ^ 62) ≤ lo ∧ lo < 2 ^ 62 ∧ -(2 ^ 62) ≤ hi ∧ hi < 2 ^ 62 ∧ items = rangeD lo hi := by
  unfold range2 at h
  split at h
  · split at h
    · rename_i lo hi hh
      simp only [Bool.and_eq_true, decide_eq_true_eq] at hh
      cases h
      exact ⟨lo, hi, rfl, rfl, hh.1.1.1, hh.1.1.2, hh.1.2, hh.2, rfl⟩
    · cases h
  · cases h
theorem di_range1 {κ : List D → Env → R α → Prop} {a : Expr} {p pos : Pos} (hm : C.mg ("range" : Str) = none) (h : DE C ρ a m fun d ρ1 m1 => ∃ g, m1 = (range1 d).bind g ∧ ∀ items, κ items ρ1 (g items))
    (hg : C.sc.names.lookup ("range" : Str) = some .globalImplicit := by rfl) (hs : ∀ env : PySem.Env, starEach [a] env = [(false, eval a env)] := by intro _; rfl) : DI C ρ tg (.Call (.Name "range" p) [a] [] pos) m κ := by
  intro X W Z x hK c z
  have ha : DA C ρ [a] m fun ds ρ1 m1 => ∃ d, ds = [d] ∧ ∃ g, m1 = (range1 d).bind g ∧ ∀ items, κ items ρ1 (g items) :=
    da_cons (fun X W Z x hK c z => PE_imp (h X W Z x hK c z) fun σ H Q ⟨F, r, q⟩ => ⟨F, r, fun d ρ' m' v H' F' k1 => q d ρ' m' v H' F' (da_nil ⟨d, rfl, k1⟩)⟩) hs
  refine PI_imp (pi_range1 (x.gl hg) (x.mg0 hm) (ha X W Z x hK c z) (hs _)) fun σ H Rr ⟨F, r, q⟩ => ⟨F, r, fun ds ρ' m' vs H' F' ⟨d, e1, g, e2, hgg⟩ h2 h3 h4 h5 => ?_⟩
  subst e1 e2
  obtain ⟨items, ei, zi⟩ := c.bind h2
  obtain ⟨lo, hi, e3, e4, b1, b2, b3, b4, e5⟩ := range2_ok ei
  cases e3; subst e4 e5
  cases h5 with
  | cons p1 t =>
    cases t; cases p1
    refine ⟨hi, rfl, b3, b4, ?_⟩
    have := q _ ρ' _ _ H' F' (hgg _) zi h3 h4 (itd_range (K := W.K) (lo := 0) (hi := hi) (F := F'))
    simpa using this
theorem di_range2 {κ : List D → Env → R α → Prop} {a b : Expr} {p pos : Pos} (hm : C.mg ("range" : Str) = none) (h : DE C ρ a m fun d ρ1 m1 => DE C ρ1 b m1 fun e ρ2 m2 => ∃ g, m2 = (range2 d e).bind g ∧ ∀ items, κ items ρ2 (g items))
    (hg : C.sc.names.lookup ("range" : Str) = some .globalImplicit := by rfl) (hs : ∀ env : PySem.Env, starEach [a, b] env = [(false, eval a env), (false, eval b env)] := by intro _; rfl) (hs2 : ∀ env : PySem.Env, starEach [b] env = [(false, eval b env)] := by intro _; rfl) : DI C ρ tg (.Call (.Name "range" p) [a, b] [] pos) m κ := by
  intro X W Z x hK c z
  have ha : DA C ρ [a, b] m fun ds ρ1 m1 => ∃ d e, ds = [d, e] ∧ ∃ g, m1 = (range2 d e).bind g ∧ ∀ items, κ items ρ1 (g items) :=
    da_cons (fun X W Z x hK c z => PE_imp (h X W Z x hK c z) fun σ H Q ⟨F, r, q⟩ => ⟨F, r, fun d ρ' m' v H' F' k1 => q d ρ' m' v H' F' (da_cons (fun X W Z x hK c z => PE_imp (k1 X W Z x hK c z) fun σ H Q ⟨F, r, q⟩ => ⟨F, r, fun e ρ' m' v H' F' k2 => q e ρ' m' v H' F' (da_nil ⟨d, e, rfl, k2⟩)⟩) (fun env => by rw [hs2]; rfl))⟩) (fun env => by rw [hs, hs2])
  refine PI_imp (pi_range2 (x.gl hg) (x.mg0 hm) (ha X W Z x hK c z) (hs _) (hs2 _)) fun σ H Rr ⟨F, r, q⟩ => ⟨F, r, fun ds ρ' m' vs H' F' ⟨d, e, e1, g, e2, hgg⟩ h2 h3 h4 h5 => ?_⟩
  subst e1 e2
  obtain ⟨items, ei, zi⟩ := c.bind h2
  obtain ⟨lo, hi, e3, e4, b1, b2, b3, b4, e5⟩ := range2_ok ei
  subst e3 e4 e5
  cases h5 with
  | cons p1 t =>
    cases t with
    | cons p2 t =>
      cases t; cases p1; cases p2
      exact ⟨lo, hi, rfl, ⟨b1, b2, b3, b4⟩, q _ ρ' _ _ H' F' (hgg _) zi h3 h4 itd_range⟩

/-! ### a later beginning -/
theorem Rel.up {W : Wd} {F1 H1 F H : Hp} {ρ ρ1 : Env} {σ σ1 : L2.St} (r : Rel { W with F0 := F1 } ρ σ H F) (r1 : Rel W ρ1 σ1 H1 F1) : Rel W ρ σ H F :=
  ⟨r.sub, r1.sub0.trans r.sub0, r.keep, fun b o h => (r.fresh b o h).elim (fun q => r1.fresh b o q) .inr, r.env, r.len, r.trk⟩
theorem Rel.down {W : Wd} {F1 H1 F H : Hp} {ρ ρ1 : Env} {σ σ1 : L2.St} (r : Rel W ρ σ H F) (e : Same F1 F) (r1 : Rel W ρ1 σ1 H1 F1) : Rel { W with F0 := F1 } ρ σ H F :=
  ⟨r.sub, e, r.keep, fun b o h => (r.fresh b o h).elim (fun q => .inl (r1.sub0 b o q)) .inr, r.env, r.len, r.trk⟩

/-! ### for -/
theorem forS_step {τ : Type} {items : List D} {i : Nat} {d : D} (h : items[i]? = some d) (st : τ) (f : D → τ → R τ) : forS (items.drop i) st f = (f d st).bind fun s => forS (items.drop (i + 1)) s f := by
  have : items.drop i = d :: items.drop (i + 1) := by
    obtain ⟨hl, e⟩ := List.getElem?_eq_some_iff.mp h
    rw [List.drop_eq_getElem_cons hl, e]
  rw [this]; rfl
theorem forT_step {τ : Type} {items : List D} {i : Nat} {d : D} (h : items[i]? = some d) (st : τ) (f : D → τ → R (Fl τ)) : forT (items.drop i) st f = (f d st).bind fun
    | .nx s => forT (items.drop (i + 1)) s f
    | .bk s => .ok (.nx s)
    | .rt d s => .ok (.rt d s) := by
  have : items.drop i = d :: items.drop (i + 1) := by
    obtain ⟨hl, e⟩ := List.getElem?_eq_some_iff.mp h
    rw [List.drop_eq_getElem_cons hl, e]
  rw [this]; rfl

theorem ds_forT {J : Jd α} {it : Expr} {body rest : List Stmt} {pos : Pos} {τ : Type} (pack : τ → Env)
    (h : DI C ρ tg it m fun items ρ1 m1 => ∃ st0 f g, Le (pack st0) ρ1 ∧ m1 = (forT items st0 f).bind g ∧
      (∀ x st, DG C (fun _ => True) (pack st) tg x (f x st) fun ρ2 m2 => DSs C ρ2 body m2 (Jl pack)) ∧ (∀ st, DSs C (pack st) rest (g (.nx st)) J) ∧ (∀ d st ρ', Le (pack st) ρ' → J.rt d ρ' (g (.rt d st))))
    (hs : ∀ (env : PySem.Env) (x : Value), foldedSetIterable it env x = pure x := by intro _ _; rfl) : DSs C ρ (.For tg it body [] pos :: rest) m J := by
  intro X W Z x hK c z
  have hg : PG X tg fun v σ H Q => ∃ (W' : Wd) (τ' : Type) (Z' : R τ' → Prop) (i : R τ' × Env × D) (κ : Env → R τ' → Prop), (DG C (fun _ => True) i.2.1 tg i.2.2 i.1 κ ∧ W'.K = C.K ∧ Cl Z' ∧ Z' i.1) ∧ ∃ F, Rel W' i.2.1 σ H F ∧ Rp W'.K F v i.2.2 ∧ ∀ ρ' m' σ' H' F', κ ρ' m' → Z' m' → Rel W' ρ' σ' H' F' → Same F F' → (∀ vs, (∀ i, (fun _ : Nat => True) i → i ∈ vs) → wipe σ' vs = wipe σ vs) → Q σ' H' :=
    ⟨fun p s σ H v u Q I r ⟨W', _, Z', i, κ, ⟨pi, hK', c', z'⟩, q⟩ => (pi X W' Z' x hK' c' z').run p s σ H v u Q I r q⟩
  have hb : PSs X body fun D σ H => ∃ (W' : Wd) (τ' : Type) (Z' : R τ' → Prop) (i : R τ' × Env) (J' : Jd τ'), (DSs C i.2 body i.1 J' ∧ W'.K = C.K ∧ Cl Z' ∧ Z' i.1) ∧ ∃ F, Rel W' i.2 σ H F ∧ Lk W' J' Z' D :=
    ⟨fun p s σ H D I ⟨W', _, Z', i, J', ⟨pi, hK', c', z'⟩, q⟩ => (pi X W' Z' x hK' c' z').run p s σ H D I q⟩
  refine PSs_imp (pss_cons (ps_for x.own x.calm (h X W Z x hK c z) hg hb (hs _)) (rest_run (J := J) x hK c)) fun Dn σ H ⟨F, rl, lk⟩ => ?_
  refine ⟨F, rl, fun items ρ' m' Jt H1 F1 ⟨st0, f, g, hle, em, hf, hnx, hrt⟩ zm rel1 ss itd => ?_⟩
  subst em
  refine ⟨fun i n σ H => n = items.length - i ∧ i ≤ items.length ∧ ∃ st F2, Rel { W with F0 := F1 } (pack st) σ H F2 ∧ Z ((forT (items.drop i) st f).bind g), ⟨items.length, by simp, Nat.zero_le _, st0, F1, (rel1.le hle).down (Same.refl _) rel1, by simpa using zm⟩, ?_⟩
  rintro i n σ2 H2 ⟨rfl, hi, st, F2, rel2, z2⟩
  by_cases hlt : i < items.length
  · refine .inr ⟨itd.goes i F2 H2 hlt rel2.sub0 rel2.sub, fun σ H => ∃ st F3, Rel { W with F0 := F1 } (pack st) σ H F3 ∧ Z ((forT (items.drop (i + 1)) st f).bind g), fun σ3 H3 ⟨st3, F3, b, c3⟩ => ⟨_, by omega, rfl, hlt, st3, F3, b, c3⟩, fun v H3 y => ?_⟩
    obtain ⟨F3, d, hd, fx, pd⟩ := itd.yields i F2 H2 v H3 hlt rel2.sub0 rel2.sub y
    rw [forT_step hd, R.bind_assoc] at z2
    obtain ⟨fl, ef, zf⟩ := c.bind z2
    refine ⟨{ W with F0 := F1 }, Fl τ, fun r => ∃ p, r = .ok p ∧ Z ((match p with | .nx s => forT (items.drop (i + 1)) s f | .bk s => .ok (.nx s) | .rt d s => .ok (.rt d s)).bind g), (f d st, pack st, d), _, ⟨hf d st, hK, c.at _, fl, ef, zf⟩, F3, rel2.step fx, pd, fun ρ4 m4 σ4 H4 F4 h1 h2 h3 h4 _ => ?_⟩
    refine ⟨{ W with F0 := F1 }, Fl τ, _, (m4, ρ4), Jl pack, ⟨h1, hK, c.at _, h2⟩, F4, h3, ⟨fun ρ m σ H F ⟨st', hl, e⟩ ⟨p, e2, zp⟩ h3 => ?_, fun d ρ m v σ H F ⟨st', hl, e⟩ ⟨p, e2, zp⟩ h3 h5 => ?_, fun ρ m σ H F ⟨st', hl, e⟩ ⟨p, e2, zp⟩ h3 => ?_, fun ρ m σ H F ⟨st', hl, e⟩ ⟨p, e2, zp⟩ h3 => ?_, fun _ _ _ _ _ _ _ h => h.elim⟩⟩
    · subst e; cases e2; exact ⟨st', F, h3.le hl, zp⟩
    · subst e; cases e2; exact lk.rt d ρ _ v σ H F (hrt d st' ρ hl) zp (h3.up rel1) h5
    · subst e; cases e2; exact ⟨(g (.nx st'), pack st'), ⟨hnx st', zp⟩, F, (h3.up rel1).le hl, lk⟩
    · subst e; cases e2; exact ⟨st', F, h3.le hl, zp⟩
  · have e : i = items.length := by omega
    subst e
    rw [List.drop_length] at z2
    exact .inl ⟨itd.stops F2 H2 rel2.sub0 rel2.sub, (g (.nx st), pack st), ⟨hnx st, z2⟩, F2, rel2.up rel1, lk⟩
theorem ds_forS {J : Jd α} {it : Expr} {body rest : List Stmt} {pos : Pos} {τ : Type} (pack : τ → Env)
    (h : DI C ρ tg it m fun items ρ1 m1 => ∃ st0 f g, Le (pack st0) ρ1 ∧ m1 = (forS items st0 f).bind g ∧
      (∀ x st, DG C (fun _ => True) (pack st) tg x (f x st) fun ρ2 m2 => DSs C ρ2 body m2 (Jq pack)) ∧ (∀ st, DSs C (pack st) rest (g st) J))
    (hs : ∀ (env : PySem.Env) (x : Value), foldedSetIterable it env x = pure x := by intro _ _; rfl) : DSs C ρ (.For tg it body [] pos :: rest) m J := by
  intro X W Z x hK c z
  have hg : PG X tg fun v σ H Q => ∃ (W' : Wd) (τ' : Type) (Z' : R τ' → Prop) (i : R τ' × Env × D) (κ : Env → R τ' → Prop), (DG C (fun _ => True) i.2.1 tg i.2.2 i.1 κ ∧ W'.K = C.K ∧ Cl Z' ∧ Z' i.1) ∧ ∃ F, Rel W' i.2.1 σ H F ∧ Rp W'.K F v i.2.2 ∧ ∀ ρ' m' σ' H' F', κ ρ' m' → Z' m' → Rel W' ρ' σ' H' F' → Same F F' → (∀ vs, (∀ i, (fun _ : Nat => True) i → i ∈ vs) → wipe σ' vs = wipe σ vs) → Q σ' H' :=
    ⟨fun p s σ H v u Q I r ⟨W', _, Z', i, κ, ⟨pi, hK', c', z'⟩, q⟩ => (pi X W' Z' x hK' c' z').run p s σ H v u Q I r q⟩
  have hb : PSs X body fun D σ H => ∃ (W' : Wd) (τ' : Type) (Z' : R τ' → Prop) (i : R τ' × Env) (J' : Jd τ'), (DSs C i.2 body i.1 J' ∧ W'.K = C.K ∧ Cl Z' ∧ Z' i.1) ∧ ∃ F, Rel W' i.2 σ H F ∧ Lk W' J' Z' D :=
    ⟨fun p s σ H D I ⟨W', _, Z', i, J', ⟨pi, hK', c', z'⟩, q⟩ => (pi X W' Z' x hK' c' z').run p s σ H D I q⟩
  refine PSs_imp (pss_cons (ps_for x.own x.calm (h X W Z x hK c z) hg hb (hs _)) (rest_run (J := J) x hK c)) fun Dn σ H ⟨F, rl, lk⟩ => ?_
  refine ⟨F, rl, fun items ρ' m' Jt H1 F1 ⟨st0, f, g, hle, em, hf, hnx⟩ zm rel1 ss itd => ?_⟩
  subst em
  refine ⟨fun i n σ H => n = items.length - i ∧ i ≤ items.length ∧ ∃ st F2, Rel { W with F0 := F1 } (pack st) σ H F2 ∧ Z ((forS (items.drop i) st f).bind g), ⟨items.length, by simp, Nat.zero_le _, st0, F1, (rel1.le hle).down (Same.refl _) rel1, by simpa using zm⟩, ?_⟩
  rintro i n σ2 H2 ⟨rfl, hi, st, F2, rel2, z2⟩
  by_cases hlt : i < items.length
  · refine .inr ⟨itd.goes i F2 H2 hlt rel2.sub0 rel2.sub, fun σ H => ∃ st F3, Rel { W with F0 := F1 } (pack st) σ H F3 ∧ Z ((forS (items.drop (i + 1)) st f).bind g), fun σ3 H3 ⟨st3, F3, b, c3⟩ => ⟨_, by omega, rfl, hlt, st3, F3, b, c3⟩, fun v H3 y => ?_⟩
    obtain ⟨F3, d, hd, fx, pd⟩ := itd.yields i F2 H2 v H3 hlt rel2.sub0 rel2.sub y
    rw [forS_step hd, R.bind_assoc] at z2
    obtain ⟨fl, ef, zf⟩ := c.bind z2
    refine ⟨{ W with F0 := F1 }, τ, fun r => ∃ p, r = .ok p ∧ Z ((forS (items.drop (i + 1)) p f).bind g), (f d st, pack st, d), _, ⟨hf d st, hK, c.at _, fl, ef, zf⟩, F3, rel2.step fx, pd, fun ρ4 m4 σ4 H4 F4 h1 h2 h3 h4 _ => ?_⟩
    refine ⟨{ W with F0 := F1 }, τ, _, (m4, ρ4), Jq pack, ⟨h1, hK, c.at _, h2⟩, F4, h3, ⟨fun ρ m σ H F ⟨st', hl, e⟩ ⟨p, e2, zp⟩ h3 => ?_, fun _ _ _ _ _ _ _ h => h.elim, fun _ _ _ _ _ h => h.elim, fun ρ m σ H F ⟨st', hl, e⟩ ⟨p, e2, zp⟩ h3 => ?_, fun _ _ _ _ _ _ _ h => h.elim⟩⟩
    · subst e; cases e2; exact ⟨st', F, h3.le hl, zp⟩
    · subst e; cases e2; exact ⟨st', F, h3.le hl, zp⟩
  · have e : i = items.length := by omega
    subst e
    rw [List.drop_length] at z2
    exact .inl ⟨itd.stops F2 H2 rel2.sub0 rel2.sub, (g st, pack st), ⟨hnx st, z2⟩, F2, rel2.up rel1, lk⟩

/-! ### while -/
theorem ds_while {J : Jd α} {t : Expr} {body rest : List Stmt} {pos : Pos} {τ : Type} (pack : τ → Env) (n : Nat) (st0 : τ) {f : τ → R (Wl τ)} {g : Fl τ → R α} (hle : Le (pack st0) ρ) (hm : m = (whileT n st0 f).bind g)
    (h : ∀ st, DT C (pack st) t (f st) fun t ρ1 m1 => ∃ A B, m1 = (if t = true then A else B) ∧ DSs C ρ1 body A (Jw pack) ∧ ∃ st', Le (pack st') ρ1 ∧ B = .ok (.done st'))
    (hnx : ∀ st, DSs C (pack st) rest (g (.nx st)) J) (hrt : ∀ d st ρ', Le (pack st) ρ' → J.rt d ρ' (g (.rt d st))) : DSs C ρ (.While t body [] pos :: rest) m J := by
  intro X W Z x hK c z
  subst hm
  have ht : PT X t fun σ H Q => ∃ (W' : Wd) (τ' : Type) (Z' : R τ' → Prop) (i : R τ' × Env) (κ : Bool → Env → R τ' → Prop), (DT C i.2 t i.1 κ ∧ W'.K = C.K ∧ Cl Z' ∧ Z' i.1) ∧ ∃ F, Rel W' i.2 σ H F ∧ ∀ b ρ' m' H' F', κ b ρ' m' → Z' m' → Rel W' ρ' σ H' F' → Same F F' → Q b H' :=
    ⟨fun p s σ H Q I ⟨W', _, Z', i, κ, ⟨pi, hK', c', z'⟩, q⟩ => (pi X W' Z' x hK' c' z').run p s σ H Q I q⟩
  have hb : PSs X body fun D σ H => ∃ (W' : Wd) (τ' : Type) (Z' : R τ' → Prop) (i : R τ' × Env) (J' : Jd τ'), (DSs C i.2 body i.1 J' ∧ W'.K = C.K ∧ Cl Z' ∧ Z' i.1) ∧ ∃ F, Rel W' i.2 σ H F ∧ Lk W' J' Z' D :=
    ⟨fun p s σ H D I ⟨W', _, Z', i, J', ⟨pi, hK', c', z'⟩, q⟩ => (pi X W' Z' x hK' c' z').run p s σ H D I q⟩
  refine PSs_imp (pss_cons (ps_while x.own ht hb) (rest_run (J := J) x hK c)) fun Dn σ H ⟨F, rl, lk⟩ => ?_
  refine ⟨fun k σ H => ∃ st F2, Rel W (pack st) σ H F2 ∧ Z ((whileT k st f).bind g), ⟨n, st0, F, rl.le hle, z⟩, ?_⟩
  rintro k σ2 H2 ⟨st, F2, rel2, z2⟩
  cases k with
  | zero => exact (c.st z2).elim
  | succ k =>
    rw [whileT, R.bind_assoc] at z2
    obtain ⟨wl, ef, zf⟩ := c.bind z2
    refine ⟨W, Wl τ, fun r => ∃ p, r = .ok p ∧ Z ((match p with | .go s => whileT k s f | .done s => .ok (.nx s) | .rt d s => .ok (.rt d s)).bind g), (f st, pack st), _, ⟨h st, hK, c.at _, wl, ef, zf⟩, F2, rel2, fun b ρ3 m3 H3 F3 ⟨A, B, e, hA, st', hl, hB⟩ z3 rel3 s3 => ?_⟩
    subst e
    cases b with
    | false =>
      rw [if_neg Bool.false_ne_true] at z3
      obtain ⟨p, e2, zp⟩ := z3
      rw [hB] at e2
      cases e2
      rw [if_neg Bool.false_ne_true]
      exact ⟨(g (.nx st'), pack st'), ⟨hnx st', zp⟩, F3, rel3.le hl, lk⟩
    | true =>
      rw [if_pos rfl] at z3 ⊢
      refine ⟨fun σ H => ∃ st F2, Rel W (pack st) σ H F2 ∧ Z ((whileT k st f).bind g), fun σ' H' q => ⟨k, Nat.lt_succ_self k, q⟩, W, Wl τ, _, (A, ρ3), Jw pack, ⟨hA, hK, c.at _, z3⟩, F3, rel3, ⟨fun ρ m σ H F ⟨st', hl, e⟩ ⟨p, e2, zp⟩ h3 => ?_, fun d ρ m v σ H F ⟨st', hl, e⟩ ⟨p, e2, zp⟩ h3 h5 => ?_, fun ρ m σ H F ⟨st', hl, e⟩ ⟨p, e2, zp⟩ h3 => ?_, fun ρ m σ H F ⟨st', hl, e⟩ ⟨p, e2, zp⟩ h3 => ?_, fun _ _ _ _ _ _ _ h => h.elim⟩⟩
      · subst e; cases e2; exact ⟨st', F, h3.le hl, zp⟩
      · subst e; cases e2; exact lk.rt d ρ _ v σ H F (hrt d st' ρ hl) zp h3 h5
      · subst e; cases e2; exact ⟨(g (.nx st'), pack st'), ⟨hnx st', zp⟩, F, h3.le hl, lk⟩
      · subst e; cases e2; exact ⟨st', F, h3.le hl, zp⟩
end
end Z

set_option Elab.async false
set_option linter.all false
set_option maxRecDepth 100000
set_option autoImplicit false
/-! # Z6: comprehensions -/
namespace Z
open PySem L2

/-- the slots of a block's own names are empty -/
def wipeE (ρ : Env) : List Nat → Env
  | [] => ρ
  | v :: vs => (wipeE ρ vs).set v none
theorem wipeE_get {ρ : Env} {i : Nat} {sl : Sl} : ∀ {vs : List Nat}, (wipeE ρ vs)[i]? = some (some sl) → ρ[i]? = some (some sl) ∧ i ∉ vs
  | [], h => ⟨h, by simp⟩
  | v :: vs, h => by
    unfold wipeE at h
    rcases get_set h with ⟨_, _, e⟩ | ⟨e, h'⟩
    · cases e
    · obtain ⟨a, b⟩ := wipeE_get h'
      exact ⟨a, by simp only [List.mem_cons, not_or]; exact ⟨fun q => e q.symm, b⟩⟩
theorem Rel.wipe {W : Wd} {ρ : Env} {σ : L2.St} {H F : Hp} (r : Rel W ρ σ H F) : ∀ vs : List Nat, Rel W (wipeE ρ vs) (wipe σ vs) H F
  | [] => r
  | v :: vs => (r.wipe vs).forget v none

/-- the state at a turn, by itself: io are the addresses that the slots alone have -/
theorem Rel.turn {W : Wd} {ρ : Env} {σ : L2.St} {H F : Hp} (r : Rel W ρ σ H F) : ∃ io, Rel ⟨W.K, F, H, io⟩ ρ σ H F ∧ (∀ b ∈ io, b ∈ W.io ∨ W.H0 b = none) ∧ ∀ b ∈ io, ∃ o, H b = some o := by
  obtain ⟨ad, k⟩ := r.env
  refine ⟨((List.range ρ.length).filter fun i => (match ρ[i]? with | some (some _) => true | _ => false)).flatMap ad, ⟨r.sub, Same.refl _, fun b o h _ => h, fun b o h => .inl h, ⟨ad, fun i sl e => ?_⟩, r.len, fun b o h => ⟨o, h⟩⟩, fun b hb => ?_, fun b hb => ?_⟩
  · obtain ⟨v, h1, h2, h3, h4⟩ := k i sl e
    refine ⟨v, h1, h2, fun b hb => .inl (List.mem_flatMap.mpr ⟨i, List.mem_filter.mpr ⟨List.mem_range.mpr (List.getElem?_eq_some_iff.mp e).1, by rw [e]⟩, hb⟩), h4⟩
  · obtain ⟨i, hi, hb⟩ := List.mem_flatMap.mp hb
    obtain ⟨_, h2⟩ := List.mem_filter.mp hi
    cases e : ρ[i]? with
    | none => rw [e] at h2; cases h2
    | some q =>
      cases q with
      | none => rw [e] at h2; cases h2
      | some sl =>
        obtain ⟨v, _, _, h3, _⟩ := k i sl e
        exact h3 b hb
  · obtain ⟨i, hi, hb⟩ := List.mem_flatMap.mp hb
    obtain ⟨_, h2⟩ := List.mem_filter.mp hi
    cases e : ρ[i]? with
    | none => rw [e] at h2; cases h2
    | some q =>
      cases q with
      | none => rw [e] at h2; cases h2
      | some sl =>
        obtain ⟨v, _, h2, _, _⟩ := k i sl e
        cases sl with
        | val d => rw [h2.2] at hb; cases hb
        | own xs =>
          obtain ⟨p, vs, _, e2, h, _⟩ := h2
          rw [e2] at hb
          have : b = p := by simpa using hb
          subst this; exact ⟨_, h⟩
        | src a s =>
          obtain ⟨c, _, e2, _, _, _, h1, h3, _⟩ := h2
          rw [e2] at hb
          have : b = a ∨ b = c := by simpa using hb
          rcases this with rfl | rfl
          · exact ⟨_, h1⟩
          · exact ⟨_, h3⟩
        | scr ns =>
          obtain ⟨_, _, _, _, e2⟩ := h2
          rw [e2] at hb; cases hb
theorem Rel.unturn {W : Wd} {ρ ρ' : Env} {σ σ' : L2.St} {H F H' F' : Hp} {io : List Addr} (r' : Rel ⟨W.K, F, H, io⟩ ρ' σ' H' F') (r : Rel W ρ σ H F) (hio : ∀ b ∈ io, b ∈ W.io ∨ W.H0 b = none) : Rel W ρ' σ' H' F' := by
  have up : ∀ b, H b = none → W.H0 b = none := fun b h => by
    cases e : W.H0 b with
    | none => rfl
    | some u => obtain ⟨o, q⟩ := r.trk b u e; rw [h] at q; cases q
  refine ⟨r'.sub, r.sub0.trans r'.sub0, fun b o h hn => ?_, fun b o h => ?_, ?_, r'.len, fun b o h => ?_⟩
  · refine r'.keep b o (r.keep b o h hn) fun hb => ?_
    rcases hio b hb with q | q
    · exact hn q
    · rw [h] at q; cases q
  · rcases r'.fresh b o h with q | q | q
    · exact r.fresh b o q
    · exact .inr (.inl (up b q))
    · exact .inr ((hio b q).elim .inr .inl)
  · obtain ⟨ad, k⟩ := r'.env
    refine ⟨ad, fun i sl e => ?_⟩
    obtain ⟨v, h1, h2, h3, h4⟩ := k i sl e
    exact ⟨v, h1, h2, fun b hb => (h3 b hb).elim (hio b) fun q => .inr (up b q), h4⟩
  · obtain ⟨o', q⟩ := r.trk b o h
    exact r'.trk b o' q
/-- values alone -/
def ValOnly (ρ : Env) : Prop := ∀ (i : Nat) (sl : Sl), ρ[i]? = some (some sl) → ∃ d, sl = .val d
def valB : Env → Bool
  | [] => true
  | none :: r => valB r
  | some (.val _) :: r => valB r
  | _ => false
theorem valOnly_of : ∀ {ρ : Env}, valB ρ = true → ValOnly ρ
  | [], _, i, sl, e => by simp at e
  | none :: r, h, 0, sl, e => by simp at e
  | none :: r, h, i + 1, sl, e => valOnly_of (ρ := r) h i sl (by simpa using e)
  | some (.val d) :: r, h, 0, sl, e => by simp at e; exact ⟨d, e.symm⟩
  | some (.val d) :: r, h, i + 1, sl, e => valOnly_of (ρ := r) h i sl (by simpa using e)
  | some (.own _) :: r, h, _, _, _ => by cases h
  | some (.src _ _) :: r, h, _, _, _ => by cases h
  | some (.scr _) :: r, h, _, _, _ => by cases h
/-- values alone: nothing else is changed -/
theorem Rel.pure {W : Wd} {ρ : Env} {σ : L2.St} {H F : Hp} (r : Rel W ρ σ H F) (h : ValOnly ρ) : Rel ⟨W.K, F, H, []⟩ ρ σ H F := by
  refine ⟨r.sub, Same.refl _, fun b o h _ => h, fun b o h => .inl h, ⟨fun _ => [], fun i sl e => ?_⟩, r.len, fun b o h => ⟨o, h⟩⟩
  obtain ⟨ad, k⟩ := r.env
  obtain ⟨d, rfl⟩ := h i sl e
  obtain ⟨v, h1, h2, _, _⟩ := k i _ e
  exact ⟨v, h1, ⟨h2.1, rfl⟩, by simp, by simp⟩
theorem Rel.fx {K : PySem.W.Frag} {ρ' : Env} {σ' : L2.St} {H F H' F' : Hp} (r' : Rel ⟨K, F, H, []⟩ ρ' σ' H' F') : Fx F H F' H' :=
  ⟨r'.sub0, r'.sub, fun b o h => r'.keep b o h (by simp), fun b o h => (r'.fresh b o h).elim .inl fun q => q.elim .inr fun z => absurd z (by simp)⟩

section
variable {α : Type} {C : Ct} {ρ : Env} {m : R α}
def Ct.blk (C : Ct) (scope : Scope) : Ct := { C with sc := relS scope C.sc, fn := fun x => scope.names.lookup x == some .cell }
theorem XOk.blk {X : Cx} (x : XOk C X) {scope : Scope} (s : Shared) (H : Hp) (Ca : Addr) (cl : List (Str × Addr)) (fp : List Addr) : XOk (C.blk scope) (X.blk s H scope (compEnvC scope cl Ca X.env) fp) :=
  ⟨x.prog, x.w, x.K, x.mg, x.base, x.N, x.nd, by show relS scope X.env.scope = _; rw [x.sc]; rfl, x.calm, x.room, x.grd, PassesOwn.never, fun _ h => h⟩

def DTs {α : Type} (C : Ct) (ρ : Env) (es : List Expr) (m : R α) (κ : Bool → Env → R α → Prop) : Prop :=
  ∀ (X : Cx) (W : Wd) (Z : R α → Prop), XOk C X → W.K = C.K → Cl Z → Z m →
    PTs X es fun σ H Q => ∃ F, Rel W ρ σ H F ∧ ∀ b ρ' m' H' F', κ b ρ' m' → Z m' → Rel W ρ' σ H' F' → Same F F' → Q b H'
theorem PTs_imp {X : Cx} {e : List Expr} {t t' : TT} (h : PTs X e t) (i : ∀ σ H Q, t' σ H Q → t σ H Q) : PTs X e t' := ⟨fun p s σ H Q I q => h.run p s σ H Q I (i σ H Q q)⟩
theorem dts_nil {κ : Bool → Env → R α → Prop} (k : κ true ρ m) : DTs C ρ [] m κ := fun X W Z x hK c z => PTs_imp pts_nil fun σ H Q ⟨F, r, q⟩ => q _ ρ m H F k z r (Same.refl _)
theorem dts_one {κ : Bool → Env → R α → Prop} {e : Expr} (h : DT C ρ e m κ) : DTs C ρ [e] m κ := fun X W Z x hK c z => pts_one (h X W Z x hK c z)
theorem tsplit {P Q : R α → Prop} {t : Bool} {m1 A B : R α} (h : m1 = (if t = true then A else B)) (hA : P A) (hB : Q B) : (t = true → P m1) ∧ (t = false → Q m1) := by
  subst h
  cases t with
  | true => exact ⟨(fun _ => hA), (fun e => nomatch e)⟩
  | false => exact ⟨(fun e => nomatch e), (fun _ => hB)⟩

theorem compP_step {items : List D} {i : Nat} {d : D} (h : items[i]? = some d) (f : D → R (Option D)) : compP (items.drop i) f = (f d).bind fun p => (compP (items.drop (i + 1)) f).bind fun q =>
    match p with
    | some y => .ok (y :: q)
    | none => .ok q := by
  have : items.drop i = d :: items.drop (i + 1) := by
    obtain ⟨hl, e⟩ := List.getElem?_eq_some_iff.mp h
    rw [List.drop_eq_getElem_cons hl, e]
  rw [this]; rfl
theorem compT_step {τ : Type} {items : List D} {i : Nat} {d : D} (h : items[i]? = some d) (st : τ) (f : D → τ → R (Option D × τ)) : compT (items.drop i) st f = (f d st).bind fun p => (compT (items.drop (i + 1)) p.2 f).bind fun q =>
    match p.1 with
    | some y => .ok (y :: q.1, q.2)
    | none => .ok (q.1, q.2) := by
  have : items.drop i = d :: items.drop (i + 1) := by
    obtain ⟨hl, e⟩ := List.getElem?_eq_some_iff.mp h
    rw [List.drop_eq_getElem_cons hl, e]
  rw [this]; rfl

theorem wipe_wipe {σ : L2.St} {vs : List Nat} : wipe (wipe σ vs) vs = wipe σ vs := by
  have key : ∀ (us : List Nat) (τ : L2.St) (k : Nat), (wipe τ us)[k]? = if k ∈ us then (τ[k]?.map fun _ => none) else τ[k]? := by
    intro us τ k
    induction us with
    | nil => simp [wipe]
    | cons u us ih =>
      unfold wipe
      rw [List.getElem?_set, ih]
      by_cases e : u = k
      · subst e
        have hl : (wipe τ us).length = τ.length := wipe_length τ us
        by_cases hk : u < τ.length
        · simp [hl, hk]
        · simp [hl, hk]
      · have e' : ¬ k = u := fun q => e q.symm
        simp [e, e']
  refine List.ext_getElem? fun j => ?_
  rw [key, key]
  by_cases h : j ∈ vs
  · simp only [h, if_true, Option.map_map]; rfl
  · simp only [h, if_false]
/-- the values of a row of slots -/
structure VRel (K : PySem.W.Frag) (F : Hp) (ρ : Env) (σ : L2.St) : Prop where
  ref : ∀ (i : Nat) (d : D), ρ[i]? = some (some (.val d)) → ∃ v, σ[i]? = some (some v) ∧ Rp K F v d
  len : ρ.length ≤ σ.length
theorem Rel.vrel {W : Wd} {ρ : Env} {σ : L2.St} {H F : Hp} (r : Rel W ρ σ H F) : VRel W.K F ρ σ := ⟨fun i d e => r.val e, r.len⟩
theorem VRel.mono {K : PySem.W.Frag} {F F' : Hp} {ρ : Env} {σ : L2.St} (r : VRel K F ρ σ) (e : Same F F') : VRel K F' ρ σ := ⟨fun i d h => let ⟨v, a, b⟩ := r.ref i d h; ⟨v, a, b.mono e⟩, r.len⟩
theorem VRel.rel {K : PySem.W.Frag} {F H : Hp} {ρ : Env} {σ : L2.St} (r : VRel K F ρ σ) (h : ValOnly ρ) (e : Same F H) : Rel ⟨K, F, H, []⟩ ρ σ H F := by
  refine ⟨e, Same.refl _, fun b o h _ => h, fun b o h => .inl h, ⟨fun _ => [], fun i sl q => ?_⟩, r.len, fun b o h => ⟨o, h⟩⟩
  obtain ⟨d, rfl⟩ := h i sl q
  obtain ⟨v, a, b⟩ := r.ref i d q
  exact ⟨v, a, ⟨b, rfl⟩, by simp, by simp⟩
theorem RpAll.snoc {K : PySem.W.Frag} {F : Hp} {vs : List V} {ds : List D} {v : V} {d : D} (r : RpAll K F vs ds) (h : Rp K F v d) : RpAll K F (vs ++ [v]) (ds ++ [d]) := r.append (.cons h .nil)

theorem compL_ok {xs : List D} {f : D → R (Option D)} {q : List D} (h : compL xs f = .ok q) : xs.length < 16777216 ∧ compP xs f = .ok q := by
  unfold compL at h
  split at h
  · rename_i e; exact ⟨of_decide_eq_true e, h⟩
  · cases h
theorem compS_ok {τ : Type} {xs : List D} {st : τ} {f : D → τ → R (Option D × τ)} {q : List D × τ} (h : compS xs st f = .ok q) : xs.length < 16777216 ∧ compT xs st f = .ok q := by
  unfold compS at h
  split at h
  · rename_i e; exact ⟨of_decide_eq_true e, h⟩
  · cases h
/-- the readings of a comprehension whose element changes nothing, and what they ask -/
theorem lcP_main {κ : D → Env → R α → Prop} {tg it elt : Expr} {ifs : List Expr} {scope : Scope} {vs : List Nat} {X : Cx} {W : Wd} {Z : R α → Prop} (x : XOk C X) (hK : W.K = C.K) (c : Cl Z) (z : Z m)
    (h : DI C ρ tg it m fun items ρ1 m1 => ∃ ρb f g, Le ρb (wipeE ρ1 vs) ∧ valB ρb = true ∧ m1 = (compL items f).bind g ∧
      (∀ y, DG (C.blk scope) (fun i => i ∈ vs) ρb tg y (f y) fun ρ2 m2 => DTs (C.blk scope) ρ2 ifs m2 fun t ρ3 m3 =>
        (t = true → DE (C.blk scope) ρ3 elt m3 fun d ρ4 m4 => m4 = .ok (some d)) ∧ (t = false → m3 = .ok none)) ∧
      ∀ ys, κ (.list ys) ρ1 (g ys)) :
    ∃ wi g tt te, PI X tg it wi ∧ (∀ (s : Shared) (H : Hp) (Ca : Addr) (cl : List (Str × Addr)) (fp : List Addr), PG (X.blk s H scope (compEnvC scope cl Ca X.env) fp) tg g) ∧
      (∀ (s : Shared) (H : Hp) (Ca : Addr) (cl : List (Str × Addr)) (fp : List Addr), PTs (X.blk s H scope (compEnvC scope cl Ca X.env) fp) ifs tt) ∧
      (∀ (s : Shared) (H : Hp) (Ca : Addr) (cl : List (Str × Addr)) (fp : List Addr), PE (X.blk s H scope (compEnvC scope cl Ca X.env) fp) elt te) ∧
      ∀ σ H Q, (∃ F, Rel W ρ σ H F ∧ ∀ d ρ' m' v H' F', κ d ρ' m' → Z m' → Rel W ρ' σ H' F' → Same F F' → Rp W.K F' v d → Q v H') → tLc wi g tt te vs σ H Q := by
  refine ⟨_, fun v σ H Q => ∃ (W' : Wd) (τ' : Type) (Z' : R τ' → Prop) (i : R τ' × Env × D) (κ : Env → R τ' → Prop), (DG (C.blk scope) (fun i => i ∈ vs) i.2.1 tg i.2.2 i.1 κ ∧ W'.K = C.K ∧ Cl Z' ∧ Z' i.1) ∧ ∃ F, Rel W' i.2.1 σ H F ∧ Rp W'.K F v i.2.2 ∧ ∀ ρ' m' σ' H' F', κ ρ' m' → Z' m' → Rel W' ρ' σ' H' F' → Same F F' → (∀ us, (∀ i, i ∈ vs → i ∈ us) → wipe σ' us = wipe σ us) → Q σ' H',
    fun σ H Q => ∃ (W' : Wd) (τ' : Type) (Z' : R τ' → Prop) (i : R τ' × Env) (κ : Bool → Env → R τ' → Prop), (DTs (C.blk scope) i.2 ifs i.1 κ ∧ W'.K = C.K ∧ Cl Z' ∧ Z' i.1) ∧ ∃ F, Rel W' i.2 σ H F ∧ ∀ b ρ' m' H' F', κ b ρ' m' → Z' m' → Rel W' ρ' σ H' F' → Same F F' → Q b H',
    fun σ H Q => ∃ (W' : Wd) (τ' : Type) (Z' : R τ' → Prop) (i : R τ' × Env) (κ : D → Env → R τ' → Prop), (DE (C.blk scope) i.2 elt i.1 κ ∧ W'.K = C.K ∧ Cl Z' ∧ Z' i.1) ∧ ∃ F, Rel W' i.2 σ H F ∧ ∀ d ρ' m' v H' F', κ d ρ' m' → Z' m' → Rel W' ρ' σ H' F' → Same F F' → Rp W'.K F' v d → Q v H', h X W Z x hK c z, ?_, ?_, ?_, ?_⟩
  · exact fun s H Ca cl fp => ⟨fun p s' σ H v u Q I r ⟨W', _, Z', i, κ, ⟨pi, hK', c', z'⟩, q⟩ => (pi _ W' Z' (x.blk s _ Ca cl fp) hK' c' z').run p s' σ H v u Q I r q⟩
  · exact fun s H Ca cl fp => ⟨fun p s' σ H Q I ⟨W', _, Z', i, κ, ⟨pi, hK', c', z'⟩, q⟩ => (pi _ W' Z' (x.blk s _ Ca cl fp) hK' c' z').run p s' σ H Q I q⟩
  · exact fun s H Ca cl fp => ⟨fun p s' σ H Q I ⟨W', _, Z', i, κ, ⟨pi, hK', c', z'⟩, q⟩ => (pi _ W' Z' (x.blk s _ Ca cl fp) hK' c' z').run p s' σ H Q I q⟩
  rintro σ H Q ⟨F, rl, q⟩
  refine ⟨F, rl, fun items ρ1 m1 J H1 F1 ⟨ρb, f, g, hle, hv, em, hf, hk⟩ zm rel1 ss itd Da hDa => ?_⟩
  subst em
  obtain ⟨qs0, eq0, zq0⟩ := c.bind zm
  obtain ⟨hlen, eq0⟩ := compL_ok eq0
  have vo := valOnly_of hv
  have hF1D : F1 Da = none := rel1.sub.free hDa
  have v1 : VRel W.K F1 ρb (wipe σ vs) := ((rel1.wipe vs).le hle).vrel
  refine ⟨fun i n H => n = items.length - i ∧ i ≤ items.length ∧ ∃ Fi acc ds qs, H Da = some (.lst acc) ∧ Fi Da = none ∧ RpAll W.K Fi acc ds ∧ acc.length ≤ i ∧ Same F1 Fi ∧ Same Fi H ∧ Same H1 H ∧ (∀ b o, Fi b = some o → F1 b = some o ∨ H1 b = none) ∧ compP (items.drop i) f = .ok qs ∧ Z (g (ds ++ qs)),
    ⟨items.length, by simp, Nat.zero_le _, F1, [], [], qs0, upd_same, hF1D, .nil, Nat.le_refl _, Same.refl _, fun b o e => by rw [upd_ne (ne_of_none e hF1D)]; exact rel1.sub b o e, fun b o e => by rw [upd_ne (ne_of_none e hDa)]; exact e, fun _ _ e => .inl e, by simpa using eq0, by simpa using zq0⟩, ?_⟩
  rintro i n H2 ⟨rfl, hi, Fi, acc, ds, qs, hD, hFD, racc, hal, s1i, sih, s1h, fri, eqs, zqs⟩
  by_cases hlt : i < items.length
  · refine .inr ⟨itd.goes i Fi H2 hlt s1i sih, fun H => ∃ Fi acc ds qs, H Da = some (.lst acc) ∧ Fi Da = none ∧ RpAll W.K Fi acc ds ∧ acc.length ≤ i + 1 ∧ Same F1 Fi ∧ Same Fi H ∧ Same H1 H ∧ (∀ b o, Fi b = some o → F1 b = some o ∨ H1 b = none) ∧ compP (items.drop (i + 1)) f = .ok qs ∧ Z (g (ds ++ qs)),
      fun H' hh => ⟨_, by omega, rfl, hlt, hh⟩, fun v H3 y => ?_⟩
    obtain ⟨F3, d, hd, fx, pd⟩ := itd.yields i Fi H2 v H3 hlt s1i sih y
    rw [compP_step hd] at eqs
    obtain ⟨p, ep, eqs⟩ := R.bind_eq_ok eqs
    obtain ⟨q2, eq2, eqs⟩ := R.bind_eq_ok eqs
    have clp : Cl fun r : R (Option D) => r = .ok p := ⟨(fun e => nomatch e), (fun _ _ e => nomatch e)⟩
    refine ⟨⟨W.K, F3, H3, []⟩, Option D, fun r => r = .ok p, (f d, ρb, d), _, ⟨hf d, hK, clp, ep⟩, F3, (v1.mono (s1i.trans fx.ff)).rel vo fx.fh, pd, fun ρ2 m2 σ4 H4 F4 h1 h2 h3 h4 hw => ⟨(hw vs fun _ h => h).trans wipe_wipe, ?_⟩⟩
    refine ⟨⟨W.K, F3, H3, []⟩, Option D, fun r => r = .ok p, (m2, ρ2), _, ⟨h1, hK, clp, h2⟩, F4, h3, fun b ρ3 m3 H5 F5 k1 k2 k3 k4 => ?_⟩
    have grow : ∀ {H6 F6 : Hp}, Fx F3 H3 F6 H6 → H6 Da = some (.lst acc) ∧ F6 Da = none ∧ Same F1 F6 ∧ Same H1 H6 ∧ (∀ b o, F6 b = some o → F1 b = some o ∨ H1 b = none) ∧ Same Fi F6 := fun {H6 F6} f6 => by
      have fa := fx.trans f6
      exact ⟨fa.hh _ _ hD, fa.none hFD hD, s1i.trans fa.ff, s1h.trans fa.hh, fun b o e => (fa.new b o e).elim (fun q => fri b o q) fun q => .inr (s1h.free q), fa.ff⟩
    cases b with
    | false =>
      show (if false = true then _ else _)
      rw [if_neg Bool.false_ne_true]
      obtain ⟨g1, g2, g3, g4, g5, g6⟩ := grow k3.fx
      have e3 := k1.2 rfl
      rw [k2] at e3
      cases e3
      cases eqs
      exact ⟨F5, acc, ds, _, g1, g2, racc.mono g6, Nat.le_succ_of_le hal, g3, k3.sub, g4, g5, eq2, zqs⟩
    | true =>
      show (if true = true then _ else _)
      rw [if_pos rfl]
      refine ⟨⟨W.K, F3, H3, []⟩, Option D, fun r => r = .ok p, (m3, ρ3), _, ⟨k1.1 rfl, hK, clp, k2⟩, F5, k3, fun dd ρ4 m4 vv H6 F6 j1 j2 j3 j4 j5 => ?_⟩
      obtain ⟨g1, g2, g3, g4, g5, g6⟩ := grow j3.fx
      rw [j2] at j1
      cases j1
      cases eqs
      have hz : acc.length < 16777216 := by omega
      refine ⟨acc, g1, by rw [sizeLine_eq]; exact hz, F6, acc ++ [vv], ds ++ [dd], q2, upd_same, g2, (racc.mono g6).snoc j5, by simp; omega, g3, fun b o e => by rw [upd_ne (ne_of_none e g2)]; exact j3.sub b o e, fun b o e => by rw [upd_ne (ne_of_none e hDa)]; exact g4 b o e, g5, eq2, by simpa using zqs⟩
  · have e : i = items.length := by omega
    subst e
    rw [List.drop_length] at eqs
    cases eqs
    rw [List.append_nil] at zqs
    refine .inl ⟨itd.stops Fi H2 s1i sih, ?_⟩
    have fx : Fx F1 H1 (upd Fi Da (.lst acc)) H2 := ⟨fun b o e => by rw [upd_ne (ne_of_none e hF1D)]; exact s1i b o e, fun b o e => by
      by_cases hb : b = Da
      · subst hb; rw [upd_same] at e; rw [hD]; exact e
      · rw [upd_ne hb] at e; exact sih b o e, s1h, fun b o e => by
      by_cases hb : b = Da
      · subst hb; exact .inr hDa
      · rw [upd_ne hb] at e; exact fri b o e⟩
    exact q _ ρ1 _ _ H2 _ (hk ds) zqs (rel1.step fx) (ss.trans fx.ff) (.lst upd_same (racc.mono fun b o e => by rw [upd_ne (ne_of_none e hFD)]; exact e))

/-- [e for tg in it if ..], the element changes nothing -/
theorem de_lcP {κ : D → Env → R α → Prop} {tg it elt : Expr} {ifs : List Expr} {scope : Scope} {pos : Pos} (own : List (Str × Nat)) (ok : blkC C.N C.sc scope own = true)
    (h : DI C ρ tg it m fun items ρ1 m1 => ∃ ρb f g, Le ρb (wipeE ρ1 (own.map (·.2))) ∧ valB ρb = true ∧ m1 = (compL items f).bind g ∧
      (∀ y, DG (C.blk scope) (fun i => i ∈ own.map (·.2)) ρb tg y (f y) fun ρ2 m2 => DTs (C.blk scope) ρ2 ifs m2 fun t ρ3 m3 =>
        (t = true → DE (C.blk scope) ρ3 elt m3 fun d ρ4 m4 => m4 = .ok (some d)) ∧ (t = false → m3 = .ok none)) ∧
      ∀ ys, κ (.list ys) ρ1 (g ys)) (hs : ∀ (env : PySem.Env) (x : Value), foldedSetIterable it env x = pure x := by intro _ _; rfl) : DE C ρ (.ListComp elt [⟨tg, it, ifs, 0⟩] scope pos) m κ := by
  intro X W Z x hK c z
  obtain ⟨wi, g, tt, te, h1, h2, h3, h4, h5⟩ := lcP_main (vs := own.map (·.2)) x hK c z h
  exact PE_imp (pe_lc x.calm (by rw [x.N]; exact x.nd) h1 (blkOk_by (by rw [x.N, x.sc]; exact ok)) h2 h3 h4 (hs _)) h5
/-- y = [..], y a local, on one line -/
theorem ds_setLcP {J : Jd α} {n : Str} {tg it elt : Expr} {ifs : List Expr} {scope : Scope} {p pos cpos : Pos} {rest : List Stmt} (i : Nat) (own : List (Str × Nat)) (ok : blkC C.N C.sc scope own = true)
    (h : DI C ρ tg it m fun items ρ1 m1 => ∃ ρb f g, Le ρb (wipeE ρ1 (own.map (·.2))) ∧ valB ρb = true ∧ m1 = (compL items f).bind g ∧
      (∀ y, DG (C.blk scope) (fun i => i ∈ own.map (·.2)) ρb tg y (f y) fun ρ2 m2 => DTs (C.blk scope) ρ2 ifs m2 fun t ρ3 m3 =>
        (t = true → DE (C.blk scope) ρ3 elt m3 fun d ρ4 m4 => m4 = .ok (some d)) ∧ (t = false → m3 = .ok none)) ∧
      ∀ ys, DSs C (ρ1.set i (some (.val (.list ys)))) rest (g ys) J) (hN : C.N[i]? = some n := by rfl) (hy : C.sc.names.lookup n = some .local := by rfl)
    (hsw : ∀ env : PySem.Env, env.scope = C.sc → swapsWith (.ListComp elt [⟨tg, it, ifs, 0⟩] scope cpos) (some (.Name n p)) pos.line env = pure true)
    (hs : ∀ (env : PySem.Env) (x : Value), foldedSetIterable it env x = pure x := by intro _ _; rfl) : DSs C ρ (.Assign [.Name n p] (.ListComp elt [⟨tg, it, ifs, 0⟩] scope cpos) pos :: rest) m J := by
  intro X W Z x hK c z
  obtain ⟨wi, g, tt, te, h1, h2, h3, h4, h5⟩ := lcP_main (κ := fun d ρ1 m1 => DSs C (ρ1.set i (some (.val d))) rest m1 J) (vs := own.map (·.2)) x hK c z h
  refine PSs_imp (pss_cons (ps_setLc (i := i) x.calm (by rw [x.N]; exact x.nd) (by rw [x.N]; exact hN) (by rw [x.sc]; exact hy) (hsw _ x.sc) h1 (blkOk_by (by rw [x.N, x.sc]; exact ok)) h2 h3 h4 (hs _)) (rest_run (J := J) x hK c)) fun Dn σ H ⟨F, r, l⟩ => ?_
  exact h5 σ H (fun y H1 => ∃ j : R α × Env, (DSs C j.2 rest j.1 J ∧ Z j.1) ∧ ∃ F, Rel W j.2 (σ.set i (some y)) H1 F ∧ Lk W J Z Dn) ⟨F, r, fun d ρ' m' v H' F' k1 k2 k3 k4 k5 => ⟨(m', _), ⟨k1, k2⟩, F', k3.set i k5, l⟩⟩
end
end Z

set_option Elab.async false
set_option linter.all false
set_option maxRecDepth 100000
set_option autoImplicit false
/-! # ZG: defs where nothing is being shown (repr), the head of the law with it -/
namespace Z
open PySem L2 PySem.Spec PyProof.Rows

/-- what a def promises to a caller for whom no repr is under way -/
structure FnG (P : Program) (w : World) (K : PySem.W.Frag) (mg : Str → Option Value) (base : Heap) (Cx : CXT) (k : Nat) (f : Addr) (fd : FuncData) (ps : List Str) (sp : Sp) : Prop where
  len : ∀ vs H Q E, sp vs H Q E → vs.length = ps.length
  run : ∀ (A : Around) (out : List PySem.Env) (s : Shared) (H : Hp) (ar : Args) (us : List Value) (vs : List V) (Q : VK) (E : XK),
    A.guards = some [] → Room k A → Env0 P w K mg base A out s H → BindsTo s fd ar (ps.zip us) → Vals vs us → sp vs H Q E → codeAny (model P w) A (.call (.ref f) ar) (CR Cx out P w H s Q E) s
theorem FnG.mono {P : Program} {w : World} {K : PySem.W.Frag} {mg : Str → Option Value} {base : Heap} {Cx : CXT} {i j : Nat} {f : Addr} {fd : FuncData} {ps : List Str} {sp : Sp} (G : FnG P w K mg base Cx i f fd ps sp) (le : i ≤ j) : FnG P w K mg base Cx j f fd ps sp where
  len := G.len
  run := fun A out s H ar us vs Q E gd rm => G.run A out s H ar us vs Q E gd (rm.mono le)

/-- by the body -/
theorem okG {P : Program} {w : World} {K : PySem.W.Frag} {mg : Str → Option Value} {base : Heap} {Cx : CXT} {nm qual : Str} {st : Stmt} {f : Addr} {fd : FuncData} {N ps : List Str} {k : Nat} {sp : Sp} (F : Fun K nm qual st f fd) (S : FnScope N ps (defScope st))
    (ln : ∀ vs H Q E, sp vs H Q E → vs.length = ps.length)
    (body : ∀ (cv : Value) (A : Around) (out : List PySem.Env) (s : Shared) (H : Hp) (vs : List V) (Q : VK) (E : XK), A.guards = some [] → Room k (A.deeper (envOfC qual (defScope st) s.heap.objs.size f cv)) → sp vs H Q E →
      ∃ t, PSs (cxOf Cx P w K mg base N qual (defScope st) f cv A out s H E) (defBody st) t ∧ t { nx := fun _ H' => Q .non H', rt := Q } (L2.start N vs) H) : FnG P w K mg base Cx (k + 1) f fd ps sp := by
  obtain ⟨_, _, _, _, _, _, cv, _, _, rfl, look, hc⟩ := F.ex
  refine ⟨ln, fun A out s H ar us vs Q E gd rm e0 bd rel hp => ?_⟩
  have nvs := ln _ _ _ _ hp
  have there : ∀ b o, base.get? b = some o → s.heap.get? b = some o := fun b o e => (e0.bs b o e).1
  have kin : K.In s.heap := e0.mod.kin.keeps there
  have nolim := e0.mod.nolimit.keeps there
  have kinds : ∀ z ∈ ps.zip us, (defScope st).names.lookup z.1 = some .local ∨ ((defScope st).names.lookup z.1 = some .cell ∧ ((cellsFrom (s.heap.objs.size + 1) (defScope st).names []).lookup z.1).isSome = true) := by
    intro ⟨a, b⟩ hz
    exact (S.par a (List.of_mem_zip hz).1).imp id fun q => ⟨q, PySem.W.cellsFrom_some _ _ _ (.inl q)⟩
  refine codeAny_call_function rm.depth (kin _ _ look) rfl S.co S.gen rfl (PySem.W.codeRec_of kin hc) (bd _ _ _ _ (wpAny_newFunctionEnv_cells S.kind kinds fun env eq s1 ic => ?_))
  subst eq
  obtain ⟨t, run, ask⟩ := body cv A out s H vs Q E gd (rm.deeper _) hp
  refine ⟨nolim.keeps ic.toInCall.keep, codeAny_func (wpAny_mono (run.run [] s1 (L2.start N vs) H _ (inv_start S rm.hd e0 nvs rel ic) ask) (fun fl s2 done => ?_) fun _ _ z => z)⟩
  match fl, done with
  | .ret u, ⟨v, τ, H2, J, rv, q⟩ => exact ⟨v, H2, J.os, J.bare, J.base, J.hok, rv, q⟩
  | .next, ⟨τ, H2, J, q⟩ => exact ⟨V.non, H2, J.os, J.bare, J.base, J.hok, rfl, q⟩
  | .brk, ⟨_, _, _, q⟩ => exact q.elim
  | .cont, ⟨_, _, _, q⟩ => exact q.elim

section
variable {X : Cx} {Cy : CXT} {k : Nat} {f : Addr} {fd : FuncData} {ps : List Str} {sp : Sp} {E : XK} {x : Str} {p pos : Pos} {e : Expr} {es : List Expr} {t : TA}
theorem runG {pins : List (Addr × Obj)} {σ : L2.St} {H : Hp} {s : Shared} {Q : VK} {us : List Value} {vs : List V} (G : FnG X.prog X.w X.K X.mg X.base Cy k f fd ps sp) (gd : X.A.guards = some []) (rm : Room k X.A) (bd : Binds X.K fd ps []) (pass : Passes Cy X E)
    (I : Inv X pins σ H s) (rel : Vals vs us) (ask : sp vs H Q E) : wpAny (model X.prog X.w) X.A (call (.ref f) us) (EP X pins σ Q) X.xe s := by
  have nus : us.length = ps.length := by rw [← rel.length]; exact G.len _ _ _ _ ask
  have bs := bd s us I.kIn (by rw [List.append_nil]; exact nus)
  rw [List.append_nil] at bs
  refine wpAny_call (codeAny_mono (G.run X.A X.stack s H ⟨us, []⟩ us vs Q E gd rm I.env0 bs rel ask) fun r s2 done => ?_)
  match r, done with
  | .error e, z => exact pass pins σ H s e s2 I z
  | .ok (.ret u), z => exact I.after z
/-- f(e, ..) -/
theorem pe_callG (G : FnG X.prog X.w X.K X.mg X.base Cy k f fd ps sp) (gd : X.A.guards = some []) (rm : Room k X.A) (hg : Gl X x) (hm : X.mg x = some (.ref f)) (kp : PySem.W.keepIn X.K (.ref f) = true) (bd : Binds X.K fd ps []) (pass : Passes Cy X E)
    (ha : PA X (e :: es) t) (nd : (x == ("__debug__" : Str)) = false) (he : starEach (e :: es) X.env = (false, eval e X.env) :: starEach es X.env) (hpl : (backTo pos (starEach es X.env)).any (·.1) = false) :
    PE X (.Call (.Name x p) (e :: es) [] pos) (fun σ H Q => t σ H fun vs H1 => sp vs H1 Q E) where
  run := fun pins s σ H Q I ask => wpAny_Call_Name_kw (ld_glob I hg hm (PySem.W.callWith_K (h₀ := X.base) I.ok.mod.kin kp (thn (ha.run pos pins s σ H _ I ask) fun us s1 ⟨vs, H1, I1, rel, q⟩ => ⟨I1.kIn, runG G gd rm bd pass I1 rel q⟩) he hpl) nd)
end

/-! ### the head -/
/-- the heap in which the law is entered: of what is tracked there is the script alone, if it is no object of the module -/
def entryH (K : PySem.W.Frag) (a : Addr) (o : Obj) (ns : List Int) : Hp := fun b => if b = a ∧ K.lookup a = none then some (.frz o (.lst (ns.map V.int))) else none
theorem entryH_some {K : PySem.W.Frag} {a b : Addr} {o : Obj} {ns : List Int} {u : HO} (h : entryH K a o ns b = some u) : b = a ∧ K.lookup a = none ∧ u = .frz o (.lst (ns.map V.int)) := by
  unfold entryH at h
  split at h
  · rename_i e; cases h; exact ⟨e.1, e.2, rfl⟩
  · cases h
theorem headG {P : Program} {w : World} {K : PySem.W.Frag} {mg mb : Str → Option Value} {k : Nat} {fa a : Addr} {fd : FuncData} {x : Str} {sp : Sp} {s : Shared} {us : List Value} {ns : List Int}
    (kin : K.In s.heap) (nm : s.heap.Ns mainGlobals mg) (nb : s.heap.Ns builtinsNs mb) (bb : ∀ x : Str, x ≠ "__name__" → mb x = bootBuiltins x) (nl : s.heap.NoLimit) (ng : s.gens = #[])
    (obj : s.heap.get? a = some { cls := .type "list", data := .seq us.toArray }) (ia : IntsAre us ns) (hl : ns.length ≤ sizeLine) (rm : Room k callerA)
    (G : ∀ base : Heap, K.In base → base.Ns mainGlobals mg → FnG P w K mg base CX0 k fa fd [x] sp) (bd : ∀ (s : Shared) (u : Value), BindsTo s fd ⟨[u], []⟩ [(x, u)])
    (hsp : ∀ H : Hp, SqL K H a (ns.map V.int) → sp [.ref a] H (fun v _ => v = .bl true) E0) :
    codeAny (model P w) callerA (.call (.ref fa) ⟨[.ref a], []⟩) (fun r s' => r = .ok (.ret (.bool true)) ∧ OldK s.heap s'.heap ∧ s'.os = s.os ∧ AllBare s'.gens) s := by
  have rv : Vals (ns.map V.int) us := vals_ints ia
  have lu := ia.length
  generalize ho : ({ cls := .type "list", data := .seq us.toArray } : Obj) = o at obj
  have sq : SqL K (entryH K a o ns) a (ns.map V.int) := by
    cases hk : K.lookup a with
    | none => exact .inl (.inr ⟨o, by unfold entryH; rw [if_pos ⟨rfl, hk⟩]⟩)
    | some o2 =>
      have e := kin a o2 hk
      rw [obj] at e
      cases e
      subst ho
      exact .inr ⟨_, us.toArray, _, hk, rfl, rfl, rfl, by rw [List.size_toArray, lu]; exact hl, by simpa using rv⟩
  have hok : HOk P w (entryH K a o ns) s.heap := fun b u z => by
    obtain ⟨rfl, _, rfl⟩ := entryH_some z
    subst ho
    show s.heap.get? b = some _ ∧ _
    exact ⟨obj, by rw [List.length_map]; exact hl, us, _, rv, obj⟩
  have keep : ∀ {b : Addr} {o' : Obj}, s.heap.get? b = some o' → entryH K a o ns b = none → (hidT s.heap (entryH K a o ns)).get? b = some o' := fun e n => hidT_get e n
  have nodict : ∀ {b : Addr} {o' : Obj} {es : Array DictEntry} {ep : Nat}, s.heap.get? b = some o' → o'.data = .dict es ep → entryH K a o ns b = none := fun {b o' es ep} e d => by
    cases q : entryH K a o ns b with
    | none => rfl
    | some u =>
      obtain ⟨rfl, _, _⟩ := entryH_some q
      rw [obj] at e
      cases e
      subst ho
      cases d
  have ns' : ∀ {b : Addr} {m : Str → Option Value}, s.heap.Ns b m → (hidT s.heap (entryH K a o ns)).Ns b m := fun ⟨o', es, ep, e, d, r⟩ => ⟨o', es, ep, keep e (nodict e d), d, r⟩
  have kb : K.In (hidT s.heap (entryH K a o ns)) := fun b o' e => keep (kin b o' e) (by
    cases q : entryH K a o ns b with
    | none => rfl
    | some u =>
      obtain ⟨rfl, z, _⟩ := entryH_some q
      rw [z] at e; cases e)
  have md : Mod K mg (hidT s.heap (entryH K a o ns)) := ⟨kb, ns' nm, ⟨mb, ns' nb, bb⟩, let ⟨m, h1, h2⟩ := nl; ⟨m, ns' h1, h2⟩⟩
  have e0 : Env0 P w K mg (hidT s.heap (entryH K a o ns)) callerA [] s (entryH K a o ns) := ⟨rfl, md, fun b o' e => of_hidT e, Nat.le_of_eq (hidT_size _ _), trivial, fun b hb => absurd (show b ∈ ([] : List Addr) from hb) (by simp), hok, .of_eq ng⟩
  refine codeAny_mono ((G _ kb (ns' nm)).run callerA [] s (entryH K a o ns) ⟨[.ref a], []⟩ [.ref a] [.ref a] _ _ rfl rm e0 (bd s (.ref a)) (.cons rfl .nil) (hsp _ sq)) fun r s2 done => ?_
  match r, done with
  | .ok (.ret u), ⟨v, H2, os, bare, un, hok2, ru, q⟩ =>
    replace q : v = .bl true := q
    subst q
    cases ru
    refine ⟨rfl, OldK.of_keep fun b o' e => ?_, os, bare⟩
    cases q : entryH K a o ns b with
    | none => exact un.keep b o' e q (fun z => by cases z) (by simp)
    | some u =>
      obtain ⟨rfl, _, rfl⟩ := entryH_some q
      obtain ⟨e1, _⟩ := hok2 b _ (un.frzs b o _ q)
      rw [obj] at e; cases e
      exact e1
/-- the goal that k_head leaves -/
theorem walkG {l : PySem.W.OpenLaw} {n k : Nat} {q : Program} {loose : List Str} {XP : (Str → Option Value) → Heap → Prop} {YP : World → Heap → Prop} {d : DefRec} {K : Params → PySem.W.Frag} {sp : PySem.W.Frag → Sp} {x : Str}
    (hn : l.most = some n) (hn2 : n ≤ sizeLine) (hdf : d.params.defaults = []) (rm : Room k callerA) (hY : ∀ (w : World) (h : Heap), YP w h → (K w.params).In h)
    (F : ∀ (w : World) (mg : Str → Option Value) (fa : Addr) (h : Heap), (K w.params).In h → h.Ns mainGlobals mg → mg d.name = some (.ref fa) →
      ∃ fd : FuncData, (∀ (s : Shared) (u : Value), BindsTo s fd ⟨[u], []⟩ [(x, u)]) ∧ ∀ base : Heap, (K w.params).In base → base.Ns mainGlobals mg → FnG l.prog w (K w.params) mg base CX0 k fa fd [x] (sp (K w.params)))
    (hsp : ∀ (w : World) (H : Hp) (a : Addr) (ns : List Int), ns.length ≤ n → SqL (K w.params) H a (ns.map V.int) → sp (K w.params) [.ref a] H (fun v _ => v = .bl true) E0) :
    PySem.W.WalkO q loose XP YP l.row.toRowW d [] (fun f vs => PySem.call f vs) :=
  Att.attach_call hn hdf fun w _ s1 mg mb fa o pm cd doc a vs ns G Y _ _ _ hmg hobj hints hlen hg =>
    have kin := hY w _ Y
    let ⟨_, hb, hF⟩ := F w mg fa _ kin G.T.g hmg
    headG kin G.T.g G.T.b G.T.builtins G.T.nolimit hg hobj hints (Nat.le_trans hlen hn2) rm hF hb fun H hS => hsp w H a ns hlen hS
end Z

set_option Elab.async false
set_option linter.all false
set_option maxRecDepth 100000
set_option autoImplicit false
/-! # Z7: defs by their mirrors, calls of them; the source of choices handed on -/
namespace Z
open PySem L2

/-- the promise of a def that changes nothing -/
def spP (K : PySem.W.Frag) (n : Nat) (fm : List D → R D) : Sp := fun vs H Q _ => ∃ F ds r, vs.length = n ∧ Same F H ∧ RpAll K F vs ds ∧ fm ds = .ok r ∧ ∀ v H' F', Fx F H F' H' → Rp K F' v r → Q v H'
structure FnP (C : Ct) (n : Str) (k : Nat) (fm : List D → R D) : Prop where
  ex : ∃ f fd ps j, j ≤ C.k ∧ FnG C.P C.w C.K C.mg C.base CX0 j f fd ps (spP C.K k fm) ∧ C.mg n = some (.ref f) ∧ PySem.W.keepIn C.K (.ref f) = true ∧ Binds C.K fd ps []

/-- what is changed lies at as alone -/
structure Gx (F H F' H' : Hp) (as : List Addr) : Prop where
  ff : Same F F'
  fh : Same F' H'
  hh : ∀ b o, H b = some o → b ∉ as → H' b = some o
  trk : ∀ b o, H b = some o → ∃ o', H' b = some o'
  new : ∀ b o, F' b = some o → F b = some o ∨ H b = none ∨ b ∈ as
theorem Gx.none {F H F' H' : Hp} {as : List Addr} (x : Gx F H F' H' as) {p : Addr} {u : HO} (hf : F p = none) (h : H p = some u) (hn : p ∉ as) : F' p = none := by
  cases q : F' p with
  | none => rfl
  | some o =>
    rcases x.new p o q with z | z | z
    · rw [hf] at z; cases z
    · rw [h] at z; cases z
    · exact absurd z hn
theorem SlR.gstep {K : PySem.W.Frag} {F H F' H' : Hp} {bs : List Addr} (x : Gx F H F' H' bs) : ∀ {sl : Sl} {v : V} {as : List Addr}, SlR K F H sl v as → (∀ b ∈ as, b ∉ bs) → SlR K F' H' sl v as
  | .val d, v, as, ⟨h, e⟩, _ => ⟨h.mono x.ff, e⟩
  | .own xs, v, as, ⟨p, vs, e1, e2, h, hf, r⟩, n => ⟨p, vs, e1, e2, x.hh _ _ h (n p (by rw [e2]; simp)), x.none hf h (n p (by rw [e2]; simp)), r.mono x.ff⟩
  | .src a s, v, as, ⟨c, e1, e2, ne, ha, hc, h1, h2, l⟩, n => ⟨c, e1, e2, ne, x.none ha h1 (n a (by rw [e2]; simp)), x.none hc h2 (n c (by rw [e2]; simp)), x.hh _ _ h1 (n a (by rw [e2]; simp)), x.hh _ _ h2 (n c (by rw [e2]; simp)), l⟩
  | .scr ns, v, as, ⟨a, e1, h, l, e2⟩, n => ⟨a, e1, x.ff.seq h, l, e2⟩
theorem SlR.there {K : PySem.W.Frag} {F H : Hp} {sl : Sl} {v : V} {as : List Addr} (h : SlR K F H sl v as) : ∀ b ∈ as, F b = none ∧ ∃ o, H b = some o := by
  intro b hb
  cases sl with
  | val d => rw [h.2] at hb; cases hb
  | own xs =>
    obtain ⟨p, vs, _, e2, h1, hf, _⟩ := h
    rw [e2] at hb
    have : b = p := by simpa using hb
    subst this; exact ⟨hf, _, h1⟩
  | src a s =>
    obtain ⟨c, _, e2, _, ha, hc, h1, h3, _⟩ := h
    rw [e2] at hb
    have : b = a ∨ b = c := by simpa using hb
    rcases this with rfl | rfl
    · exact ⟨ha, _, h1⟩
    · exact ⟨hc, _, h3⟩
  | scr ns =>
    obtain ⟨_, _, _, _, e2⟩ := h
    rw [e2] at hb; cases hb
theorem Rel.slot {W : Wd} {ρ : Env} {σ : L2.St} {H F : Hp} (r : Rel W ρ σ H F) {i : Nat} {sl : Sl} (e : ρ[i]? = some (some sl)) : ∃ v as, σ[i]? = some (some v) ∧ SlR W.K F H sl v as ∧ (∀ b ∈ as, b ∈ W.io ∨ W.H0 b = none) ∧
    ∀ {F' H' : Hp} {sl' : Sl} {as' : List Addr} , Gx F H F' H' as → SlR W.K F' H' sl' v as' → (∀ b ∈ as', b ∈ as ∨ H b = none) → Rel W (ρ.set i (some sl')) σ H' F' := by
  obtain ⟨ad, k⟩ := r.env
  obtain ⟨v, h1, h2, h3, h4⟩ := k i sl e
  have up : ∀ b, H b = none → W.H0 b = none := fun b h => by
    cases e : W.H0 b with
    | none => rfl
    | some u => obtain ⟨o, q⟩ := r.trk b u e; rw [h] at q; cases q
  refine ⟨v, ad i, h1, h2, h3, fun {F' H' sl' as'} gx hs hn => ?_⟩
  refine ⟨gx.fh, r.sub0.trans gx.ff, fun b o h n => gx.hh b o (r.keep b o h n) fun hb => ?_, fun b o h => ?_, ⟨fun j => if j = i then as' else ad j, fun j slj ej => ?_⟩, by rw [List.length_set]; exact r.len, fun b o h => ?_⟩
  · rcases h3 b hb with q | q
    · exact n q
    · rw [h] at q; cases q
  · rcases gx.new b o h with q | q | q
    · exact r.fresh b o q
    · exact .inr (.inl (up b q))
    · exact .inr ((h3 b q).elim .inr .inl)
  · rcases get_set ej with ⟨e1, e2, e3⟩ | ⟨e1, e2⟩
    · subst e1; cases e3
      simp only [if_true]
      refine ⟨v, h1, hs, fun b hb => (hn b hb).elim (h3 b) fun q => .inr (up b q), fun l sl'' hl e' b hb => ?_⟩
      have ne : l ≠ i := fun q => hl q.symm
      simp only [if_neg ne]
      rcases get_set e' with ⟨z1, _, _⟩ | ⟨z1, z2⟩
      · exact absurd z1 hl
      · intro hbl
        obtain ⟨v', k1, k2, _, k4⟩ := k l sl'' z2
        rcases hn b hb with q | q
        · exact h4 l sl'' hl z2 b q hbl
        · obtain ⟨_, o, q'⟩ := k2.there b hbl
          rw [q] at q'; cases q'
    · have ne : j ≠ i := fun q => e1 q.symm
      simp only [if_neg ne]
      obtain ⟨v', k1, k2, k3, k4⟩ := k j slj e2
      refine ⟨v', k1, k2.gstep gx (k4 i sl ne e), k3, fun l sl'' hl e' b hb => ?_⟩
      rcases get_set e' with ⟨z1, z2, z3⟩ | ⟨z1, z2⟩
      · subst z1; cases z3
        simp only [if_true]
        intro hbl
        rcases hn b hbl with q | q
        · exact k4 i sl ne e b hb q
        · obtain ⟨_, o, q'⟩ := k2.there b hb
          rw [q] at q'; cases q'
      · have ne' : l ≠ i := fun q => z1 q.symm
        simp only [if_neg ne']
        exact k4 l sl'' hl z2 b hb
  · obtain ⟨o', q⟩ := r.trk b o h
    exact gx.trk b o' q
/-- the promise of a def whose first argument is the source -/
def spS (K : PySem.W.Frag) (n : Nat) (fm : Src → List D → R (D × Src)) : Sp := fun vs H Q _ => ∃ F a s as ws ds r s', vs = .ref a :: ws ∧ ws.length = n ∧ Same F H ∧ SlR K F H (.src a s) (.ref a) as ∧ RpAll K F ws ds ∧ fm s ds = .ok (r, s') ∧
  ∀ v H' F' as', Gx F H F' H' as → SlR K F' H' (.src a s') (.ref a) as' → (∀ b ∈ as', b ∈ as ∨ H b = none) → Rp K F' v r → Q v H'
structure FnS (C : Ct) (n : Str) (k : Nat) (fm : Src → List D → R (D × Src)) : Prop where
  ex : ∃ f fd ps j, j ≤ C.k ∧ FnG C.P C.w C.K C.mg C.base CX0 j f fd ps (spS C.K k fm) ∧ C.mg n = some (.ref f) ∧ PySem.W.keepIn C.K (.ref f) = true ∧ Binds C.K fd ps []

section
variable {α : Type} {C : Ct} {ρ : Env} {m : R α}
theorem fnAt {C : Ct} {X : Cx} (x : XOk C X) {CX : CXT} {j : Nat} {f : Addr} {fd : FuncData} {ps : List Str} {sp : Sp} (h : FnG C.P C.w C.K C.mg C.base CX j f fd ps sp) (hj : j ≤ C.k) : FnG X.prog X.w X.K X.mg X.base CX C.k f fd ps sp := by
  rw [x.prog, x.w, x.K, x.mg, x.base]; exact h.mono hj
theorem de_call {κ : D → Env → R α → Prop} {n : Str} {k : Nat} {fm : List D → R D} {p pos : Pos} {e : Expr} {es : List Expr} (G : FnP C n k fm)
    (h : DA C ρ (e :: es) m fun ds ρ1 m1 => ds.length = k ∧ ∃ (rr : R D) (g : D → R α), fm ds = rr ∧ m1 = rr.bind g ∧ ∀ r, κ r ρ1 (g r)) (hg : C.sc.names.lookup n = some .globalImplicit := by rfl) (hdb : (n == ("__debug__" : Str)) = false := by decide)
    (he : ∀ env : PySem.Env, starEach (e :: es) env = (false, eval e env) :: starEach es env := by intro _; rfl) (hpl : ∀ env : PySem.Env, (backTo pos (starEach es env)).any (·.1) = false := by intro _; rfl) : DE C ρ (.Call (.Name n p) (e :: es) [] pos) m κ := by
  intro X W Z x hK c z
  obtain ⟨f, fd, ps, j, hj, ok, hm, kp, b⟩ := G.ex
  refine PE_imp (pe_callG (fnAt x ok hj) x.grd x.room (x.gl hg) (by rw [x.mg]; exact hm) (by rw [x.K]; exact kp) (by rw [x.K]; exact b) pass0 (h X W Z x hK c z) hdb (he _) (hpl _)) fun σ H Q ⟨F, r, q⟩ => ⟨F, r, fun ds ρ' m' vs H' F' ⟨hl, r0, g, e0, e1, hg⟩ h2 h3 h4 h5 => ?_⟩
  subst e0 e1
  obtain ⟨rr, er, zr⟩ := c.bind h2
  show spP C.K k fm vs H' Q E0
  exact ⟨F', ds, rr, by rw [h5.length]; exact hl, h3.sub, by rw [← hK]; exact h5, er, fun v H2 F2 fx p => q _ ρ' _ v H2 F2 (hg rr) zr (h3.step fx) (h4.trans fx.ff) (by rw [hK]; exact p)⟩
/-- f(source, ..) -/
theorem de_callS {κ : D → Env → R α → Prop} {n x0 : Str} {k : Nat} {fm : Src → List D → R (D × Src)} {p p0 pos : Pos} {es : List Expr} (i : Nat) {a0 : Addr} {s0 : Src} (G : FnS C n k fm) (hρ : ρ[i]? = some (some (.src a0 s0)))
    (h : DA C ρ es m fun ds ρ1 m1 => ds.length = k ∧ ∃ (s : Src) (r0 : R (D × Src)) (g : D × Src → R α), ρ1[i]? = some (some (.src a0 s)) ∧ fm s ds = r0 ∧ m1 = r0.bind g ∧ ∀ r s', κ r (ρ1.set i (some (.src a0 s'))) (g (r, s'))) (hN : C.N[i]? = some x0 := by rfl)
    (hv : Vis C.sc x0 := by first | exact Or.inl rfl | exact Or.inr (Or.inl rfl) | exact Or.inr (Or.inr rfl)) (hg : C.sc.names.lookup n = some .globalImplicit := by rfl) (hdb : (n == ("__debug__" : Str)) = false := by decide) (hd : (x0 == ("__debug__" : Str)) = false := by decide) (hcd : (x0 == ("__classdict__" : Str)) = false := by decide)
    (he : ∀ env : PySem.Env, starEach (.Name x0 p0 :: es) env = (false, eval (.Name x0 p0) env) :: starEach es env := by intro _; rfl) (hpl : ∀ env : PySem.Env, (backTo pos (starEach es env)).any (·.1) = false := by intro _; rfl) : DE C ρ (.Call (.Name n p) (.Name x0 p0 :: es) [] pos) m κ := by
  intro X W Z x hK c z
  obtain ⟨f, fd, ps, j, hj, ok, hm, kp, b⟩ := G.ex
  have pa := pa_cons (pe_var (i := i) (pos := p0) (by rw [x.N]; exact hN) (x.vis hv) hd hcd) (h X W Z x hK c z) (he _)
  refine PE_imp (pe_callG (fnAt x ok hj) x.grd x.room (x.gl hg) (by rw [x.mg]; exact hm) (by rw [x.K]; exact kp) (by rw [x.K]; exact b) pass0 pa hdb (he _) (hpl _)) fun σ H Q ⟨F, r, q⟩ => ?_
  obtain ⟨v0, as0, e0, _, _, _⟩ := r.slot hρ
  refine ⟨v0, e0, F, r, fun ds ρ' m' vs H' F' ⟨hl, s, r0, g, es', e00, e1, hg⟩ h2 h3 h4 h5 => ?_⟩
  subst e00 e1
  obtain ⟨⟨rr, s'⟩, er, zr⟩ := c.bind h2
  show spS C.K k fm (v0 :: vs) H' Q E0
  obtain ⟨v1, as, e2, hsl, _, up⟩ := h3.slot es'
  rw [e0] at e2; cases e2
  obtain ⟨cc, ev, rest⟩ := id hsl
  subst ev
  refine ⟨F', a0, s, as, vs, ds, rr, s', rfl, by rw [h5.length]; exact hl, h3.sub, by rw [← hK]; exact hsl, by rw [← hK]; exact h5, er, fun v H2 F2 as' gx hs hn pv => ?_⟩
  exact q _ _ _ v H2 F2 (hg rr s') zr (up gx (by rw [hK]; exact hs) hn) (h4.trans gx.ff) (by rw [hK]; exact pv)

/-! ### a def's body -/
def Jf : Jd D := { nx := fun _ m => m = .ok .none, rt := fun d _ m => m = .ok d, bk := fun _ _ => False, ct := fun _ _ => False }
def JfS (a : Addr) : Jd (D × Src) := { nx := fun ρ m => ∃ s, ρ[0]? = some (some (.src a s)) ∧ m = .ok (.none, s), rt := fun d ρ m => ∃ s, ρ[0]? = some (some (.src a s)) ∧ m = .ok (d, s), bk := fun _ _ => False, ct := fun _ _ => False }
def startE (N : List Str) (sls : List Sl) : Env := sls.map some ++ List.replicate (N.length - sls.length) none
theorem startE_get {N : List Str} {sls : List Sl} {i : Nat} {sl : Sl} (h : (startE N sls)[i]? = some (some sl)) : sls[i]? = some sl := by
  unfold startE at h
  by_cases hi : i < sls.length
  · rw [List.getElem?_append_left (by simpa using hi), List.getElem?_map] at h
    cases e : sls[i]? with
    | none => rw [e] at h; cases h
    | some u => rw [e] at h; cases h; rfl
  · rw [List.getElem?_append_right (by simpa using hi), List.getElem?_replicate] at h
    split at h <;> cases h
theorem start_get {N : List Str} {vs : List V} {i : Nat} {v : V} (h : vs[i]? = some v) : (start N vs)[i]? = some (some v) := by
  unfold L2.start
  obtain ⟨hl, e⟩ := List.getElem?_eq_some_iff.mp h
  rw [List.getElem?_append_left (by simpa using hl), List.getElem?_map, h]; rfl
theorem fnP_of {P : Program} {w : World} {K : PySem.W.Frag} {mg : Str → Option Value} {base : Heap} {x qual : Str} {st : Stmt} {f : Addr} {fd : FuncData} {N ps : List Str} {k n : Nat} {fm : List D → R D} (F : Fun K x qual st f fd) (S : FnScope N ps (defScope st)) (hn : ps.length = n)
    (h : ∀ ds : List D, ds.length = n → DSs ⟨P, w, K, mg, base, k, N, defScope st, fun _ => true⟩ (startE N (ds.map .val)) (defBody st) (fm ds) Jf) : FnG P w K mg base CX0 (k + 1) f fd ps (spP K n fm) := by
  refine okG F S (fun vs H Q E h => ?_) (fun cdv A outer s H vs Q E gd hr hsp => ?_)
  · obtain ⟨_, _, _, hl, _⟩ := h
    rw [hl, hn]
  · obtain ⟨F0, ds, r, hl, sub, rd, er, q⟩ := hsp
    have hds : ds.length = n := by rw [← rd.length]; exact hl
    have xo : XOk ⟨P, w, K, mg, base, k, N, defScope st, fun _ => true⟩ (cxOf CX0 P w K mg base N qual (defScope st) f cdv A outer s H E).nox :=
      ⟨rfl, rfl, rfl, rfl, rfl, rfl, S.nd, rfl, rfl, hr, gd, PassesOwn.never, fun _ _ => rfl⟩
    have cl : Cl fun r' : R D => r' = .ok r := ⟨(fun e => nomatch e), (fun _ _ e => nomatch e)⟩
    refine ⟨_, (h ds hds _ ⟨K, F0, H, []⟩ _ xo rfl cl er).nox, F0, ?_, ⟨fun ρ m σ H' F' h1 h2 h3 => ?_, fun d ρ m v σ H' F' h1 h2 h3 h4 => ?_, fun _ _ _ _ _ h => h.elim, fun _ _ _ _ _ h => h.elim, fun _ _ _ _ _ _ _ h => h.elim⟩⟩
    · refine VRel.rel (K := K) ⟨fun i d e => ?_, ?_⟩ (fun i sl e => ?_) sub
      · have e1 := startE_get e
        rw [List.getElem?_map] at e1
        cases e2 : ds[i]? with
        | none => rw [e2] at e1; cases e1
        | some d' =>
          rw [e2] at e1; cases e1
          obtain ⟨v, h1, h2⟩ := rd.at e2
          exact ⟨v, start_get h1, h2⟩
      · unfold startE L2.start; simp; omega
      · have e1 := startE_get e
        rw [List.getElem?_map] at e1
        cases e2 : ds[i]? with
        | none => rw [e2] at e1; cases e1
        | some d' => rw [e2] at e1; cases e1; exact ⟨d', rfl⟩
    · rw [h2] at h1; cases h1
      exact q .non H' F' h3.fx .non
    · rw [h2] at h1; cases h1
      exact q v H' F' h3.fx h4
theorem fnS_of {P : Program} {w : World} {K : PySem.W.Frag} {mg : Str → Option Value} {base : Heap} {x qual : Str} {st : Stmt} {f : Addr} {fd : FuncData} {N ps : List Str} {k n : Nat} {fm : Src → List D → R (D × Src)} (F : Fun K x qual st f fd) (S : FnScope N ps (defScope st)) (hn : ps.length = n + 1)
    (h : ∀ (a : Addr) (s : Src) (ds : List D), ds.length = n → DSs ⟨P, w, K, mg, base, k, N, defScope st, fun _ => true⟩ (startE N (.src a s :: ds.map .val)) (defBody st) (fm s ds) (JfS a)) : FnG P w K mg base CX0 (k + 1) f fd ps (spS K n fm) := by
  refine okG F S (fun vs H Q E h => ?_) (fun cdv A outer s H vs Q E gd hr hsp => ?_)
  · obtain ⟨_, _, _, _, ws, _, _, _, e, hl, _⟩ := h
    rw [e, List.length_cons, hl, hn]
  · obtain ⟨F0, a, so, as, ws, ds, r, s', e0, hl, sub, hsl, rd, er, q⟩ := hsp
    subst e0
    have hds : ds.length = n := by rw [← rd.length]; exact hl
    have xo : XOk ⟨P, w, K, mg, base, k, N, defScope st, fun _ => true⟩ (cxOf CX0 P w K mg base N qual (defScope st) f cdv A outer s H E).nox :=
      ⟨rfl, rfl, rfl, rfl, rfl, rfl, S.nd, rfl, rfl, hr, gd, PassesOwn.never, fun _ _ => rfl⟩
    have cl : Cl fun r' : R (D × Src) => r' = .ok (r, s') := ⟨(fun e => nomatch e), (fun _ _ e => nomatch e)⟩
    have fin : ∀ {ρ : Env} {σ : L2.St} {H' F' : Hp} {v : V}, Rel ⟨K, F0, H, as⟩ ρ σ H' F' → ρ[0]? = some (some (.src a s')) → Rp K F' v r → Q v H' := fun {ρ σ H' F' v} rl e pv => by
      obtain ⟨v1, as', e1, h1, h2, _⟩ := rl.slot e
      obtain ⟨_, ev, _⟩ := id h1
      subst ev
      exact q v H' F' as' ⟨rl.sub0, rl.sub, fun b o h n => rl.keep b o h n, rl.trk, rl.fresh⟩ h1 h2 pv
    refine ⟨_, (h a so ds hds _ ⟨K, F0, H, as⟩ _ xo rfl cl er).nox, F0, ?_, ⟨fun ρ m σ H' F' ⟨s2, e1, e2⟩ h2 h3 => ?_, fun d ρ m v σ H' F' ⟨s2, e1, e2⟩ h2 h3 h4 => ?_, fun _ _ _ _ _ h => h.elim, fun _ _ _ _ _ h => h.elim, fun _ _ _ _ _ _ _ h => h.elim⟩⟩
    · refine ⟨sub, Same.refl _, fun b o h _ => h, fun b o h => .inl h, ⟨fun i => if i = 0 then as else [], fun i sl e => ?_⟩, by unfold startE L2.start; simp; omega, fun b o h => ⟨o, h⟩⟩
      have e1 := startE_get e
      cases i with
      | zero =>
        have e2 : sl = .src a so := by simpa using e1.symm
        subst e2
        refine ⟨.ref a, start_get rfl, hsl, fun b hb => .inl hb, fun j sl' hj e' b hb => ?_⟩
        have ne : j ≠ 0 := fun q => hj q.symm
        simp [ne]
      | succ i =>
        have e2 : (ds.map Sl.val)[i]? = some sl := by simpa using e1
        rw [List.getElem?_map] at e2
        cases e3 : ds[i]? with
        | none => rw [e3] at e2; cases e2
        | some d' =>
          rw [e3] at e2; cases e2
          obtain ⟨v, h1, h2⟩ := rd.at e3
          refine ⟨v, start_get (by simpa using h1), ⟨h2, by simp⟩, by simp, by simp⟩
    · rw [h2] at e2; cases e2
      exact fin h3 e1 .non
    · rw [h2] at e2; cases e2
      exact fin h3 e1 h4
end
end Z

set_option Elab.async false
set_option linter.all false
set_option maxRecDepth 100000
set_option autoImplicit false
/-! # Z8: the operations are the model's -/
namespace Z
open PySem L2

theorem szOk_line {n : Nat} (h : szOk n = true) : n ≤ sizeLine := by rw [sizeLine_eq]; simpa [szOk] using h
section
variable {K : PySem.W.Frag} {F H : Hp}
theorem Rp.toInt {v : V} {i : Int} (h : Rp K F v (.int i)) : v = .int i := by cases h; rfl
theorem Rp.toStr {v : V} {i : Str} (h : Rp K F v (.str i)) : v = .str i := by cases h; rfl
theorem Rp.toBool {v : V} {i : Bool} (h : Rp K F v (.bool i)) : v = .bl i := by cases h; rfl
theorem Rp.toList {v : V} {ds : List D} (h : Rp K F v (.list ds)) : ∃ a xs, v = .ref a ∧ F a = some (.lst xs) ∧ RpAll K F xs ds := by cases h with | lst a b => exact ⟨_, _, rfl, a, b⟩
theorem Rp.toTup {v : V} {ds : List D} (h : Rp K F v (.tuple ds)) : ∃ a xs, v = .ref a ∧ SqT K F a xs ∧ RpAll K F xs ds := by cases h with | tup a b => exact ⟨_, _, rfl, a, b⟩
theorem RpAll.one {vs : List V} {d : D} (h : RpAll K F vs [d]) : ∃ v, vs = [v] ∧ Rp K F v d := by
  cases h with | cons a b => cases b; exact ⟨_, rfl, a⟩
theorem RpAll.two {vs : List V} {d e : D} (h : RpAll K F vs [d, e]) : ∃ v u, vs = [v, u] ∧ Rp K F v d ∧ Rp K F u e := by
  cases h with | cons a b => cases b with | cons c d => cases d; exact ⟨_, _, rfl, a, c⟩
theorem RpAll.drop : ∀ {vs : List V} {ds : List D} (n : Nat), RpAll K F vs ds → RpAll K F (vs.drop n) (ds.drop n)
  | _, _, 0, r => r
  | _, _, _ + 1, .nil => .nil
  | _, _, n + 1, .cons _ t => RpAll.drop n t
theorem RpAll.take : ∀ {vs : List V} {ds : List D} (n : Nat), RpAll K F vs ds → RpAll K F (vs.take n) (ds.take n)
  | _, _, 0, _ => .nil
  | _, _, _ + 1, .nil => .nil
  | _, _, n + 1, .cons r t => .cons r (RpAll.take n t)
theorem RpAll.rep {vs : List V} {ds : List D} (r : RpAll K F vs ds) : ∀ n : Nat, RpAll K F (List.replicate n vs).flatten (List.replicate n ds).flatten
  | 0 => .nil
  | n + 1 => by rw [List.replicate_succ, List.replicate_succ, List.flatten_cons, List.flatten_cons]; exact r.append (RpAll.rep r n)
theorem RpAll.reverse : ∀ {vs : List V} {ds : List D}, RpAll K F vs ds → RpAll K F vs.reverse ds.reverse
  | _, _, .nil => .nil
  | _, _, .cons r t => by rw [List.reverse_cons, List.reverse_cons]; exact (RpAll.reverse t).append (.cons r .nil)
theorem RpAll.atI {vs : List V} {ds : List D} (r : RpAll K F vs ds) {i : Int} {d : D} (h : L2.atI ds i = some d) : ∃ v, L2.atI vs i = some v ∧ Rp K F v d := by
  unfold L2.atI at h ⊢
  rw [r.length]
  cases e : ixN ds.length i with
  | none => rw [e] at h; cases h
  | some j => rw [e] at h; exact r.at h
theorem RpAll.cut {vs : List V} {ds : List D} (r : RpAll K F vs ds) (lo hi : Option Int) : RpAll K F (cutV vs lo hi) (cut ds lo hi) := by
  unfold cutV Z.cut
  rw [r.length]
  exact (r.drop _).take _
/-- a new list, a new tuple -/
theorem newL {vs : List V} {ds : List D} {Q : VK} (sub : Same F H) (r : RpAll K F vs ds) (q : ∀ v H' F', Fx F H F' H' → Rp K F' v (.list ds) → Q v H') : ∀ p, H p = none → Q (.ref p) (upd H p (.lst vs)) := fun p hp => by
  have fx : Fx F H _ _ := Fx.alloc (u := .lst vs) sub hp
  exact q _ _ _ fx (.lst upd_same (r.mono fx.ff))
theorem newT {vs : List V} {ds : List D} {Q : VK} (sub : Same F H) (r : RpAll K F vs ds) (q : ∀ v H' F', Fx F H F' H' → Rp K F' v (.tuple ds) → Q v H') : ∀ p, H p = none → Q (.ref p) (upd H p (.tup vs)) := fun p hp => by
  have fx : Fx F H _ _ := Fx.alloc (u := .tup vs) sub hp
  exact q _ _ _ fx (.tup (.inl (.inl upd_same)) (r.mono fx.ff))
end

theorem bs_add : BinS .Add add := by
  intro X k hr pins s σ H x y v u Q I rx ry ⟨F, a, b, c, sub, ra, rb, e, q⟩
  unfold add at e
  split at e
  · cases e
    rw [ra.toInt] at rx; rw [rb.toInt] at ry
    exact op_add pins s σ H _ _ v u Q I rx ry ⟨_, _, rfl, rfl, q _ H F (Fx.refl sub) (.int _)⟩
  · split at e
    · rename_i hz; cases e
      rw [ra.toStr] at rx; rw [rb.toStr] at ry
      exact op_add_str pins s σ H _ _ v u Q I rx ry ⟨_, _, rfl, rfl, szOk_line hz, q _ H F (Fx.refl sub) (.str _)⟩
    · cases e
  · split at e
    · rename_i hz; cases e
      obtain ⟨p, xs, rfl, hp, rxs⟩ := ra.toList
      obtain ⟨p2, ys, rfl, hp2, rys⟩ := rb.toList
      refine op_cat pins s σ H _ _ v u Q I rx ry ⟨_, _, xs, ys, rfl, rfl, sub _ _ hp, sub _ _ hp2, ?_, newL sub (rxs.append rys) q⟩
      rw [rxs.length, rys.length]; exact szOk_line hz
    · cases e
  · split at e
    · rename_i hz; cases e
      obtain ⟨p, xs, rfl, hp, rxs⟩ := ra.toTup
      obtain ⟨p2, ys, rfl, hp2, rys⟩ := rb.toTup
      refine op_catA pins s σ H _ _ v u Q I rx ry ⟨_, _, xs, ys, rfl, rfl, seqT sub hp, seqT sub hp2, ?_, fun ex => ?_, fun _ ey => ?_, fun _ _ => newT sub (rxs.append rys) q⟩
      · rw [rxs.length, rys.length]; exact szOk_line hz
      · subst ex; cases rxs; exact q _ H F (Fx.refl sub) (.tup hp2 rys)
      · subst ey; cases rys; rw [List.append_nil] at q; exact q _ H F (Fx.refl sub) (.tup hp rxs)
    · cases e
  · cases e
theorem bs_sub : BinS .Sub sub := by
  intro X k hr pins s σ H x y v u Q I rx ry ⟨F, a, b, c, sub, ra, rb, e, q⟩
  unfold Z.sub at e
  split at e
  · cases e
    rw [ra.toInt] at rx; rw [rb.toInt] at ry
    exact op_sub pins s σ H _ _ v u Q I rx ry ⟨_, _, rfl, rfl, q _ H F (Fx.refl sub) (.int _)⟩
  · cases e
theorem bs_mul : BinS .Mult mul := by
  intro X k hr pins s σ H x y v u Q I rx ry ⟨F, a, b, c, sub, ra, rb, e, q⟩
  unfold mul at e
  split at e
  · split at e
    · rename_i hz; cases e
      rw [ra.toInt] at rx; rw [rb.toInt] at ry
      have fin := q _ H F (Fx.refl sub) (.int _)
      simp only [bigM, Bool.or_eq_true, decide_eq_true_eq] at hz
      rcases hz with (hz | hz) | hz
      · exact op_mul pins s σ H _ _ v u Q I rx ry ⟨_, _, rfl, rfl, .inl ⟨by omega, by omega⟩, fin⟩
      · exact op_mul pins s σ H _ _ v u Q I rx ry ⟨_, _, rfl, rfl, .inr ⟨by omega, by omega⟩, fin⟩
      · exact op_mulW pins s σ H _ _ v u Q I rx ry ⟨_, _, rfl, rfl, hz, fin⟩
    · cases e
  · split at e
    · rename_i hz; cases e
      simp only [Bool.and_eq_true, decide_eq_true_eq] at hz
      obtain ⟨p, xs, rfl, hp, rxs⟩ := ra.toList
      rw [rb.toInt] at ry
      refine op_rep pins s σ H _ _ v u Q I rx ry ⟨_, _, xs, rfl, rfl, sub _ _ hp, hz.1.1, hz.1.2, ?_, newL sub (rxs.rep _) q⟩
      rw [rxs.length]; exact szOk_line hz.2
    · cases e
  · split at e
    · rename_i hz; cases e
      simp only [Bool.and_eq_true, decide_eq_true_eq] at hz
      obtain ⟨p, xs, rfl, hp, rxs⟩ := ra.toTup
      rw [rb.toInt] at ry
      refine op_repT pins s σ H _ _ v u Q I rx ry ⟨_, _, xs, rfl, rfl, seqT sub hp, ?_, hz.1.1.1, hz.1.1.2, by rw [rxs.length]; exact hz.2, newT sub (rxs.rep _) q⟩
      intro ex; subst ex; cases rxs; exact absurd hz.1.2 (by simp)
    · cases e
  · cases e
theorem bs_fdiv : BinS .FloorDiv fdiv := by
  intro X k hr pins s σ H x y v u Q I rx ry ⟨F, a, b, c, sub, ra, rb, e, q⟩
  unfold fdiv at e
  split at e
  · split at e
    · rename_i hz; cases e
      simp only [Bool.and_eq_true, decide_eq_true_eq, bigD] at hz
      rw [ra.toInt] at rx; rw [rb.toInt] at ry
      obtain ⟨t, rfl⟩ := rx
      obtain ⟨t', rfl⟩ := ry
      exact PyProof.Rows.floordiv_int hz.1 ⟨.int _, H, I.tok _, ⟨_, rfl⟩, q _ H F (Fx.refl sub) (.int _)⟩ (.inl (PyProof.noPylong_of_log2 hz.2))
    · cases e
  · cases e
theorem bs_fmod : BinS .Mod fmod := by
  intro X k hr pins s σ H x y v u Q I rx ry ⟨F, a, b, c, sub, ra, rb, e, q⟩
  unfold fmod at e
  split at e
  · split at e
    · rename_i hz; cases e
      simp only [decide_eq_true_eq] at hz
      rw [ra.toInt] at rx; rw [rb.toInt] at ry
      exact op_modN pins s σ H _ _ v u Q I rx ry ⟨_, _, rfl, rfl, hz, q _ H F (Fx.refl sub) (.int _)⟩
    · cases e
  · cases e
theorem bs_pow : BinS .Pow pow := by
  intro X k hr pins s σ H x y v u Q I rx ry ⟨F, a, b, c, sub, ra, rb, e, q⟩
  unfold pow at e
  split at e
  · split at e
    · rename_i hz; cases e
      simp only [Bool.and_eq_true, decide_eq_true_eq] at hz
      rw [ra.toInt] at rx; rw [rb.toInt] at ry
      exact op_pow pins s σ H _ _ v u Q I rx ry ⟨_, _, rfl, rfl, ⟨hz.1.1, hz.1.2, hz.2⟩, q _ H F (Fx.refl sub) (.int _)⟩
    · cases e
  · cases e
theorem us_neg : UnS .USub neg := by
  intro X k hr pins s σ H x v Q I rx ⟨F, a, c, sub, ra, e, q⟩
  unfold neg at e
  split at e
  · cases e
    rw [ra.toInt] at rx
    exact un_neg pins s σ H _ v Q I rx ⟨_, rfl, q _ H F (Fx.refl sub) (.int _)⟩
  · cases e

/-! ### comparisons -/
theorem room_ok {k : Nat} {A : Around} (hr : Room k A) {a b : D} (h : a.depth ≤ 40) : A.units + min a.depth b.depth < cLine := by
  have := hr.units
  have h2 : min a.depth b.depth ≤ a.depth := Nat.min_le_left _ _
  omega
theorem cs_eq : CmpS .Eq eqD := by
  intro X k hr pins s σ H x y v u Q I rx ry ⟨F, a, b, c, sub, ra, rb, e, q⟩
  unfold eqD at e
  split at e
  · rename_i h; cases e
    simp only [Bool.and_eq_true] at h
    obtain ⟨as, r1⟩ := ra.reads I sub rx (okD_plain h.1)
    obtain ⟨bs, r2⟩ := rb.reads I sub ry (okD_plain h.2)
    exact SeqAt.eq_plain r1 r2 (okD_plain h.1) (okD_plain h.2) (room_ok hr (okD_depth h.1)) ⟨.bl _, H, I, rfl, q⟩
  · cases e
theorem cs_ne : CmpS .NotEq neD := by
  intro X k hr pins s σ H x y v u Q I rx ry ⟨F, a, b, c, sub, ra, rb, e, q⟩
  unfold neD eqD at e
  split at e
  · rename_i h; cases e
    simp only [Bool.and_eq_true] at h
    obtain ⟨as, r1⟩ := ra.reads I sub rx (okD_plain h.1)
    obtain ⟨bs, r2⟩ := rb.reads I sub ry (okD_plain h.2)
    exact SeqAt.ne_plain r1 r2 (okD_plain h.1) (okD_plain h.2) (room_ok hr (okD_depth h.1)) ⟨.bl _, H, I, rfl, q⟩
  · cases e

theorem notNone {a : D} (h : isNone a = false) : a ≠ .none := fun e => by subst e; cases h
theorem lt_main {op : CmpOp} {X : Cx} {k : Nat} (hr : Room k X.A) {t : D → D → Bool} {pins : List (Addr × Obj)} {s : Shared} {σ : L2.St} {H F : Hp} {x y : V} {v u : Value} {Q : VK} {a b : D} {c : Bool} (I : Inv X pins σ H s) (rx : RelV x v) (ry : RelV y u)
    (sub : Same F H) (ra : Rp X.K F x a) (rb : Rp X.K F y b) (h : (W.alike a b && !isNone a && okD a && okD b) = true) (hq : Q (.bl (t a b)) H)
    (rule : ∀ {prog : Program} {w : World} {A : Around} {E : Value → Shared → Prop} {s : Shared} {v u : Value} {as bs : List Addr} {Q : Value → Shared → Prop}, Reads s.heap v a as → Reads s.heap u b bs → W.alike a b = true → a ≠ .none → A.units + min a.depth b.depth < cLine → Q (.bool (t a b)) s → wpAny (model prog w) A (compareOp op v u) Q E s) :
    wpAny (model X.prog X.w) X.A (compareOp op v u) (EP X pins σ Q) X.xe s := by
  simp only [Bool.and_eq_true, Bool.not_eq_true'] at h
  obtain ⟨as, r1⟩ := ra.reads I sub rx (okD_plain h.1.2)
  obtain ⟨bs, r2⟩ := rb.reads I sub ry (okD_plain h.2)
  exact rule r1 r2 h.1.1.1 (notNone h.1.1.2) (room_ok hr (okD_depth h.1.2)) ⟨.bl _, H, I, rfl, hq⟩
theorem cs_lt : CmpS .Lt ltD := by
  intro X k hr pins s σ H x y v u Q I rx ry ⟨F, a, b, c, sub, ra, rb, e, q⟩
  unfold ltD at e
  split at e
  · cases e
    rw [ra.toInt] at rx; rw [rb.toInt] at ry
    exact op_lt pins s σ H _ _ v u Q I rx ry ⟨_, _, rfl, rfl, q⟩
  · split at e
    · rename_i h; cases e
      exact lt_main (c := true) (t := W.dataLt) hr I rx ry sub ra rb h q fun r1 r2 h1 h2 h3 h4 => W.lt_data r1 r2 h1 h2 h3 h4
    · cases e
theorem cs_gt : CmpS .Gt gtD := by
  intro X k hr pins s σ H x y v u Q I rx ry ⟨F, a, b, c, sub, ra, rb, e, q⟩
  replace e : ltD b a = .ok c := e
  unfold ltD at e
  split at e
  · cases e
    rw [ra.toInt] at rx; rw [rb.toInt] at ry
    exact op_gt pins s σ H _ _ v u Q I rx ry ⟨_, _, rfl, rfl, q⟩
  · split at e
    · rename_i h; cases e
      have h' : (W.alike a b && !isNone a && okD a && okD b) = true := by
        simp only [Bool.and_eq_true, Bool.not_eq_true'] at h ⊢
        have h1 : W.alike a b = true := by rw [W.alike_comm]; exact h.1.1.1
        refine ⟨⟨⟨h1, ?_⟩, h.2⟩, h.1.2⟩
        have n1 := W.ne_none_both h.1.1.1 (notNone h.1.1.2)
        cases a <;> first | rfl | exact absurd rfl n1
      exact lt_main (c := true) (t := fun a b => W.dataLt b a) hr I rx ry sub ra rb h' q fun r1 r2 h1 h2 h3 h4 => W.gt_data r1 r2 h1 h2 h3 h4
    · cases e
theorem cs_le : CmpS .LtE leD := by
  intro X k hr pins s σ H x y v u Q I rx ry ⟨F, a, b, c, sub, ra, rb, e, q⟩
  unfold leD at e
  split at e
  · cases e
    rw [ra.toInt] at rx; rw [rb.toInt] at ry
    exact op_le pins s σ H _ _ v u Q I rx ry ⟨_, _, rfl, rfl, q⟩
  · split at e
    · rename_i h; cases e
      exact lt_main (c := true) (t := fun a b => !W.dataLt b a) hr I rx ry sub ra rb h q fun r1 r2 h1 h2 h3 h4 => W.le_data r1 r2 h1 h2 h3 h4
    · cases e
theorem cs_ge : CmpS .GtE geD := by
  intro X k hr pins s σ H x y v u Q I rx ry ⟨F, a, b, c, sub, ra, rb, e, q⟩
  replace e : leD b a = .ok c := e
  unfold leD at e
  split at e
  · cases e
    rw [ra.toInt] at rx; rw [rb.toInt] at ry
    exact op_ge pins s σ H _ _ v u Q I rx ry ⟨_, _, rfl, rfl, q⟩
  · split at e
    · rename_i h; cases e
      have h' : (W.alike a b && !isNone a && okD a && okD b) = true := by
        simp only [Bool.and_eq_true, Bool.not_eq_true'] at h ⊢
        have h1 : W.alike a b = true := by rw [W.alike_comm]; exact h.1.1.1
        refine ⟨⟨⟨h1, ?_⟩, h.2⟩, h.1.2⟩
        have n1 := W.ne_none_both h.1.1.1 (notNone h.1.1.2)
        cases a <;> first | rfl | exact absurd rfl n1
      exact lt_main (c := true) (t := fun a b => !W.dataLt a b) hr I rx ry sub ra rb h' q fun r1 r2 h1 h2 h3 h4 => W.ge_data r1 r2 h1 h2 h3 h4
    · cases e
theorem plain_list {xs : List D} (h : okD (.list xs) = true) : PyData.plainAll xs = true := by simpa [PyData.plain] using okD_plain h
theorem plain_tup {xs : List D} (h : okD (.tuple xs) = true) : PyData.plainAll xs = true := by simpa [PyData.plain] using okD_plain h
theorem depth_list {xs : List D} (h : okD (.list xs) = true) : PyData.depthAll xs ≤ 40 := by
  have := okD_depth h
  simp only [PyData.depth] at this
  omega
theorem depth_tup {xs : List D} (h : okD (.tuple xs) = true) : PyData.depthAll xs ≤ 40 := by
  have := okD_depth h
  simp only [PyData.depth] at this
  omega
theorem room_in {k : Nat} {A : Around} (hr : Room k A) {n d : Nat} (h : n ≤ 40) : A.units + 1 + min n d < cLine := by
  have := hr.units
  have h2 : min n d ≤ n := Nat.min_le_left _ _
  omega
theorem cs_in : CmpS .In inD := by
  intro X k hr pins s σ H x y v u Q I rx ry ⟨F, a, b, c, sub, ra, rb, e, q⟩
  unfold inD at e
  split at e
  · split at e
    · rename_i h; cases e
      simp only [Bool.and_eq_true] at h
      obtain ⟨as, r1⟩ := ra.reads I sub rx (okD_plain h.1)
      obtain ⟨bs, r2⟩ := rb.reads I sub ry (okD_plain h.2)
      exact SeqAt.in_list_data r2 r1 (plain_list h.2) (okD_plain h.1) (room_in hr (depth_list h.2)) ⟨.bl _, H, I, rfl, q⟩
    · cases e
  · split at e
    · rename_i h; cases e
      simp only [Bool.and_eq_true] at h
      obtain ⟨as, r1⟩ := ra.reads I sub rx (okD_plain h.1)
      obtain ⟨bs, r2⟩ := rb.reads I sub ry (okD_plain h.2)
      exact SeqAt.in_tuple_data r2 r1 (plain_tup h.2) (okD_plain h.1) (room_in hr (depth_tup h.2)) ⟨.bl _, H, I, rfl, q⟩
    · cases e
  · split at e
    · cases e
      rw [ra.toStr] at rx; rw [rb.toStr] at ry
      exact op_in_str pins s σ H _ _ v u Q I rx ry ⟨_, _, rfl, rfl, q⟩
    · cases e
  · cases e
theorem cs_notIn : CmpS .NotIn notInD := by
  intro X k hr pins s σ H x y v u Q I rx ry ⟨F, a, b, c, sub, ra, rb, e, q⟩
  unfold notInD inD at e
  split at e
  · split at e
    · rename_i h; cases e
      simp only [Bool.and_eq_true] at h
      obtain ⟨as, r1⟩ := ra.reads I sub rx (okD_plain h.1)
      obtain ⟨bs, r2⟩ := rb.reads I sub ry (okD_plain h.2)
      exact SeqAt.notIn_list_data r2 r1 (plain_list h.2) (okD_plain h.1) (room_in hr (depth_list h.2)) ⟨.bl _, H, I, rfl, q⟩
    · cases e
  · split at e
    · rename_i h; cases e
      simp only [Bool.and_eq_true] at h
      obtain ⟨as, r1⟩ := ra.reads I sub rx (okD_plain h.1)
      obtain ⟨bs, r2⟩ := rb.reads I sub ry (okD_plain h.2)
      exact SeqAt.notIn_tuple_data r2 r1 (plain_tup h.2) (okD_plain h.1) (room_in hr (depth_tup h.2)) ⟨.bl _, H, I, rfl, q⟩
    · cases e
  · split at e
    · cases e
      rw [ra.toStr] at rx; rw [rb.toStr] at ry
      exact op_notin_str pins s σ H _ _ v u Q I rx ry ⟨_, _, rfl, rfl, q⟩
    · cases e
  · cases e

/-! ### subscripts, slices -/
section
variable {α : Type} {C : Ct} {ρ : Env} {m : R α}
theorem ix_main {X : Cx} {a b : D} {c : D} {F : Hp} {pins : List (Addr × Obj)} {s : Shared} {σ : L2.St} {H : Hp} {x y : V} {v u : Value} {Q : VK} {value slice : Expr} (I : Inv X pins σ H s) (rx : RelV x v) (ry : RelV y u) (sub : Same F H) (ra : Rp X.K F x a) (rb : Rp X.K F y b)
    (e : item a b = .ok c) (q : ∀ v', Rp X.K F v' c → Q v' H) (hs : subscripted slice false v u = operate [v, u] (getItem v u)) : wpAny (model X.prog X.w) X.A (PyProof.Rows.subscriptTail value slice v u) (EP X pins σ Q) X.xe s := by
  unfold item at e
  split at e
  · unfold atD at e
    split at e
    · rename_i h; cases e
      obtain ⟨p, xs, rfl, hp, rxs⟩ := ra.toTup
      rw [rb.toInt] at ry
      obtain ⟨v', h1, h2⟩ := rxs.atI h
      exact ix_tup value slice pins s σ H _ _ v u Q I rx ry ⟨p, xs, _, v', rfl, rfl, seqT sub hp, h1, q v' h2⟩ hs
    · cases e
  · unfold atD at e
    split at e
    · rename_i h; cases e
      obtain ⟨p, xs, rfl, hp, rxs⟩ := ra.toList
      rw [rb.toInt] at ry
      obtain ⟨v', h1, h2⟩ := rxs.atI h
      exact ix_list value slice pins s σ H _ _ v u Q I rx ry ⟨p, xs, _, v', rfl, rfl, SqL.of (sub _ _ hp), h1, q v' h2⟩ hs
    · cases e
  · split at e
    · rename_i hz
      split at e
      · rename_i h; cases e
        rw [ra.toStr] at rx; rw [rb.toInt] at ry
        exact ix_str value slice pins s σ H _ _ v u Q I rx ry ⟨_, _, _, rfl, rfl, szOk_line hz, h, q _ (.str _)⟩ hs
      · cases e
    · cases e
  · cases e
theorem de_ix {κ : D → Env → R α → Prop} {a b : Expr} {pos : Pos} (h : DE C ρ a m fun x ρ1 m1 => DE C ρ1 b m1 fun y ρ2 m2 => ∃ g, m2 = (item x y).bind g ∧ ∀ z, κ z ρ2 (g z)) (hs : PlainIx b := by intro _ _; rfl) : DE C ρ (.Subscript a b pos) m κ := by
  intro X W Z x hK c z
  have hb : PE X b fun σ H Q => ∃ i : R α × Env × D, (DE C i.2.1 b i.1 (fun y ρ2 m2 => ∃ g, m2 = (item i.2.2 y).bind g ∧ ∀ z, κ z ρ2 (g z)) ∧ Z i.1) ∧ ∃ F, Rel W i.2.1 σ H F ∧ ∀ d ρ' m' v H' F', (∃ g, m' = (item i.2.2 d).bind g ∧ ∀ z, κ z ρ' (g z)) → Z m' → Rel W ρ' σ H' F' → Same F F' → Rp W.K F' v d → Q v H' :=
    ⟨fun p s σ H Q I ⟨i, pi, q⟩ => (pi.1 X W Z x hK c pi.2).run p s σ H Q I q⟩
  have hix : IxR X fun x y H Q => ∃ (F : Hp) (a b c : D), Same F H ∧ Rp X.K F x a ∧ Rp X.K F y b ∧ item a b = .ok c ∧ ∀ v', Rp X.K F v' c → Q v' H :=
    fun value slice pins s σ H x y v u Q I rx ry ⟨F, a, b, c, sub, ra, rb, e, q⟩ hs => ix_main I rx ry sub ra rb e q hs
  refine PE_imp (pe_ix hix (h X W Z x hK c z) hb hs) fun σ H Q ⟨F, r, q⟩ => ⟨F, r, fun dx ρ1 m1 vx H1 F1 h1 h2 h3 h4 h5 => ?_⟩
  refine ⟨(m1, ρ1, dx), ⟨h1, h2⟩, F1, h3, fun dy ρ2 m2 vy H2 F2 ⟨g, e, hg⟩ k2 k3 k4 k5 => ?_⟩
  subst e
  obtain ⟨w, ew, zw⟩ := c.bind k2
  refine ⟨F2, dx, dy, w, k3.sub, by rw [x.K, ← hK]; exact h5.mono k4, by rw [x.K, ← hK]; exact k5, ew, fun v' p' => ?_⟩
  exact q _ ρ2 _ v' H2 F2 (hg w) zw k3 (h4.trans k4) (by rw [hK, ← x.K]; exact p')
/-- an end of a slice: none, or a part -/
def DO {α : Type} (C : Ct) (ρ : Env) (e : Option Expr) (m : R α) (κ : Option Int → Env → R α → Prop) : Prop :=
  match e with
  | none => κ none ρ m
  | some e => DE C ρ e m fun d ρ1 m1 => (∃ i, d = .int i ∧ κ (some i) ρ1 m1) ∨ ∃ g, m1 = (toI d).bind g ∧ ∀ l, κ (some l) ρ1 (g l)
theorem po_of {X : Cx} {W : Wd} {Z : R α → Prop} (x : XOk C X) (hK : W.K = C.K) (c : Cl Z) {e : Option Expr} : PO X e fun σ H (Q : Option Int → Hp → Prop) => ∃ (i : R α × Env) (κ : Option Int → Env → R α → Prop), (DO C i.2 e i.1 κ ∧ Z i.1) ∧ ∃ F, Rel W i.2 σ H F ∧
    ∀ d ρ' m' H' F', κ d ρ' m' → Z m' → Rel W ρ' σ H' F' → Same F F' → Q d H' := by
  cases e with
  | none =>
    refine ⟨fun pins s σ H Q I ⟨i, κ, ⟨h, z⟩, F, r, q⟩ => ?_⟩
    exact po_none.run pins s σ H Q I (q none i.2 i.1 H F h z r (Same.refl _))
  | some e =>
    refine ⟨fun pins s σ H Q I ⟨i, κ, ⟨h, z⟩, F, r, q⟩ => ?_⟩
    refine (po_some (h X W Z x hK c z)).run pins s σ H Q I ⟨F, r, fun d ρ' m' v H' F' h1 h2 h3 h4 h5 => ?_⟩
    rcases h1 with ⟨i, e, h1⟩ | ⟨g, e, h1⟩
    · subst e; exact ⟨i, h5.toInt, q _ ρ' m' H' F' h1 h2 h3 h4⟩
    · subst e
      obtain ⟨l, el, zl⟩ := c.bind h2
      unfold toI at el
      split at el
      · cases el; exact ⟨_, h5.toInt, q _ ρ' _ H' F' (h1 _) zl h3 h4⟩
      · cases el
end
end Z

set_option Elab.async false
set_option linter.all false
set_option maxRecDepth 100000
set_option autoImplicit false
/-! # Z9: slices, built-in functions, isinstance, repr -/
namespace Z
open PySem L2
section
variable {α : Type} {C : Ct} {ρ : Env} {m : R α}

/-! ### slices -/
def rSlZ (K : PySem.W.Frag) : V → Option Int → Option Int → Hp → VK → Prop := fun x lo hi H Q => ∃ (F : Hp) (a c : D), Same F H ∧ Rp K F x a ∧ slice a lo hi = .ok c ∧ ∀ v H' F', Fx F H F' H' → Rp K F' v c → Q v H'
theorem cut_whole {α : Type} {xs : List α} {lo hi : Option Int} (h : HT.sIx xs.length 0 lo = 0 ∧ HT.sIx xs.length xs.length hi = xs.length) : cut xs lo hi = xs := by
  unfold Z.cut
  rw [h.1, h.2]
  simp
theorem sl_z {X : Cx} : L2.SlR X (rSlZ X.K) := by
  intro pins s σ H x v vl vu lo hi sl Q I rx hs pl pu ⟨F, a, c, sub, ra, e, q⟩
  unfold slice at e
  split at e
  · cases e
    obtain ⟨p, xs, rfl, hp, rxs⟩ := ra.toTup
    refine sl_tupA pins s σ H _ v vl vu lo hi sl Q I rx hs pl pu ⟨p, xs, rfl, seqT sub hp, fun hw => ?_, fun _ => newT sub (rxs.cut lo hi) q⟩
    rw [rxs.length] at hw
    rw [cut_whole hw] at q
    exact q _ H F (Fx.refl sub) (.tup hp rxs)
  · cases e
    obtain ⟨p, xs, rfl, hp, rxs⟩ := ra.toList
    exact sl_list pins s σ H _ v vl vu lo hi sl Q I rx hs pl pu ⟨p, xs, rfl, SqL.of (sub _ _ hp), newL sub (rxs.cut lo hi) q⟩
  · split at e
    · rename_i hz; cases e
      rw [ra.toStr] at rx
      exact sl_str pins s σ H _ v vl vu lo hi sl Q I rx hs pl pu ⟨_, rfl, szOk_line hz, q _ H F (Fx.refl sub) (.str _)⟩
    · cases e
  · cases e
theorem de_slice {κ : D → Env → R α → Prop} {a : Expr} {lo hi : Option Expr} {p pos : Pos} (h : DE C ρ a m fun x ρ1 m1 => DO C ρ1 lo m1 fun l ρ2 m2 => DO C ρ2 hi m2 fun u ρ3 m3 => ∃ g, m3 = (slice x l u).bind g ∧ ∀ z, κ z ρ3 (g z)) :
    DE C ρ (.Subscript a (.Slice lo hi none p) pos) m κ := by
  intro X W Z x hK c z
  refine PE_imp (pe_slice sl_z (h X W Z x hK c z) (po_of x hK c) (po_of x hK c)) fun σ H Q ⟨F, r, q⟩ => ⟨F, r, fun dx ρ1 m1 vx H1 F1 h1 h2 h3 h4 h5 => ?_⟩
  refine ⟨(m1, ρ1), _, ⟨h1, h2⟩, F1, h3, fun dl ρ2 m2 H2 F2 k1 k2 k3 k4 => ?_⟩
  refine ⟨(m2, ρ2), _, ⟨k1, k2⟩, F2, k3, fun du ρ3 m3 H3 F3 ⟨g, e, hg⟩ j2 j3 j4 => ?_⟩
  subst e
  obtain ⟨w, ew, zw⟩ := c.bind j2
  refine ⟨F3, dx, w, j3.sub, by rw [x.K, ← hK]; exact (h5.mono k4).mono j4, ew, fun v' H' F' fx p' => ?_⟩
  exact q _ ρ3 _ v' H' F' (hg w) zw (j3.step fx) (((h4.trans k4).trans j4).trans fx.ff) (by rw [hK, ← x.K]; exact p')
theorem de_negc {κ : D → Env → R α → Prop} {i : Int} {j : Nat} {p pos : Pos} (k : κ (.int (-i)) ρ m) : DE C ρ (.UnaryOp .USub (.Constant (.int i) j p) pos) m κ := by
  intro X W Z x hK c z
  refine PE_imp (pe_un un_neg pe_int) fun σ H Q ⟨F, r, q⟩ => ⟨_, rfl, q _ ρ m _ H F k z r (Same.refl _) (.int _)⟩

/-! ### built-in functions, by data -/
def rD (K : PySem.W.Frag) (f : List D → R D) : List V → Hp → VK → Prop := fun vs H Q => ∃ F ds c, Same F H ∧ RpAll K F vs ds ∧ f ds = .ok c ∧ ∀ v H' F', Fx F H F' H' → Rp K F' v c → Q v H'
def CallS (u : Value) (f : List D → R D) : Prop := ∀ (X : Cx) (k : Nat), X.calm = true → Room k X.A → X.A.guards = some [] → CallR X u (rD X.K f)
theorem da_call {κ : D → Env → R α → Prop} {X : Cx} {W : Wd} {Z : R α → Prop} {f : List D → R D} {es : List Expr} (x : XOk C X) (hK : W.K = C.K) (c : Cl Z) {σ : L2.St} {H : Hp} {Q : VK} {F : Hp} (r : Rel W ρ σ H F)
    (q : ∀ d ρ' m' v H' F', κ d ρ' m' → Z m' → Rel W ρ' σ H' F' → Same F F' → Rp W.K F' v d → Q v H') : ∀ ds ρ' m' vs H' F', (∃ (r0 : R D) (g : D → R α), f ds = r0 ∧ m' = r0.bind g ∧ ∀ z, κ z ρ' (g z)) → Z m' → Rel W ρ' σ H' F' → Same F F' → RpAll W.K F' vs ds → rD X.K f vs H' Q := by
  intro ds ρ' m' vs H' F' ⟨r0, g, e0, e, hg⟩ h2 h3 h4 h5
  subst e0 e
  obtain ⟨w, ew, zw⟩ := c.bind h2
  exact ⟨F', ds, w, h3.sub, by rw [x.K, ← hK]; exact h5, ew, fun v' H2 F2 fx p => q _ ρ' _ v' H2 F2 (hg w) zw (h3.step fx) (h4.trans fx.ff) (by rw [hK, ← x.K]; exact p)⟩
theorem de_blt {κ : D → Env → R α → Prop} {n : Str} {id : String} {f : List D → R D} {p pos : Pos} {e : Expr} {es : List Expr} (hc : CallS (.builtin id) f) (hm : C.mg n = none) (hv : bootBuiltins n = some (.builtin id))
    (h : DA C ρ (e :: es) m fun ds ρ1 m1 => ∃ (r0 : R D) (g : D → R α), f ds = r0 ∧ m1 = r0.bind g ∧ ∀ z, κ z ρ1 (g z)) (hg : C.sc.names.lookup n = some .globalImplicit := by rfl) (hn : n ≠ "__name__" := by decide) (hdb : (n == ("__debug__" : Str)) = false := by decide)
    (he : ∀ env : PySem.Env, starEach (e :: es) env = (false, eval e env) :: starEach es env := by intro _; rfl) (hpl : ∀ env : PySem.Env, (backTo pos (starEach es env)).any (·.1) = false := by intro _; rfl) : DE C ρ (.Call (.Name n p) (e :: es) [] pos) m κ := by
  intro X W Z x hK c z
  refine PE_imp (pe_callB (hc X _ x.calm x.room x.grd) (x.gl hg) (x.mg0 hm) hv (h X W Z x hK c z) hn hdb (he _) (hpl _)) fun σ H Q ⟨F, r, q⟩ => ⟨F, r, da_call (κ := κ) (es := es) x hK c r q⟩
theorem de_bty {κ : D → Env → R α → Prop} {n : Str} {T : String} {f : List D → R D} {p pos : Pos} {e : Expr} {es : List Expr} (hc : CallS (.type T) f) (hm : C.mg n = none) (hv : bootBuiltins n = some (.type T))
    (h : DA C ρ (e :: es) m fun ds ρ1 m1 => ∃ (r0 : R D) (g : D → R α), f ds = r0 ∧ m1 = r0.bind g ∧ ∀ z, κ z ρ1 (g z)) (hg : C.sc.names.lookup n = some .globalImplicit := by rfl) (hn : n ≠ "__name__" := by decide) (hdb : (n == ("__debug__" : Str)) = false := by decide)
    (he : ∀ env : PySem.Env, starEach (e :: es) env = (false, eval e env) :: starEach es env := by intro _; rfl) (hpl : ∀ env : PySem.Env, (backTo pos (starEach es env)).any (·.1) = false := by intro _; rfl) : DE C ρ (.Call (.Name n p) (e :: es) [] pos) m κ := by
  intro X W Z x hK c z
  refine PE_imp (pe_callTy (hc X _ x.calm x.room x.grd) (x.gl hg) (x.mg0 hm) hv (h X W Z x hK c z) hn hdb (he _) (hpl _)) fun σ H Q ⟨F, r, q⟩ => ⟨F, r, da_call (κ := κ) (es := es) x hK c r q⟩
/-- a module's name for a built-in function (gcd) -/
theorem de_bfn {κ : D → Env → R α → Prop} {n : Str} {id : String} {f : List D → R D} {p pos : Pos} {e : Expr} {es : List Expr} (hc : CallS (.builtin id) f) (hm : C.mg n = some (.builtin id))
    (h : DA C ρ (e :: es) m fun ds ρ1 m1 => ∃ (r0 : R D) (g : D → R α), f ds = r0 ∧ m1 = r0.bind g ∧ ∀ z, κ z ρ1 (g z)) (hg : C.sc.names.lookup n = some .globalImplicit := by rfl) (hdb : (n == ("__debug__" : Str)) = false := by decide)
    (he : ∀ env : PySem.Env, starEach (e :: es) env = (false, eval e env) :: starEach es env := by intro _; rfl) (hpl : ∀ env : PySem.Env, (backTo pos (starEach es env)).any (·.1) = false := by intro _; rfl) : DE C ρ (.Call (.Name n p) (e :: es) [] pos) m κ := by
  intro X W Z x hK c z
  refine PE_imp (pe_callBfun (hc X _ x.calm x.room x.grd) (x.gl hg) (by rw [x.mg]; exact hm) (h X W Z x hK c z) hdb (he _) (hpl _)) fun σ H Q ⟨F, r, q⟩ => ⟨F, r, da_call (κ := κ) (es := es) x hK c r q⟩
end

theorem fn1_ok {f : D → R D} {ds : List D} {c : D} (h : fn1 f ds = .ok c) : ∃ a, ds = [a] ∧ f a = .ok c := by
  match ds, h with
  | [a], h => exact ⟨a, rfl, h⟩
theorem fn2_ok {f : D → D → R D} {ds : List D} {c : D} (h : fn2 f ds = .ok c) : ∃ a b, ds = [a, b] ∧ f a b = .ok c := by
  match ds, h with
  | [a, b], h => exact ⟨a, b, rfl, h⟩
theorem bl_len : CallS (.builtin "len") (fn1 lenD) := by
  intro X k hc hr gd pins s σ H vs us Q I rv ⟨F, ds, c, sub, ra0, e0, q⟩
  obtain ⟨a, rfl, e⟩ := fn1_ok e0
  obtain ⟨v, rfl, ra⟩ := ra0.one
  unfold lenD at e
  split at e
  · cases e
    obtain ⟨p, xs, rfl, hp, rxs⟩ := ra.toTup
    exact call_len pins s σ H _ us Q I rv ⟨_, xs.length, rfl, .inr ⟨xs, seqT sub hp, rfl⟩, by rw [rxs.length]; exact q _ H F (Fx.refl sub) (.int _)⟩
  · cases e
    obtain ⟨p, xs, rfl, hp, rxs⟩ := ra.toList
    exact call_len pins s σ H _ us Q I rv ⟨_, xs.length, rfl, .inl ⟨xs, SqL.of (sub _ _ hp), rfl⟩, by rw [rxs.length]; exact q _ H F (Fx.refl sub) (.int _)⟩
  · split at e
    · rename_i hz; cases e
      rw [ra.toStr] at rv
      exact call_len pins s σ H _ us Q I rv ⟨_, _, rfl, ⟨szOk_line hz, rfl⟩, q _ H F (Fx.refl sub) (.int _)⟩
    · cases e
  · cases e
theorem bl_abs : CallS (.builtin "abs") (fn1 absD) := by
  intro X k hc hr gd pins s σ H vs us Q I rv ⟨F, ds, c, sub, ra0, e0, q⟩
  obtain ⟨a, rfl, e⟩ := fn1_ok e0
  obtain ⟨v, rfl, ra⟩ := ra0.one
  unfold absD at e
  split at e
  · cases e
    rw [ra.toInt] at rv
    exact call_abs pins s σ H _ us Q I rv ⟨_, rfl, q _ H F (Fx.refl sub) (.int _)⟩
  · cases e
theorem bl_max2 : CallS (.builtin "max") (fn2 maxD2) := by
  intro X k hc hr gd pins s σ H vs us Q I rv ⟨F, ds, c, sub, ra0, e0, q⟩
  obtain ⟨a, b, rfl, e⟩ := fn2_ok e0
  obtain ⟨v, u, rfl, ra, rb⟩ := ra0.two
  unfold maxD2 at e
  split at e
  · cases e
    rw [ra.toInt, rb.toInt] at rv
    exact call_max2 hc pins s σ H _ us Q I rv ⟨_, _, rfl, q _ H F (Fx.refl sub) (.int _)⟩
  · cases e
theorem bl_min2 : CallS (.builtin "min") (fn2 minD2) := by
  intro X k hc hr gd pins s σ H vs us Q I rv ⟨F, ds, c, sub, ra0, e0, q⟩
  obtain ⟨a, b, rfl, e⟩ := fn2_ok e0
  obtain ⟨v, u, rfl, ra, rb⟩ := ra0.two
  unfold minD2 at e
  split at e
  · cases e
    rw [ra.toInt, rb.toInt] at rv
    exact call_min2 hc pins s σ H _ us Q I rv ⟨_, _, rfl, q _ H F (Fx.refl sub) (.int _)⟩
  · cases e
theorem bl_int : CallS (.type "int") (fn1 intD) := by
  intro X k hc hr gd pins s σ H vs us Q I rv ⟨F, ds, c, sub, ra0, e0, q⟩
  obtain ⟨a, rfl, e⟩ := fn1_ok e0
  obtain ⟨v, rfl, ra⟩ := ra0.one
  unfold intD at e
  split at e
  · cases e
    rw [ra.toInt] at rv
    exact call_int1 pins s σ H _ us Q I rv (.inl ⟨_, rfl, q _ H F (Fx.refl sub) (.int _)⟩)
  · cases e
    rw [ra.toBool] at rv
    exact call_int1 pins s σ H _ us Q I rv (.inr ⟨_, rfl, q _ H F (Fx.refl sub) (.int _)⟩)
  · cases e
theorem bl_gcd : CallS (.builtin "math.gcd") (fn2 gcdD) := by
  intro X k hc hr gd pins s σ H vs us Q I rv ⟨F, ds, c, sub, ra0, e0, q⟩
  obtain ⟨a, b, rfl, e⟩ := fn2_ok e0
  obtain ⟨v, u, rfl, ra, rb⟩ := ra0.two
  unfold gcdD at e
  split at e
  · cases e
    rw [ra.toInt, rb.toInt] at rv
    exact cr_gcd pins s σ H _ us Q I rv ⟨_, _, rfl, q _ H F (Fx.refl sub) (.int _)⟩
  · cases e
theorem bl_tuple : CallS (.type "tuple") (fn1 tupleD) := by
  intro X k hc hr gd pins s σ H vs us Q I rv ⟨F, ds, c, sub, ra0, e0, q⟩
  obtain ⟨a, rfl, e⟩ := fn1_ok e0
  obtain ⟨v, rfl, ra⟩ := ra0.one
  unfold tupleD at e
  split at e
  · cases e
    obtain ⟨p, xs, rfl, hp, rxs⟩ := ra.toList
    exact call_tuple_of pins s σ H _ us Q I rv ⟨_, xs, rfl, .inl ⟨SqL.of (sub _ _ hp), newT sub rxs q⟩⟩
  · cases e
    obtain ⟨p, xs, rfl, hp, rxs⟩ := ra.toTup
    exact call_tuple_of pins s σ H _ us Q I rv ⟨_, xs, rfl, .inr ⟨seqT sub hp, q _ H F (Fx.refl sub) (.tup hp rxs)⟩⟩
  · cases e
theorem bl_list : CallS (.type "list") (fn1 listD) := by
  intro X k hc hr gd pins s σ H vs us Q I rv ⟨F, ds, c, sub, ra0, e0, q⟩
  obtain ⟨a, rfl, e⟩ := fn1_ok e0
  obtain ⟨v, rfl, ra⟩ := ra0.one
  unfold listD at e
  split at e
  · cases e
    obtain ⟨p, xs, rfl, hp, rxs⟩ := ra.toList
    exact call_list_of pins s σ H _ us Q I rv ⟨_, xs, rfl, .inl (SqL.of (sub _ _ hp)), newL sub rxs q⟩
  · cases e
    obtain ⟨p, xs, rfl, hp, rxs⟩ := ra.toTup
    exact call_list_of pins s σ H _ us Q I rv ⟨_, xs, rfl, .inr (seqT sub hp), newL sub rxs q⟩
  · cases e
theorem ints_of {K : PySem.W.Frag} {F : Hp} : ∀ {vs : List V} {ds : List D} {ns : List Int}, RpAll K F vs ds → intsD ds = some ns → vs = ns.map V.int
  | _, _, ns, .nil, e => by cases e; rfl
  | _, _, ns, .cons (d := .int i) h t, e => by
    simp only [intsD] at e
    obtain ⟨ms, e1, e2⟩ := Option.map_eq_some_iff.mp e
    subst e2
    rw [h.toInt, ints_of t e1]; rfl
  | _, _, ns, .cons (d := .none) h t, e => by cases e
  | _, _, ns, .cons (d := .bool _) h t, e => by cases e
  | _, _, ns, .cons (d := .str _) h t, e => by cases e
  | _, _, ns, .cons (d := .list _) h t, e => by cases e
  | _, _, ns, .cons (d := .tuple _) h t, e => by cases e
  | _, _, ns, .cons (d := .dict _) h t, e => by cases e
theorem bools_of {K : PySem.W.Frag} {F : Hp} : ∀ {vs : List V} {ds : List D} {ns : List Bool}, RpAll K F vs ds → boolsD ds = some ns → vs = ns.map V.bl
  | _, _, ns, .nil, e => by cases e; rfl
  | _, _, ns, .cons (d := .bool i) h t, e => by
    simp only [boolsD] at e
    obtain ⟨ms, e1, e2⟩ := Option.map_eq_some_iff.mp e
    subst e2
    rw [h.toBool, bools_of t e1]; rfl
  | _, _, ns, .cons (d := .none) h t, e => by cases e
  | _, _, ns, .cons (d := .int _) h t, e => by cases e
  | _, _, ns, .cons (d := .str _) h t, e => by cases e
  | _, _, ns, .cons (d := .list _) h t, e => by cases e
  | _, _, ns, .cons (d := .tuple _) h t, e => by cases e
  | _, _, ns, .cons (d := .dict _) h t, e => by cases e
theorem bl_sum : CallS (.builtin "sum") (fn1 sumL) := by
  intro X k hc hr gd pins s σ H vs us Q I rv ⟨F, ds, c, sub, ra0, e0, q⟩
  obtain ⟨a, rfl, e⟩ := fn1_ok e0
  obtain ⟨v, rfl, ra⟩ := ra0.one
  unfold sumL at e
  split at e
  · split at e
    · rename_i hn; cases e
      obtain ⟨p, xs, rfl, hp, rxs⟩ := ra.toList
      have ex := ints_of rxs hn
      subst ex
      exact cr_sum hc pins s σ H _ us Q I rv ⟨_, _, rfl, SqL.of (sub _ _ hp), q _ H F (Fx.refl sub) (.int _)⟩
    · cases e
  · cases e
theorem bl_all : CallS (.builtin "all") (fn1 allL) := by
  intro X k hc hr gd pins s σ H vs us Q I rv ⟨F, ds, c, sub, ra0, e0, q⟩
  obtain ⟨a, rfl, e⟩ := fn1_ok e0
  obtain ⟨v, rfl, ra⟩ := ra0.one
  unfold allL at e
  split at e
  · split at e
    · rename_i hn; cases e
      obtain ⟨p, xs, rfl, hp, rxs⟩ := ra.toList
      have ex := bools_of rxs hn
      subst ex
      exact cr_all hc pins s σ H _ us Q I rv ⟨_, _, rfl, SqL.of (sub _ _ hp), q _ H F (Fx.refl sub) (.bl _)⟩
    · cases e
  · cases e
end Z

set_option Elab.async false
set_option linter.all false
set_option maxRecDepth 100000
set_option autoImplicit false
/-! # Z10: lists of their own -/
namespace Z
open PySem L2

theorem Rel.base {W : Wd} {ρ : Env} {σ : L2.St} {H F : Hp} (r : Rel W ρ σ H F) {b : Addr} (h : H b = none) : W.H0 b = none := by
  cases e : W.H0 b with
  | none => rfl
  | some u => obtain ⟨o, q⟩ := r.trk b u e; rw [h] at q; cases q
/-- a new list of its own at a slot -/
theorem Rel.own {W : Wd} {ρ : Env} {σ : L2.St} {H F : Hp} (r : Rel W ρ σ H F) (i : Nat) {p : Addr} {vs : List V} {ds : List D} (hp : H p = none) (rd : RpAll W.K F vs ds) :
    Rel W (ρ.set i (some (.own ds))) (σ.set i (some (.ref p))) (upd H p (.lst vs)) F := by
  obtain ⟨ad, k⟩ := r.env
  have hF := r.sub.free hp
  have h0 := r.base hp
  have hx : ∀ b o, H b = some o → upd H p (.lst vs) b = some o := fun b o h => by rw [upd_ne (ne_of_none h hp)]; exact h
  have fx : Fx F H F (upd H p (.lst vs)) := ⟨Same.refl _, fun b o h => hx b o (r.sub b o h), hx, fun _ _ h => .inl h⟩
  have r' := r.step fx
  refine ⟨r'.sub, r'.sub0, r'.keep, r'.fresh, ⟨fun j => if j = i then [p] else ad j, fun j sl e => ?_⟩, by rw [List.length_set, List.length_set]; exact r.len, r'.trk⟩
  rcases get_set e with ⟨e1, e2, e3⟩ | ⟨e1, e2⟩
  · subst e1; cases e3
    refine ⟨.ref p, by rw [List.getElem?_set_self (Nat.lt_of_lt_of_le e2 r.len)], ⟨p, vs, rfl, by simp, upd_same, hF, rd⟩, by simp [h0], fun l sl' hl e' b hb => ?_⟩
    have hb' : b = p := by simpa using hb
    subst hb'
    have ne : l ≠ i := fun q => hl q.symm
    simp only [if_neg ne]
    rcases get_set e' with ⟨z1, _, _⟩ | ⟨z1, z2⟩
    · exact absurd z1 hl
    · intro hbl
      obtain ⟨v', k1, k2, _, _⟩ := k l sl' z2
      obtain ⟨_, o, q⟩ := k2.there b hbl
      rw [hp] at q; cases q
  · have ne : j ≠ i := fun q => e1 q.symm
    simp only [if_neg ne]
    obtain ⟨v', k1, k2, k3, k4⟩ := k j sl e2
    refine ⟨v', by rw [List.getElem?_set_ne e1]; exact k1, k2.step fx, k3, fun l sl'' hl e' b hb => ?_⟩
    rcases get_set e' with ⟨z1, z2, z3⟩ | ⟨z1, z2⟩
    · subst z1; cases z3
      simp only [if_true]
      intro hbl
      have hb' : b = p := by simpa using hbl
      subst hb'
      obtain ⟨_, o, q⟩ := k2.there b hb
      rw [hp] at q; cases q
    · have ne' : l ≠ i := fun q => z1 q.symm
      simp only [if_neg ne']
      exact k4 l sl'' hl z2 b hb
/-- from now on nobody changes it -/
theorem Rel.freeze {W : Wd} {ρ : Env} {σ : L2.St} {H F : Hp} (r : Rel W ρ σ H F) {i : Nat} {xs : List D} (e : ρ[i]? = some (some (.own xs))) :
    ∃ p F', σ[i]? = some (some (.ref p)) ∧ Rel W (ρ.set i (some (.val (.list xs)))) σ H F' ∧ Same F F' ∧ Rp W.K F' (.ref p) (.list xs) := by
  obtain ⟨v, as, h1, h2, h3, up⟩ := r.slot e
  obtain ⟨p, vs, rfl, e2, hp, hf, rd⟩ := h2
  subst e2
  have ss : Same F (upd F p (.lst vs)) := fun b o h => by rw [upd_ne (ne_of_none h hf)]; exact h
  have rp : Rp W.K (upd F p (.lst vs)) (.ref p) (.list xs) := .lst upd_same (rd.mono ss)
  refine ⟨p, upd F p (.lst vs), h1, up (as' := []) ⟨ss, fun b o h => ?_, fun b o h _ => h, fun b o h => ⟨o, h⟩, fun b o h => ?_⟩ ⟨rp, rfl⟩ (by simp), ss, rp⟩
  · by_cases hb : b = p
    · subst hb; rw [upd_same] at h; cases h; exact hp
    · rw [upd_ne hb] at h; exact r.sub b o h
  · by_cases hb : b = p
    · subst hb; exact .inr (.inr (by simp))
    · rw [upd_ne hb] at h; exact .inl h
/-- other content -/
theorem Rel.ownAt {W : Wd} {ρ : Env} {σ : L2.St} {H F : Hp} (r : Rel W ρ σ H F) {i : Nat} {xs : List D} (e : ρ[i]? = some (some (.own xs))) :
    ∃ p vs, σ[i]? = some (some (.ref p)) ∧ H p = some (.lst vs) ∧ F p = none ∧ RpAll W.K F vs xs ∧ ∀ vs' xs', RpAll W.K F vs' xs' → Rel W (ρ.set i (some (.own xs'))) σ (upd H p (.lst vs')) F := by
  obtain ⟨v, as, h1, h2, h3, up⟩ := r.slot e
  obtain ⟨p, vs, rfl, e2, hp, hf, rd⟩ := h2
  subst e2
  refine ⟨p, vs, h1, hp, hf, rd, fun vs' xs' rd' => up (as' := [p]) ⟨Same.refl _, fun b o h => ?_, fun b o h hn => ?_, fun b o h => ?_, fun b o h => .inl h⟩ ⟨p, vs', rfl, rfl, upd_same, hf, rd'⟩ (by simp)⟩
  · rw [upd_ne (ne_of_none h hf)]; exact r.sub b o h
  · have : b ≠ p := by simpa using hn
    rw [upd_ne this]; exact h
  · by_cases hb : b = p
    · subst hb; exact ⟨_, upd_same⟩
    · exact ⟨o, by rw [upd_ne hb]; exact h⟩

section
variable {α : Type} {C : Ct} {ρ : Env} {m : R α}

/-- an expression that makes a new list -/
def DN {α : Type} (C : Ct) (ρ : Env) (e : Expr) (m : R α) (κ : List D → Env → R α → Prop) : Prop :=
  ∀ (X : Cx) (W : Wd) (Z : R α → Prop), XOk C X → W.K = C.K → Cl Z → Z m →
    PE X e fun σ H Q => ∃ F, Rel W ρ σ H F ∧ ∀ ds ρ' m' vs p H' F', κ ds ρ' m' → Z m' → Rel W ρ' σ H' F' → Same F F' → H' p = none → RpAll W.K F' vs ds → Q (.ref p) (upd H' p (.lst vs))
theorem dn_lst {κ : List D → Env → R α → Prop} {es : List Expr} {pos : Pos} (h : DA C ρ es m fun ds ρ1 m1 => ds.length ≤ 16777216 ∧ κ ds ρ1 m1) : DN C ρ (.List es pos) m κ := by
  intro X W Z x hK c z
  refine PE_imp (pe_lst (h X W Z x hK c z)) fun σ H Q ⟨F, r, q⟩ => ⟨F, r, fun ds ρ' m' vs H' F' ⟨hz, h1⟩ h2 h3 h4 h5 => ⟨by rw [h5.length, sizeLine_eq]; exact hz, fun p hp => ?_⟩⟩
  exact q ds ρ' m' vs p H' F' h1 h2 h3 h4 hp h5
/-- list(e) -/
theorem dn_list {κ : List D → Env → R α → Prop} {e : Expr} {p pos : Pos} (hm : C.mg ("list" : Str) = none) (h : DE C ρ e m fun d ρ1 m1 => ∃ g, m1 = (iterL d).bind g ∧ ∀ xs, κ xs ρ1 (g xs))
    (hg : C.sc.names.lookup ("list" : Str) = some .globalImplicit := by rfl) (he : ∀ env : PySem.Env, starEach [e] env = (false, eval e env) :: starEach [] env := by intro _; rfl) (hpl : ∀ env : PySem.Env, (backTo pos (starEach [] env)).any (·.1) = false := by intro _; rfl) : DN C ρ (.Call (.Name "list" p) [e] [] pos) m κ := by
  intro X W Z x hK c z
  have ha : DA C ρ [e] m fun ds ρ1 m1 => ∃ d, ds = [d] ∧ ∃ g, m1 = (iterL d).bind g ∧ ∀ xs, κ xs ρ1 (g xs) :=
    da_cons (fun X W Z x hK c z => PE_imp (h X W Z x hK c z) fun σ H Q ⟨F, r, q⟩ => ⟨F, r, fun d ρ' m' v H' F' k1 => q d ρ' m' v H' F' (da_nil ⟨d, rfl, k1⟩)⟩) he
  refine PE_imp (pe_callTy call_list_of (x.gl hg) (x.mg0 hm) rfl (ha X W Z x hK c z) (by decide) (by decide) (he _) (hpl _)) fun σ H Q ⟨F, r, q⟩ => ⟨F, r, fun ds ρ' m' vs H' F' ⟨d, e1, g, e2, hgg⟩ h2 h3 h4 h5 => ?_⟩
  subst e1 e2
  obtain ⟨xs, ex, zx⟩ := c.bind h2
  obtain ⟨v, rfl, rd⟩ := h5.one
  have sub := h3.sub
  unfold iterL at ex
  split at ex
  · cases ex
    obtain ⟨p, ys, rfl, hp, rys⟩ := rd.toTup
    exact ⟨p, ys, rfl, .inr (by rw [x.K, ← hK]; exact seqT sub hp), fun l hl => q _ ρ' _ ys l H' F' (hgg _) zx h3 h4 hl rys⟩
  · cases ex
    obtain ⟨p, ys, rfl, hp, rys⟩ := rd.toList
    exact ⟨p, ys, rfl, .inl (SqL.of (sub _ _ hp)), fun l hl => q _ ρ' _ ys l H' F' (hgg _) zx h3 h4 hl rys⟩
  · cases ex
theorem ds_own {J : Jd α} {n : Str} {e : Expr} {p pos : Pos} {rest : List Stmt} (i : Nat) (h : DN C ρ e m fun ds ρ1 m1 => DSs C (ρ1.set i (some (.own ds))) rest m1 J) (hN : C.N[i]? = some n := by rfl)
    (hx : Loc C.sc n := by first | exact Or.inl rfl | exact Or.inr rfl) (hfn : C.fn n = true ∨ C.sc.names.lookup n = some .local := by first | exact Or.inl rfl | exact Or.inr rfl) (hs : ∀ env : PySem.Env, env.scope = C.sc → swapsWith e (some (.Name n p)) pos.line env = pure false := by intro env he; rfl) : DSs C ρ (.Assign [.Name n p] e pos :: rest) m J := by
  intro X W Z x hK c z
  have hf : X.fn n = true ∨ X.env.scope.names.lookup n = some .local := hfn.elim (fun h => .inl (x.fnl n h)) fun h => .inr (by rw [x.sc]; exact h)
  refine PSs_imp (pss_cons (ps_set (i := i) (by rw [x.N]; exact x.nd) (by rw [x.N]; exact hN) (by rw [x.sc]; exact hx) (h X W Z x hK c z) (hs _ x.sc) hf) (rest_run (J := J) x hK c)) fun D σ H ⟨F, r, l⟩ => ?_
  exact ⟨F, r, fun d ρ' m' vs p H' F' h1 h2 h3 _ h4 h5 => ⟨(m', _), ⟨h1, h2⟩, F', h3.own i h4 h5, l⟩⟩
/-- it is read, and from now on a value -/
theorem de_take {κ : D → Env → R α → Prop} {n : Str} {pos : Pos} (i : Nat) {xs : List D} (hρ : ρ[i]? = some (some (.own xs))) (k : κ (.list xs) (ρ.set i (some (.val (.list xs)))) m) (hN : C.N[i]? = some n := by rfl)
    (hv : Vis C.sc n := by first | exact Or.inl rfl | exact Or.inr (Or.inl rfl) | exact Or.inr (Or.inr rfl)) (hd : (n == ("__debug__" : Str)) = false := by decide) (hcd : (n == ("__classdict__" : Str)) = false := by decide) : DE C ρ (.Name n pos) m κ := by
  intro X W Z x hK c z
  refine PE_imp (pe_var (i := i) (by rw [x.N]; exact hN) (x.vis hv) hd hcd) fun σ H Q ⟨F, r, q⟩ => ?_
  obtain ⟨p, F', h1, h2, h3, h4⟩ := r.freeze hρ
  exact ⟨_, h1, q _ _ m _ H F' k z h2 h3 h4⟩
/-- its name, alone, as a part of another reading -/
theorem own_name {X : Cx} (x : XOk C X) {n : Str} {pos : Pos} {i : Nat} (hN : C.N[i]? = some n) (hv : Vis C.sc n) (hd : (n == ("__debug__" : Str)) = false) (hcd : (n == ("__classdict__" : Str)) = false) : PE X (.Name n pos) fun σ H Q => ∃ v, σ[i]? = some (some v) ∧ Q v H :=
  pe_var (i := i) (by rw [x.N]; exact hN) (x.vis hv) hd hcd

/-! ### methods that change it -/
def rOwn (K : PySem.W.Frag) (f : List D → List D → R (D × List D)) : V → List V → Hp → VK → Prop := fun x ws H Q => ∃ F p vs xs ds r ys, x = .ref p ∧ H p = some (.lst vs) ∧ Same F H ∧ RpAll K F vs xs ∧ RpAll K F ws ds ∧ f xs ds = .ok (r, ys) ∧
  ∀ v vs', Rp K F v r → RpAll K F vs' ys → Q v (upd H p (.lst vs'))
def OwnM (id : String) (f : List D → List D → R (D × List D)) : Prop := ∀ X : Cx, MtR X id (rOwn X.K f)
theorem om_append : OwnM "list.append" pushM := by
  intro X pins s σ H x ws v us Q I rx rv ⟨F, p, vs, xs, ds, r, ys, e1, hp, sub, rd, ra, e, q⟩
  subst e1
  unfold pushM at e
  split at e
  · split at e
    · rename_i hz; cases e
      obtain ⟨w, rfl, rw'⟩ := ra.one
      refine mt_append pins s σ H _ _ v us Q I rx rv ⟨p, vs, w, rfl, rfl, hp, by rw [rd.length, sizeLine_eq]; simpa using hz, q .non _ .non (rd.snoc rw')⟩
    · cases e
  · cases e
theorem om_extend : OwnM "list.extend" extendM := by
  intro X pins s σ H x ws v us Q I rx rv ⟨F, p, vs, xs, ds, r, ys, e1, hp, sub, rd, ra, e, q⟩
  subst e1
  unfold extendM at e
  split at e
  · split at e
    · rename_i hz; cases e
      obtain ⟨w, rfl, rw'⟩ := ra.one
      obtain ⟨b, zs, rfl, hb, rz⟩ := rw'.toList
      refine mt_extend pins s σ H _ _ v us Q I rx rv ⟨p, b, vs, zs, rfl, rfl, hp, sub _ _ hb, by rw [rd.length, rz.length]; exact szOk_line hz, q .non _ .non (rd.append rz)⟩
    · cases e
  · cases e
theorem RpAll.eraseIdx {K : PySem.W.Frag} {F : Hp} : ∀ {vs : List V} {ds : List D} (n : Nat), RpAll K F vs ds → RpAll K F (vs.eraseIdx n) (ds.eraseIdx n)
  | _, _, _, .nil => .nil
  | _, _, 0, .cons _ t => t
  | _, _, n + 1, .cons r t => .cons r (RpAll.eraseIdx n t)
theorem RpAll.set {K : PySem.W.Frag} {F : Hp} {v : V} {d : D} (h : Rp K F v d) : ∀ {vs : List V} {ds : List D} (n : Nat), RpAll K F vs ds → RpAll K F (vs.set n v) (ds.set n d)
  | _, _, _, .nil => .nil
  | _, _, 0, .cons _ t => .cons h t
  | _, _, n + 1, .cons r t => .cons r (RpAll.set h n t)
theorem RpAll.dropLast {K : PySem.W.Frag} {F : Hp} {vs : List V} {ds : List D} (r : RpAll K F vs ds) : RpAll K F vs.dropLast ds.dropLast := by
  rw [List.dropLast_eq_take, List.dropLast_eq_take, r.length]; exact r.take _
theorem om_pop0 : OwnM "list.pop" pop0M := by
  intro X pins s σ H x ws v us Q I rx rv ⟨F, p, vs, xs, ds, r, ys, e1, hp, sub, rd, ra, e, q⟩
  subst e1
  unfold pop0M at e
  split at e
  · split at e
    · rename_i hz; cases e
      cases ra
      rw [List.getLast?_eq_getElem?, ← rd.length] at hz
      obtain ⟨w, h1, h2⟩ := rd.at hz
      refine mt_pop pins s σ H _ _ v us Q I rx rv ⟨p, vs, w, rfl, rfl, hp, h1, q w _ h2 rd.dropLast⟩
    · cases e
  · cases e
theorem om_pop1 : OwnM "list.pop" pop1M := by
  intro X pins s σ H x ws v us Q I rx rv ⟨F, p, vs, xs, ds, r, ys, e1, hp, sub, rd, ra, e, q⟩
  subst e1
  unfold pop1M at e
  split at e
  · split at e
    · rename_i j hj
      split at e
      · rename_i hz; cases e
        obtain ⟨w, rfl, rw'⟩ := ra.one
        rw [rw'.toInt] at rv
        obtain ⟨w', h1, h2⟩ := rd.at hz
        rw [← rd.length] at hj
        obtain ⟨k1, k2, k3, k4⟩ := ixN_seq hj
        obtain ⟨its, n, r, ho, hsz⟩ := I.lst hp
        have hn := line63
        refine mt_popAt pins s σ H _ _ v us Q I rx rv ⟨p, vs, _, j, w', rfl, rfl, hp, ?_, ?_, k1, h1, q w' _ h2 (rd.eraseIdx j)⟩ <;> omega
      · cases e
    · cases e
  · cases e
theorem de_om {κ : D → Env → R α → Prop} {name : Str} {id : String} {f : List D → List D → R (D × List D)} {n : Str} {np ap cp : Pos} {e : Expr} {es : List Expr} {xs0 : List D} (slot : Slot "list" name id) (hty : typeOf (.builtin id) = pure (.type "method_descriptor")) (hm : OwnM id f) (i : Nat) (hρ : ρ[i]? = some (some (.own xs0)))
    (h : DA C ρ (e :: es) m fun ds ρ1 m1 => ∃ xs g, ρ1[i]? = some (some (.own xs)) ∧ m1 = (f xs ds).bind g ∧ ∀ r ys, κ r (ρ1.set i (some (.own ys))) (g (r, ys))) (hN : C.N[i]? = some n := by rfl)
    (hv : Vis C.sc n := by first | exact Or.inl rfl | exact Or.inr (Or.inl rfl) | exact Or.inr (Or.inr rfl)) (hd : (n == ("__debug__" : Str)) = false := by decide) (hcd : (n == ("__classdict__" : Str)) = false := by decide)
    (hbase : ∀ env : PySem.Env, env.scope = C.sc → attributeBase (.Name n np) name env (eval (.Name n np) env) = eval (.Name n np) env := by intro env he; rfl)
    (hfew : ∀ env : PySem.Env, ((backTo cp (starEach (e :: es) env)).all (fun x => !x.1) && (backToKw cp (keywordEach [] env)).all (fun x => x.1.isSome)
      && decide ((e :: es).length + ([] : List Keyword).length + (if ([] : List Keyword).isEmpty then 0 else 1) < 30)) = true := by intro _; rfl)
    (hline : (ap.endLine == cp.line) = true := by rfl) (he : ∀ env : PySem.Env, starEach (e :: es) env = (false, eval e env) :: starEach es env := by intro _; rfl) (hpl : ∀ env : PySem.Env, (backTo cp (starEach es env)).any (·.1) = false := by intro _; rfl) :
    DE C ρ (.Call (.Attribute (.Name n np) name ap) (e :: es) [] cp) m κ := by
  intro X W Z x hK c z
  refine PE_imp (pe_bm F.plainAttrs_list slot hty (hm X) (own_name x hN hv hd hcd) (h X W Z x hK c z) (hbase _ x.sc) (hfew _) hline (he _) (hpl _)) fun σ H Q ⟨F, r, q⟩ => ?_
  obtain ⟨p, vs, h1, h2, _, _, _⟩ := r.ownAt hρ
  refine ⟨_, h1, .inl ⟨rfl, _, SqL.of h2⟩, F, r, fun ds ρ' m' ws H' F' ⟨xs, g, e1, e2, hg⟩ k2 k3 k4 k5 => ?_⟩
  subst e2
  obtain ⟨p', vs', j1, j2, j3, j4, j5⟩ := k3.ownAt e1
  rw [h1] at j1; cases j1
  obtain ⟨⟨rr, ys⟩, er, zr⟩ := c.bind k2
  refine ⟨F', p, vs', xs, ds, rr, ys, rfl, j2, k3.sub, by rw [x.K, ← hK]; exact j4, by rw [x.K, ← hK]; exact k5, er, fun v vs2 rp rd => ?_⟩
  rw [x.K, ← hK] at rp rd
  exact q _ _ _ v _ F' (hg rr ys) zr (j5 vs2 ys rd) k4 rp
theorem de_om0 {κ : D → Env → R α → Prop} {name : Str} {id : String} {f : List D → List D → R (D × List D)} {n : Str} {np ap cp : Pos} {xs : List D} {g : D × List D → R α} (slot : Slot "list" name id) (hty : typeOf (.builtin id) = pure (.type "method_descriptor")) (hm : OwnM id f) (i : Nat) (hρ : ρ[i]? = some (some (.own xs)))
    (e : m = (f xs []).bind g) (k : ∀ r ys, κ r (ρ.set i (some (.own ys))) (g (r, ys))) (hN : C.N[i]? = some n := by rfl)
    (hv : Vis C.sc n := by first | exact Or.inl rfl | exact Or.inr (Or.inl rfl) | exact Or.inr (Or.inr rfl)) (hd : (n == ("__debug__" : Str)) = false := by decide) (hcd : (n == ("__classdict__" : Str)) = false := by decide)
    (hbase : ∀ env : PySem.Env, env.scope = C.sc → attributeBase (.Name n np) name env (eval (.Name n np) env) = eval (.Name n np) env := by intro env he; rfl)
    (hline : (ap.endLine == cp.line) = true := by rfl) :
    DE C ρ (.Call (.Attribute (.Name n np) name ap) [] [] cp) m κ := by
  intro X W Z x hK c z
  refine PE_imp (pe_bm0 F.plainAttrs_list slot hty (hm X) (own_name x hN hv hd hcd) (hbase _ x.sc) hline) fun σ H Q ⟨F, r, q⟩ => ?_
  subst e
  obtain ⟨p, vs, h1, h2, h3, h4, h5⟩ := r.ownAt hρ
  obtain ⟨⟨rr, ys⟩, er, zr⟩ := c.bind z
  refine ⟨_, h1, .inl ⟨rfl, _, SqL.of h2⟩, F, p, vs, xs, [], rr, ys, rfl, h2, r.sub, by rw [x.K, ← hK]; exact h4, .nil, er, fun v vs2 rp rd => ?_⟩
  rw [x.K, ← hK] at rp rd
  exact q _ _ _ v _ F (k rr ys) zr (h5 vs2 ys rd) (Same.refl _) rp
/-- an expression for what it does -/
theorem ds_expr {J : Jd α} {e : Expr} {pos : Pos} {rest : List Stmt} (h : DE C ρ e m fun _ ρ1 m1 => DSs C ρ1 rest m1 J) (hs : ∀ env : PySem.Env, env.scope = C.sc → swapsWith e none pos.line env = pure false := by intro env he; rfl) : DSs C ρ (.Expr e pos :: rest) m J := by
  intro X W Z x hK c z
  refine PSs_imp (pss_cons (ps_expr (h X W Z x hK c z) (hs _ x.sc)) (rest_run (J := J) x hK c)) fun D σ H ⟨F, r, l⟩ => ?_
  exact ⟨F, r, fun d ρ' m' v H' F' h1 h2 h3 h4 h5 => ⟨(m', ρ'), ⟨h1, h2⟩, F', h3, l⟩⟩
/-- x[e1] = e2 -/
theorem ds_setIx {J : Jd α} {n : Str} {e1 e2 : Expr} {np sp pos : Pos} {rest : List Stmt} (i : Nat) (h : DE C ρ e2 m fun d ρ1 m1 => (∃ xs0, ρ1[i]? = some (some (.own xs0))) ∧ DE C ρ1 e1 m1 fun j ρ2 m2 => ∃ xs g, ρ2[i]? = some (some (.own xs)) ∧ m2 = (setM xs j d).bind g ∧ ∀ ys, DSs C (ρ2.set i (some (.own ys))) rest (g ys) J) (hN : C.N[i]? = some n := by rfl)
    (hv : Vis C.sc n := by first | exact Or.inl rfl | exact Or.inr (Or.inl rfl) | exact Or.inr (Or.inr rfl)) (hd : (n == ("__debug__" : Str)) = false := by decide) (hcd : (n == ("__classdict__" : Str)) = false := by decide)
    (ha : ∀ (env : PySem.Env) v, assign (.Subscript (.Name n np) e1 sp) env v = (do
      let ov ← holding [v] (eval (.Name n np) env)
      let iv ← holding [v, ov] (eval e1 env)
      standAt sp
      holding [v, ov, iv] (setItem ov iv v)
      release [v, ov, iv] []) := by intro _ _; rfl)
    (hs : ∀ env : PySem.Env, env.scope = C.sc → swapsWithSole [.Subscript (.Name n np) e1 sp] e2 pos.line env = pure false := by intro env he; rfl) (hw : ∀ env : PySem.Env, env.scope = C.sc → swappedStores [.Subscript (.Name n np) e1 sp] e2 env = pure none := by intro env he; rfl)
    (h1 : ∀ env : PySem.Env, (assignEach [.Subscript (.Name n np) e1 sp] env).map (·.2) = [assign (.Subscript (.Name n np) e1 sp) env] := by intro _; rfl) : DSs C ρ (.Assign [.Subscript (.Name n np) e1 sp] e2 pos :: rest) m J := by
  intro X W Z x hK c z
  have hi : PE X e1 fun σ H Q => ∃ (q : R α × Env) (κ : D → Env → R α → Prop), (DE C q.2 e1 q.1 κ ∧ Z q.1) ∧ ∃ F, Rel W q.2 σ H F ∧ ∀ d ρ' m' v H' F', κ d ρ' m' → Z m' → Rel W ρ' σ H' F' → Same F F' → Rp W.K F' v d → Q v H' :=
    ⟨fun p s σ H Q I ⟨i, κ, pi, q⟩ => (pi.1 X W Z x hK c pi.2).run p s σ H Q I q⟩
  refine PSs_imp (pss_cons (ps_asg (h X W Z x hK c z) (pg_sub (own_name x hN hv hd hcd) hi set_list (ha _)) (hs _ x.sc) (hw _ x.sc) (h1 _)) (rest_run (J := J) x hK c)) fun Dn σ H ⟨F, r, l⟩ => ?_
  refine ⟨F, r, fun d ρ1 m1 v H1 F1 ⟨⟨xs0, e0⟩, k1⟩ k2 k3 k4 k5 => ?_⟩
  obtain ⟨p, vs, a1, a2, _, _, _⟩ := k3.ownAt e0
  refine ⟨_, a1, (m1, ρ1), _, ⟨k1, k2⟩, F1, k3, fun j ρ2 m2 w H2 F2 ⟨xs, g, b1, b2, b3⟩ j2 j3 j4 j5 => ?_⟩
  subst b2
  obtain ⟨p', vs', c1, c2, _, c4, c5⟩ := j3.ownAt b1
  rw [a1] at c1; cases c1
  obtain ⟨ys, ey, zy⟩ := c.bind j2
  unfold setM at ey
  split at ey
  · split at ey
    · rename_i jj hj; cases ey
      rw [← c4.length] at hj
      refine ⟨p, vs', _, jj, rfl, j5.toInt, c2, hj, (_, _), ⟨b3 _, zy⟩, F2, c5 _ _ (c4.set (k5.mono j4) jj), l⟩
    · cases ey
  · cases ey
/-- x[e] -/
theorem de_ixOwn {κ : D → Env → R α → Prop} {n : Str} {b : Expr} {np pos : Pos} {xs0 : List D} (i : Nat) (hρ : ρ[i]? = some (some (.own xs0))) (h : DE C ρ b m fun y ρ2 m2 => ∃ xs g, ρ2[i]? = some (some (.own xs)) ∧ m2 = (item (.list xs) y).bind g ∧ ∀ z, κ z ρ2 (g z)) (hN : C.N[i]? = some n := by rfl)
    (hv : Vis C.sc n := by first | exact Or.inl rfl | exact Or.inr (Or.inl rfl) | exact Or.inr (Or.inr rfl)) (hd : (n == ("__debug__" : Str)) = false := by decide) (hcd : (n == ("__classdict__" : Str)) = false := by decide) (hs : PlainIx b := by intro _ _; rfl) : DE C ρ (.Subscript (.Name n np) b pos) m κ := by
  intro X W Z x hK c z
  refine PE_imp (pe_ix (r := rIxL X.K) ix_list (own_name x hN hv hd hcd) (h X W Z x hK c z) hs) fun σ H Q ⟨F, r, q⟩ => ?_
  obtain ⟨p, vs, a1, a2, _, _, _⟩ := r.ownAt hρ
  refine ⟨_, a1, F, r, fun y ρ2 m2 w H2 F2 ⟨xs, g, b1, b2, b3⟩ j2 j3 j4 j5 => ?_⟩
  subst b2
  obtain ⟨p', vs', c1, c2, _, c4, _⟩ := j3.ownAt b1
  rw [a1] at c1; cases c1
  obtain ⟨ys, ey, zy⟩ := c.bind j2
  cases y <;> first | (exact absurd ey (by intro q; cases q)) | skip
  simp only [item] at ey
  unfold atD at ey
  split at ey
  · rename_i hj; cases ey
    obtain ⟨v', d1, d2⟩ := c4.atI hj
    exact ⟨p, vs', _, v', rfl, j5.toInt, SqL.of c2, d1, q _ ρ2 _ v' H2 F2 (b3 _) zy j3 j4 d2⟩
  · cases ey

/-! ### a look at what is one's own -/
def viewS : Option Sl → Option Sl
  | some (.val d) => some (.val d)
  | some (.own xs) => some (.val (.list xs))
  | _ => none
def viewE (ρ : Env) : Env := ρ.map viewS
theorem Rel.view {W : Wd} {ρ : Env} {σ : L2.St} {H F : Hp} (r : Rel W ρ σ H F) : ∃ F2, Rel ⟨W.K, F2, H, []⟩ (viewE ρ) σ H F2 ∧ Same F F2 := by
  classical
  let F2 : Hp := fun b => match F b with
    | some o => some o
    | none => if ∃ (i : Nat) (xs : List D), ρ[i]? = some (some (Sl.own xs)) ∧ σ[i]? = some (some (V.ref b)) then H b else none
  have ss : Same F F2 := fun b o h => by simp only [F2, h]
  have sh : Same F2 H := fun b o h => by
    simp only [F2] at h
    cases e : F b with
    | some u => rw [e] at h; cases h; exact r.sub b _ e
    | none =>
      rw [e] at h
      simp only at h
      split at h
      · exact h
      · cases h
  refine ⟨F2, VRel.rel (K := W.K) ⟨fun i d e => ?_, ?_⟩ (fun i sl e => ?_) sh, ss⟩
  · unfold viewE at e
    rw [List.getElem?_map] at e
    cases e1 : ρ[i]? with
    | none => rw [e1] at e; cases e
    | some q =>
      rw [e1] at e
      cases q with
      | none => cases e
      | some sl =>
        cases sl with
        | val d' =>
          cases e
          obtain ⟨v, h1, h2⟩ := r.val e1
          exact ⟨v, h1, h2.mono ss⟩
        | own xs =>
          cases e
          obtain ⟨p, vs, h1, h2, h3, h4, _⟩ := r.ownAt e1
          refine ⟨_, h1, .lst ?_ (h4.mono ss)⟩
          simp only [F2, h3]
          rw [if_pos ⟨i, xs, e1, h1⟩]; exact h2
        | src _ _ => cases e
        | scr _ => cases e
  · unfold viewE; rw [List.length_map]; exact r.len
  · unfold viewE at e
    rw [List.getElem?_map] at e
    cases e1 : ρ[i]? with
    | none => rw [e1] at e; cases e
    | some q =>
      rw [e1] at e
      cases q with
      | none => cases e
      | some sl => cases sl <;> cases e <;> exact ⟨_, rfl⟩
theorem Rel.unview {W : Wd} {ρ ρ' : Env} {σ σ' : L2.St} {H F F2 H' F' : Hp} {K : PySem.W.Frag} (r : Rel W ρ σ H F) (ss : Same F F2) (r' : Rel ⟨K, F2, H, []⟩ ρ' σ' H' F') : Rel W ρ σ H' F :=
  r.step ⟨Same.refl _, fun b o h => r'.sub b o (r'.sub0 b o (ss b o h)), fun b o h => r'.keep b o h (by simp), fun b o h => .inl h⟩
theorem dt_peek {κ : Bool → Env → R α → Prop} {e : Expr} {r : R Bool} {g : Bool → R α} (h : DT C (viewE ρ) e r fun b ρ' m' => m' = .ok b) (k : ∀ b, κ b ρ (g b)) : DT C ρ e (r.bind g) κ := by
  intro X W Z x hK c z
  obtain ⟨b, e1, z1⟩ := c.bind z
  have hv : PT X e fun σ H Q => ∃ (W' : Wd), W'.K = C.K ∧ ∃ F, Rel W' (viewE ρ) σ H F ∧ ∀ (b : Bool) (ρ' : Env) (m' : R Bool) (H' F' : Hp), m' = .ok b → (∃ p, m' = .ok p ∧ Z (g p)) → Rel W' ρ' σ H' F' → Same F F' → Q b H' :=
    ⟨fun p s σ H Q I ⟨W', hK', q⟩ => (h X W' _ x hK' (c.at g) ⟨b, e1, z1⟩).run p s σ H Q I q⟩
  refine PT_imp hv fun σ H Q ⟨F, rl, q⟩ => ?_
  obtain ⟨F2, r2, ss⟩ := rl.view
  refine ⟨⟨W.K, F2, H, []⟩, hK, F2, r2, fun b ρ' m' H' F' e2 ⟨p, e3, z3⟩ h3 h4 => ?_⟩
  subst e2; cases e3
  exact q _ ρ _ H' F (k _) z3 (rl.unview ss h3) (Same.refl _)
theorem de_peek {κ : D → Env → R α → Prop} {e : Expr} {r : R D} {g : D → R α} (h : DE C (viewE ρ) e r fun d ρ' m' => m' = .ok d) (k : ∀ d, κ d ρ (g d)) : DE C ρ e ((flatR r).bind g) κ := by
  intro X W Z x hK c z
  obtain ⟨b, e1, z1⟩ := c.bind z
  unfold flatR at e1
  obtain ⟨b', e0, e1⟩ := R.bind_eq_ok e1
  split at e1
  · rename_i hfl; cases e1
    have hv : PE X e fun σ H Q => ∃ (W' : Wd), W'.K = C.K ∧ ∃ F, Rel W' (viewE ρ) σ H F ∧ ∀ (d : D) (ρ' : Env) (m' : R D) (v : V) (H' F' : Hp), m' = .ok d → m' = .ok b → Rel W' ρ' σ H' F' → Same F F' → Rp W'.K F' v d → Q v H' :=
      ⟨fun p s σ H Q I ⟨W', hK', q⟩ => (h X W' (fun m' => m' = .ok b) x hK' ⟨(fun e => nomatch e), (fun _ _ e => nomatch e)⟩ e0).run p s σ H Q I q⟩
    refine PE_imp hv fun σ H Q ⟨F, rl, q⟩ => ?_
    obtain ⟨F2, r2, ss⟩ := rl.view
    refine ⟨⟨W.K, F2, H, []⟩, hK, F2, r2, fun d ρ' m' v H' F' e2 e3 h3 h4 h5 => ?_⟩
    subst e2; cases e3
    have rp : Rp W.K F v b := by
      cases h5 <;> first | exact .non | exact .bl _ | exact .int _ | exact .str _ | (simp [flatB] at hfl)
    exact q _ ρ _ v H' F (k _) z1 (rl.unview ss h3) (Same.refl _) rp
  · cases e1
end
end Z

set_option Elab.async false
set_option linter.all false
set_option maxRecDepth 100000
set_option autoImplicit false
/-! # Z11: comprehensions whose element changes something -/
namespace Z
open PySem L2

theorem upd_upd {H : Hp} {p : Addr} {u u' : HO} : upd (upd H p u) p u' = upd H p u' := by
  funext b
  by_cases h : b = p
  · subst h; rw [upd_same, upd_same]
  · rw [upd_ne h, upd_ne h, upd_ne h]
section
variable {K : PySem.W.Frag} {F0 H0 H F : Hp} {io : List Addr} {ρ : Env} {σ : L2.St} {D' : Addr}
theorem Rel.newAt (r : Rel ⟨K, F0, H0, io⟩ ρ σ H F) (h0 : H0 D' = none) (hD : H D' = none) (u : HO) : Rel ⟨K, F0, upd H0 D' u, io⟩ ρ σ (upd H D' u) F := by
  have hx : ∀ b o, H b = some o → upd H D' u b = some o := fun b o h => by rw [upd_ne (ne_of_none h hD)]; exact h
  have fx : Fx F H F (upd H D' u) := ⟨Same.refl _, fun b o h => hx b o (r.sub b o h), hx, fun _ _ h => .inl h⟩
  have no : ∀ b o, H b = some o → H0 b = none → upd H0 D' u b = none := fun b o h q => by rw [upd_ne (ne_of_none h hD)]; exact q
  refine ⟨fx.fh, r.sub0, fun b o h n => ?_, fun b o h => ?_, ?_, r.len, fun b o h => ?_⟩
  · by_cases hb : b = D'
    · subst hb
      replace h : upd H0 b u b = some o := h
      rw [upd_same] at h ⊢; exact h
    · replace h : upd H0 D' u b = some o := h
      rw [upd_ne hb] at h; exact hx b o (r.keep b o h n)
  · rcases r.fresh b o h with q | q | q
    · exact .inl q
    · exact .inr (.inl (no b o (r.sub b o h) q))
    · exact .inr (.inr q)
  · obtain ⟨ad, k⟩ := r.env
    refine ⟨ad, fun i sl e => ?_⟩
    obtain ⟨v, h1, h2, h3, h4⟩ := k i sl e
    refine ⟨v, h1, h2.step fx, fun b hb => (h3 b hb).elim .inl fun q => ?_, h4⟩
    obtain ⟨_, o, q'⟩ := h2.there b hb
    exact .inr (no b o q' q)
  · by_cases hb : b = D'
    · subst hb; exact ⟨u, upd_same⟩
    · replace h : upd H0 D' u b = some o := h
      rw [upd_ne hb] at h
      obtain ⟨o', q⟩ := r.trk b o h
      exact ⟨o', hx b o' q⟩
theorem Rel.free0 (r : Rel ⟨K, F0, H0, io⟩ ρ σ H F) {u : HO} (h0 : H0 D' = some u) (hio : D' ∉ io) (hF : F0 D' = none) : F D' = none := by
  cases e : F D' with
  | none => rfl
  | some o =>
    rcases r.fresh D' o e with q | q | q
    · replace q : F0 D' = some o := q
      rw [hF] at q; cases q
    · replace q : H0 D' = none := q
      rw [h0] at q; cases q
    · exact absurd q hio
theorem Rel.poke (r : Rel ⟨K, F0, H0, io⟩ ρ σ H F) {u0 : HO} (h0 : H0 D' = some u0) (hio : D' ∉ io) (hF : F0 D' = none) (u : HO) : Rel ⟨K, F0, upd H0 D' u, io⟩ ρ σ (upd H D' u) F := by
  have hFD := r.free0 h0 hio hF
  have gx : Gx F H F (upd H D' u) [D'] := ⟨Same.refl _, fun b o h => by rw [upd_ne (ne_of_none h hFD)]; exact r.sub b o h, fun b o h n => by
    have : b ≠ D' := by simpa using n
    rw [upd_ne this]; exact h, fun b o h => by
    by_cases hb : b = D'
    · subst hb; exact ⟨u, upd_same⟩
    · exact ⟨o, by rw [upd_ne hb]; exact h⟩, fun _ _ h => .inl h⟩
  have no : ∀ b, H0 b = none → upd H0 D' u b = none := fun b q => by
    have : b ≠ D' := fun e => by subst e; rw [h0] at q; cases q
    rw [upd_ne this]; exact q
  refine ⟨gx.fh, r.sub0, fun b o h n => ?_, fun b o h => ?_, ?_, r.len, fun b o h => ?_⟩
  · by_cases hb : b = D'
    · subst hb
      replace h : upd H0 b u b = some o := h
      rw [upd_same] at h ⊢; exact h
    · replace h : upd H0 D' u b = some o := h
      rw [upd_ne hb] at h ⊢; exact r.keep b o h n
  · exact (r.fresh b o h).elim .inl fun q => .inr (q.elim (fun z => .inl (no b z)) .inr)
  · obtain ⟨ad, k⟩ := r.env
    refine ⟨ad, fun i sl e => ?_⟩
    obtain ⟨v, h1, h2, h3, h4⟩ := k i sl e
    have nd : ∀ b ∈ ad i, b ∉ [D'] := fun b hb q => by
      have : b = D' := by simpa using q
      subst this
      rcases h3 b hb with z | z
      · exact hio z
      · replace z : H0 b = none := z
        rw [h0] at z; cases z
    exact ⟨v, h1, h2.gstep gx nd, fun b hb => (h3 b hb).elim .inl fun q => .inr (no b q), h4⟩
  · by_cases hb : b = D'
    · subst hb; exact ⟨u, upd_same⟩
    · replace h : upd H0 D' u b = some o := h
      rw [upd_ne hb] at h
      obtain ⟨o', q⟩ := r.trk b o h
      exact gx.trk b o' q
/-- what was made for itself is read from now on -/
theorem Rel.fin {W : Wd} {ρ1 : Env} {σ1 : L2.St} {H1 F1 : Hp} {u : HO} (r : Rel ⟨W.K, F1, upd H1 D' u, io⟩ ρ σ H F) (r1 : Rel W ρ1 σ1 H1 F1) (hio : ∀ b ∈ io, b ∈ W.io ∨ W.H0 b = none) (hn : D' ∉ io) (hD : H1 D' = none) :
    Rel W ρ σ H (upd F D' u) ∧ Same F (upd F D' u) := by
  have h0 : upd H1 D' u D' = some u := upd_same
  have hFD : F D' = none := r.free0 h0 hn (r1.sub.free hD)
  have hHD : H D' = some u := r.keep D' u h0 hn
  have ss : Same F (upd F D' u) := fun b o h => by rw [upd_ne (ne_of_none h hFD)]; exact h
  have gx : Gx F H (upd F D' u) H [D'] := ⟨ss, fun b o h => by
    by_cases hb : b = D'
    · subst hb; rw [upd_same] at h; cases h; exact hHD
    · rw [upd_ne hb] at h; exact r.sub b o h, fun b o h _ => h, fun b o h => ⟨o, h⟩, fun b o h => by
    by_cases hb : b = D'
    · subst hb; exact .inr (.inr (by simp))
    · rw [upd_ne hb] at h; exact .inl h⟩
  have no : ∀ b, upd H1 D' u b = none → W.H0 b = none := fun b q => by
    by_cases hb : b = D'
    · subst hb; rw [upd_same] at q; cases q
    · rw [upd_ne hb] at q; exact r1.base q
  refine ⟨⟨gx.fh, (r1.sub0.trans r.sub0).trans ss, fun b o h n => ?_, fun b o h => ?_, ?_, r.len, fun b o h => ?_⟩, ss⟩
  · have h1 := r1.keep b o h n
    refine r.keep b o ?_ fun hb => ?_
    · show upd H1 D' u b = some o
      rw [upd_ne (ne_of_none h1 hD)]; exact h1
    · rcases hio b hb with q | q
      · exact n q
      · rw [h] at q; cases q
  · by_cases hb : b = D'
    · subst hb; exact .inr (.inl (r1.base hD))
    · rw [upd_ne hb] at h
      rcases r.fresh b o h with q | q | q
      · exact r1.fresh b o q
      · exact .inr (.inl (no b q))
      · exact .inr ((hio b q).elim .inr .inl)
  · obtain ⟨ad, k⟩ := r.env
    refine ⟨ad, fun i sl e => ?_⟩
    obtain ⟨v, h1, h2, h3, h4⟩ := k i sl e
    have nd : ∀ b ∈ ad i, b ∉ [D'] := fun b hb q => by
      have : b = D' := by simpa using q
      subst this
      rcases h3 b hb with z | z
      · exact hn z
      · replace z : upd H1 b u b = none := z
        rw [upd_same] at z; cases z
    exact ⟨v, h1, h2.gstep gx nd, fun b hb => (h3 b hb).elim (hio b) fun q => .inr (no b q), h4⟩
  · obtain ⟨o', q⟩ := r1.trk b o h
    refine r.trk b o' ?_
    show upd H1 D' u b = some o'
    rw [upd_ne (ne_of_none q hD)]; exact q
end
theorem wipe_get {σ : L2.St} {vs : List Nat} {i : Nat} {v : V} (h : (wipe σ vs)[i]? = some (some v)) : σ[i]? = some (some v) := by
  induction vs with
  | nil => exact h
  | cons u us ih =>
    unfold wipe at h
    rcases get_set h with ⟨_, _, e⟩ | ⟨_, e⟩
    · cases e
    · exact ih e
theorem Rel.unwipe {W : Wd} {ρ : Env} {σ : L2.St} {H F : Hp} {vs : List Nat} (r : Rel W ρ (L2.wipe σ vs) H F) : Rel W ρ σ H F := by
  refine ⟨r.sub, r.sub0, r.keep, r.fresh, ?_, by have := r.len; rwa [wipe_length] at this, r.trk⟩
  obtain ⟨ad, k⟩ := r.env
  refine ⟨ad, fun i sl e => ?_⟩
  obtain ⟨v, h1, h2, h3, h4⟩ := k i sl e
  exact ⟨v, wipe_get h1, h2, h3, h4⟩

section
variable {α : Type} {C : Ct} {ρ : Env} {m : R α}
theorem lcT_main {κ : D → Env → R α → Prop} {tg it elt : Expr} {ifs : List Expr} {scope : Scope} {vs : List Nat} {X : Cx} {W : Wd} {Z : R α → Prop} (x : XOk C X) (hK : W.K = C.K) (c : Cl Z) (z : Z m) {τ : Type} (pack : τ → Env)
    (h : DI C ρ tg it m fun items ρ1 m1 => ∃ st0 f g, Le (pack st0) (wipeE ρ1 vs) ∧ m1 = (compS items st0 f).bind g ∧
      (∀ y st, DG (C.blk scope) (fun i => i ∈ vs) (pack st) tg y (f y st) fun ρ2 m2 => DTs (C.blk scope) ρ2 ifs m2 fun t ρ3 m3 =>
        (t = true → DE (C.blk scope) ρ3 elt m3 fun d ρ4 m4 => ∃ st', Le (pack st') (wipeE ρ4 vs) ∧ m4 = .ok (some d, st')) ∧ (t = false → ∃ st', Le (pack st') (wipeE ρ3 vs) ∧ m3 = .ok (none, st'))) ∧
      ∀ ys st, κ (.list ys) (pack st) (g (ys, st))) :
    ∃ wi g tt te, PI X tg it wi ∧ (∀ (s : Shared) (H : Hp) (Ca : Addr) (cl : List (Str × Addr)) (fp : List Addr), PG (X.blk s H scope (compEnvC scope cl Ca X.env) fp) tg g) ∧
      (∀ (s : Shared) (H : Hp) (Ca : Addr) (cl : List (Str × Addr)) (fp : List Addr), PTs (X.blk s H scope (compEnvC scope cl Ca X.env) fp) ifs tt) ∧
      (∀ (s : Shared) (H : Hp) (Ca : Addr) (cl : List (Str × Addr)) (fp : List Addr), PE (X.blk s H scope (compEnvC scope cl Ca X.env) fp) elt te) ∧
      ∀ σ H Q, (∃ F, Rel W ρ σ H F ∧ ∀ d ρ' m' v H' F', κ d ρ' m' → Z m' → Rel W ρ' σ H' F' → Same F F' → Rp W.K F' v d → Q v H') → tLc wi g tt te vs σ H Q := by
  refine ⟨_, fun v σ H Q => ∃ (W' : Wd) (τ' : Type) (Z' : R τ' → Prop) (i : R τ' × Env × D) (κ : Env → R τ' → Prop), (DG (C.blk scope) (fun i => i ∈ vs) i.2.1 tg i.2.2 i.1 κ ∧ W'.K = C.K ∧ Cl Z' ∧ Z' i.1) ∧ ∃ F, Rel W' i.2.1 σ H F ∧ Rp W'.K F v i.2.2 ∧ ∀ ρ' m' σ' H' F', κ ρ' m' → Z' m' → Rel W' ρ' σ' H' F' → Same F F' → (∀ us, (∀ i, i ∈ vs → i ∈ us) → wipe σ' us = wipe σ us) → Q σ' H',
    fun σ H Q => ∃ (W' : Wd) (τ' : Type) (Z' : R τ' → Prop) (i : R τ' × Env) (κ : Bool → Env → R τ' → Prop), (DTs (C.blk scope) i.2 ifs i.1 κ ∧ W'.K = C.K ∧ Cl Z' ∧ Z' i.1) ∧ ∃ F, Rel W' i.2 σ H F ∧ ∀ b ρ' m' H' F', κ b ρ' m' → Z' m' → Rel W' ρ' σ H' F' → Same F F' → Q b H',
    fun σ H Q => ∃ (W' : Wd) (τ' : Type) (Z' : R τ' → Prop) (i : R τ' × Env) (κ : D → Env → R τ' → Prop), (DE (C.blk scope) i.2 elt i.1 κ ∧ W'.K = C.K ∧ Cl Z' ∧ Z' i.1) ∧ ∃ F, Rel W' i.2 σ H F ∧ ∀ d ρ' m' v H' F', κ d ρ' m' → Z' m' → Rel W' ρ' σ H' F' → Same F F' → Rp W'.K F' v d → Q v H', h X W Z x hK c z, ?_, ?_, ?_, ?_⟩
  · exact fun s H Ca cl fp => ⟨fun p s' σ H v u Q I r ⟨W', _, Z', i, κ, ⟨pi, hK', c', z'⟩, q⟩ => (pi _ W' Z' (x.blk s _ Ca cl fp) hK' c' z').run p s' σ H v u Q I r q⟩
  · exact fun s H Ca cl fp => ⟨fun p s' σ H Q I ⟨W', _, Z', i, κ, ⟨pi, hK', c', z'⟩, q⟩ => (pi _ W' Z' (x.blk s _ Ca cl fp) hK' c' z').run p s' σ H Q I q⟩
  · exact fun s H Ca cl fp => ⟨fun p s' σ H Q I ⟨W', _, Z', i, κ, ⟨pi, hK', c', z'⟩, q⟩ => (pi _ W' Z' (x.blk s _ Ca cl fp) hK' c' z').run p s' σ H Q I q⟩
  rintro σ H Q ⟨F, rl, q⟩
  refine ⟨F, rl, fun items ρ1 m1 J H1 F1 ⟨st0, f, g, hle, em, hf, hk⟩ zm rel1 ss itd Da hDa => ?_⟩
  subst em
  obtain ⟨qs0, eq0, zq0⟩ := c.bind zm
  obtain ⟨hlen, eq0⟩ := compS_ok eq0
  have hF1D : F1 Da = none := rel1.sub.free hDa
  obtain ⟨io, relt, hio, hth⟩ := rel1.turn
  have hnio : Da ∉ io := fun hb => by obtain ⟨o, e⟩ := hth Da hb; rw [hDa] at e; cases e
  have relw : Rel ⟨W.K, F1, upd H1 Da (.lst []), io⟩ (pack st0) (wipe σ vs) (upd H1 Da (.lst [])) F1 := ((relt.wipe vs).le hle).newAt hDa hDa _
  refine ⟨fun i n H => n = items.length - i ∧ i ≤ items.length ∧ ∃ st Fi acc ds qs, Rel ⟨W.K, F1, upd H1 Da (.lst acc), io⟩ (pack st) (wipe σ vs) H Fi ∧ RpAll W.K Fi acc ds ∧ acc.length ≤ i ∧ compT (items.drop i) st f = .ok qs ∧ Z (g (ds ++ qs.1, qs.2)),
    ⟨items.length, by simp, Nat.zero_le _, st0, F1, [], [], qs0, relw, .nil, Nat.le_refl _, by simpa using eq0, by simpa using zq0⟩, ?_⟩
  rintro i n H2 ⟨rfl, hi, st, Fi, acc, ds, qs, rel2, racc, hal, eqs, zqs⟩
  have at0 : ∀ {acc : List V}, upd H1 Da (.lst acc) Da = some (.lst acc) := upd_same
  by_cases hlt : i < items.length
  · refine .inr ⟨itd.goes i Fi H2 hlt rel2.sub0 rel2.sub, fun H => ∃ st Fi acc ds qs, Rel ⟨W.K, F1, upd H1 Da (.lst acc), io⟩ (pack st) (wipe σ vs) H Fi ∧ RpAll W.K Fi acc ds ∧ acc.length ≤ i + 1 ∧ compT (items.drop (i + 1)) st f = .ok qs ∧ Z (g (ds ++ qs.1, qs.2)),
      fun H' hh => ⟨_, by omega, rfl, hlt, hh⟩, fun v H3 y => ?_⟩
    obtain ⟨F3, d, hd, fx, pd⟩ := itd.yields i Fi H2 v H3 hlt rel2.sub0 rel2.sub y
    rw [compT_step hd] at eqs
    obtain ⟨p, ep, eqs⟩ := R.bind_eq_ok eqs
    obtain ⟨q2, eq2, eqs⟩ := R.bind_eq_ok eqs
    have clp : Cl fun r : R (Option D × τ) => r = .ok p := ⟨(fun e => nomatch e), (fun _ _ e => nomatch e)⟩
    refine ⟨⟨W.K, F1, upd H1 Da (.lst acc), io⟩, Option D × τ, fun r => r = .ok p, (f d st, pack st, d), _, ⟨hf d st, hK, clp, ep⟩, F3, rel2.step fx, pd, fun ρ2 m2 σ4 H4 F4 h1 h2 h3 h4 hw => ⟨(hw vs fun _ h => h).trans wipe_wipe, ?_⟩⟩
    have hws : wipe σ4 vs = wipe σ vs := (hw vs fun _ h => h).trans wipe_wipe
    refine ⟨⟨W.K, F1, upd H1 Da (.lst acc), io⟩, Option D × τ, fun r => r = .ok p, (m2, ρ2), _, ⟨h1, hK, clp, h2⟩, F4, h3, fun b ρ3 m3 H5 F5 k1 k2 k3 k4 => ?_⟩
    cases b with
    | false =>
      show (if false = true then _ else _)
      rw [if_neg Bool.false_ne_true]
      obtain ⟨st', hl', e3⟩ := k1.2 rfl
      rw [k2] at e3
      cases e3
      cases eqs
      refine ⟨st', F5, acc, ds, _, ?_, racc.mono ((fx.ff.trans h4).trans k4), Nat.le_succ_of_le hal, eq2, zqs⟩
      rw [← hws]; exact (k3.wipe vs).le hl'
    | true =>
      show (if true = true then _ else _)
      rw [if_pos rfl]
      refine ⟨⟨W.K, F1, upd H1 Da (.lst acc), io⟩, Option D × τ, fun r => r = .ok p, (m3, ρ3), _, ⟨k1.1 rfl, hK, clp, k2⟩, F5, k3, fun dd ρ4 m4 vv H6 F6 ⟨st', hl', e4⟩ j2 j3 j4 j5 => ?_⟩
      rw [j2] at e4
      cases e4
      cases eqs
      have hz : acc.length < 16777216 := by omega
      have pk := j3.poke at0 hnio hF1D (.lst (acc ++ [vv]))
      rw [upd_upd] at pk
      refine ⟨acc, j3.keep Da _ at0 hnio, by rw [sizeLine_eq]; exact hz, st', F6, acc ++ [vv], ds ++ [dd], q2, ?_, (racc.mono (((fx.ff.trans h4).trans k4).trans j4)).snoc j5, by simp; omega, eq2, by simpa using zqs⟩
      rw [← hws]; exact (pk.wipe vs).le hl'
  · have e : i = items.length := by omega
    subst e
    rw [List.drop_length] at eqs
    cases eqs
    rw [List.append_nil] at zqs
    refine .inl ⟨itd.stops Fi H2 rel2.sub0 rel2.sub, ?_⟩
    obtain ⟨fin, sf⟩ := rel2.fin rel1 hio hnio hDa
    exact q _ _ _ _ H2 _ (hk ds st) zqs fin.unwipe ((ss.trans rel2.sub0).trans sf) (.lst upd_same (racc.mono sf))
/-- [e for tg in it if ..] -/
theorem de_lcT {κ : D → Env → R α → Prop} {tg it elt : Expr} {ifs : List Expr} {scope : Scope} {pos : Pos} {τ : Type} (pack : τ → Env) (own : List (Str × Nat)) (ok : blkC C.N C.sc scope own = true)
    (h : DI C ρ tg it m fun items ρ1 m1 => ∃ st0 f g, Le (pack st0) (wipeE ρ1 (own.map (·.2))) ∧ m1 = (compS items st0 f).bind g ∧
      (∀ y st, DG (C.blk scope) (fun i => i ∈ own.map (·.2)) (pack st) tg y (f y st) fun ρ2 m2 => DTs (C.blk scope) ρ2 ifs m2 fun t ρ3 m3 =>
        (t = true → DE (C.blk scope) ρ3 elt m3 fun d ρ4 m4 => ∃ st', Le (pack st') (wipeE ρ4 (own.map (·.2))) ∧ m4 = .ok (some d, st')) ∧ (t = false → ∃ st', Le (pack st') (wipeE ρ3 (own.map (·.2))) ∧ m3 = .ok (none, st'))) ∧
      ∀ ys st, κ (.list ys) (pack st) (g (ys, st))) (hs : ∀ (env : PySem.Env) (x : Value), foldedSetIterable it env x = pure x := by intro _ _; rfl) : DE C ρ (.ListComp elt [⟨tg, it, ifs, 0⟩] scope pos) m κ := by
  intro X W Z x hK c z
  obtain ⟨wi, g, tt, te, h1, h2, h3, h4, h5⟩ := lcT_main (vs := own.map (·.2)) x hK c z pack h
  exact PE_imp (pe_lc x.calm (by rw [x.N]; exact x.nd) h1 (blkOk_by (by rw [x.N, x.sc]; exact ok)) h2 h3 h4 (hs _)) h5
theorem ds_setLcT {J : Jd α} {n : Str} {tg it elt : Expr} {ifs : List Expr} {scope : Scope} {p pos cpos : Pos} {rest : List Stmt} {τ : Type} (pack : τ → Env) (i : Nat) (own : List (Str × Nat)) (ok : blkC C.N C.sc scope own = true)
    (h : DI C ρ tg it m fun items ρ1 m1 => ∃ st0 f g, Le (pack st0) (wipeE ρ1 (own.map (·.2))) ∧ m1 = (compS items st0 f).bind g ∧
      (∀ y st, DG (C.blk scope) (fun i => i ∈ own.map (·.2)) (pack st) tg y (f y st) fun ρ2 m2 => DTs (C.blk scope) ρ2 ifs m2 fun t ρ3 m3 =>
        (t = true → DE (C.blk scope) ρ3 elt m3 fun d ρ4 m4 => ∃ st', Le (pack st') (wipeE ρ4 (own.map (·.2))) ∧ m4 = .ok (some d, st')) ∧ (t = false → ∃ st', Le (pack st') (wipeE ρ3 (own.map (·.2))) ∧ m3 = .ok (none, st'))) ∧
      ∀ ys st, DSs C ((pack st).set i (some (.val (.list ys)))) rest (g (ys, st)) J) (hN : C.N[i]? = some n := by rfl) (hy : C.sc.names.lookup n = some .local := by rfl)
    (hsw : ∀ env : PySem.Env, env.scope = C.sc → swapsWith (.ListComp elt [⟨tg, it, ifs, 0⟩] scope cpos) (some (.Name n p)) pos.line env = pure true)
    (hs : ∀ (env : PySem.Env) (x : Value), foldedSetIterable it env x = pure x := by intro _ _; rfl) : DSs C ρ (.Assign [.Name n p] (.ListComp elt [⟨tg, it, ifs, 0⟩] scope cpos) pos :: rest) m J := by
  intro X W Z x hK c z
  obtain ⟨wi, g, tt, te, h1, h2, h3, h4, h5⟩ := lcT_main (κ := fun d ρ1 m1 => DSs C (ρ1.set i (some (.val d))) rest m1 J) (vs := own.map (·.2)) x hK c z pack h
  refine PSs_imp (pss_cons (ps_setLc (i := i) x.calm (by rw [x.N]; exact x.nd) (by rw [x.N]; exact hN) (by rw [x.sc]; exact hy) (hsw _ x.sc) h1 (blkOk_by (by rw [x.N, x.sc]; exact ok)) h2 h3 h4 (hs _)) (rest_run (J := J) x hK c)) fun Dn σ H ⟨F, r, l⟩ => ?_
  exact h5 σ H (fun y H1 => ∃ j : R α × Env, (DSs C j.2 rest j.1 J ∧ Z j.1) ∧ ∃ F, Rel W j.2 (σ.set i (some y)) H1 F ∧ Lk W J Z Dn) ⟨F, r, fun d ρ' m' v H' F' k1 k2 k3 k4 k5 => ⟨(m', _), ⟨k1, k2⟩, F', k3.set i k5, l⟩⟩
end
end Z

set_option Elab.async false
set_option linter.all false
set_option maxRecDepth 100000
set_option autoImplicit false
/-! # Z12: the source of choices, the law's end -/
namespace Z
open PySem L2

/-- a new owner -/
theorem Rel.give {W : Wd} {ρ : Env} {σ : L2.St} {H F F' H' : Hp} (r : Rel W ρ σ H F) (fx : Fx F H F' H') (i : Nat) {sl : Sl} {v : V} {as : List Addr} (hs : SlR W.K F' H' sl v as) (hn : ∀ b ∈ as, H b = none) : Rel W (ρ.set i (some sl)) (σ.set i (some v)) H' F' := by
  obtain ⟨ad, k⟩ := r.env
  have r' := r.step fx
  refine ⟨r'.sub, r'.sub0, r'.keep, r'.fresh, ⟨fun j => if j = i then as else ad j, fun j sl e => ?_⟩, by rw [List.length_set, List.length_set]; exact r.len, r'.trk⟩
  rcases get_set e with ⟨e1, e2, e3⟩ | ⟨e1, e2⟩
  · subst e1; cases e3
    refine ⟨v, by rw [List.getElem?_set_self (Nat.lt_of_lt_of_le e2 r.len)], by simpa using hs, fun b hb => .inr (r.base (hn b (by simpa using hb))), fun l sl' hl e' b hb => ?_⟩
    have hb' : b ∈ as := by simpa using hb
    have ne : l ≠ i := fun q => hl q.symm
    simp only [if_neg ne]
    rcases get_set e' with ⟨z1, _, _⟩ | ⟨z1, z2⟩
    · exact absurd z1 hl
    · intro hbl
      obtain ⟨v', k1, k2, _, _⟩ := k l sl' z2
      obtain ⟨_, o, q⟩ := k2.there b hbl
      rw [hn b hb'] at q; cases q
  · have ne : j ≠ i := fun q => e1 q.symm
    simp only [if_neg ne]
    obtain ⟨v', k1, k2, k3, k4⟩ := k j sl e2
    refine ⟨v', by rw [List.getElem?_set_ne e1]; exact k1, k2.step fx, k3, fun l sl'' hl e' b hb => ?_⟩
    rcases get_set e' with ⟨z1, z2, z3⟩ | ⟨z1, z2⟩
    · subst z1; cases z3
      simp only [if_true]
      intro hbl
      obtain ⟨_, o, q⟩ := k2.there b hb
      rw [hn b hbl] at q; cases q
    · have ne' : l ≠ i := fun q => z1 q.symm
      simp only [if_neg ne']
      exact k4 l sl'' hl z2 b hb

def srcKvs (c : Addr) (s : Src) : List (Key × V) := [(.inr "cells", .ref c), (.inr "left", .int s.left), (.inr "mixed", .int s.mixed), (.inr "turn", .int s.turn)]
/-- a key of the source, what stands there -/
structure KeyF (k : Str) (f : Src → Int) (u : Src → Int → Src) : Prop where
  get : ∀ c s, valV (srcKvs c s) (.inr k) = some (.int (f s))
  put : ∀ c s n, putK (srcKvs c s) (.inr k) (.int n) = srcKvs c (u s n)
  cells : ∀ s n, (u s n).cells = s.cells
theorem k_cl : ¬ (("cells" : Str) = "left") := by decide +kernel
theorem k_cm : ¬ (("cells" : Str) = "mixed") := by decide +kernel
theorem k_ct : ¬ (("cells" : Str) = "turn") := by decide +kernel
theorem k_lm : ¬ (("left" : Str) = "mixed") := by decide +kernel
theorem k_lt : ¬ (("left" : Str) = "turn") := by decide +kernel
theorem k_mt : ¬ (("mixed" : Str) = "turn") := by decide +kernel
theorem kf_left : KeyF "left" Src.left fun s n => { s with left := n } := by
  refine ⟨fun c s => ?_, fun c s n => ?_, fun _ _ => rfl⟩
  · simp [valV, srcKvs, k_cl, List.find?]
  · simp [putK, srcKvs, k_cl, k_lm, k_lt, Ne.symm k_lm, Ne.symm k_lt]
theorem kf_mixed : KeyF "mixed" Src.mixed fun s n => { s with mixed := n } := by
  refine ⟨fun c s => ?_, fun c s n => ?_, fun _ _ => rfl⟩
  · simp [valV, srcKvs, k_cm, k_lm, List.find?]
  · simp [putK, srcKvs, k_cm, k_lm, k_mt, Ne.symm k_mt]
theorem kf_turn : KeyF "turn" Src.turn fun s n => { s with turn := n } := by
  refine ⟨fun c s => ?_, fun c s n => ?_, fun _ _ => rfl⟩
  · simp [valV, srcKvs, k_ct, k_lt, k_mt, List.find?]
  · simp [putK, srcKvs, k_ct, k_lt, k_mt]
theorem k_cells (c : Addr) (s : Src) : valV (srcKvs c s) (.inr "cells") = some (.ref c) := by simp [valV, srcKvs, List.find?]

section
variable {α : Type} {C : Ct} {ρ : Env} {m : R α}
theorem Rel.srcAt {W : Wd} {ρ : Env} {σ : L2.St} {H F : Hp} (r : Rel W ρ σ H F) {i : Nat} {a : Addr} {s : Src} (e : ρ[i]? = some (some (.src a s))) :
    ∃ c, a ≠ c ∧ σ[i]? = some (some (.ref a)) ∧ H a = some (.dK (srcKvs c s)) ∧ H c = some (.lst (s.cells.map V.int)) ∧ s.cells.length ≤ 63 ∧
      (∀ s', s'.cells = s.cells → Rel W (ρ.set i (some (.src a s'))) σ (upd H a (.dK (srcKvs c s'))) F) ∧
      ∀ cs, cs.length ≤ 63 → Rel W (ρ.set i (some (.src a { s with cells := cs }))) σ (upd H c (.lst (cs.map V.int))) F := by
  obtain ⟨v, as, h1, h2, h3, up⟩ := r.slot e
  obtain ⟨c, rfl, e2, ne, ha, hc, h4, h5, h6⟩ := h2
  subst e2
  have gx : ∀ (b : Addr) (u : HO), b = a ∨ b = c → F b = none → Gx F H F (upd H b u) [a, c] := fun b u hb hf => ⟨Same.refl _, fun b' o h => by rw [upd_ne (ne_of_none h hf)]; exact r.sub b' o h, fun b' o h n => by
    have : b' ≠ b := fun q => n (by subst q; simpa using hb)
    rw [upd_ne this]; exact h, fun b' o h => by
    by_cases q : b' = b
    · subst q; exact ⟨u, upd_same⟩
    · exact ⟨o, by rw [upd_ne q]; exact h⟩, fun _ _ h => .inl h⟩
  refine ⟨c, ne, h1, h4, h5, h6, fun s' es => up (as' := [a, c]) (gx a _ (.inl rfl) ha) ⟨c, rfl, rfl, ne, ha, hc, upd_same, ?_, by rw [es]; exact h6⟩ (fun b hb => .inl hb), fun cs hl => up (as' := [a, c]) (gx c _ (.inr rfl) hc) ⟨c, rfl, rfl, ne, ha, hc, ?_, upd_same, hl⟩ (fun b hb => .inl hb)⟩
  · rw [upd_ne (Ne.symm ne), es]; exact h5
  · rw [upd_ne ne]; exact h4

/-- source['left'] -/
theorem de_srcGet {κ : D → Env → R α → Prop} {k : Str} {f : Src → Int} {u : Src → Int → Src} (KF : KeyF k f u) {n : Str} {np kp pos : Pos} {j : Nat} {a : Addr} {s : Src} (i : Nat) (hρ : ρ[i]? = some (some (.src a s))) (h : κ (.int (f s)) ρ m) (hN : C.N[i]? = some n := by rfl)
    (hv : Vis C.sc n := by first | exact Or.inl rfl | exact Or.inr (Or.inl rfl) | exact Or.inr (Or.inr rfl)) (hd : (n == ("__debug__" : Str)) = false := by decide) (hcd : (n == ("__classdict__" : Str)) = false := by decide) : DE C ρ (.Subscript (.Name n np) (.Constant (.str k) j kp) pos) m κ := by
  intro X W Z x hK c z
  refine PE_imp (pe_dget (hu_of x.room) (own_name x hN hv hd hcd) pe_str (fun _ _ => rfl)) fun σ H Q ⟨F, r, q⟩ => ?_
  obtain ⟨cc, ne, h1, h2, _⟩ := r.srcAt hρ
  refine ⟨_, h1, a, .int (f s), rfl, ?_, q _ ρ m _ H F h z r (Same.refl _) (.int _)⟩
  have := DGet.k (k := .inr k) h2
  rw [KF.get] at this
  exact this
/-- source['left'] = e -/
theorem ds_srcPut {J : Jd α} {k : Str} {f : Src → Int} {u : Src → Int → Src} (KF : KeyF k f u) {n : Str} {np kp sp pos : Pos} {j : Nat} {e : Expr} {rest : List Stmt} (i : Nat)
    (h : DE C ρ e m fun d ρ1 m1 => ∃ a s g, ρ1[i]? = some (some (.src a s)) ∧ m1 = (toI d).bind g ∧ ∀ t, DSs C (ρ1.set i (some (.src a (u s t)))) rest (g t) J) (hN : C.N[i]? = some n := by rfl)
    (hv : Vis C.sc n := by first | exact Or.inl rfl | exact Or.inr (Or.inl rfl) | exact Or.inr (Or.inr rfl)) (hd : (n == ("__debug__" : Str)) = false := by decide) (hcd : (n == ("__classdict__" : Str)) = false := by decide)
    (hs : ∀ env : PySem.Env, env.scope = C.sc → swapsWith e (some (.Subscript (.Name n np) (.Constant (.str k) j kp) sp)) pos.line env = pure false := by intro env he; rfl) : DSs C ρ (.Assign [.Subscript (.Name n np) (.Constant (.str k) j kp) sp] e pos :: rest) m J := by
  intro X W Z x hK c z
  refine PSs_imp (pss_cons (ps_dput (hu_of x.room) (own_name x hN hv hd hcd) pe_str (h X W Z x hK c z) (hs _ x.sc)) (rest_run (J := J) x hK c)) fun Dn σ H ⟨F, r, l⟩ => ?_
  refine ⟨F, r, fun d ρ1 m1 v H1 F1 ⟨a, s, g, e1, e2, hg⟩ k2 k3 k4 k5 => ?_⟩
  subst e2
  obtain ⟨t, et, zt⟩ := c.bind k2
  unfold toI at et
  split at et
  · cases et
    obtain ⟨cc, ne, h1, h2, _, _, h5, _⟩ := k3.srcAt e1
    have hv' := k5.toInt
    subst hv'
    refine ⟨_, h1, a, _, rfl, DPut.k (k := .inr k) h2 ?_, (_, _), ⟨hg _, zt⟩, F1, ?_, l⟩
    · rw [sizeLine_eq]; show (4 : Nat) < 16777216; decide
    · rw [KF.put]; exact h5 _ (KF.cells _ _)
  · cases et
/-- len(source['cells']) -/
theorem de_srcLen {κ : D → Env → R α → Prop} {n : Str} {lp np kp sp pos : Pos} {j : Nat} {a : Addr} {s : Src} (hm : C.mg ("len" : Str) = none) (i : Nat) (hρ : ρ[i]? = some (some (.src a s))) (h : κ (.int s.cells.length) ρ m) (hN : C.N[i]? = some n := by rfl)
    (hv : Vis C.sc n := by first | exact Or.inl rfl | exact Or.inr (Or.inl rfl) | exact Or.inr (Or.inr rfl)) (hd : (n == ("__debug__" : Str)) = false := by decide) (hcd : (n == ("__classdict__" : Str)) = false := by decide) (hg : C.sc.names.lookup ("len" : Str) = some .globalImplicit := by rfl)
    (he : ∀ env : PySem.Env, starEach [.Subscript (.Name n np) (.Constant (.str "cells") j kp) sp] env = (false, eval (.Subscript (.Name n np) (.Constant (.str "cells") j kp) sp) env) :: starEach [] env := by intro _; rfl) (hpl : ∀ env : PySem.Env, (backTo pos (starEach [] env)).any (·.1) = false := by intro _; rfl) :
    DE C ρ (.Call (.Name "len" lp) [.Subscript (.Name n np) (.Constant (.str "cells") j kp) sp] [] pos) m κ := by
  intro X W Z x hK c z
  refine PE_imp (pe_callB call_len (x.gl hg) (x.mg0 hm) boot_len (pa_cons (pe_dget (hu_of x.room) (own_name x hN hv hd hcd) pe_str (fun _ _ => rfl)) pa_nil (he _)) (by decide) (by decide) (he _) (hpl _)) fun σ H Q ⟨F, r, q⟩ => ?_
  obtain ⟨cc, ne, h1, h2, h3, _⟩ := r.srcAt hρ
  refine ⟨_, h1, a, .ref cc, rfl, ?_, ?_⟩
  · have := DGet.k (k := .inr "cells") h2
    rw [k_cells] at this
    exact this
  · refine ⟨_, (s.cells.map V.int).length, rfl, .inl ⟨_, SqL.of h3, rfl⟩, ?_⟩
    rw [List.length_map]
    exact q _ ρ m _ H F h z r (Same.refl _) (.int _)
/-- source['cells'].pop() -/
theorem de_srcPop {κ : D → Env → R α → Prop} {n : Str} {np kp sp ap cp : Pos} {j : Nat} {a : Addr} {s : Src} {g : Int × List Int → R α} (i : Nat) (hρ : ρ[i]? = some (some (.src a s))) (e : m = (popC s.cells).bind g) (h : ∀ t cs, κ (.int t) (ρ.set i (some (.src a { s with cells := cs }))) (g (t, cs))) (hN : C.N[i]? = some n := by rfl)
    (hv : Vis C.sc n := by first | exact Or.inl rfl | exact Or.inr (Or.inl rfl) | exact Or.inr (Or.inr rfl)) (hd : (n == ("__debug__" : Str)) = false := by decide) (hcd : (n == ("__classdict__" : Str)) = false := by decide)
    (hbase : ∀ env : PySem.Env, env.scope = C.sc → attributeBase (.Subscript (.Name n np) (.Constant (.str "cells") j kp) sp) "pop" env (eval (.Subscript (.Name n np) (.Constant (.str "cells") j kp) sp) env) = eval (.Subscript (.Name n np) (.Constant (.str "cells") j kp) sp) env := by intro env he; rfl)
    (hline : (ap.endLine == cp.line) = true := by rfl) :
    DE C ρ (.Call (.Attribute (.Subscript (.Name n np) (.Constant (.str "cells") j kp) sp) "pop" ap) [] [] cp) m κ := by
  intro X W Z x hK c z
  refine PE_imp (pe_bm0 F.plainAttrs_list F.slot_list_pop F.type_list_pop mt_pop (pe_dget (hu_of x.room) (own_name x hN hv hd hcd) pe_str (fun _ _ => rfl)) (hbase _ x.sc) hline) fun σ H Q ⟨F, r, q⟩ => ?_
  subst e
  obtain ⟨⟨t, cs⟩, ec, zc⟩ := c.bind z
  unfold popC at ec
  split at ec
  · rename_i hl; cases ec
    obtain ⟨cc, ne, h1, h2, h3, h6, _, h5⟩ := r.srcAt hρ
    refine ⟨_, h1, a, .ref cc, rfl, ?_, .inl ⟨rfl, _, SqL.of h3⟩, cc, _, .int t, rfl, rfl, h3, ?_, ?_⟩
    · have := DGet.k (k := .inr "cells") h2
      rw [k_cells] at this
      exact this
    · rw [List.length_map, List.getElem?_map, ← List.getLast?_eq_getElem?, hl]; rfl
    · rw [← List.map_dropLast]
      exact q _ _ _ _ _ F (h t _) zc (h5 _ (by rw [List.length_dropLast]; omega)) (Same.refl _) (.int _)
  · cases ec
/-- the script is walked -/
theorem di_scr {tg : Expr} {κ : List D → Env → R α → Prop} {n : Str} {pos : Pos} {ns : List Int} (i : Nat) (hρ : ρ[i]? = some (some (.scr ns))) (h : κ (ns.map .int) ρ m) (hN : C.N[i]? = some n := by rfl)
    (hv : Vis C.sc n := by first | exact Or.inl rfl | exact Or.inr (Or.inl rfl) | exact Or.inr (Or.inr rfl)) (hd : (n == ("__debug__" : Str)) = false := by decide) (hcd : (n == ("__classdict__" : Str)) = false := by decide) : DI C ρ tg (.Name n pos) m κ := by
  intro X W Z x hK c z
  refine PI_imp (pi_list (own_name x hN hv hd hcd)) fun σ H Rr ⟨F, r, q⟩ => ?_
  obtain ⟨v, as, h1, h2, _, _⟩ := r.slot hρ
  obtain ⟨a, rfl, hs, hl, _⟩ := h2
  have hs' : SqL X.K F a (ns.map V.int) := by rw [x.K, ← hK]; exact hs
  have rp : RpAll W.K F (ns.map V.int) (ns.map .int) := by
    clear h hs hs' hl hρ
    induction ns with
    | nil => exact .nil
    | cons n ns ih => exact .cons (.int _) ih
  exact ⟨_, h1, a, rfl, ⟨_, r.sub.seq hs'⟩, q _ ρ m _ H F h z r (Same.refl _) (by rw [x.K, ← hK]; exact itd_list hs rp)⟩
/-- xs[::-1] -/
theorem dn_rev {κ : List D → Env → R α → Prop} {e : Expr} {k : Nat} {p1 p2 p3 pos : Pos} (h : DE C ρ e m fun d ρ1 m1 => ∃ g, m1 = (revL d).bind g ∧ ∀ xs, κ xs ρ1 (g xs)) : DN C ρ (.Subscript e (.Slice none none (some (.UnaryOp .USub (.Constant (.int 1) k p1) p2)) p3) pos) m κ := by
  intro X W Z x hK c z
  refine PE_imp (pe_revL (h X W Z x hK c z)) fun σ H Q ⟨F, r, q⟩ => ⟨F, r, fun d ρ' m' v H' F' ⟨g, e1, hg⟩ h2 h3 h4 h5 => ?_⟩
  subst e1
  obtain ⟨xs, ex, zx⟩ := c.bind h2
  unfold revL at ex
  split at ex
  · cases ex
    obtain ⟨p, ys, rfl, hp, rys⟩ := h5.toList
    exact ⟨p, ys, rfl, SqL.of (h3.sub _ _ hp), fun l hl => q _ ρ' _ _ l H' F' (hg _) zx h3 h4 hl rys.reverse⟩
  · cases ex
/-- what makes a new list is a value, too -/
theorem de_dn {κ : D → Env → R α → Prop} {e : Expr} (h : DN C ρ e m fun ds ρ1 m1 => κ (.list ds) ρ1 m1) : DE C ρ e m κ := by
  intro X W Z x hK c z
  refine PE_imp (h X W Z x hK c z) fun σ H Q ⟨F, r, q⟩ => ⟨F, r, fun ds ρ' m' vs p H' F' k1 k2 k3 k4 k5 k6 => ?_⟩
  have fx : Fx F' H' _ _ := Fx.alloc (u := .lst vs) k3.sub k5
  exact q _ ρ' m' _ _ _ k1 k2 (k3.step fx) (k4.trans fx.ff) (.lst upd_same (k6.mono fx.ff))

/-! ### what is handed out -/
/-- a part that is an int, read without a change -/
def IE (C : Ct) (ρ : Env) (e : Expr) (d : D) : Prop := ∀ X : Cx, XOk C X → PE X e fun σ H Q => (∃ W H' F', Rel W ρ σ H' F') ∧ ∀ v, (∀ n, d = .int n → v = .int n) → Q v H
theorem ie_int {i : Int} {j : Nat} {pos : Pos} : IE C ρ (.Constant (.int i) j pos) (.int i) := fun X x => PE_imp pe_int fun σ H Q ⟨_, q⟩ => q _ fun n e => by cases e; rfl
theorem ie_var {n : Str} {pos : Pos} {d : D} (i : Nat) (hρ : ρ[i]? = some (some (.val d))) (hN : C.N[i]? = some n := by rfl)
    (hv : Vis C.sc n := by first | exact Or.inl rfl | exact Or.inr (Or.inl rfl) | exact Or.inr (Or.inr rfl)) (hd : (n == ("__debug__" : Str)) = false := by decide) (hcd : (n == ("__classdict__" : Str)) = false := by decide) : IE C ρ (.Name n pos) d := fun X x =>
  PE_imp (own_name x hN hv hd hcd) fun σ H Q ⟨⟨W, H', F', r⟩, q⟩ => by
    obtain ⟨v, h1, h2⟩ := r.val hρ
    exact ⟨v, h1, q v fun n e => by subst e; exact h2.toInt⟩
/-- return {'cells': e1, 'left': e2, 'mixed': e3, 'turn': e4} -/
theorem ds_retSrc {J : Jd α} {e1 e2 e3 e4 : Expr} {j1 j2 j3 j4 : Nat} {p1 p2 p3 p4 dp pos : Pos} {rest : List Stmt}
    (h : DN C ρ e1 m fun ds ρ1 m1 => ∃ d2 d3 d4 g, IE C ρ1 e2 d2 ∧ IE C ρ1 e3 d3 ∧ IE C ρ1 e4 d4 ∧ m1 = (mkSrc ds d2 d3 d4).bind g ∧ ∀ s, J.rn (.src s) ρ1 (g s)) :
    DSs C ρ (.Return (some (.Dict [some (.Constant (.str "cells") j1 p1), some (.Constant (.str "left") j2 p2), some (.Constant (.str "mixed") j3 p3), some (.Constant (.str "turn") j4 p4)] [e1, e2, e3, e4] dp)) pos :: rest) m J := by
  intro X W Z x hK c z
  have ie : ∀ e : Expr, PE X e fun σ H Q => ∃ q : Env × D, IE C q.1 e q.2 ∧ (∃ W H' F', Rel W q.1 σ H' F') ∧ ∀ v, (∀ n, q.2 = .int n → v = .int n) → Q v H := fun e =>
    ⟨fun p s σ H Q I ⟨i, hi, q⟩ => (hi X x).run p s σ H Q I q⟩
  have hd : PE X e1 fun σ H Q => ∃ W' : Wd, W'.K = C.K ∧ ∃ F, Rel W' ρ σ H F ∧ ∀ ds ρ' m' vs p H' F', (∃ d2 d3 d4 g, IE C ρ' e2 d2 ∧ IE C ρ' e3 d3 ∧ IE C ρ' e4 d4 ∧ m' = (mkSrc ds d2 d3 d4).bind g ∧ ∀ s, J.rn (.src s) ρ' (g s)) → Z m' → Rel W' ρ' σ H' F' → Same F F' → H' p = none → RpAll W'.K F' vs ds → Q (.ref p) (upd H' p (.lst vs)) :=
    ⟨fun p s σ H Q I ⟨W', hK', q⟩ => (h X W' Z x hK' c z).run p s σ H Q I q⟩
  refine PSs_imp (pss_cons (ps_ret (pe_disp (pps_cons pe_str hd (pps_cons pe_str (ie e2) (pps_cons pe_str (ie e3) (pps_cons pe_str (ie e4) pps_nil)))) rfl rfl (by simp) (by show (4 : Nat) ≤ 15; decide))) pss_never) fun Dn σ H ⟨F, r, l⟩ => ?_
  intro p hp
  obtain ⟨io, rt, hio, hth⟩ := r.turn
  have hnio : p ∉ io := fun hb => by obtain ⟨o, e⟩ := hth p hb; rw [hp] at e; cases e
  have hFp : F p = none := r.sub.free hp
  have rn := rt.newAt hp hp (.dK [])
  refine ⟨⟨W.K, F, upd H p (.dK []), io⟩, hK, F, rn, fun ds ρ1 m1 vs q H1 F1 ⟨d2, d3, d4, g, i2, i3, i4, em, hg⟩ z1 r1 _ hq rd => ?_⟩
  subst em
  obtain ⟨s, es, zs⟩ := c.bind z1
  refine ⟨(ρ1, d2), i2, ⟨_, _, _, r1⟩, fun v2 hv2 => ⟨(ρ1, d3), i3, ⟨_, _, _, r1⟩, fun v3 hv3 => ⟨(ρ1, d4), i4, ⟨_, _, _, r1⟩, fun v4 hv4 => ?_⟩⟩⟩
  have hpp : H1 p = some (.dK []) := r1.keep p _ upd_same hnio
  have npq : p ≠ q := ne_of_none hpp hq
  unfold mkSrc at es
  split at es
  · rename_i ns hns
    split at es
    · rename_i hlen
      obtain ⟨l', el, es⟩ := R.bind_eq_ok es
      obtain ⟨mx, emx, es⟩ := R.bind_eq_ok es
      obtain ⟨t, et, es⟩ := R.bind_eq_ok es
      cases es
      have toI' : ∀ {d : D} {n : Int}, toI d = .ok n → d = .int n := fun {d n} h => by
        unfold toI at h
        split at h
        · cases h; rfl
        · cases h
      have h2' := hv2 _ (toI' el); have h3' := hv3 _ (toI' emx); have h4' := hv4 _ (toI' et)
      subst h2' h3' h4'
      have ev := ints_of rd hns
      subst ev
      refine ⟨by rw [upd_ne npq]; exact hpp, [(.inr "cells", .ref q), (.inr "left", .int l'), (.inr "mixed", .int mx), (.inr "turn", .int t)], rfl, by show (4 : Nat) ≤ 15; decide, ?_⟩
      have hmk : mergeK [] [((.inr "cells" : Key), V.ref q), (.inr "left", .int l'), (.inr "mixed", .int mx), (.inr "turn", .int t)] = srcKvs q ⟨ns, l', mx, t⟩ := by
        simp [mergeK, putK, srcKvs, k_cl, k_cm, k_ct, k_lm, k_lt, k_mt, Ne.symm k_cl, Ne.symm k_cm, Ne.symm k_ct, Ne.symm k_lm, Ne.symm k_lt, Ne.symm k_mt]
      rw [hmk]
      have hF1p : F1 p = none := r1.free0 (D' := p) upd_same hnio hFp
      have hF1q : F1 q = none := r1.sub.free hq
      have hx : ∀ b o, H1 b = some o → b ≠ p → upd (upd H1 q (.lst (ns.map V.int))) p (.dK (srcKvs q ⟨ns, l', mx, t⟩)) b = some o := fun b o h n => by rw [upd_ne n, upd_ne (ne_of_none h hq)]; exact h
      have hx2 : ∀ b o, H b = some o → b ≠ p ∧ (upd H p (.dK []) b = some o) := fun b o h => ⟨ne_of_none h hp, by rw [upd_ne (ne_of_none h hp)]; exact h⟩
      have hq0 : H q = none := by
        cases e : H q with
        | none => rfl
        | some o => obtain ⟨o', q'⟩ := r1.trk q o (hx2 q o e).2; rw [hq] at q'; cases q'
      refine l.rn (.src ⟨ns, l', mx, t⟩) ρ1 (g ⟨ns, l', mx, t⟩) (.ref p) [p, q] _ F1 (hg _) zs ⟨fun b o h => hx b o (r1.sub b o h) (ne_of_none h hF1p), r.sub0.trans r1.sub0, fun b o h n => ?_, fun b o h => ?_, ⟨fun _ => [], fun i sl e => by simp at e⟩, Nat.le_refl _, fun b o h => ?_⟩ ⟨p, q, rfl, rfl, npq, hF1p, hF1q, upd_same, by rw [upd_ne (Ne.symm npq), upd_same], of_decide_eq_true hlen⟩ ?_
      · have h1 := r.keep b o h n
        obtain ⟨nb, h2⟩ := hx2 b o h1
        refine hx b o (r1.keep b o h2 fun hb => ?_) nb
        rcases hio b hb with z | z
        · exact n z
        · rw [h] at z; cases z
      · rcases r1.fresh b o h with z | z | z
        · exact r.fresh b o z
        · refine .inr (.inl (r.base ?_))
          have nb : b ≠ p := ne_of_none h hF1p
          replace z : upd H p (.dK []) b = none := z
          rw [upd_ne nb] at z; exact z
        · exact .inr ((hio b z).elim .inr .inl)
      · obtain ⟨o1, h1⟩ := r.trk b o h
        obtain ⟨nb, h2⟩ := hx2 b o1 h1
        obtain ⟨o2, h3⟩ := r1.trk b o1 h2
        exact ⟨o2, hx b o2 h3 nb⟩
      · intro b hb
        have : b = p ∨ b = q := by simpa using hb
        rcases this with rfl | rfl
        · exact r.base hp
        · exact r.base hq0
    · cases es
  · cases es
/-- the promise of a def that makes a source of the script -/
def spQ (K : PySem.W.Frag) (fm : List Int → R Src) : Sp := fun vs H Q _ => ∃ F a ns s, vs = [.ref a] ∧ Same F H ∧ SqL K F a (ns.map V.int) ∧ ns.length ≤ 63 ∧ fm ns = .ok s ∧
  ∀ v as H' F', Fx F H F' H' → (∃ b, SlR K F' H' (.src b s) v as) → (∀ b ∈ as, H b = none) → Q v H'
structure FnQ (C : Ct) (n : Str) (fm : List Int → R Src) : Prop where
  ex : ∃ f fd ps j, j ≤ C.k ∧ FnG C.P C.w C.K C.mg C.base CX0 j f fd ps (spQ C.K fm) ∧ C.mg n = some (.ref f) ∧ PySem.W.keepIn C.K (.ref f) = true ∧ Binds C.K fd ps []
/-- source = f(script) -/
theorem ds_source {J : Jd α} {n x0 fn : Str} {p fp xp cp pos : Pos} {fm : List Int → R Src} {g : Src → R α} {ns : List Int} {rest : List Stmt} (i j : Nat) (G : FnQ C fn fm) (hρ : ρ[j]? = some (some (.scr ns))) (hm : m = (fm ns).bind g)
    (k : ∀ a s, DSs C (ρ.set i (some (.src a s))) rest (g s) J) (hN : C.N[i]? = some n := by rfl) (hNj : C.N[j]? = some x0 := by rfl)
    (hx : Loc C.sc n := by first | exact Or.inl rfl | exact Or.inr rfl) (hfn : C.fn n = true ∨ C.sc.names.lookup n = some .local := by first | exact Or.inl rfl | exact Or.inr rfl)
    (hv : Vis C.sc x0 := by first | exact Or.inl rfl | exact Or.inr (Or.inl rfl) | exact Or.inr (Or.inr rfl)) (hg : C.sc.names.lookup fn = some .globalImplicit := by rfl) (hdb : (fn == ("__debug__" : Str)) = false := by decide) (hd : (x0 == ("__debug__" : Str)) = false := by decide) (hcd : (x0 == ("__classdict__" : Str)) = false := by decide)
    (he : ∀ env : PySem.Env, starEach [.Name x0 xp] env = (false, eval (.Name x0 xp) env) :: starEach [] env := by intro _; rfl) (hpl : ∀ env : PySem.Env, (backTo cp (starEach [] env)).any (·.1) = false := by intro _; rfl)
    (hs : ∀ env : PySem.Env, env.scope = C.sc → swapsWith (.Call (.Name fn fp) [.Name x0 xp] [] cp) (some (.Name n p)) pos.line env = pure false := by intro env he; rfl) : DSs C ρ (.Assign [.Name n p] (.Call (.Name fn fp) [.Name x0 xp] [] cp) pos :: rest) m J := by
  intro X W Z x hK c z
  subst hm
  have hf : X.fn n = true ∨ X.env.scope.names.lookup n = some .local := hfn.elim (fun h => .inl (x.fnl n h)) fun h => .inr (by rw [x.sc]; exact h)
  obtain ⟨f, fd, ps, jj, hj, ok, hmg, kp, b⟩ := G.ex
  refine PSs_imp (pss_cons (ps_set (i := i) (by rw [x.N]; exact x.nd) (by rw [x.N]; exact hN) (by rw [x.sc]; exact hx) (pe_callG (fnAt x ok hj) x.grd x.room (x.gl hg) (by rw [x.mg]; exact hmg) (by rw [x.K]; exact kp) (by rw [x.K]; exact b) pass0 (pa_cons (own_name x hNj hv hd hcd) pa_nil (he _)) hdb (he _) (hpl _)) (hs _ x.sc) hf) (rest_run (J := J) x hK c)) fun D σ H ⟨F, r, l⟩ => ?_
  obtain ⟨s, es, zs⟩ := c.bind z
  obtain ⟨v, as, h1, h2, _, _⟩ := r.slot hρ
  obtain ⟨a, rfl, hsq, hl, _⟩ := h2
  refine ⟨_, h1, F, a, ns, s, rfl, r.sub, by rw [← hK]; exact hsq, hl, es, fun v as' H' F' fx ⟨b', hsl⟩ hn => ⟨(g s, _), ⟨k b' s, zs⟩, F', ?_, l⟩⟩
  have hsl' : SlR W.K F' H' (.src b' s) v as' := by rw [hK]; exact hsl
  exact r.give fx i hsl' hn
def JfQ : Jd Src := { nx := fun _ _ => False, rt := fun _ _ _ => False, bk := fun _ _ => False, ct := fun _ _ => False, rn := fun ow _ m => ∃ s, ow = .src s ∧ m = .ok s }
theorem scr_rel {K : PySem.W.Frag} {N : List Str} {F H : Hp} {a : Addr} {ns : List Int} (sub : Same F H) (hs : SqL K F a (ns.map V.int)) (hl : ns.length ≤ 63) : Rel ⟨K, F, H, []⟩ (startE N [.scr ns]) (L2.start N [.ref a]) H F := by
  refine ⟨sub, Same.refl _, fun b o h _ => h, fun b o h => .inl h, ⟨fun _ => [], fun i sl e => ?_⟩, by unfold startE L2.start; simp, fun b o h => ⟨o, h⟩⟩
  have e1 := startE_get e
  cases i with
  | zero =>
    have e2 : sl = .scr ns := by simpa using e1.symm
    subst e2
    exact ⟨.ref a, start_get rfl, ⟨a, rfl, hs, hl, rfl⟩, by simp, by simp⟩
  | succ i => simp at e1
theorem fnQ_of {P : Program} {w : World} {K : PySem.W.Frag} {mg : Str → Option Value} {base : Heap} {x qual : Str} {st : Stmt} {f : Addr} {fd : FuncData} {N ps : List Str} {k : Nat} {fm : List Int → R Src} (F : Fun K x qual st f fd) (S : FnScope N ps (defScope st)) (hn : ps.length = 1)
    (h : ∀ ns : List Int, DSs ⟨P, w, K, mg, base, k, N, defScope st, fun _ => true⟩ (startE N [.scr ns]) (defBody st) (fm ns) JfQ) : FnG P w K mg base CX0 (k + 1) f fd ps (spQ K fm) := by
  refine okG F S (fun vs H Q E h => ?_) (fun cdv A outer s H vs Q E gd hr hsp => ?_)
  · obtain ⟨_, _, _, _, e, _⟩ := h
    rw [e, hn, List.length_singleton]
  · obtain ⟨F0, a, ns, r, e, sub, hs, hl, er, q⟩ := hsp
    subst e
    have xo : XOk ⟨P, w, K, mg, base, k, N, defScope st, fun _ => true⟩ (cxOf CX0 P w K mg base N qual (defScope st) f cdv A outer s H E).nox :=
      ⟨rfl, rfl, rfl, rfl, rfl, rfl, S.nd, rfl, rfl, hr, gd, PassesOwn.never, fun _ _ => rfl⟩
    have cl : Cl fun r' : R Src => r' = .ok r := ⟨(fun e => nomatch e), (fun _ _ e => nomatch e)⟩
    refine ⟨_, (h ns _ ⟨K, F0, H, []⟩ _ xo rfl cl er).nox, F0, scr_rel sub hs hl, ⟨fun _ _ _ _ _ h => h.elim, fun _ _ _ _ _ _ _ h => h.elim, fun _ _ _ _ _ h => h.elim, fun _ _ _ _ _ h => h.elim, fun ow ρ m v as H' F' ⟨s', e1, e2⟩ h2 h3 h4 h5 => ?_⟩⟩
    subst e1
    rw [h2] at e2; cases e2
    exact q v as H' F' h3.fx h4 h5
/-- the law's own promise -/
def spLaw (K : PySem.W.Frag) : Sp := fun vs H Q _ => ∃ (a : Addr) (ns : List Int), vs = [.ref a] ∧ SqL K H a (ns.map V.int) ∧ ns.length ≤ 63 ∧ ∀ H', Q (.bl true) H'
theorem fnLaw_of {P : Program} {w : World} {K : PySem.W.Frag} {mg : Str → Option Value} {base : Heap} {x qual : Str} {st : Stmt} {f : Addr} {fd : FuncData} {N ps : List Str} {k : Nat} {fm : List Int → R D} (F : Fun K x qual st f fd) (S : FnScope N ps (defScope st)) (hn : ps.length = 1)
    (h : ∀ ns : List Int, DSs ⟨P, w, K, mg, base, k, N, defScope st, fun _ => true⟩ (startE N [.scr ns]) (defBody st) (fm ns) Jf) (hm : ∀ ns : List Int, ns.length ≤ 63 → fm ns = .ok (.bool true)) : FnG P w K mg base CX0 (k + 1) f fd ps (spLaw K) := by
  refine okG F S (fun vs H Q E h => ?_) (fun cdv A outer s H vs Q E gd hr hsp => ?_)
  · obtain ⟨_, _, e, _⟩ := h
    rw [e, hn, List.length_singleton]
  · obtain ⟨a, ns, e, hs, hl, q⟩ := hsp
    subst e
    have xo : XOk ⟨P, w, K, mg, base, k, N, defScope st, fun _ => true⟩ (cxOf CX0 P w K mg base N qual (defScope st) f cdv A outer s H E).nox :=
      ⟨rfl, rfl, rfl, rfl, rfl, rfl, S.nd, rfl, rfl, hr, gd, PassesOwn.never, fun _ _ => rfl⟩
    have cl : Cl fun r' : R D => r' = .ok (.bool true) := ⟨(fun e => nomatch e), (fun _ _ e => nomatch e)⟩
    refine ⟨_, (h ns _ ⟨K, H, H, []⟩ _ xo rfl cl (hm ns hl)).nox, H, scr_rel (Same.refl _) hs hl, ⟨fun ρ m σ H' F' h1 h2 h3 => ?_, fun d ρ m v σ H' F' h1 h2 h3 h4 => ?_, fun _ _ _ _ _ h => h.elim, fun _ _ _ _ _ h => h.elim, fun _ _ _ _ _ _ _ h => h.elim⟩⟩
    · rw [h2] at h1; cases h1
    · rw [h2] at h1; cases h1
      rw [h4.toBool]
      exact q H'
end
end Z

set_option Elab.async false
set_option linter.all false
set_option maxRecDepth 100000
set_option autoImplicit false
/-! # Z13: enumerate, zip, repr, .. -/
namespace Z
open PySem L2

/-! ### enumerate(t), t a tuple -/
set_option maxHeartbeats 1000000 in
theorem meets_enumT {v : Value} {o : Obj} {G : Heap → Prop} (B : PySem.Begins v o G) :
    Meets (Builtin.«enumerate.__new__» ⟨[.type "enumerate", v], []⟩) (fun _ R s => G s.heap ∧
      R (.ok (.ret (.ref (s.heap.push o).objs.size))) { s with heap := (s.heap.push o).push { cls := .type "enumerate", data := .fields #[.none, .bool false, .ref s.heap.objs.size, rawInt 0, .none, .none] } }) :=
  .of_wp fun prog w A R s hh => by
    obtain ⟨hp, ge, de, tk, os⟩ := s
    obtain ⟨g1, h⟩ := hh
    have hsub := sub_enumerate
    have start : ∀ {A2 : Around} {E Q : Value → Shared → Prop}, Q (.ref hp.objs.size) ⟨hp.push o, ge, de, tk, os⟩ → wpAny (model prog w) A2 (pyIter v) Q E ⟨hp, ge, de, tk, os⟩ := fun q => B.iter prog w _ _ ⟨hp, ge, de, tk, os⟩ _ g1 q
    wp_walk using start
    refine wpAny_stack_any fun st => wpAny_pure ?_
    split
    · rename_i c _ _ _ _ _
      cases (c == Value.type "enumerate") <;> (wp_walk using start; exact ⟨_, rfl, h⟩)
    · wp_walk using start
      exact ⟨_, rfl, h⟩
theorem call_enumT {prog : Program} {w : World} {A : Around} {E Q : Value → Shared → Prop} {s : Shared} {v : Value} {o : Obj} {G : Heap → Prop} (B : PySem.Begins v o G) (g : G s.heap)
    (h : ∀ h', IsEnum h' (s.heap.objs.size + 1) s.heap.objs.size 0 .none → h'.get? s.heap.objs.size = some o → (∀ b o', s.heap.get? b = some o' → h'.get? b = some o') → Q (.ref (s.heap.objs.size + 1)) { s with heap := h' }) :
    wpAny (model prog w) A (call (.type "enumerate") [v]) Q E s := by
  refine callType_new F.called_enumerate (by decide) (F.typeCall_enumerate_1 _) (F.newCall_enumerate_1 _) (fun obj => F.args_object_init_2 obj _) F.entry_enumerate_new (meets_enumT B) ⟨g, ?_⟩
  have sz : (s.heap.push o).objs.size = s.heap.objs.size + 1 := Heap.size_push ..
  show _ ∧ _
  rw [sz]
  have at1 : IsEnum ((s.heap.push o).push { cls := .type "enumerate", data := .fields #[.none, .bool false, .ref s.heap.objs.size, rawInt 0, .none, .none] }) (s.heap.objs.size + 1) s.heap.objs.size 0 .none := by
    have q := Heap.get?_push_size (s.heap.push o) (o := { cls := .type "enumerate", data := .fields #[.none, .bool false, .ref s.heap.objs.size, rawInt 0, .none, .none] }) rfl
    rw [sz] at q; exact q
  exact ⟨⟨_, at1, rfl⟩, h _ at1 (Heap.get?_push_of_some _ (Heap.get?_push_size _ B.free)) fun b o' q => Heap.get?_push_of_some _ (Heap.get?_push_of_some _ q)⟩
/-- the tuple at a, each item in a new pair -/
def IteT (K : PySem.W.Frag) (a : Addr) : It where
  go := fun i H => ∃ (xs : List V) (x : V), SqT K H a xs ∧ xs[i]? = some x
  yld := fun i H v H' => ∃ T x, v = .ref T ∧ H T = none ∧ H' = upd H T (.tup [.int (i : Nat), x]) ∧ ∀ xs, SqT K H a xs → xs[i]? = some x
  stop := fun i H => ∃ xs : List V, SqT K H a xs ∧ xs.length = i
theorem turn_enumT {P : Program} {w : World} {K : PySem.W.Frag} {es : List Expr} {kk : Nat} {tp : Pos} (a e it : Addr) :
    Turn P w K (.Tuple es kk tp) (IteT K a) [e, it] e (fun i h => (∃ old, IsEnum h e it ((i : Nat) : Int) old) ∧ h.IsTupleIter it a i ∧ e ≠ it ∧ a ≠ it ∧ e ≠ a) where
  mem := List.mem_cons_self
  obj := fun i h ⟨⟨old, he⟩, ⟨o, ho, _, hd⟩, _⟩ b hb => by
    have : b = e ∨ b = it := by simpa using hb
    rcases this with z | z
    · subst z; exact ⟨_, he, fun v q => nomatch q⟩
    · subst z; exact ⟨o, ho, fun v q => by rw [hd] at q; cases q⟩
  keep := fun i h h' ⟨⟨old, he⟩, hi, r⟩ k => ⟨⟨old, k e (by simp) _ he⟩, hi.at fun o q => k it (by simp) o q, r⟩
  item := by
    intro X hP hw hK hc i pins s σ H E I hf ⟨⟨old, he⟩, hit, hne, hai, hea⟩ ⟨xs, x, hq, hx⟩
    subst hP hw hK
    obtain ⟨its, rv, tup, _⟩ := I.tuple hq
    obtain ⟨u, hu, ru⟩ := rv.get hx
    have le : e < s.heap.objs.size := Heap.lt_size he
    have li : it < s.heap.objs.size := by obtain ⟨_, q, _⟩ := hit; exact Heap.lt_size q
    have lt : i < its.toArray.size := by
      have := (List.getElem?_eq_some_iff.mp hu).1
      simpa using this
    refine wpAny_pyNext_enum_itemD (PySem.Draws.tuple (A := X.A.in1) (I.ok.hd hc) it a hai its.toArray) he ⟨hit, tup⟩ lt hne (by simp [hne, hea]) fun y h' tk hy ho st hT _ hk => ?_
    have ey : y = u := by
      have h1 : its.toArray[i]? = some u := by simpa using hu
      rw [h1] at hy; cases hy; rfl
    subst ey
    refine ⟨_, rfl, wpAny_letOwnedTupleGo_enum (s := { s with heap := h', toks := tk + 1 }) ho fun h'' he' sb => ?_⟩
    have hT2 : h''.get? s.heap.objs.size = some { cls := .type "tuple", data := .seq #[.int i tk, y] } := (sb.2 _ (Nat.ne_of_gt le)).trans hT
    have new : ObjOk X.prog X.w (upd H s.heap.objs.size (.tup [.int (i : Nat), x])) h'' s.heap.objs.size (.tup [.int (i : Nat), x]) := ⟨by show 2 ≤ sizeLine; decide, [.int i tk, y], .cons ⟨_, rfl⟩ (.cons ru .nil), _, hT2, rfl, _, rfl⟩
    have I2 : Inv X pins σ (upd H s.heap.objs.size (.tup [.int (i : Nat), x])) { s with heap := h'', toks := tk + 1 } :=
      I.turnedNew (ch := [e, it]) (fun b ob hb q => (sb.2 b fun z => hb (by simp [z])).trans (hk b ob (fun z => hb (by simp [z])) (fun z => hb (by simp [z])) q)) hf (Nat.le_refl _) new
    have fresh : ∀ b ∈ [e, it], b ≠ s.heap.objs.size := fun b hb => by
      have : b = e ∨ b = it := by simpa using hb
      rcases this with z | z <;> subst z
      · exact Nat.ne_of_lt le
      · exact Nat.ne_of_lt li
    refine ⟨.ref s.heap.objs.size, _, I2, rfl, ⟨_, x, rfl, I.hok.fresh (Nat.le_refl _), rfl, fun ys hy => ?_⟩, ⟨⟨y, ?_⟩, st.1.at fun o q => (sb.2 it (Ne.symm hne)).trans q, hne, hai, hea⟩, fun b hb => by rw [upd_ne (fresh b hb)]; exact (hf b hb).1⟩
    · rw [I.tuple_inj hy hq]; exact hx
    · have e1 : ((i + 1 : Nat) : Int) = (i : Int) + 1 := by omega
      rw [e1]; exact he'
  done := by
    intro X hP hw hK hc i pins s σ H E I hf ⟨⟨old, he⟩, hit, hne, hai, hea⟩ ⟨xs, hq, hx⟩
    subst hP hw hK
    obtain ⟨its, rv, tup, _⟩ := I.tuple hq
    obtain ⟨f0, f1, f2, f3, f4, f5⟩ := hf it (by simp)
    have hl : i = its.toArray.size := by rw [List.size_toArray, ← rv.length]; exact hx.symm
    subst hl
    exact wpAny_pyNext_enum_endD (PySem.Draws.tuple (A := X.A.in1) (I.ok.hd hc) it a hai its.toArray) he ⟨hit, tup⟩ fun h' eb => ⟨rfl, I.turned (t' := s.toks) (fun b o hb q => eb b o hb q) f0 f1 f3 f4 f5⟩
  self := fun A i s Q E ⟨⟨_, he⟩, _⟩ h => wpAny_pyIter_enum he h

theorem enumD_at {items : List D} {i : Nat} : (enumD items)[i]? = (items[i]?).map fun d => .tuple [.int (i : Nat), d] := by
  unfold enumD
  rw [List.getElem?_map, List.getElem?_zipIdx]
  cases items[i]? with
  | none => rfl
  | some d => simp
theorem enumD_length {items : List D} : (enumD items).length = items.length := by unfold enumD; simp
theorem itd_enumL {K : PySem.W.Frag} {a : Addr} {xs : List V} {items : List D} {F : Hp} (h : SqL K F a xs) (r : RpAll K F xs items) : ItD K (Ite K a) (enumD items) F where
  goes := fun i F1 H hi e1 e2 => by
    rw [enumD_length, ← r.length] at hi
    exact ⟨xs, xs[i], e2.seq (e1.seq h), List.getElem?_eq_getElem hi⟩
  stops := fun F1 H e1 e2 => ⟨xs, e2.seq (e1.seq h), by rw [enumD_length, r.length]; exact Nat.le_refl _⟩
  yields := fun i F1 H x H' hi e1 e2 ⟨T, y, e3, hT, e4, hy⟩ => by
    subst e3 e4
    obtain ⟨d, h1, h2⟩ := r.at' (hy xs (e2.seq (e1.seq h)))
    have fx : Fx F1 H _ _ := Fx.alloc (u := .tup [.int (i : Nat), y]) e2 hT
    exact ⟨_, .tuple [.int (i : Nat), d], by rw [enumD_at, h1]; rfl, fx, .tup (.inl (.inl upd_same)) (.cons (.int _) (.cons ((h2.mono e1).mono fx.ff) .nil))⟩
theorem itd_enumT {K : PySem.W.Frag} {a : Addr} {xs : List V} {items : List D} {F : Hp} (h : SqT K F a xs) (r : RpAll K F xs items) : ItD K (IteT K a) (enumD items) F where
  goes := fun i F1 H hi e1 e2 => by
    rw [enumD_length, ← r.length] at hi
    exact ⟨xs, xs[i], seqT e2 (seqT e1 h), List.getElem?_eq_getElem hi⟩
  stops := fun F1 H e1 e2 => ⟨xs, seqT e2 (seqT e1 h), by rw [enumD_length, r.length]⟩
  yields := fun i F1 H x H' hi e1 e2 ⟨T, y, e3, hT, e4, hy⟩ => by
    subst e3 e4
    obtain ⟨d, h1, h2⟩ := r.at' (hy xs (seqT e2 (seqT e1 h)))
    have fx : Fx F1 H _ _ := Fx.alloc (u := .tup [.int (i : Nat), y]) e2 hT
    exact ⟨_, .tuple [.int (i : Nat), d], by rw [enumD_at, h1]; rfl, fx, .tup (.inl (.inl upd_same)) (.cons (.int _) (.cons ((h2.mono e1).mono fx.ff) .nil))⟩
section
variable {α : Type} {C : Ct} {ρ : Env} {m : R α}
theorem di_enum {κ : List D → Env → R α → Prop} {a : Expr} {p pos tp : Pos} {es : List Expr} {kk : Nat} (hm : C.mg ("enumerate" : Str) = none) (h : DE C ρ a m fun d ρ1 m1 => ∃ g, m1 = (iterL d).bind g ∧ ∀ items, κ (enumD items) ρ1 (g items))
    (hg : C.sc.names.lookup ("enumerate" : Str) = some .globalImplicit := by rfl) (hs : ∀ env : PySem.Env, starEach [a] env = [(false, eval a env)] := by intro _; rfl) : DI C ρ (.Tuple es kk tp) (.Call (.Name "enumerate" p) [a] [] pos) m κ := by
  intro X W Z x hK c z
  have ha : DA C ρ [a] m fun ds ρ1 m1 => ∃ d, ds = [d] ∧ ∃ g, m1 = (iterL d).bind g ∧ ∀ items, κ (enumD items) ρ1 (g items) :=
    da_cons (fun X W Z x hK c z => PE_imp (h X W Z x hK c z) fun σ H Q ⟨F, r, q⟩ => ⟨F, r, fun d ρ' m' v H' F' k1 => q d ρ' m' v H' F' (da_nil ⟨d, rfl, k1⟩)⟩) hs
  refine ⟨fun pins s σ H Rr I ⟨F, r, q⟩ => ?_⟩
  refine PyProof.Rows.Call_ (ld_blt I (x.gl hg) (x.mg0 hm) PyProof.Rows.boot_enumerate (PyProof.Rows.callWith_type1 (thn ((ha X W Z x hK c z).run pos pins s σ H (fun vs H1 => ∃ F1 v d ρ1 m1, vs = [v] ∧ (∃ g, m1 = (iterL d).bind g ∧ ∀ items, κ (enumD items) ρ1 (g items)) ∧ Z m1 ∧ Rel W ρ1 σ H1 F1 ∧ Same F F1 ∧ Rp W.K F1 v d) I
    ⟨F, r, fun ds ρ' m' vs H' F' ⟨d, e1, k1⟩ k2 k3 k4 k5 => by
      subst e1
      obtain ⟨v, e2, rd⟩ := k5.one
      exact ⟨F', v, d, ρ', m', e2, k1, k2, k3, k4, rd⟩⟩) fun us s1 ⟨vs, H1, I1, r1, F1, v, d, ρ1, m1, e1, ⟨g, e2, hgg⟩, z1, rel1, ss, rd⟩ => ?_) (hs _) rfl))
  subst e1 e2
  obtain ⟨xs, ex, zx⟩ := c.bind z1
  obtain ⟨u, rfl, ru⟩ := Vals.one r1
  unfold iterL at ex
  split at ex
  · cases ex
    obtain ⟨a', ys, rfl, ha', rys⟩ := rd.toTup
    cases ru
    have aX : SqT X.K H1 a' ys := by rw [x.K, ← hK]; exact seqT rel1.sub ha'
    obtain ⟨its, rv, tup, _⟩ := I1.tuple aX
    refine call_enumT (begins_tuple a' its.toArray) tup fun h' he hit hk => wpAny_pyIter_enum he ?_
    have I2 : Inv X pins σ H1 { s1 with heap := h' } := I1.kept (t' := s1.toks) hk
    have lt : a' < s1.heap.objs.size := by obtain ⟨o, ho, _⟩ := tup; exact Heap.lt_size ho
    refine ⟨s1.heap.objs.size + 1, [s1.heap.objs.size + 1, s1.heap.objs.size], _, _, H1, rfl, I2, turn_enumT a' (s1.heap.objs.size + 1) s1.heap.objs.size, ⟨⟨.none, he⟩, ⟨_, hit, rfl, rfl⟩, Nat.succ_ne_self _, Nat.ne_of_lt lt, Nat.ne_of_gt (Nat.lt_succ_of_lt lt)⟩, fun b hb => ?_, ?_⟩
    · have e' : b = s1.heap.objs.size + 1 ∨ b = s1.heap.objs.size := by simpa using hb
      have hle : s1.heap.objs.size ≤ b := by
        rcases e' with z | z <;> subst z
        · exact Nat.le_add_right _ _
        · exact Nat.le_refl _
      exact I1.fpOk hle (I1.hok.fresh hle)
    · refine q _ ρ1 _ _ H1 F1 (hgg _) zx rel1 ss ?_
      rw [x.K, ← hK]; exact itd_enumT ha' rys
  · cases ex
    obtain ⟨a', ys, rfl, ha', rys⟩ := rd.toList
    cases ru
    have aX : SqL X.K H1 a' ys := SqL.of (rel1.sub _ _ ha')
    obtain ⟨its, rv, lst, _⟩ := I1.list aX
    refine call_enumerate_list lst.isList fun h' he hit hsz hk => wpAny_pyIter_enum he ?_
    have I2 : Inv X pins σ H1 { s1 with heap := h' } := I1.kept (t' := s1.toks) hk
    refine ⟨s1.heap.objs.size + 1, [s1.heap.objs.size + 1, s1.heap.objs.size], _, _, H1, rfl, I2, turn_enum a' (s1.heap.objs.size + 1) s1.heap.objs.size, ⟨⟨.none, he⟩, hit, Nat.succ_ne_self _⟩, fun b hb => ?_, ?_⟩
    · have e' : b = s1.heap.objs.size + 1 ∨ b = s1.heap.objs.size := by simpa using hb
      have hle : s1.heap.objs.size ≤ b := by
        rcases e' with z | z <;> subst z
        · exact Nat.le_add_right _ _
        · exact Nat.le_refl _
      exact I1.fpOk hle (I1.hok.fresh hle)
    · refine q _ ρ1 _ _ H1 F1 (hgg _) zx rel1 ss ?_
      rw [x.K, ← hK]; exact itd_enumL (SqL.of ha') rys
  · cases ex
end

/-! ### repr -/
theorem reprOk_facts {d : D} (h : reprOk d = true) : okD d = true ∧ d.showable = true ∧ d.hasDict = false ∧ d.shown.length ≤ sizeLine := by
  unfold reprOk at h
  simp only [Bool.and_eq_true, Bool.not_eq_true', decide_eq_true_eq] at h
  exact ⟨h.1.1.1, h.1.1.2, h.1.2, by rw [sizeLine_eq]; exact h.2⟩
theorem bl_repr : CallS (.builtin "repr") (fn1 reprD) := by
  intro X k hc hr gd pins s σ H vs us Q I rv ⟨F, ds, c, sub, ra0, e0, q⟩
  obtain ⟨a, rfl, e⟩ := fn1_ok e0
  obtain ⟨v, rfl, ra⟩ := ra0.one
  have main : ∀ {p : Addr}, v = .ref p → reprOk a = true → c = .str a.shown → wpAny (model X.prog X.w) X.A (call (.builtin "repr") us) (EP X pins σ Q) X.xe s := by
    intro p e1 ok ec
    subst e1 ec
    obtain ⟨h1, h2, h3, h4⟩ := reprOk_facts ok
    obtain ⟨u, rfl, ru⟩ := Vals.one rv
    cases ru
    obtain ⟨as, rd⟩ := ra.reads I sub rfl (okD_plain h1)
    refine repr_of_reads' rd h2 (PyData.noDict_hsm h3) gd ?_ (fun _ _ z => z) (fun h' u tk hk => ?_) h4
    · have := hr.units
      have := okD_depth h1
      omega
    · exact ⟨.str a.shown, H, I.kept (t' := tk) hk, ⟨_, rfl⟩, q _ H F (Fx.refl sub) (.str _)⟩
  unfold reprD at e
  split at e
  · split at e
    · rename_i ok; cases e
      obtain ⟨p, xs, e1, _⟩ := ra.toList
      exact main e1 ok rfl
    · cases e
  · split at e
    · rename_i ok; cases e
      obtain ⟨p, xs, e1, _⟩ := ra.toTup
      exact main e1 ok rfl
    · cases e
  · cases e
end Z

set_option Elab.async false
set_option linter.all false
set_option maxRecDepth 100000
set_option autoImplicit false
/-! # Z14: little helps for the printed derivations -/
namespace Z
open PySem L2

theorem Le.z : Le [] [] := trivial
theorem Le.s {a : Sl} {r r' : Env} (h : Le r r') : Le (some a :: r) (some a :: r') := ⟨rfl, h⟩
theorem Le.n {a : Option Sl} {r r' : Env} (h : Le r r') : Le (none :: r) (a :: r') := h
theorem Le.trans : ∀ {a b c : Env}, Le a b → Le b c → Le a c
  | [], [], [], _, _ => trivial
  | none :: r, _ :: r', _ :: r'', h, k => by
    have k' : Le r' r'' := by
      rename_i x y
      cases x with
      | none => exact k
      | some x => cases y with
        | none => exact k.elim
        | some y => exact k.2
    exact Le.trans (a := r) (b := r') (c := r'') h k'
  | some a :: r, some b :: r', some c :: r'', h, k => ⟨h.1.trans k.1, Le.trans (a := r) (b := r') (c := r'') h.2 k.2⟩
  | [], [], _ :: _, _, k => k.elim
  | [], _ :: _, _, h, _ => h.elim
  | none :: _, [], _, h, _ => h.elim
  | some _ :: _, [], _, h, _ => h.elim
  | some _ :: _, none :: _, _, h, _ => h.elim
  | none :: _, none :: _, [], _, k => k.elim
  | none :: _, some _ :: _, [], _, k => k.elim
  | some _ :: _, some _ :: _, [], _, k => k.elim
  | some _ :: _, some _ :: _, none :: _, _, k => k.elim

section
variable {α : Type} {C : Ct} {ρ : Env} {m : R α}
/-- the row of slots, written out -/
theorem ds_at {α : Type} {C : Ct} {ρ : Env} {m : R α} {J : Jd α} {sts : List Stmt} (ρ' : Env) (h : DSs C ρ' sts m J) (e : ρ = ρ' := by rfl) : DSs C ρ sts m J := e ▸ h
/-- the end of a comprehension's turn behind its if -/
theorem lsplitP {β : Type} {C : Ct} {ρ : Env} {elt : Expr} {κ : D → Env → R (Option β) → Prop} {t : Bool} {m1 A B : R (Option β)} (h : m1 = (if t = true then A else B)) (hA : DE C ρ elt A κ) (hB : B = .ok none) : (t = true → DE C ρ elt m1 κ) ∧ (t = false → m1 = .ok none) := by
  subst h hB
  cases t with
  | true => exact ⟨(fun _ => hA), (fun e => nomatch e)⟩
  | false => exact ⟨(fun e => nomatch e), (fun _ => rfl)⟩
theorem lsplitT {τ : Type} {C : Ct} {ρ : Env} {vs : List Nat} {pack : τ → Env} {elt : Expr} {κ : D → Env → R (Option D × τ) → Prop} {t : Bool} {m1 A B : R (Option D × τ)} (st : τ) (h : m1 = (if t = true then A else B)) (hA : DE C ρ elt A κ) (hl : Le (pack st) (wipeE ρ vs)) (hB : B = .ok (none, st)) :
    (t = true → DE C ρ elt m1 κ) ∧ (t = false → ∃ st', Le (pack st') (wipeE ρ vs) ∧ m1 = .ok (none, st')) := by
  subst h hB
  cases t with
  | true => exact ⟨(fun _ => hA), (fun e => nomatch e)⟩
  | false => exact ⟨(fun e => nomatch e), (fun _ => ⟨st, hl, rfl⟩)⟩
/-- not e, as a value -/
theorem de_not {κ : D → Env → R α → Prop} {e : Expr} {pos : Pos} (h : DE C ρ e m fun d ρ1 m1 => ∃ t, d = .bool t ∧ κ (.bool !t) ρ1 m1) : DE C ρ (.UnaryOp .Not e pos) m κ := by
  intro X W Z x hK c z
  refine PE_imp (pe_not (h X W Z x hK c z)) fun σ H Q ⟨F, r, q⟩ => ⟨F, r, fun d ρ' m' v H' F' ⟨t, e1, k1⟩ k2 k3 k4 k5 => ?_⟩
  subst e1
  exact ⟨t, k5.toBool, q _ ρ' m' _ H' F' k1 k2 k3 k4 (.bl _)⟩
/-- a, b, c = e1, e2, e3, all plain locals -/
theorem ds_par3 {J : Jd α} {n1 n2 n3 : Str} {e1 e2 e3 : Expr} {px py pz pt pt2 pos : Pos} {kt k2 : Nat} {rest : List Stmt} (i j l : Nat)
    (h : DE C ρ e1 m fun d1 ρ1 m1 => DE C ρ1 e2 m1 fun d2 ρ2 m2 => DE C ρ2 e3 m2 fun d3 ρ3 m3 => DSs C (((ρ3.set i (some (.val d1))).set j (some (.val d2))).set l (some (.val d3))) rest m3 J) (hN : C.N[i]? = some n1 := by rfl) (hN2 : C.N[j]? = some n2 := by rfl) (hN3 : C.N[l]? = some n3 := by rfl) (hij : i ≠ j := by decide) (hil : i ≠ l := by decide) (hjl : j ≠ l := by decide)
    (hx : C.sc.names.lookup n1 = some .local := by rfl) (hy : C.sc.names.lookup n2 = some .local := by rfl) (hz : C.sc.names.lookup n3 = some .local := by rfl)
    (hst : ∀ env : PySem.Env, starEach [e1, e2, e3] env = (false, eval e1 env) :: starEach [e2, e3] env := by intro _; rfl) (hst2 : ∀ env : PySem.Env, starEach [e2, e3] env = (false, eval e2 env) :: starEach [e3] env := by intro _; rfl) (hst3 : ∀ env : PySem.Env, starEach [e3] env = (false, eval e3 env) :: starEach [] env := by intro _; rfl)
    (hw : ∀ env : PySem.Env, env.scope = C.sc → swappedStores [.Tuple [.Name n1 px, .Name n2 py, .Name n3 pz] kt pt] (.Tuple [e1, e2, e3] k2 pt2) env = pure (some [n1, n2, n3]) := by intro env he; cases env; cases he; rfl)
    (hsw : ∀ env : PySem.Env, env.scope = C.sc → swapsWithSole [.Tuple [.Name n1 px, .Name n2 py, .Name n3 pz] kt pt] (.Tuple [e1, e2, e3] k2 pt2) pos.line env = pure false := by intro env he; rfl) : DSs C ρ (.Assign [.Tuple [.Name n1 px, .Name n2 py, .Name n3 pz] kt pt] (.Tuple [e1, e2, e3] k2 pt2) pos :: rest) m J := by
  intro X W Z x hK c z
  have ha : DA C ρ [e1, e2, e3] m fun ds ρ3 m3 => ∃ d1 d2 d3, ds = [d1, d2, d3] ∧ DSs C (((ρ3.set i (some (.val d1))).set j (some (.val d2))).set l (some (.val d3))) rest m3 J := by
    refine da_cons (fun X W Z x hK c z => PE_imp (h X W Z x hK c z) fun σ H Q ⟨F, r, q⟩ => ⟨F, r, fun d ρ' m' v H' F' k1 => q d ρ' m' v H' F' (da_cons (fun X W Z x hK c z => PE_imp (k1 X W Z x hK c z) fun σ H Q ⟨F, r, q⟩ => ⟨F, r, fun d' ρ2 m2 v H' F' k2 => q d' ρ2 m2 v H' F' (da_cons (fun X W Z x hK c z => PE_imp (k2 X W Z x hK c z) fun σ H Q ⟨F, r, q⟩ => ⟨F, r, fun d'' ρ3 m3 v H' F' k3 => q d'' ρ3 m3 v H' F' (da_nil ⟨d, d', d'', rfl, k3⟩)⟩) hst3)⟩) hst2)⟩) hst
  refine PSs_imp (pss_cons (L2.ps_par3 (i := i) (j := j) (l := l) x.calm (by rw [x.N]; exact x.nd) (by rw [x.N]; exact hN) (by rw [x.N]; exact hN2) (by rw [x.N]; exact hN3) hij hil hjl (by rw [x.sc]; exact hx) (by rw [x.sc]; exact hy) (by rw [x.sc]; exact hz) (ha X W Z x hK c z) (hw _ x.sc) (hsw _ x.sc)) (rest_run (J := J) x hK c)) fun D σ H ⟨F, r, l'⟩ => ?_
  refine ⟨F, r, fun ds ρ' m' vs H' F' ⟨d1, d2, d3, e, h1⟩ h2 h3 h4 h5 => ?_⟩
  subst e
  cases h5 with
  | cons p1 t => cases t with
    | cons p2 t => cases t with
      | cons p3 t => cases t; exact ⟨_, _, _, rfl, (m', _), ⟨h1, h2⟩, F', ((h3.set i p1).set j p2).set l p3, l'⟩
end
/-- a def of the law's text, at hand for calls -/
def HasP (P : Program) (w : World) (K : PySem.W.Frag) (mg : Str → Option Value) (base : Heap) (k : Nat) (n : Str) (ar : Nat) (fm : List D → R D) : Prop := ∀ N sc fn, FnP ⟨P, w, K, mg, base, k, N, sc, fn⟩ n ar fm
def HasS (P : Program) (w : World) (K : PySem.W.Frag) (mg : Str → Option Value) (base : Heap) (k : Nat) (n : Str) (ar : Nat) (fm : Src → List D → R (D × Src)) : Prop := ∀ N sc fn, FnS ⟨P, w, K, mg, base, k, N, sc, fn⟩ n ar fm
def HasQ (P : Program) (w : World) (K : PySem.W.Frag) (mg : Str → Option Value) (base : Heap) (k : Nat) (n : Str) (fm : List Int → R Src) : Prop := ∀ N sc fn, FnQ ⟨P, w, K, mg, base, k, N, sc, fn⟩ n fm
/-- a def as it stands behind the top -/
def At (K : PySem.W.Frag) (mg : Str → Option Value) (n : Str) (st : Stmt) (ps : List Str) : Prop := ∃ f fd, Fun K n n st f fd ∧ mg n = some (.ref f) ∧ Binds K fd ps []
theorem At.mk {K : PySem.W.Frag} {h : Heap} {mg : Str → Option Value} {n : Str} {st : Stmt} {ps : List Str} (X : K.In h) (G : h.Ns mainGlobals mg) {f : Addr} {od an : Option Addr} {sl : Array (Option Value)} {oc kV dc pm cd ct : Value}
    (a : PySem.W.nsIn K mainGlobals n = some (some (.ref f))) (l : K.lookup f = some ⟨oc, od, .func (PySem.W.fnOf n n (defArgs st) (defBody st) (defScope st) .none kV dc pm an cd ct), sl⟩) (c : PySem.W.codeIn K cd n = true) (k : PySem.W.keepIn K (.ref f) = true)
    (b : ∀ (kV doc pm : Value) (an : Option Addr) (cdv ct : Value) (us : List Value), us.length = ps.length → bindArgs (PySem.W.fnOf n n (defArgs st) (defBody st) (defScope st) .none kV doc pm an cdv ct) ⟨us, []⟩ = pure (ps.zip us)) : At K mg n st ps :=
  have F := fun_mk (st := st) l c k
  ⟨f, _, F, PySem.W.mg_of X G a, F.binds b⟩
theorem At.p {P : Program} {w : World} {K : PySem.W.Frag} {mg : Str → Option Value} {base : Heap} {n : Str} {st : Stmt} {ps N : List Str} {fm : List D → R D} {lv ar : Nat} (A : At K mg n st ps) (S : FnScope N ps (defScope st)) (hn : ps.length = ar)
    (h : ∀ ds : List D, ds.length = ar → DSs ⟨P, w, K, mg, base, lv, N, defScope st, fun _ => true⟩ (startE N (ds.map .val)) (defBody st) (fm ds) Jf) (k : Nat) (hk : lv + 1 ≤ k) : HasP P w K mg base k n ar fm := fun _ _ _ =>
  let ⟨f, fd, F, hm, b⟩ := A
  ⟨⟨f, fd, ps, lv + 1, hk, fnP_of F S hn h, hm, F.kp, b⟩⟩
theorem At.s {P : Program} {w : World} {K : PySem.W.Frag} {mg : Str → Option Value} {base : Heap} {n : Str} {st : Stmt} {ps N : List Str} {fm : Src → List D → R (D × Src)} {lv ar : Nat} (A : At K mg n st ps) (S : FnScope N ps (defScope st)) (hn : ps.length = ar + 1)
    (h : ∀ (a : Addr) (s : Src) (ds : List D), ds.length = ar → DSs ⟨P, w, K, mg, base, lv, N, defScope st, fun _ => true⟩ (startE N (.src a s :: ds.map .val)) (defBody st) (fm s ds) (JfS a)) (k : Nat) (hk : lv + 1 ≤ k) : HasS P w K mg base k n ar fm := fun _ _ _ =>
  let ⟨f, fd, F, hm, b⟩ := A
  ⟨⟨f, fd, ps, lv + 1, hk, fnS_of F S hn h, hm, F.kp, b⟩⟩
theorem At.q {P : Program} {w : World} {K : PySem.W.Frag} {mg : Str → Option Value} {base : Heap} {n : Str} {st : Stmt} {ps N : List Str} {fm : List Int → R Src} {lv : Nat} (A : At K mg n st ps) (S : FnScope N ps (defScope st)) (hn : ps.length = 1)
    (h : ∀ ns : List Int, DSs ⟨P, w, K, mg, base, lv, N, defScope st, fun _ => true⟩ (startE N [.scr ns]) (defBody st) (fm ns) JfQ) (k : Nat) (hk : lv + 1 ≤ k) : HasQ P w K mg base k n fm := fun _ _ _ =>
  let ⟨f, fd, F, hm, b⟩ := A
  ⟨⟨f, fd, ps, lv + 1, hk, fnQ_of F S hn h, hm, F.kp, b⟩⟩
/-- a source's def, its arguments behind the source -/
def sn0 (f : Src → R (D × Src)) : Src → List D → R (D × Src)
  | s, [] => f s
  | _, _ => .stuck
def sn1 (f : Src → D → R (D × Src)) : Src → List D → R (D × Src)
  | s, [a] => f s a
  | _, _ => .stuck
def sn2 (f : Src → D → D → R (D × Src)) : Src → List D → R (D × Src)
  | s, [a, b] => f s a b
  | _, _ => .stuck
def sn3 (f : Src → D → D → D → R (D × Src)) : Src → List D → R (D × Src)
  | s, [a, b, c] => f s a b c
  | _, _ => .stuck
def sn4 (f : Src → D → D → D → D → R (D × Src)) : Src → List D → R (D × Src)
  | s, [a, b, c, d] => f s a b c d
  | _, _ => .stuck
def fn5 (f : D → D → D → D → D → R D) : List D → R D
  | [a, b, c, d, e] => f a b c d e
  | _ => .stuck
def fn6 (f : D → D → D → D → D → D → R D) : List D → R D
  | [a, b, c, d, e, g] => f a b c d e g
  | _ => .stuck
theorem fn1_eq (f : D → R D) (a : D) : fn1 f [a] = f a := rfl
theorem fn2_eq (f : D → D → R D) (a b : D) : fn2 f [a, b] = f a b := rfl
theorem fn3_eq (f : D → D → D → R D) (a b c : D) : fn3 f [a, b, c] = f a b c := rfl
theorem fn4_eq (f : D → D → D → D → R D) (a b c d : D) : fn4 f [a, b, c, d] = f a b c d := rfl
theorem fn5_eq (f : D → D → D → D → D → R D) (a b c d e : D) : fn5 f [a, b, c, d, e] = f a b c d e := rfl
theorem fn6_eq (f : D → D → D → D → D → D → R D) (a b c d e g : D) : fn6 f [a, b, c, d, e, g] = f a b c d e g := rfl
theorem sn0_eq (f : Src → R (D × Src)) (s : Src)  : sn0 f s [] = f s  := rfl
theorem sn1_eq (f : Src → D → R (D × Src)) (s : Src) (a : D) : sn1 f s [a] = f s a := rfl
theorem sn2_eq (f : Src → D → D → R (D × Src)) (s : Src) (a b : D) : sn2 f s [a, b] = f s a b := rfl
theorem sn3_eq (f : Src → D → D → D → R (D × Src)) (s : Src) (a b c : D) : sn3 f s [a, b, c] = f s a b c := rfl
theorem sn4_eq (f : Src → D → D → D → D → R (D × Src)) (s : Src) (a b c d : D) : sn4 f s [a, b, c, d] = f s a b c d := rfl
end Z

set_option Elab.async false
set_option linter.all false
set_option maxRecDepth 100000
set_option autoImplicit false
/-! # Z15: several targets, lists of their own among the values -/
namespace Z
open PySem L2

/-- what was made ahead gets its slot later -/
theorem Rel.later {W : Wd} {ρ ρ1 : Env} {σ σ1 : L2.St} {H F H1 F1 : Hp} {io : List Addr} {p : Addr} {vs : List V} {ds : List D} (r : Rel ⟨W.K, F1, upd H1 p (.lst vs), io⟩ ρ σ H F) (r1 : Rel W ρ1 σ1 H1 F1) (hio : ∀ b ∈ io, b ∈ W.io ∨ W.H0 b = none) (hn : p ∉ io) (hp : H1 p = none)
    (rd : RpAll W.K F1 vs ds) (i : Nat) : Rel W (ρ.set i (some (.own ds))) (σ.set i (some (.ref p))) H F := by
  have h0 : upd H1 p (.lst vs) p = some (.lst vs) := upd_same
  have hF : F p = none := r.free0 h0 hn (r1.sub.free hp)
  have hH : H p = some (.lst vs) := r.keep p _ h0 hn
  have no : ∀ b, upd H1 p (.lst vs) b = none → W.H0 b = none := fun b q => by
    by_cases hb : b = p
    · subst hb; rw [upd_same] at q; cases q
    · rw [upd_ne hb] at q; exact r1.base q
  have up : ∀ b o, H1 b = some o → upd H1 p (.lst vs) b = some o := fun b o h => by rw [upd_ne (ne_of_none h hp)]; exact h
  refine ⟨r.sub, r1.sub0.trans r.sub0, fun b o h n => ?_, fun b o h => ?_, ?_, by rw [List.length_set, List.length_set]; exact r.len, fun b o h => ?_⟩
  · refine r.keep b o (up b o (r1.keep b o h n)) fun hb => ?_
    rcases hio b hb with q | q
    · exact n q
    · rw [h] at q; cases q
  · rcases r.fresh b o h with q | q | q
    · exact r1.fresh b o q
    · exact .inr (.inl (no b q))
    · exact .inr ((hio b q).elim .inr .inl)
  · obtain ⟨ad, k⟩ := r.env
    have nad : ∀ j sl, ρ[j]? = some (some sl) → p ∉ ad j := fun j sl e hb => by
      obtain ⟨v, _, _, h3, _⟩ := k j sl e
      rcases h3 p hb with z | z
      · exact hn z
      · replace z : upd H1 p (.lst vs) p = none := z
        rw [upd_same] at z; cases z
    refine ⟨fun j => if j = i then [p] else ad j, fun j sl e => ?_⟩
    rcases get_set e with ⟨e1, e2, e3⟩ | ⟨e1, e2⟩
    · subst e1; cases e3
      refine ⟨.ref p, by rw [List.getElem?_set_self (Nat.lt_of_lt_of_le e2 r.len)], ⟨p, vs, rfl, by simp, hH, hF, rd.mono r.sub0⟩, by simp [r1.base hp], fun l sl' hl e' b hb => ?_⟩
      have hb' : b = p := by simpa using hb
      subst hb'
      have ne : l ≠ i := fun q => hl q.symm
      simp only [if_neg ne]
      rcases get_set e' with ⟨z1, _, _⟩ | ⟨z1, z2⟩
      · exact absurd z1 hl
      · exact nad l sl' z2
    · have ne : j ≠ i := fun q => e1 q.symm
      simp only [if_neg ne]
      obtain ⟨v', k1, k2, k3, k4⟩ := k j sl e2
      refine ⟨v', by rw [List.getElem?_set_ne e1]; exact k1, k2, fun b hb => (k3 b hb).elim (hio b) fun q => .inr (no b q), fun l sl'' hl e' b hb => ?_⟩
      rcases get_set e' with ⟨z1, z2, z3⟩ | ⟨z1, z2⟩
      · subst z1; cases z3
        simp only [if_true]
        intro hbl
        have hb' : b = p := by simpa using hbl
        subst hb'
        exact nad j sl e2 hb
      · have ne' : l ≠ i := fun q => z1 q.symm
        simp only [if_neg ne']
        exact k4 l sl'' hl z2 b hb
  · obtain ⟨o1, h1⟩ := r1.trk b o h
    exact r.trk b o1 (up b o1 h1)

def setAll (σ : L2.St) : List Nat → List V → L2.St
  | i :: is, v :: vs => setAll (σ.set i (some v)) is vs
  | _, _ => σ
theorem setAll_set {i : Nat} {x : Option V} : ∀ {is : List Nat} {vs : List V} {σ : L2.St}, i ∉ is → (setAll σ is vs).set i x = setAll (σ.set i x) is vs
  | [], _, _, _ => rfl
  | _ :: _, [], _, _ => rfl
  | j :: is, v :: vs, σ, h => by
    have hj : i ≠ j := fun e => h (by simp [e])
    unfold setAll
    rw [setAll_set (fun q => h (by simp [q]))]
    exact congrArg (fun τ => setAll τ is vs) (List.set_comm _ _ (fun e => hj e.symm))

section
variable {α : Type} {C : Ct} {ρ : Env} {m : R α}
/-- values for the slots is, one by one, stored at the end -/
def DPs {α : Type} (C : Ct) (ρ : Env) (es : List Expr) (is : List Nat) (m : R α) (κ : Env → R α → Prop) : Prop :=
  ∀ (X : Cx) (W : Wd) (Z : R α → Prop), XOk C X → W.K = C.K → Cl Z → Z m →
    PA X es fun σ H Q => ∃ F, Rel W ρ σ H F ∧ ∀ vs ρ' m' H' F', κ ρ' m' → Z m' → vs.length = is.length → Rel W ρ' (setAll σ is vs) H' F' → Same F F' → Q vs H'
theorem dps_nil {κ : Env → R α → Prop} (k : κ ρ m) : DPs C ρ [] [] m κ := fun X W Z x hK c z =>
  PA_imp pa_nil fun σ H Q ⟨F, r, q⟩ => q [] ρ m H F k z rfl r (Same.refl _)
theorem dps_val {κ : Env → R α → Prop} {e : Expr} {es : List Expr} {is : List Nat} (i : Nat) (h : DE C ρ e m fun d ρ1 m1 => DPs C ρ1 es is m1 fun ρ2 m2 => κ (ρ2.set i (some (.val d))) m2) (hi : i ∉ is := by decide)
    (hs : ∀ env : PySem.Env, starEach (e :: es) env = (false, eval e env) :: starEach es env := by intro _; rfl) : DPs C ρ (e :: es) (i :: is) m κ := by
  intro X W Z x hK c z
  have rest : PA X es fun σ H Q => ∃ j : R α × Env × D, (DPs C j.2.1 es is j.1 (fun ρ2 m2 => κ (ρ2.set i (some (.val j.2.2))) m2) ∧ Z j.1) ∧ ∃ F, Rel W j.2.1 σ H F ∧ ∀ vs ρ' m' H' F', κ (ρ'.set i (some (.val j.2.2))) m' → Z m' → vs.length = is.length → Rel W ρ' (setAll σ is vs) H' F' → Same F F' → Q vs H' :=
    ⟨fun po p s σ H Q I ⟨j, pj, q⟩ => (pj.1 X W Z x hK c pj.2).run po p s σ H Q I q⟩
  refine PA_imp (pa_cons (h X W Z x hK c z) rest (hs _)) fun σ H Q ⟨F, r, q⟩ => ⟨F, r, fun d ρ1 m1 v H1 F1 h1 h2 h3 h4 h5 => ?_⟩
  refine ⟨(m1, ρ1, d), ⟨h1, h2⟩, F1, h3, fun vs ρ2 m2 H2 F2 k1 k2 k3 k4 k5 => q (v :: vs) _ m2 H2 F2 k1 k2 (by simp [k3]) ?_ (h4.trans k5)⟩
  show Rel W _ (setAll (σ.set i (some v)) is vs) H2 F2
  rw [← setAll_set hi]
  exact k4.set i (h5.mono k5)
theorem dps_own {κ : Env → R α → Prop} {e : Expr} {es : List Expr} {is : List Nat} (i : Nat) (h : DN C ρ e m fun ds ρ1 m1 => DPs C ρ1 es is m1 fun ρ2 m2 => κ (ρ2.set i (some (.own ds))) m2) (hi : i ∉ is := by decide)
    (hs : ∀ env : PySem.Env, starEach (e :: es) env = (false, eval e env) :: starEach es env := by intro _; rfl) : DPs C ρ (e :: es) (i :: is) m κ := by
  intro X W Z x hK c z
  have rest : PA X es fun σ H Q => ∃ (W' : Wd) (j : R α × Env × List D), W'.K = C.K ∧ (DPs C j.2.1 es is j.1 (fun ρ2 m2 => κ (ρ2.set i (some (.own j.2.2))) m2) ∧ Z j.1) ∧ ∃ F, Rel W' j.2.1 σ H F ∧ ∀ vs ρ' m' H' F', κ (ρ'.set i (some (.own j.2.2))) m' → Z m' → vs.length = is.length → Rel W' ρ' (setAll σ is vs) H' F' → Same F F' → Q vs H' :=
    ⟨fun po p s σ H Q I ⟨W', j, hK', pj, q⟩ => (pj.1 X W' Z x hK' c pj.2).run po p s σ H Q I q⟩
  refine PA_imp (pa_cons (h X W Z x hK c z) rest (hs _)) fun σ H Q ⟨F, r, q⟩ => ⟨F, r, fun ds ρ1 m1 vs0 p H1 F1 h1 h2 h3 h4 hp h5 => ?_⟩
  obtain ⟨io, rt, hio, hth⟩ := h3.turn
  have hnio : p ∉ io := fun hb => by obtain ⟨o, e⟩ := hth p hb; rw [hp] at e; cases e
  refine ⟨⟨W.K, F1, upd H1 p (.lst vs0), io⟩, (m1, ρ1, ds), hK, ⟨h1, h2⟩, F1, rt.newAt hp hp _, fun vs ρ2 m2 H2 F2 k1 k2 k3 k4 k5 => q (.ref p :: vs) _ m2 H2 F2 k1 k2 (by simp [k3]) ?_ (h4.trans k5)⟩
  show Rel W _ (setAll (σ.set i (some (.ref p))) is vs) H2 F2
  rw [← setAll_set hi]
  exact k4.later h3 hio hnio hp h5 i
theorem len2 {vs : List V} (h : vs.length = 2) : ∃ u v, vs = [u, v] := by match vs, h with | [u, v], _ => exact ⟨u, v, rfl⟩
theorem len3 {vs : List V} (h : vs.length = 3) : ∃ u v w, vs = [u, v, w] := by match vs, h with | [u, v, w], _ => exact ⟨u, v, w, rfl⟩
/-- a, b = e1, e2, both plain locals -/
theorem ds_parN {J : Jd α} {n1 n2 : Str} {e1 e2 : Expr} {px py pt pt2 pos : Pos} {kt k2 : Nat} {rest : List Stmt} (i j : Nat) (h : DPs C ρ [e1, e2] [i, j] m fun ρ' m' => DSs C ρ' rest m' J)
    (hN : C.N[i]? = some n1 := by rfl) (hN2 : C.N[j]? = some n2 := by rfl) (hij : i ≠ j := by decide) (hx : C.sc.names.lookup n1 = some .local := by rfl) (hy : C.sc.names.lookup n2 = some .local := by rfl)
    (hw : ∀ env : PySem.Env, env.scope = C.sc → swappedStores [.Tuple [.Name n1 px, .Name n2 py] kt pt] (.Tuple [e1, e2] k2 pt2) env = pure (some [n1, n2]) := by intro env he; cases env; cases he; rfl) : DSs C ρ (.Assign [.Tuple [.Name n1 px, .Name n2 py] kt pt] (.Tuple [e1, e2] k2 pt2) pos :: rest) m J := by
  intro X W Z x hK c z
  refine PSs_imp (pss_cons (ps_par (i := i) (j := j) x.calm (by rw [x.N]; exact x.nd) (by rw [x.N]; exact hN) (by rw [x.N]; exact hN2) hij (by rw [x.sc]; exact hx) (by rw [x.sc]; exact hy) (h X W Z x hK c z) (hw _ x.sc)) (rest_run (J := J) x hK c)) fun Dn σ H ⟨F, r, l⟩ => ?_
  refine ⟨F, r, fun vs ρ' m' H' F' k1 k2 k3 k4 k5 => ?_⟩
  obtain ⟨u, v, rfl⟩ := len2 k3
  exact ⟨u, v, rfl, (m', ρ'), ⟨k1, k2⟩, F', k4, l⟩
theorem ds_parN3 {J : Jd α} {n1 n2 n3 : Str} {e1 e2 e3 : Expr} {px py pz pt pt2 pos : Pos} {kt k2 : Nat} {rest : List Stmt} (i j l : Nat) (h : DPs C ρ [e1, e2, e3] [i, j, l] m fun ρ' m' => DSs C ρ' rest m' J)
    (hN : C.N[i]? = some n1 := by rfl) (hN2 : C.N[j]? = some n2 := by rfl) (hN3 : C.N[l]? = some n3 := by rfl) (hij : i ≠ j := by decide) (hil : i ≠ l := by decide) (hjl : j ≠ l := by decide)
    (hx : C.sc.names.lookup n1 = some .local := by rfl) (hy : C.sc.names.lookup n2 = some .local := by rfl) (hz : C.sc.names.lookup n3 = some .local := by rfl)
    (hw : ∀ env : PySem.Env, env.scope = C.sc → swappedStores [.Tuple [.Name n1 px, .Name n2 py, .Name n3 pz] kt pt] (.Tuple [e1, e2, e3] k2 pt2) env = pure (some [n1, n2, n3]) := by intro env he; cases env; cases he; rfl)
    (hsw : ∀ env : PySem.Env, env.scope = C.sc → swapsWithSole [.Tuple [.Name n1 px, .Name n2 py, .Name n3 pz] kt pt] (.Tuple [e1, e2, e3] k2 pt2) pos.line env = pure false := by intro env he; rfl) : DSs C ρ (.Assign [.Tuple [.Name n1 px, .Name n2 py, .Name n3 pz] kt pt] (.Tuple [e1, e2, e3] k2 pt2) pos :: rest) m J := by
  intro X W Z x hK c z
  refine PSs_imp (pss_cons (L2.ps_par3 (i := i) (j := j) (l := l) x.calm (by rw [x.N]; exact x.nd) (by rw [x.N]; exact hN) (by rw [x.N]; exact hN2) (by rw [x.N]; exact hN3) hij hil hjl (by rw [x.sc]; exact hx) (by rw [x.sc]; exact hy) (by rw [x.sc]; exact hz) (h X W Z x hK c z) (hw _ x.sc) (hsw _ x.sc)) (rest_run (J := J) x hK c)) fun Dn σ H ⟨F, r, l'⟩ => ?_
  refine ⟨F, r, fun vs ρ' m' H' F' k1 k2 k3 k4 k5 => ?_⟩
  obtain ⟨u, v, w, rfl⟩ := len3 k3
  exact ⟨u, v, w, rfl, (m', ρ'), ⟨k1, k2⟩, F', k4, l'⟩
/-- a tuple's parts to names, some of them no plain locals -/
theorem ds_asgN2 {J : Jd α} {n1 n2 : Str} {e1 e2 : Expr} {px py pt pt2 pos : Pos} {kt k2 : Nat} {rest : List Stmt} (i j : Nat) (h : DPs C ρ [e1, e2] [i, j] m fun ρ' m' => DSs C ρ' rest m' J)
    (hNi : C.N[i]? = some n1 := by rfl) (hNj : C.N[j]? = some n2 := by rfl) (hxi : Loc C.sc n1 := by first | exact Or.inl rfl | exact Or.inr rfl) (hfi : C.fn n1 = true ∨ C.sc.names.lookup n1 = some .local := by first | exact Or.inl rfl | exact Or.inr rfl) (hxj : Loc C.sc n2 := by first | exact Or.inl rfl | exact Or.inr rfl) (hfj : C.fn n2 = true ∨ C.sc.names.lookup n2 = some .local := by first | exact Or.inl rfl | exact Or.inr rfl)
    (as0 : ∀ env : PySem.Env, (assignEach [.Name n1 px, .Name n2 py] env).map (·.2) = assign (.Name n1 px) env :: (assignEach [.Name n2 py] env).map (·.2) := by intro _; rfl) (as1 : ∀ env : PySem.Env, (assignEach [.Name n2 py] env).map (·.2) = assign (.Name n2 py) env :: (assignEach [] env).map (·.2) := by intro _; rfl)
    (hn : ∀ env : PySem.Env, (assignEach [.Name n1 px, .Name n2 py] env).length = 2 := by intro _; rfl) (hst : ∀ env : PySem.Env, (assignEach [.Name n1 px, .Name n2 py] env).findIdx? (·.1) = none := by intro _; rfl)
    (hw : ∀ env : PySem.Env, env.scope = C.sc → swappedStores [.Tuple [.Name n1 px, .Name n2 py] kt pt] (.Tuple [e1, e2] k2 pt2) env = pure none := by intro env he; cases env; cases he; rfl)
    (hsw : ∀ env : PySem.Env, env.scope = C.sc → swapsWithSole [.Tuple [.Name n1 px, .Name n2 py] kt pt] (.Tuple [e1, e2] k2 pt2) pos.line env = pure false := by intro env he; rfl) (h1 : ∀ env : PySem.Env, (assignEach [.Tuple [.Name n1 px, .Name n2 py] kt pt] env).map (·.2) = [assign (.Tuple [.Name n1 px, .Name n2 py] kt pt) env] := by intro _; rfl) :
    DSs C ρ (.Assign [.Tuple [.Name n1 px, .Name n2 py] kt pt] (.Tuple [e1, e2] k2 pt2) pos :: rest) m J := by
  intro X W Z x hK c z
  have hfni : X.fn n1 = true ∨ X.env.scope.names.lookup n1 = some .local := hfi.elim (fun h => .inl (x.fnl n1 h)) fun h => .inr (by rw [x.sc]; exact h)
  have hfnj : X.fn n2 = true ∨ X.env.scope.names.lookup n2 = some .local := hfj.elim (fun h => .inl (x.fnl n2 h)) fun h => .inr (by rw [x.sc]; exact h)
  refine PSs_imp (pss_cons (ps_asg (pe_tup (h X W Z x hK c z)) (pg_tup (n := 2) x.calm (pgs_cons (pg_name (i := i) (by rw [x.N]; exact x.nd) (by rw [x.N]; exact hNi) (by rw [x.sc]; exact hxi) hfni) (pgs_cons (pg_name (i := j) (by rw [x.N]; exact x.nd) (by rw [x.N]; exact hNj) (by rw [x.sc]; exact hxj) hfnj) pgs_nil (as1 _)) (as0 _)) (hn _) (hst _)) (hsw _ x.sc) (hw _ x.sc) (h1 _)) (rest_run (J := J) x hK c)) fun Dn σ H ⟨F, r, l⟩ => ?_
  refine ⟨F, r, fun vs ρ' m' H' F' k1 k2 k3 k4 k5 => ⟨by rw [k3, sizeLine_eq]; show (2 : Nat) ≤ 16777216; decide, fun p hp => ?_⟩⟩
  obtain ⟨u, v, rfl⟩ := len2 k3
  have k6 := k4.step (F' := F') (H' := upd H' p (.tup [u, v])) ⟨Same.refl _, fun b o q => by rw [upd_ne (ne_of_none (k4.sub b o q) hp)]; exact k4.sub b o q, fun b o q => by rw [upd_ne (ne_of_none q hp)]; exact q, fun _ _ q => .inl q⟩
  exact ⟨p, _, rfl, .inl (.inl upd_same), rfl, ⟨_, _, rfl, ⟨_, _, rfl, ⟨rfl, (m', ρ'), ⟨k1, k2⟩, F', k6, l⟩⟩⟩⟩
/-- a tuple's parts to names, some of them no plain locals -/
theorem ds_asgN3 {J : Jd α} {n1 n2 n3 : Str} {e1 e2 e3 : Expr} {px py pz pt pt2 pos : Pos} {kt k2 : Nat} {rest : List Stmt} (i j l : Nat) (h : DPs C ρ [e1, e2, e3] [i, j, l] m fun ρ' m' => DSs C ρ' rest m' J)
    (hNi : C.N[i]? = some n1 := by rfl) (hNj : C.N[j]? = some n2 := by rfl) (hNl : C.N[l]? = some n3 := by rfl) (hxi : Loc C.sc n1 := by first | exact Or.inl rfl | exact Or.inr rfl) (hfi : C.fn n1 = true ∨ C.sc.names.lookup n1 = some .local := by first | exact Or.inl rfl | exact Or.inr rfl) (hxj : Loc C.sc n2 := by first | exact Or.inl rfl | exact Or.inr rfl) (hfj : C.fn n2 = true ∨ C.sc.names.lookup n2 = some .local := by first | exact Or.inl rfl | exact Or.inr rfl) (hxl : Loc C.sc n3 := by first | exact Or.inl rfl | exact Or.inr rfl) (hfl : C.fn n3 = true ∨ C.sc.names.lookup n3 = some .local := by first | exact Or.inl rfl | exact Or.inr rfl)
    (as0 : ∀ env : PySem.Env, (assignEach [.Name n1 px, .Name n2 py, .Name n3 pz] env).map (·.2) = assign (.Name n1 px) env :: (assignEach [.Name n2 py, .Name n3 pz] env).map (·.2) := by intro _; rfl) (as1 : ∀ env : PySem.Env, (assignEach [.Name n2 py, .Name n3 pz] env).map (·.2) = assign (.Name n2 py) env :: (assignEach [.Name n3 pz] env).map (·.2) := by intro _; rfl) (as2 : ∀ env : PySem.Env, (assignEach [.Name n3 pz] env).map (·.2) = assign (.Name n3 pz) env :: (assignEach [] env).map (·.2) := by intro _; rfl)
    (hn : ∀ env : PySem.Env, (assignEach [.Name n1 px, .Name n2 py, .Name n3 pz] env).length = 3 := by intro _; rfl) (hst : ∀ env : PySem.Env, (assignEach [.Name n1 px, .Name n2 py, .Name n3 pz] env).findIdx? (·.1) = none := by intro _; rfl)
    (hw : ∀ env : PySem.Env, env.scope = C.sc → swappedStores [.Tuple [.Name n1 px, .Name n2 py, .Name n3 pz] kt pt] (.Tuple [e1, e2, e3] k2 pt2) env = pure none := by intro env he; cases env; cases he; rfl)
    (hsw : ∀ env : PySem.Env, env.scope = C.sc → swapsWithSole [.Tuple [.Name n1 px, .Name n2 py, .Name n3 pz] kt pt] (.Tuple [e1, e2, e3] k2 pt2) pos.line env = pure false := by intro env he; rfl) (h1 : ∀ env : PySem.Env, (assignEach [.Tuple [.Name n1 px, .Name n2 py, .Name n3 pz] kt pt] env).map (·.2) = [assign (.Tuple [.Name n1 px, .Name n2 py, .Name n3 pz] kt pt) env] := by intro _; rfl) :
    DSs C ρ (.Assign [.Tuple [.Name n1 px, .Name n2 py, .Name n3 pz] kt pt] (.Tuple [e1, e2, e3] k2 pt2) pos :: rest) m J := by
  intro X W Z x hK c z
  have hfni : X.fn n1 = true ∨ X.env.scope.names.lookup n1 = some .local := hfi.elim (fun h => .inl (x.fnl n1 h)) fun h => .inr (by rw [x.sc]; exact h)
  have hfnj : X.fn n2 = true ∨ X.env.scope.names.lookup n2 = some .local := hfj.elim (fun h => .inl (x.fnl n2 h)) fun h => .inr (by rw [x.sc]; exact h)
  have hfnl : X.fn n3 = true ∨ X.env.scope.names.lookup n3 = some .local := hfl.elim (fun h => .inl (x.fnl n3 h)) fun h => .inr (by rw [x.sc]; exact h)
  refine PSs_imp (pss_cons (ps_asg (pe_tup (h X W Z x hK c z)) (pg_tup (n := 3) x.calm (pgs_cons (pg_name (i := i) (by rw [x.N]; exact x.nd) (by rw [x.N]; exact hNi) (by rw [x.sc]; exact hxi) hfni) (pgs_cons (pg_name (i := j) (by rw [x.N]; exact x.nd) (by rw [x.N]; exact hNj) (by rw [x.sc]; exact hxj) hfnj) (pgs_cons (pg_name (i := l) (by rw [x.N]; exact x.nd) (by rw [x.N]; exact hNl) (by rw [x.sc]; exact hxl) hfnl) pgs_nil (as2 _)) (as1 _)) (as0 _)) (hn _) (hst _)) (hsw _ x.sc) (hw _ x.sc) (h1 _)) (rest_run (J := J) x hK c)) fun Dn σ H ⟨F, r, l⟩ => ?_
  refine ⟨F, r, fun vs ρ' m' H' F' k1 k2 k3 k4 k5 => ⟨by rw [k3, sizeLine_eq]; show (3 : Nat) ≤ 16777216; decide, fun p hp => ?_⟩⟩
  obtain ⟨u, v, w, rfl⟩ := len3 k3
  have k6 := k4.step (F' := F') (H' := upd H' p (.tup [u, v, w])) ⟨Same.refl _, fun b o q => by rw [upd_ne (ne_of_none (k4.sub b o q) hp)]; exact k4.sub b o q, fun b o q => by rw [upd_ne (ne_of_none q hp)]; exact q, fun _ _ q => .inl q⟩
  exact ⟨p, _, rfl, .inl (.inl upd_same), rfl, ⟨_, _, rfl, ⟨_, _, rfl, ⟨_, _, rfl, ⟨rfl, (m', ρ'), ⟨k1, k2⟩, F', k6, l⟩⟩⟩⟩⟩
end
end Z

set_option Elab.async false
set_option linter.all false
set_option maxRecDepth 100000
set_option autoImplicit false
/-! # Z16: how the operations answer, numbers of bounded size -/
namespace Z
open PySem

/-- small enough for a product -/
def Sz (i : Int) : Prop := i.natAbs.log2 < 400000
theorem Sz.of {i : Int} {k : Nat} (h : i.natAbs < 2 ^ k) (hk : k ≤ 400000) : Sz i := by
  unfold Sz
  by_cases h0 : i.natAbs = 0
  · rw [h0]; decide
  · exact Nat.lt_of_lt_of_le ((Nat.log2_lt h0).mpr h) hk
theorem add_i (i j : Int) : add (.int i) (.int j) = .ok (.int (i + j)) := rfl
theorem sub_i (i j : Int) : sub (.int i) (.int j) = .ok (.int (i - j)) := rfl
theorem neg_i (i : Int) : neg (.int i) = .ok (.int (-i)) := rfl
theorem mul_i {i j : Int} (hi : Sz i) (hj : Sz j) : mul (.int i) (.int j) = .ok (.int (i * j)) := by
  unfold Sz at hi hj
  have : bigM i j = true := by unfold bigM; simp only [Bool.or_eq_true, decide_eq_true_eq]; exact .inr (by omega)
  simp [mul, this]
theorem mul_l {i j : Int} (hi : i.natAbs < 2 ^ 64) : mul (.int i) (.int j) = .ok (.int (i * j)) := by
  have : bigM i j = true := by unfold bigM; rw [decide_eq_true hi]; rfl
  simp [mul, this]
theorem mul_r {i j : Int} (hj : j.natAbs < 2 ^ 64) : mul (.int i) (.int j) = .ok (.int (i * j)) := by
  have : bigM i j = true := by unfold bigM; rw [decide_eq_true hj]; simp
  simp [mul, this]
theorem fdiv_i {i j : Int} (hj : j ≠ 0) (hs : bigD j = true) : fdiv (.int i) (.int j) = .ok (.int (i.fdiv j)) := by simp [fdiv, hj, hs]
theorem fmod_i {i j : Int} (hj : j ≠ 0) : fmod (.int i) (.int j) = .ok (.int (i.fmod j)) := by simp [fmod, hj]
theorem lt_i (i j : Int) : ltD (.int i) (.int j) = .ok (decide (i < j)) := rfl
theorem gt_i (i j : Int) : gtD (.int i) (.int j) = .ok (decide (j < i)) := rfl
theorem le_i (i j : Int) : leD (.int i) (.int j) = .ok (decide (i ≤ j)) := rfl
theorem ge_i (i j : Int) : geD (.int i) (.int j) = .ok (decide (j ≤ i)) := rfl
theorem ok_i (i : Int) : okD (.int i) = true := by simp [okD, PyData.plain, PyData.depth]
theorem eqv_i (i j : Int) : PyData.eqv (.int i) (.int j) = decide (i = j) := by
  unfold PyData.eqv
  first | rfl | (by_cases h : i = j <;> simp [h])
theorem eq_i (i j : Int) : eqD (.int i) (.int j) = .ok (decide (i = j)) := by simp [eqD, ok_i, eqv_i]
theorem ne_i (i j : Int) : neD (.int i) (.int j) = .ok (!decide (i = j)) := by simp [neD, eq_i]
theorem abs_i (i : Int) : absD (.int i) = .ok (.int (i.natAbs : Int)) := by
  unfold absD
  split
  · rename_i h; cases h
    congr 2
    split <;> omega
  · rename_i h; exact absurd rfl (h i)
theorem int_i (i : Int) : intD (.int i) = .ok (.int i) := rfl
theorem toI_i (i : Int) : toI (.int i) = .ok i := rfl
theorem max2_i (i j : Int) : maxD2 (.int i) (.int j) = .ok (.int (max i j)) := by
  show R.ok (PyData.int (if j > i then j else i)) = _
  have : (if j > i then j else i) = max i j := by split <;> omega
  rw [this]
theorem item0 (a : D) (l : List D) : item (.tuple (a :: l)) (.int 0) = .ok a := by simp [item, atD, L2.atI, L2.ixN]
theorem item_n {l : List D} {n : Nat} {d : D} (h : l[n]? = some d) : item (.tuple l) (.int (n : Nat)) = .ok d := by
  have hl := (List.getElem?_eq_some_iff.mp h).1
  have : L2.ixN l.length (n : Int) = some n := by unfold L2.ixN; rw [if_pos (by omega), if_pos (by omega)]; simp
  simp [item, atD, L2.atI, this, h]
theorem item1 (a b : D) (l : List D) : item (.tuple (a :: b :: l)) (.int 1) = .ok b := item_n (n := 1) (by simp)
theorem item_ln {l : List D} {n : Nat} {d : D} (h : l[n]? = some d) : item (.list l) (.int (n : Nat)) = .ok d := by
  have hl := (List.getElem?_eq_some_iff.mp h).1
  have : L2.ixN l.length (n : Int) = some n := by unfold L2.ixN; rw [if_pos (by omega), if_pos (by omega)]; simp
  simp [item, atD, L2.atI, this, h]
theorem item_l0 (a : D) (l : List D) : item (.list (a :: l)) (.int 0) = .ok a := item_ln (n := 0) (by simp)
theorem item_l1 (a b : D) (l : List D) : item (.list (a :: b :: l)) (.int 1) = .ok b := item_ln (n := 1) (by simp)
theorem un2_t (a b : D) : un2 (.tuple [a, b]) = .ok (a, b) := rfl
theorem un3_t (a b c : D) : un3 (.tuple [a, b, c]) = .ok (a, b, c) := rfl
theorem gcd_i (i j : Int) : gcdD (.int i) (.int j) = .ok (.int (Nat.gcd i.natAbs j.natAbs : Nat)) := rfl
theorem iter_l (xs : List D) : iter (.list xs) = .ok xs := rfl
theorem iter_t (xs : List D) : iter (.tuple xs) = .ok xs := rfl
theorem iterL_l (xs : List D) : iterL (.list xs) = .ok xs := rfl
theorem iterL_t (xs : List D) : iterL (.tuple xs) = .ok xs := rfl
theorem len_l (xs : List D) : lenD (.list xs) = .ok (.int xs.length) := rfl
theorem len_t (xs : List D) : lenD (.tuple xs) = .ok (.int xs.length) := rfl
theorem tuple_l (xs : List D) : tupleD (.list xs) = .ok (.tuple xs) := rfl
theorem flat_i (i : Int) : flatR (.ok (.int i)) = .ok (.int i) := rfl
theorem range_i {n : Nat} (h : n < 2 ^ 62) : range1 (.int (n : Int)) = .ok (rangeD 0 n) := by
  unfold range1 range2
  have h1 : (-(2 ^ 62) : Int) ≤ 0 := by decide
  have h2 : (0 : Int) < 2 ^ 62 := by decide
  have h3 : (-(2 ^ 62) : Int) ≤ (n : Int) := by omega
  have h4 : (n : Int) < 2 ^ 62 := by omega
  show (if (decide ((-(2 ^ 62) : Int) ≤ 0) && decide ((0 : Int) < 2 ^ 62) && decide ((-(2 ^ 62) : Int) ≤ (n : Int)) && decide ((n : Int) < 2 ^ 62)) = true then R.ok (rangeD 0 n) else R.stuck) = _
  rw [decide_eq_true h1, decide_eq_true h2, decide_eq_true h3, decide_eq_true h4]
  rfl
theorem rangeD_eq (n : Nat) : rangeD 0 n = (List.range n).map fun (k : Nat) => PyData.int (k : Int) := by simp [rangeD]
theorem bigD_of {j : Int} {k : Nat} (h : j.natAbs < 2 ^ k) (hk : k ≤ 9000) : bigD j = true := by
  unfold bigD
  by_cases h0 : j.natAbs = 0
  · rw [h0]; decide
  · exact decide_eq_true (Nat.lt_of_lt_of_le ((Nat.log2_lt h0).mpr h) hk)

/-! ### loops -/
theorem forS_nil {τ : Type} (st : τ) (f : D → τ → R τ) : forS [] st f = .ok st := rfl
theorem forS_cons {τ : Type} (x : D) (xs : List D) (st : τ) (f : D → τ → R τ) : forS (x :: xs) st f = (f x st).bind fun s => forS xs s f := rfl
/-- a loop by an invariant over what has been walked -/
theorem forS_inv {τ : Type} {f : D → τ → R τ} (I : List D → τ → Prop) {xs : List D} {st : τ} (h0 : I [] st) (hs : ∀ ys x s, (∃ zs, xs = ys ++ x :: zs) → I ys s → ∃ s', f x s = .ok s' ∧ I (ys ++ [x]) s') : ∃ s, forS xs st f = .ok s ∧ I xs s := by
  have key : ∀ (zs ys : List D) (s : τ), xs = ys ++ zs → I ys s → ∃ s', forS zs s f = .ok s' ∧ I xs s' := by
    intro zs
    induction zs with
    | nil => intro ys s e hi; rw [List.append_nil] at e; subst e; exact ⟨s, rfl, hi⟩
    | cons x zs ih =>
      intro ys s e hi
      obtain ⟨s', e1, h1⟩ := hs ys x s ⟨zs, e⟩ hi
      obtain ⟨s2, e2, h2⟩ := ih (ys ++ [x]) s' (by simp [e]) h1
      exact ⟨s2, by rw [forS_cons, e1]; exact e2, h2⟩
  exact key xs [] st rfl h0
/-- a comprehension with a state, by an invariant over what it has made -/
theorem compT_inv {τ : Type} {f : D → τ → R (Option D × τ)} (I : List D → List D → τ → Prop) {xs : List D} {st : τ} (h0 : I [] [] st)
    (hs : ∀ ys x s out, (∃ zs, xs = ys ++ x :: zs) → I ys out s → ∃ o s', f x s = .ok (o, s') ∧ I (ys ++ [x]) (out ++ o.toList) s') : ∃ out s, compT xs st f = .ok (out, s) ∧ I xs out s := by
  have key : ∀ (zs ys out : List D) (s : τ), xs = ys ++ zs → I ys out s → ∃ o2 s', compT zs s f = .ok (o2, s') ∧ I xs (out ++ o2) s' := by
    intro zs
    induction zs with
    | nil => intro ys out s e hi; rw [List.append_nil] at e; subst e; exact ⟨[], s, rfl, by simpa using hi⟩
    | cons x zs ih =>
      intro ys out s e hi
      obtain ⟨o, s', e1, h1⟩ := hs ys x s out ⟨zs, e⟩ hi
      obtain ⟨o2, s2, e2, h2⟩ := ih (ys ++ [x]) (out ++ o.toList) s' (by simp [e]) h1
      refine ⟨o.toList ++ o2, s2, ?_, by simpa using h2⟩
      simp only [compT, e1, R.bind_ok, e2]
      cases o <;> rfl
  obtain ⟨o, s, e, h⟩ := key xs [] [] st rfl h0
  exact ⟨o, s, e, by simpa using h⟩
theorem compS_of {τ : Type} {f : D → τ → R (Option D × τ)} {xs : List D} {st : τ} (h : xs.length < 16777216) : compS xs st f = compT xs st f := by unfold compS; rw [decide_eq_true h]; rfl
theorem compL_of {f : D → R (Option D)} {xs : List D} (h : xs.length < 16777216) : compL xs f = compP xs f := by unfold compL; rw [decide_eq_true h]; rfl
/-- each item to some answer or none -/
theorem compP_map {f : D → R (Option D)} {g : D → Option D} : ∀ {xs : List D}, (∀ x ∈ xs, f x = .ok (g x)) → compP xs f = .ok (xs.filterMap g)
  | [], _ => rfl
  | x :: xs, h => by
    simp only [compP, h x (by simp), R.bind_ok, compP_map (xs := xs) (fun y hy => h y (by simp [hy]))]
    cases hg : g x <;> simp [hg]

theorem compP_all {ι : Type} {f : D → R (Option D)} {g h : ι → D} : ∀ {xs : List ι}, (∀ x ∈ xs, f (g x) = .ok (some (h x))) → compP (xs.map g) f = .ok (xs.map h)
  | [], _ => rfl
  | x :: xs, k => by
    simp only [List.map_cons, compP, k x (by simp), R.bind_ok, compP_all (xs := xs) (fun y hy => k y (by simp [hy]))]
theorem compL_all {ι : Type} {f : D → R (Option D)} {g h : ι → D} {xs : List ι} (hl : xs.length < 16777216) (k : ∀ x ∈ xs, f (g x) = .ok (some (h x))) : compL (xs.map g) f = .ok (xs.map h) := by
  rw [compL_of (by rw [List.length_map]; exact hl), compP_all k]
theorem intsD_map : ∀ ns : List Int, intsD (ns.map .int) = some ns
  | [] => rfl
  | n :: ns => by simp [intsD, intsD_map ns]
/-! ### the source's budget -/
/-- n choices may be asked yet -/
def Ok (n : Nat) (s : Src) : Prop := 0 ≤ s.turn ∧ s.turn + (n : Int) ≤ 1000000000000
theorem Ok.le {n m : Nat} {s : Src} (h : Ok n s) (hm : m ≤ n) : Ok m s := ⟨h.1, by have := h.2; omega⟩
end Z

set_option Elab.async false
set_option linter.all false
set_option maxRecDepth 100000
set_option autoImplicit false
/-! # Z17: the plane: tables, lots, rows, fractions -/
namespace Z
open PySem

abbrev Vc := Int × Int
structure Tb where
  a : Int
  b : Int
  c : Int
  d : Int
deriving DecidableEq
def Tb.led (M : Tb) (v : Vc) : Vc := (M.a * v.1 + M.b * v.2, M.c * v.1 + M.d * v.2)
def Tb.det (M : Tb) : Int := M.a * M.d - M.b * M.c
def Tb.adj (M : Tb) : Tb := ⟨M.d, -M.b, -M.c, M.a⟩
def Tb.mul (M N : Tb) : Tb := ⟨M.a * N.a + M.b * N.c, M.a * N.b + M.b * N.d, M.c * N.a + M.d * N.c, M.c * N.b + M.d * N.d⟩
def Tb.one : Tb := ⟨1, 0, 0, 1⟩
def Tb.pw (M : Tb) : Nat → Tb
  | 0 => Tb.one
  | n + 1 => M.mul (M.pw n)
def Tb.less1 (M : Tb) : Tb := ⟨M.a - 1, M.b, M.c, M.d - 1⟩
def vadd (u v : Vc) : Vc := (u.1 + v.1, u.2 + v.2)
def vsub (u v : Vc) : Vc := (u.1 - v.1, u.2 - v.2)
def vmul (k : Int) (v : Vc) : Vc := (k * v.1, k * v.2)
def Tb.it (M : Tb) : Nat → Vc → Vc
  | 0, v => v
  | n + 1, v => M.led (M.it n v)
/-- a row of digits on a lot -/
def Tb.row (M : Tb) (v : Vc) : List Vc → Vc
  | [] => v
  | d :: r => M.row (vadd (M.led v) d) r
def lotD (v : Vc) : D := .tuple [.int v.1, .int v.2]
def tabD (M : Tb) : D := .tuple [.tuple [.int M.a, .int M.b], .tuple [.int M.c, .int M.d]]
def pointD (p : Vc × Int) : D := .tuple [lotD p.1, .int p.2]

theorem vext {u v : Vc} (h1 : u.1 = v.1) (h2 : u.2 = v.2) : u = v := Prod.ext h1 h2
section
variable (M N : Tb) (u v w : Vc) (k : Int)
theorem led_add : M.led (vadd u v) = vadd (M.led u) (M.led v) := by apply vext <;> simp only [Tb.led, vadd] <;> grind
theorem led_sub : M.led (vsub u v) = vsub (M.led u) (M.led v) := by apply vext <;> simp only [Tb.led, vsub] <;> grind
theorem led_mul : M.led (vmul k v) = vmul k (M.led v) := by apply vext <;> simp only [Tb.led, vmul] <;> grind
theorem led_adj : M.led (M.adj.led v) = vmul M.det v := by apply vext <;> simp only [Tb.led, vmul, Tb.adj, Tb.det] <;> grind
theorem adj_led : M.adj.led (M.led v) = vmul M.det v := by apply vext <;> simp only [Tb.led, vmul, Tb.adj, Tb.det] <;> grind
theorem mul_led : (M.mul N).led v = M.led (N.led v) := by apply vext <;> simp only [Tb.led, Tb.mul] <;> grind
theorem one_led : Tb.one.led v = v := by apply vext <;> simp [Tb.led, Tb.one]
theorem less1_led : M.less1.led v = vsub (M.led v) v := by apply vext <;> simp only [Tb.led, Tb.less1, vsub] <;> grind
theorem it_add : ∀ n, M.it n (vadd u v) = vadd (M.it n u) (M.it n v)
  | 0 => rfl
  | n + 1 => by rw [Tb.it, it_add n, led_add]; rfl
theorem it_sub : ∀ n, M.it n (vsub u v) = vsub (M.it n u) (M.it n v)
  | 0 => rfl
  | n + 1 => by rw [Tb.it, it_sub n, led_sub]; rfl
theorem it_mul : ∀ n, M.it n (vmul k v) = vmul k (M.it n v)
  | 0 => rfl
  | n + 1 => by rw [Tb.it, it_mul n, led_mul]; rfl
theorem it_led : ∀ n, M.it n (M.led v) = M.led (M.it n v)
  | 0 => rfl
  | n + 1 => by rw [Tb.it, it_led n]; rfl
theorem it_it : ∀ m n, M.it m (M.it n v) = M.it (m + n) v
  | 0, n => by rw [Nat.zero_add]; rfl
  | m + 1, n => by rw [Tb.it, it_it m n, Nat.add_right_comm]; rfl
theorem pw_led : ∀ n, (M.pw n).led v = M.it n v
  | 0 => one_led v
  | n + 1 => by rw [Tb.pw, mul_led, pw_led n]; rfl
theorem row_add : ∀ (r : List Vc) (u v : Vc), M.row (vadd u v) r = vadd (M.row u r) (M.it r.length v)
  | [], u, v => rfl
  | d :: r, u, v => by
    have e : vadd (M.led (vadd u v)) d = vadd (vadd (M.led u) d) (M.led v) := by rw [led_add]; apply vext <;> simp only [vadd] <;> omega
    rw [Tb.row, e, row_add r, it_led]; rfl
theorem row_append : ∀ (r q : List Vc) (v : Vc), M.row v (r ++ q) = M.row (M.row v r) q
  | [], q, v => rfl
  | d :: r, q, v => by rw [List.cons_append, Tb.row, row_append r]; rfl
theorem row_zero (r : List Vc) : M.row v r = vadd (M.row (0, 0) r) (M.it r.length v) := by
  rw [← row_add]
  congr 1
  apply vext <;> simp [vadd]
end
/-! ### least terms -/
/-- (X, Y)/C is the fraction (x, y)/c in least terms -/
structure IsLow (x y c X Y C : Int) : Prop where
  pos : 0 < C
  co : Nat.gcd (Nat.gcd X.natAbs Y.natAbs) C.natAbs = 1
  ex : X * c = x * C
  ey : Y * c = y * C
theorem IsLow.uniq {x y c X Y C x' y' c' X' Y' C' : Int} (h : IsLow x y c X Y C) (h' : IsLow x' y' c' X' Y' C') (hc : c ≠ 0) (hc' : c' ≠ 0) (ex : x * c' = x' * c) (ey : y * c' = y' * c) : X = X' ∧ Y = Y' ∧ C = C' := by
  have cross : ∀ {a A a' A' : Int}, A * c = a * C → A' * c' = a' * C' → a * c' = a' * c → A * C' = A' * C := fun {a A a' A'} e1 e2 e3 => by
    have : (A * C') * (c * c') = (A' * C) * (c * c') := by
      have h1 : (A * C') * (c * c') = (A * c) * (C' * c') := by grind
      have h2 : (A' * C) * (c * c') = (A' * c') * (C * c) := by grind
      rw [h1, h2, e1, e2]
      have h3 : a * C * (C' * c') = (a * c') * (C * C') := by grind
      have h4 : a' * C' * (C * c) = (a' * c) * (C * C') := by grind
      rw [h3, h4, e3]
    exact Int.eq_of_mul_eq_mul_right (Int.mul_ne_zero hc hc') this
  have qx := cross h.ex h'.ex ex
  have qy := cross h.ey h'.ey ey
  have dv : ∀ {X Y C X' Y' C' : Int}, 0 < C → 0 < C' → Nat.gcd (Nat.gcd X.natAbs Y.natAbs) C.natAbs = 1 → X * C' = X' * C → Y * C' = Y' * C → C.natAbs ∣ C'.natAbs := fun {X Y C X' Y' C'} p p' g a b => by
    have d1 : C.natAbs ∣ X.natAbs * C'.natAbs := by rw [← Int.natAbs_mul, a, Int.natAbs_mul]; exact Nat.dvd_mul_left _ _
    have d2 : C.natAbs ∣ Y.natAbs * C'.natAbs := by rw [← Int.natAbs_mul, b, Int.natAbs_mul]; exact Nat.dvd_mul_left _ _
    have d3 : C.natAbs ∣ C.natAbs * C'.natAbs := Nat.dvd_mul_right _ _
    have d4 := Nat.dvd_gcd (Nat.dvd_gcd d1 d2) d3
    rw [Nat.gcd_mul_right, Nat.gcd_mul_right, g, Nat.one_mul] at d4
    exact d4
  have e1 := dv h.pos h'.pos h.co qx qy
  have e2 := dv h'.pos h.pos h'.co qx.symm qy.symm
  have e3 := Nat.dvd_antisymm e1 e2
  have e4 : C = C' := by have := h.pos; have := h'.pos; omega
  subst e4
  have n0 : C ≠ 0 := by have := h.pos; omega
  exact ⟨Int.eq_of_mul_eq_mul_right n0 qx, Int.eq_of_mul_eq_mul_right n0 qy, rfl⟩
/-- by a common part -/
theorem IsLow.of {x y c : Int} (hc : c ≠ 0) (g : Int) (hg : g.natAbs = Nat.gcd (Nat.gcd x.natAbs y.natAbs) c.natAbs) (hs : 0 < g * c) : IsLow x y c (x / g) (y / g) (c / g) ∧ x.fdiv g = x / g ∧ y.fdiv g = y / g ∧ c.fdiv g = c / g := by
  have dx : g ∣ x := Int.natAbs_dvd_natAbs.mp (by rw [hg]; exact Nat.dvd_trans (Nat.gcd_dvd_left _ _) (Nat.gcd_dvd_left _ _))
  have dy : g ∣ y := Int.natAbs_dvd_natAbs.mp (by rw [hg]; exact Nat.dvd_trans (Nat.gcd_dvd_left _ _) (Nat.gcd_dvd_right _ _))
  have dc : g ∣ c := Int.natAbs_dvd_natAbs.mp (by rw [hg]; exact Nat.gcd_dvd_right _ _)
  have g0 : g ≠ 0 := fun e => by rw [e] at hs; simp at hs
  obtain ⟨X, rfl⟩ := dx
  obtain ⟨Y, rfl⟩ := dy
  obtain ⟨C, rfl⟩ := dc
  have f : ∀ z : Int, (g * z).fdiv g = g * z / g := fun z => by rw [Int.mul_fdiv_cancel_left _ g0, Int.mul_ediv_cancel_left _ g0]
  refine ⟨?_, f _, f _, f _⟩
  rw [Int.mul_ediv_cancel_left _ g0, Int.mul_ediv_cancel_left _ g0, Int.mul_ediv_cancel_left _ g0]
  have gp : 0 < g.natAbs := by omega
  refine ⟨?_, ?_, by grind, by grind⟩
  · have : g * (g * C) = (g * g) * C := by grind
    rw [this] at hs
    have sq : 0 < g * g := by
      rcases Int.lt_or_gt_of_ne g0 with q | q
      · exact Int.mul_pos_of_neg_of_neg q q
      · exact Int.mul_pos q q
    by_cases hC : 0 < C
    · exact hC
    · have : g * g * C ≤ 0 := Int.mul_nonpos_of_nonneg_of_nonpos (Int.le_of_lt sq) (by omega)
      omega
  · rw [Int.natAbs_mul, Int.natAbs_mul, Int.natAbs_mul, Nat.gcd_mul_left, Nat.gcd_mul_left] at hg
    have := Nat.eq_of_mul_eq_mul_left gp (hg.symm.trans (Nat.mul_one _).symm)
    exact this

/-! ### the common part by laps -/
def lap (p : Nat × Nat) : Nat × Nat := if p.2 ≠ 0 then (p.2, p.1 % p.2) else p
def laps : Nat → Nat × Nat → Nat × Nat
  | 0, p => p
  | n + 1, p => laps n (lap p)
theorem laps_zero (n a : Nat) : laps n (a, 0) = (a, 0) := by
  induction n with
  | zero => rfl
  | succ n ih => rw [laps]; simpa [lap] using ih
theorem laps_gcd : ∀ (k a b : Nat), b < 2 ^ k → laps (2 * k) (a, b) = (Nat.gcd a b, 0)
  | 0, a, b, h => by
    have : b = 0 := by simpa using h
    subst this; simp [laps]
  | k + 1, a, b, h => by
    show laps (2 * k + 1 + 1) (a, b) = _
    by_cases hb : b = 0
    · subst hb; rw [laps_zero]; simp
    · rw [laps, laps]
      have e1 : lap (a, b) = (b, a % b) := by simp [lap, hb]
      rw [e1]
      by_cases hr : a % b = 0
      · have e2 : lap (b, a % b) = (b, 0) := by simp [lap, hr]
        rw [e2, laps_zero, Nat.gcd_comm, Nat.gcd_rec, hr, Nat.gcd_zero_left]
      · have e2 : lap (b, a % b) = (a % b, b % (a % b)) := by simp [lap, hr]
        have l1 : a % b < b := Nat.mod_lt _ (by omega)
        have l2 : b % (a % b) < 2 ^ k := by
          have h3 : b % (a % b) < a % b := Nat.mod_lt _ (by omega)
          have h4 := Nat.div_add_mod b (a % b)
          have h5 : 1 ≤ b / (a % b) := (Nat.one_le_div_iff (by omega)).mpr (by omega)
          have h6 : a % b ≤ a % b * (b / (a % b)) := Nat.le_mul_of_pos_right _ h5
          have : 2 ^ (k + 1) = 2 * 2 ^ k := by rw [Nat.pow_succ]; omega
          omega
        rw [e2, laps_gcd k _ _ l2]
        congr 1
        have g1 : Nat.gcd a b = Nat.gcd (a % b) b := by rw [Nat.gcd_comm a b]; exact Nat.gcd_rec b a
        have g2 : Nat.gcd (a % b) b = Nat.gcd (b % (a % b)) (a % b) := Nat.gcd_rec _ _
        rw [g1, g2, Nat.gcd_comm]
end Z

set_option Elab.async false
set_option linter.all false
set_option maxRecDepth 100000
set_option autoImplicit false
set_option exponentiation.threshold 5000
/-! # Z18: what is small is shown; turns of a loop that goes on; slices at one -/
namespace Z
open PySem L2

structure Small (dp w : Nat) (d : D) : Prop where
  plain : d.plain = true
  depth : d.depth ≤ dp
  show' : d.showable = true
  nodict : d.hasDict = false
  leaf : d.leavesShort 202 = true
  weight : d.weight ≤ w
structure SmallAll (dp w : Nat) (ds : List D) : Prop where
  plain : PyData.plainAll ds = true
  depth : PyData.depthAll ds ≤ dp
  show' : PyData.showableAll ds = true
  nodict : PyData.hasDictAll ds = false
  leaf : PyData.leavesShortAll 202 ds = true
  weight : PyData.weightAll ds ≤ w
theorem Small.mono {dp w dp' w' : Nat} {d : D} (h : Small dp w d) (h1 : dp ≤ dp') (h2 : w ≤ w') : Small dp' w' d := ⟨h.plain, Nat.le_trans h.depth h1, h.show', h.nodict, h.leaf, Nat.le_trans h.weight h2⟩
theorem Small.int {i : Int} (h : i.natAbs < 2 ^ 200) : Small 0 200 (.int i) := by
  have l : i.natAbs.log2 < 200 := by
    by_cases z : i.natAbs = 0
    · rw [z]; decide
    · exact (Nat.log2_lt z).mpr h
  refine ⟨by simp [PyData.plain], by simp [PyData.depth], by simp only [PyData.showable]; exact decide_eq_true (by omega), by simp [PyData.hasDict], ?_, ?_⟩
  · simp only [PyData.leavesShort, PyData.shown]
    refine decide_eq_true ?_
    have q := int_text_length_le (by decide : 0 < 200) l
    have e : (Str.ofString (toString i)).length = (toString i).length := ofString_length _
    exact Nat.le_trans (Nat.le_of_eq e) (by omega)
  · simp only [PyData.weight]
    split <;> omega
theorem SmallAll.nil : SmallAll 0 0 [] := ⟨rfl, by simp [PyData.depthAll], rfl, rfl, rfl, by simp [PyData.weightAll]⟩
theorem SmallAll.cons {dp dp' w w' : Nat} {d : D} {ds : List D} (h : Small dp w d) (k : SmallAll dp' w' ds) : SmallAll (max dp dp') (w + 1 + w') (d :: ds) := by
  obtain ⟨a1, a2, a3, a4, a5, a6⟩ := h
  obtain ⟨b1, b2, b3, b4, b5, b6⟩ := k
  refine ⟨by simp [PyData.plainAll, a1, b1], ?_, by simp [PyData.showableAll, a3, b3], by simp [PyData.hasDictAll, a4, b4], by simp [PyData.leavesShortAll, a5, b5], ?_⟩
  · simp only [PyData.depthAll]; omega
  · simp only [PyData.weightAll]; omega
theorem SmallAll.mono {dp w dp' w' : Nat} {ds : List D} (h : SmallAll dp w ds) (h1 : dp ≤ dp') (h2 : w ≤ w') : SmallAll dp' w' ds := ⟨h.plain, Nat.le_trans h.depth h1, h.show', h.nodict, h.leaf, Nat.le_trans h.weight h2⟩
theorem SmallAll.all {dp w : Nat} : ∀ {ds : List D}, (∀ d ∈ ds, Small dp w d) → SmallAll dp (ds.length * (w + 1)) ds
  | [], _ => SmallAll.nil.mono (Nat.zero_le _) (Nat.zero_le _)
  | d :: ds, h => by
    have q := SmallAll.cons (h d (by simp)) (SmallAll.all (ds := ds) fun x hx => h x (by simp [hx]))
    refine q.mono (by omega) ?_
    rw [List.length_cons, Nat.add_mul]
    omega
theorem SmallAll.tuple {dp w : Nat} {ds : List D} (h : SmallAll dp w ds) : Small (dp + 1) w (.tuple ds) := by
  obtain ⟨b1, b2, b3, b4, b5, b6⟩ := h
  exact ⟨by simpa only [PyData.plain] using b1, by simp only [PyData.depth]; omega, by simpa only [PyData.showable] using b3, by simpa only [PyData.hasDict] using b4, by simpa only [PyData.leavesShort] using b5, by simpa only [PyData.weight] using b6⟩
theorem SmallAll.list {dp w : Nat} {ds : List D} (h : SmallAll dp w ds) : Small (dp + 1) w (.list ds) := by
  obtain ⟨b1, b2, b3, b4, b5, b6⟩ := h
  exact ⟨by simpa only [PyData.plain] using b1, by simp only [PyData.depth]; omega, by simpa only [PyData.showable] using b3, by simpa only [PyData.hasDict] using b4, by simpa only [PyData.leavesShort] using b5, by simpa only [PyData.weight] using b6⟩
theorem Small.repr {dp w : Nat} {d : D} (h : Small dp w d) (h1 : dp ≤ 40) (h2 : w ≤ 80000) : reprOk d = true := by
  have q := PyData.shown_le 202 (by decide) d h.leaf
  have hw := h.weight
  have h4 : (202 + 2) * d.weight ≤ (202 + 2) * 80000 := Nat.mul_le_mul (Nat.le_refl _) (by omega)
  have o : okD d = true := by
    unfold okD
    rw [h.plain, decide_eq_true (Nat.le_trans h.depth h1)]; rfl
  unfold reprOk
  rw [o, h.show', h.nodict, decide_eq_true (by omega)]; rfl
theorem repr_t {dp w : Nat} {ds : List D} (h : Small dp w (.tuple ds)) (h1 : dp ≤ 40 := by decide) (h2 : w ≤ 80000 := by decide) : reprD (.tuple ds) = .ok (.str (PyData.tuple ds).shown) := by
  show (if _ = true then _ else _) = _
  rw [if_pos (h.repr h1 h2)]
theorem repr_l {dp w : Nat} {ds : List D} (h : Small dp w (.list ds)) (h1 : dp ≤ 40 := by decide) (h2 : w ≤ 80000 := by decide) : reprD (.list ds) = .ok (.str (PyData.list ds).shown) := by
  show (if _ = true then _ else _) = _
  rw [if_pos (h.repr h1 h2)]
theorem okS (s : Str) : okD (.str s) = true := by simp [okD, PyData.plain, PyData.depth]
theorem eq_s (s : Str) : eqD (.str s) (.str s) = .ok true := by
  unfold eqD; rw [okS]; simp [PyData.eqv]
theorem ne_s (s : Str) : neD (.str s) (.str s) = .ok false := by unfold neD; rw [eq_s]; rfl
theorem forT_bind {τ β : Type} {f : D → τ → R (Fl τ)} {k : Fl τ → R β} {r : R β} (I : Nat → τ → Prop) (h : ∀ n x st, I (n + 1) st → ∃ st', f x st = .ok (.nx st') ∧ I n st') : ∀ {xs : List D} {st : τ}, I xs.length st → (∀ st', k (.nx st') = r) → (forT xs st f).bind k = r
  | [], st, _, hk => hk st
  | x :: xs, st, i, hk => by
    obtain ⟨s1, e1, i1⟩ := h xs.length x st i
    show ((f x st).bind _).bind k = r
    rw [e1]
    exact forT_bind I h i1 hk
theorem slice_1 (a : D) (l : List D) : slice (.tuple (a :: l)) none (some 1) = .ok (.tuple [a]) := by
  have e : HT.sIx (a :: l).length (a :: l).length (some 1) = 1 := by
    rw [show (some (1 : Int)) = some ((1 : Nat) : Int) from rfl, HT.sIx_nat]; simp
  simp only [slice, cut, HT.sIx_none, e]; rfl
theorem slice_2 (a : D) (l : List D) : slice (.tuple (a :: l)) (some 1) none = .ok (.tuple l) := by
  have e : HT.sIx (a :: l).length 0 (some 1) = 1 := by
    rw [show (some (1 : Int)) = some ((1 : Nat) : Int) from rfl, HT.sIx_nat]; simp
  simp only [slice, cut, HT.sIx_none, e]
  simp
theorem add_t {xs ys : List D} (h : xs.length + ys.length < 16777216) : add (.tuple xs) (.tuple ys) = .ok (.tuple (xs ++ ys)) := by
  have c1 : szOk (xs.length + ys.length) = true := by unfold szOk; exact decide_eq_true (by omega)
  simp only [add, c1, if_true]
theorem push1 (xs : List D) (d : D) (h : xs.length < 16777216) : pushM xs [d] = .ok (.none, xs ++ [d]) := by
  show (if _ = true then _ else _) = _
  rw [if_pos (decide_eq_true h)]
end Z

set_option autoImplicit false
namespace K10
open PySem L2 Z
/-! ## the defs as data -/
@[irreducible] def m_lots_less (v_one : D) (v_other : D) : R D :=
(item v_one (PyData.int 0)).bind fun z1 =>
(item v_other (PyData.int 0)).bind fun z2 =>
(sub z1 z2).bind fun z3 =>
(item v_one (PyData.int 1)).bind fun z4 =>
(item v_other (PyData.int 1)).bind fun z5 =>
(sub z4 z5).bind fun z6 =>
R.ok (PyData.tuple [z3, z6])

@[irreducible] def m_table_det (v_table : D) : R D :=
(un2 v_table).bind fun (p1, p2) =>
(un2 p1).bind fun (p3, p4) =>
(un2 p2).bind fun (p5, p6) =>
(mul p3 p6).bind fun z7 =>
(mul p4 p5).bind fun z8 =>
(sub z7 z8).bind fun z9 =>
R.ok z9

@[irreducible] def m_table_other (v_table : D) : R D :=
(un2 v_table).bind fun (p1, p2) =>
(un2 p1).bind fun (p3, p4) =>
(un2 p2).bind fun (p5, p6) =>
(neg p4).bind fun z7 =>
(neg p5).bind fun z8 =>
R.ok (PyData.tuple [(PyData.tuple [p6, z7]), (PyData.tuple [z8, p3])])

@[irreducible] def m_lot_led (v_table : D) (v_lot : D) : R D :=
(un2 v_table).bind fun (p1, p2) =>
(un2 p1).bind fun (p3, p4) =>
(un2 p2).bind fun (p5, p6) =>
(item v_lot (PyData.int 0)).bind fun z7 =>
(mul p3 z7).bind fun z8 =>
(item v_lot (PyData.int 1)).bind fun z9 =>
(mul p4 z9).bind fun z10 =>
(add z8 z10).bind fun z11 =>
(item v_lot (PyData.int 0)).bind fun z12 =>
(mul p5 z12).bind fun z13 =>
(item v_lot (PyData.int 1)).bind fun z14 =>
(mul p6 z14).bind fun z15 =>
(add z13 z15).bind fun z16 =>
R.ok (PyData.tuple [z11, z16])

@[irreducible] def m_lot_undone (v_table : D) (v_lot : D) : R D :=
(m_table_det v_table).bind fun z1 =>
(m_table_other v_table).bind fun z2 =>
(m_lot_led z2 v_lot).bind fun z3 =>
((item z3 (PyData.int 0)).bind fun z4 =>
(fmod z4 z1).bind fun z5 =>
(neD z5 (PyData.int 0)).bind fun z6 =>
if z6 = true then
R.ok true
else
(item z3 (PyData.int 1)).bind fun z7 =>
(fmod z7 z1).bind fun z8 =>
(neD z8 (PyData.int 0)).bind fun z9 =>
R.ok z9 : R Bool).bind fun t10 =>
if t10 = true then
R.ok PyData.none
else
(item z3 (PyData.int 0)).bind fun z11 =>
(fdiv z11 z1).bind fun z12 =>
(item z3 (PyData.int 1)).bind fun z13 =>
(fdiv z13 z1).bind fun z14 =>
R.ok (PyData.tuple [z12, z14])

@[irreducible] def m_lot_back (v_base : D) (v_lot : D) : R D :=
(item v_base (PyData.int 1)).bind fun z1 =>
(iterL z1).bind fun z2 =>
(compL (enumD z2) fun x3 =>
(un2 x3).bind fun (p4, p5) =>
(item v_base (PyData.int 0)).bind fun z6 =>
(m_lots_less v_lot p5).bind fun z7 =>
(m_lot_undone z6 z7).bind fun z8 =>
R.ok (some (PyData.tuple [p4, z8]))).bind fun ys9 =>
(iter (PyData.list ys9)).bind fun z10 =>
(compL z10 fun x11 =>
(item x11 (PyData.int 1)).bind fun z12 =>
if (!isNone z12) = true then
R.ok (some x11)
else
R.ok none).bind fun ys13 =>
(item (PyData.list ys13) (PyData.int 0)).bind fun z14 =>
R.ok z14

@[irreducible] def m_point_of (v_lot : D) : R D :=
R.ok (PyData.tuple [v_lot, (PyData.int 1)])

@[irreducible] def m_point_low (v_numbers : D) (v_bottom : D) : R D :=
(item v_numbers (PyData.int 0)).bind fun z1 =>
(item v_numbers (PyData.int 1)).bind fun z2 =>
(gcdD z1 z2).bind fun z3 =>
(gcdD z3 v_bottom).bind fun z4 =>
((gtD v_bottom (PyData.int 0)).bind fun z5 =>
if z5 = true then
R.ok z4
else
(neg z4).bind fun z6 =>
R.ok z6 : R D).bind fun z7 =>
(item v_numbers (PyData.int 0)).bind fun z8 =>
(fdiv z8 z7).bind fun z9 =>
(item v_numbers (PyData.int 1)).bind fun z10 =>
(fdiv z10 z7).bind fun z11 =>
(fdiv v_bottom z7).bind fun z12 =>
R.ok (PyData.tuple [(PyData.tuple [z9, z11]), z12])

@[irreducible] def m_points_added (v_one : D) (v_other : D) : R D :=
(un2 v_one).bind fun (p1, p2) =>
(un2 p1).bind fun (p3, p4) =>
(un2 v_other).bind fun (p5, p6) =>
(un2 p5).bind fun (p7, p8) =>
(mul p3 p6).bind fun z9 =>
(mul p7 p2).bind fun z10 =>
(add z9 z10).bind fun z11 =>
(mul p4 p6).bind fun z12 =>
(mul p8 p2).bind fun z13 =>
(add z12 z13).bind fun z14 =>
(mul p2 p6).bind fun z15 =>
(m_point_low (PyData.tuple [z11, z14]) z15).bind fun z16 =>
R.ok z16

@[irreducible] def m_point_undone (v_table : D) (v_point : D) : R D :=
(m_table_other v_table).bind fun z1 =>
(item v_point (PyData.int 0)).bind fun z2 =>
(m_lot_led z1 z2).bind fun z3 =>
(item v_point (PyData.int 1)).bind fun z4 =>
(m_table_det v_table).bind fun z5 =>
(mul z4 z5).bind fun z6 =>
(m_point_low z3 z6).bind fun z7 =>
R.ok z7

@[irreducible] def m_lots_added (v_one : D) (v_other : D) : R D :=
(item v_one (PyData.int 0)).bind fun z1 =>
(item v_other (PyData.int 0)).bind fun z2 =>
(add z1 z2).bind fun z3 =>
(item v_one (PyData.int 1)).bind fun z4 =>
(item v_other (PyData.int 1)).bind fun z5 =>
(add z4 z5).bind fun z6 =>
R.ok (PyData.tuple [z3, z6])

@[irreducible] def m_row_worth (v_base : D) (v_lot : D) (v_row : D) : R D :=
(iter v_row).bind fun z1 =>
(forS z1 v_lot fun x2 s3 =>
(item v_base (PyData.int 0)).bind fun z5 =>
(m_lot_led z5 s3).bind fun z6 =>
(item v_base (PyData.int 1)).bind fun z7 =>
(item z7 x2).bind fun z8 =>
(m_lots_added z6 z8).bind fun z9 =>
R.ok z9).bind fun s4 =>
R.ok s4

@[irreducible] def m_round_worth (v_base : D) (v_row : D) : R D :=
(un2 (PyData.tuple [(PyData.tuple [(PyData.int 1), (PyData.int 0)]), (PyData.tuple [(PyData.int 0), (PyData.int 1)])])).bind fun (p1, p2) =>
(iter v_row).bind fun z3 =>
(forS z3 (p1, p2) fun x4 s5 =>
(item v_base (PyData.int 0)).bind fun z7 =>
(m_lot_led z7 s5.1).bind fun z8 =>
(item v_base (PyData.int 0)).bind fun z9 =>
(m_lot_led z9 s5.2).bind fun z10 =>
R.ok (z8, z10)).bind fun s6 =>
(item s6.1 (PyData.int 0)).bind fun z11 =>
(sub z11 (PyData.int 1)).bind fun z12 =>
(item s6.2 (PyData.int 0)).bind fun z13 =>
(item s6.1 (PyData.int 1)).bind fun z14 =>
(item s6.2 (PyData.int 1)).bind fun z15 =>
(sub z15 (PyData.int 1)).bind fun z16 =>
(m_table_other (PyData.tuple [(PyData.tuple [z12, z13]), (PyData.tuple [z14, z16])])).bind fun z17 =>
(m_row_worth v_base (PyData.tuple [(PyData.int 0), (PyData.int 0)]) v_row).bind fun z18 =>
(m_lot_led z17 z18).bind fun z19 =>
(m_table_det (PyData.tuple [(PyData.tuple [z12, z13]), (PyData.tuple [z14, z16])])).bind fun z20 =>
(m_point_low z19 z20).bind fun z21 =>
R.ok z21

@[irreducible] def m_worth (v_base : D) (v_name : D) : R D :=
(un3 v_name).bind fun (p1, p2, p3) =>
(m_row_worth v_base p1 p2).bind fun z4 =>
(m_point_of z4).bind fun z5 =>
(m_round_worth v_base p3).bind fun z6 =>
(m_points_added z5 z6).bind fun z7 =>
(iter p2).bind fun z8 =>
(forS z8 z7 fun x9 s10 =>
(item v_base (PyData.int 0)).bind fun z12 =>
(m_point_undone z12 s10).bind fun z13 =>
R.ok z13).bind fun s11 =>
R.ok s11

@[irreducible] def m__law_source (ns : List Int) : R Src :=
(forS (ns.map PyData.int) (PyData.int 11) fun x1 s2 =>
(mul s2 (PyData.int 69069)).bind fun z4 =>
(mul x1 (PyData.int 31)).bind fun z5 =>
(add z4 z5).bind fun z6 =>
(add z6 (PyData.int 5)).bind fun z7 =>
(intD z7).bind fun z8 =>
(fmod z8 (PyData.int 2147483629)).bind fun z9 =>
R.ok z9).bind fun s3 =>
(compL (ns.map PyData.int) fun x10 =>
(absD x10).bind fun z11 =>
R.ok (some z11)).bind fun ys12 =>
(revL (PyData.list ys12)).bind fun y13 =>
(mkSrc y13 (PyData.int 1) s3 (PyData.int 0)).bind fun s14 =>
R.ok s14

@[irreducible] def m__law_pick (s0 : Src) (v_many : D) : R (D × Src) :=
(whileT (s0.cells.length + 1) s0 fun s1 =>
((gtD v_many (PyData.int 1)).bind fun z4 =>
if z4 = true then
(ltD (PyData.int s1.left) (PyData.int 2)).bind fun z5 =>
if z5 = true then
(gtD (PyData.int s1.cells.length) (PyData.int 0)).bind fun z6 =>
R.ok z6
else
R.ok false
else
R.ok false : R Bool).bind fun t7 =>
if t7 = true then
(popC s1.cells).bind fun (z8, c9) =>
(toI (PyData.int z8)).bind fun n10 =>
R.ok (.go { { s1 with cells := c9 } with left := n10 })
else
R.ok (.done s1)).bind fun
| .nx s2 =>
((ltD v_many (PyData.int 2)).bind fun z11 =>
if z11 = true then
R.ok true
else
(gtD (PyData.int s2.left) (PyData.int 1)).bind fun z12 =>
R.ok z12 : R Bool).bind fun t13 =>
if t13 = true then
(maxD2 (PyData.int 1) v_many).bind fun z14 =>
(fdiv (PyData.int s2.left) z14).bind fun z15 =>
(toI z15).bind fun n16 =>
(intD (PyData.int s2.left)).bind fun z17 =>
(maxD2 (PyData.int 1) v_many).bind fun z18 =>
(fmod z17 z18).bind fun z19 =>
R.ok (z19, { s2 with left := n16 })
else
(add (PyData.int s2.turn) (PyData.int 1)).bind fun z20 =>
(toI z20).bind fun n21 =>
(mul (PyData.int { s2 with turn := n21 }.turn) (PyData.int 104729)).bind fun z22 =>
(add (PyData.int { s2 with turn := n21 }.mixed) z22).bind fun z23 =>
(intD z23).bind fun z24 =>
(fmod z24 (PyData.int 998244353)).bind fun z25 =>
(mul z25 z25).bind fun z26 =>
(mul (PyData.int { s2 with turn := n21 }.turn) (PyData.int 17)).bind fun z27 =>
(add z26 z27).bind fun z28 =>
(intD z28).bind fun z29 =>
(fmod z29 (PyData.int 2147483647)).bind fun z30 =>
(toI z30).bind fun n31 =>
(fdiv z30 (PyData.int 16)).bind fun z32 =>
(intD z32).bind fun z33 =>
(fmod z33 v_many).bind fun z34 =>
R.ok (z34, { { s2 with turn := n21 } with mixed := n31 })
| .bk _ => .stuck
| .rt r3 s2 =>
R.ok (r3, s2)

@[irreducible] def m__law_of (s0 : Src) (v_some : D) : R (D × Src) :=
(lenD v_some).bind fun z1 =>
(m__law_pick s0 z1).bind fun (z2, s3) =>
(item v_some z2).bind fun z4 =>
R.ok (z4, s3)

@[irreducible] def m__law_led (v_table : D) (v_lot : D) : R D :=
(item v_table (PyData.int 0)).bind fun z1 =>
(item z1 (PyData.int 0)).bind fun z2 =>
(item v_lot (PyData.int 0)).bind fun z3 =>
(mul z2 z3).bind fun z4 =>
(item v_table (PyData.int 0)).bind fun z5 =>
(item z5 (PyData.int 1)).bind fun z6 =>
(item v_lot (PyData.int 1)).bind fun z7 =>
(mul z6 z7).bind fun z8 =>
(add z4 z8).bind fun z9 =>
(item v_table (PyData.int 1)).bind fun z10 =>
(item z10 (PyData.int 0)).bind fun z11 =>
(item v_lot (PyData.int 0)).bind fun z12 =>
(mul z11 z12).bind fun z13 =>
(item v_table (PyData.int 1)).bind fun z14 =>
(item z14 (PyData.int 1)).bind fun z15 =>
(item v_lot (PyData.int 1)).bind fun z16 =>
(mul z15 z16).bind fun z17 =>
(add z13 z17).bind fun z18 =>
R.ok (PyData.tuple [z9, z18])

@[irreducible] def m__law_add (v_one : D) (v_other : D) : R D :=
(item v_one (PyData.int 0)).bind fun z1 =>
(item v_other (PyData.int 0)).bind fun z2 =>
(add z1 z2).bind fun z3 =>
(item v_one (PyData.int 1)).bind fun z4 =>
(item v_other (PyData.int 1)).bind fun z5 =>
(add z4 z5).bind fun z6 =>
R.ok (PyData.tuple [z3, z6])

@[irreducible] def m__law_mixed (s0 : Src) (v_things : D) : R (D × Src) :=
(iterL v_things).bind fun y1 =>
(flatR ((lenD (PyData.list y1)).bind fun z2 =>
R.ok z2)).bind fun z3 =>
(range1 z3).bind fun z4 =>
(compS z4 (s0, y1) fun x5 s6 =>
(flatR ((lenD (PyData.list s6.2)).bind fun z7 =>
R.ok z7)).bind fun z8 =>
(m__law_pick s6.1 z8).bind fun (z9, s10) =>
(pop1M s6.2 [z9]).bind fun (z11, y12) =>
R.ok (some z11, (s10, y12))).bind fun (ys13, s14) =>
R.ok ((PyData.list ys13), s14.1)

@[irreducible] def m__law_det (v_table : D) : R D :=
(item v_table (PyData.int 0)).bind fun z1 =>
(item z1 (PyData.int 0)).bind fun z2 =>
(item v_table (PyData.int 1)).bind fun z3 =>
(item z3 (PyData.int 1)).bind fun z4 =>
(mul z2 z4).bind fun z5 =>
(item v_table (PyData.int 0)).bind fun z6 =>
(item z6 (PyData.int 1)).bind fun z7 =>
(item v_table (PyData.int 1)).bind fun z8 =>
(item z8 (PyData.int 0)).bind fun z9 =>
(mul z7 z9).bind fun z10 =>
(sub z5 z10).bind fun z11 =>
R.ok z11

@[irreducible] def m__law_undone (v_table : D) (v_lot : D) : R D :=
(un2 v_table).bind fun (p1, p2) =>
(un2 p1).bind fun (p3, p4) =>
(un2 p2).bind fun (p5, p6) =>
(m__law_det v_table).bind fun z7 =>
(item v_lot (PyData.int 0)).bind fun z8 =>
(mul p6 z8).bind fun z9 =>
(item v_lot (PyData.int 1)).bind fun z10 =>
(mul p4 z10).bind fun z11 =>
(sub z9 z11).bind fun z12 =>
(item v_lot (PyData.int 1)).bind fun z13 =>
(mul p3 z13).bind fun z14 =>
(item v_lot (PyData.int 0)).bind fun z15 =>
(mul p5 z15).bind fun z16 =>
(sub z14 z16).bind fun z17 =>
(((intD z12).bind fun z18 =>
(absD z7).bind fun z19 =>
(fmod z18 z19).bind fun z20 =>
(eqD z20 (PyData.int 0)).bind fun z21 =>
if z21 = true then
(intD z17).bind fun z22 =>
(absD z7).bind fun z23 =>
(fmod z22 z23).bind fun z24 =>
(eqD z24 (PyData.int 0)).bind fun z25 =>
R.ok z25
else
R.ok false : R Bool).bind fun t26 =>
if t26 = true then
(fdiv z12 z7).bind fun z27 =>
(fdiv z17 z7).bind fun z28 =>
R.ok (PyData.tuple [z27, z28])
else
R.ok PyData.none : R D).bind fun z29 =>
R.ok z29

@[irreducible] def m__law_less (v_one : D) (v_other : D) : R D :=
(item v_one (PyData.int 0)).bind fun z1 =>
(item v_other (PyData.int 0)).bind fun z2 =>
(sub z1 z2).bind fun z3 =>
(item v_one (PyData.int 1)).bind fun z4 =>
(item v_other (PyData.int 1)).bind fun z5 =>
(sub z4 z5).bind fun z6 =>
R.ok (PyData.tuple [z3, z6])

@[irreducible] def m__law_digits (s0 : Src) (v_table : D) (v_spread : D) : R (D × Src) :=
(sub (PyData.int 0) v_spread).bind fun z1 =>
(add v_spread (PyData.int 1)).bind fun z2 =>
(range2 z1 z2).bind fun z3 =>
(forS z3 (PyData.list []) fun x4 s5 =>
(sub (PyData.int 0) v_spread).bind fun z7 =>
(add v_spread (PyData.int 1)).bind fun z8 =>
(range2 z7 z8).bind fun z9 =>
(compL z9 fun x10 =>
R.ok (some (PyData.tuple [x4, x10]))).bind fun ys11 =>
(add s5 (PyData.list ys11)).bind fun z12 =>
R.ok z12).bind fun s6 =>
((m__law_pick s0 (PyData.int 4)).bind fun (z13, s14) =>
(gtD z13 (PyData.int 0)).bind fun z15 =>
if z15 = true then
R.ok ((PyData.list [(PyData.tuple [(PyData.int 0), (PyData.int 0)])]), s14)
else
R.ok ((PyData.list []), s14) : R (D × Src)).bind fun (z16, s17) =>
(m__law_mixed s17 s6).bind fun (z18, s19) =>
(add z16 z18).bind fun z20 =>
(iter z20).bind fun z21 =>
(forS z21 (s19, []) fun x22 s23 =>
((iter (PyData.list s23.2)).bind fun z25 =>
(compL z25 fun x26 =>
(m__law_less x22 x26).bind fun z27 =>
(m__law_undone v_table z27).bind fun z28 =>
if (!isNone z28) = true then
R.ok (some x26)
else
R.ok none).bind fun ys29 =>
(eqD (PyData.list ys29) (PyData.list [])).bind fun z30 =>
R.ok z30).bind fun t31 =>
if t31 = true then
(pushM s23.2 [x22]).bind fun (z32, y33) =>
R.ok (s23.1, y33)
else
R.ok (s23.1, s23.2)).bind fun s24 =>
(m__law_mixed s24.1 (PyData.list s24.2)).bind fun (z34, s35) =>
(tupleD z34).bind fun z36 =>
R.ok (z36, s35)

@[irreducible] def m__law_table (s0 : Src) (v_most : D) : R (D × Src) :=
(add (PyData.list [(PyData.tuple [(PyData.tuple [(PyData.int 1), (PyData.int (-1))]), (PyData.tuple [(PyData.int 1), (PyData.int 1)])]), (PyData.tuple [(PyData.tuple [(PyData.int 1), (PyData.int (-1))]), (PyData.tuple [(PyData.int 1), (PyData.int 1)])]), (PyData.tuple [(PyData.tuple [(PyData.int 0), (PyData.int (-2))]), (PyData.tuple [(PyData.int 1), (PyData.int 0)])]), (PyData.tuple [(PyData.tuple [(PyData.int 0), (PyData.int 2)]), (PyData.tuple [(PyData.int 1), (PyData.int 0)])]), (PyData.tuple [(PyData.tuple [(PyData.int 1), (PyData.int (-2))]), (PyData.tuple [(PyData.int 1), (PyData.int 0)])])]) (PyData.list [(PyData.tuple [(PyData.tuple [(PyData.int (-1)), (PyData.int (-1))]), (PyData.tuple [(PyData.int 1), (PyData.int (-1))])])])).bind fun z1 =>
((gtD v_most (PyData.int 2)).bind fun z2 =>
if z2 = true then
R.ok (PyData.list [(PyData.tuple [(PyData.tuple [(PyData.int 1), (PyData.int (-1))]), (PyData.tuple [(PyData.int 2), (PyData.int 1)])]), (PyData.tuple [(PyData.tuple [(PyData.int 0), (PyData.int 3)]), (PyData.tuple [(PyData.int 1), (PyData.int 0)])]), (PyData.tuple [(PyData.tuple [(PyData.int 2), (PyData.int (-1))]), (PyData.tuple [(PyData.int 1), (PyData.int 1)])]), (PyData.tuple [(PyData.tuple [(PyData.int 0), (PyData.int (-3))]), (PyData.tuple [(PyData.int 1), (PyData.int 1)])])])
else
R.ok (PyData.list []) : R D).bind fun z3 =>
(add z1 z3).bind fun z4 =>
((gtD v_most (PyData.int 3)).bind fun z5 =>
if z5 = true then
R.ok (PyData.list [(PyData.tuple [(PyData.tuple [(PyData.int 2), (PyData.int 0)]), (PyData.tuple [(PyData.int 0), (PyData.int 2)])]), (PyData.tuple [(PyData.tuple [(PyData.int 2), (PyData.int 1)]), (PyData.tuple [(PyData.int 0), (PyData.int 2)])])])
else
R.ok (PyData.list []) : R D).bind fun z6 =>
(add z4 z6).bind fun z7 =>
(m__law_of s0 z7).bind fun (z8, s9) =>
R.ok (z8, s9)

@[irreducible] def m__law_base (s0 : Src) (v_most : D) (v_spread : D) : R (D × Src) :=
(m__law_table s0 v_most).bind fun (z1, s2) =>
(m__law_digits s2 z1 v_spread).bind fun (z3, s4) =>
R.ok ((PyData.tuple [z1, z3]), s4)

@[irreducible] def m__law_low (v_x : D) (v_y : D) (v_bottom : D) : R D :=
(absD v_x).bind fun z1 =>
(absD v_y).bind fun z2 =>
(range1 (PyData.int 2)).bind fun z3 =>
(forS z3 z1 fun x4 s5 =>
((eqD x4 (PyData.int 0)).bind fun z7 =>
if z7 = true then
R.ok (PyData.tuple [s5, z2])
else
(absD v_bottom).bind fun z8 =>
R.ok (PyData.tuple [s5, z8]) : R D).bind fun z9 =>
(range1 (PyData.int 200)).bind fun z10 =>
(forS z10 z9 fun x11 s12 =>
((item s12 (PyData.int 1)).bind fun z14 =>
(neD z14 (PyData.int 0)).bind fun z15 =>
if z15 = true then
(item s12 (PyData.int 1)).bind fun z16 =>
(item s12 (PyData.int 0)).bind fun z17 =>
(intD z17).bind fun z18 =>
(item s12 (PyData.int 1)).bind fun z19 =>
(fmod z18 z19).bind fun z20 =>
R.ok (PyData.tuple [z16, z20])
else
R.ok s12 : R D).bind fun z21 =>
R.ok z21).bind fun s13 =>
(item s13 (PyData.int 0)).bind fun z22 =>
R.ok z22).bind fun s6 =>
((gtD v_bottom (PyData.int 0)).bind fun z23 =>
if z23 = true then
R.ok (PyData.int 1)
else
R.ok (PyData.int (-1)) : R D).bind fun z24 =>
(mul z24 v_x).bind fun z25 =>
(fdiv z25 s6).bind fun z26 =>
(mul z24 v_y).bind fun z27 =>
(fdiv z27 s6).bind fun z28 =>
(absD v_bottom).bind fun z29 =>
(fdiv z29 s6).bind fun z30 =>
R.ok (PyData.tuple [(PyData.tuple [z26, z28]), z30])

@[irreducible] def m__law_name (s0 : Src) (v_base : D) (v_most : D) : R (D × Src) :=
(item v_base (PyData.int 1)).bind fun z1 =>
(lenD z1).bind fun z2 =>
(m__law_pick s0 v_most).bind fun (z3, s4) =>
(range1 z3).bind fun z5 =>
(compS z5 s4 fun x6 s7 =>
(m__law_pick s7 z2).bind fun (z8, s9) =>
R.ok (some z8, s9)).bind fun (ys10, s11) =>
(tupleD (PyData.list ys10)).bind fun z12 =>
(m__law_pick s11 v_most).bind fun (z13, s14) =>
(add (PyData.int 1) z13).bind fun z15 =>
(range1 z15).bind fun z16 =>
(compS z16 s14 fun x17 s18 =>
(m__law_pick s18 z2).bind fun (z19, s20) =>
R.ok (some z19, s20)).bind fun (ys21, s22) =>
(tupleD (PyData.list ys21)).bind fun z23 =>
(m__law_pick s22 (PyData.int 9)).bind fun (z24, s25) =>
(sub z24 (PyData.int 4)).bind fun z26 =>
(m__law_pick s25 (PyData.int 9)).bind fun (z27, s28) =>
(sub z27 (PyData.int 4)).bind fun z29 =>
R.ok ((PyData.tuple [(PyData.tuple [z26, z29]), z12, z23]), s28)

@[irreducible] def m__law_sum (v_base : D) (v_lot : D) (v_row : D) : R D :=
(iter v_row).bind fun z1 =>
(forS z1 v_lot fun x2 s3 =>
(item v_base (PyData.int 0)).bind fun z5 =>
(m__law_led z5 s3).bind fun z6 =>
(item v_base (PyData.int 1)).bind fun z7 =>
(item z7 x2).bind fun z8 =>
(m__law_add z6 z8).bind fun z9 =>
R.ok z9).bind fun s4 =>
R.ok s4

@[irreducible] def m__law_behind (v_one : D) (v_other : D) : R D :=
(range1 (PyData.int 2)).bind fun z1 =>
(compL z1 fun x2 =>
(item v_other (PyData.int 0)).bind fun z3 =>
(item z3 x2).bind fun z4 =>
(item v_other (PyData.int 1)).bind fun z5 =>
(item z5 x2).bind fun z6 =>
(m__law_led v_one (PyData.tuple [z4, z6])).bind fun z7 =>
R.ok (some z7)).bind fun ys8 =>
(item (PyData.list ys8) (PyData.int 0)).bind fun z9 =>
(item z9 (PyData.int 0)).bind fun z10 =>
(item (PyData.list ys8) (PyData.int 1)).bind fun z11 =>
(item z11 (PyData.int 0)).bind fun z12 =>
(item (PyData.list ys8) (PyData.int 0)).bind fun z13 =>
(item z13 (PyData.int 1)).bind fun z14 =>
(item (PyData.list ys8) (PyData.int 1)).bind fun z15 =>
(item z15 (PyData.int 1)).bind fun z16 =>
R.ok (PyData.tuple [(PyData.tuple [z10, z12]), (PyData.tuple [z14, z16])])

@[irreducible] def m__law_power (v_table : D) (v_many : D) : R D :=
(range1 v_many).bind fun z1 =>
(forS z1 (PyData.tuple [(PyData.tuple [(PyData.int 1), (PyData.int 0)]), (PyData.tuple [(PyData.int 0), (PyData.int 1)])]) fun x2 s3 =>
(m__law_behind v_table s3).bind fun z5 =>
R.ok z5).bind fun s4 =>
R.ok s4

@[irreducible] def m__law_solved (v_table : D) (v_lot : D) : R D :=
(un2 v_table).bind fun (p1, p2) =>
(un2 p1).bind fun (p3, p4) =>
(un2 p2).bind fun (p5, p6) =>
(item v_lot (PyData.int 0)).bind fun z7 =>
(mul p6 z7).bind fun z8 =>
(item v_lot (PyData.int 1)).bind fun z9 =>
(mul p4 z9).bind fun z10 =>
(sub z8 z10).bind fun z11 =>
(item v_lot (PyData.int 1)).bind fun z12 =>
(mul p3 z12).bind fun z13 =>
(item v_lot (PyData.int 0)).bind fun z14 =>
(mul p5 z14).bind fun z15 =>
(sub z13 z15).bind fun z16 =>
(m__law_det v_table).bind fun z17 =>
(m__law_low z11 z16 z17).bind fun z18 =>
R.ok z18

@[irreducible] def m__law_worth (v_base : D) (v_name : D) : R D :=
(un3 v_name).bind fun (p1, p2, p3) =>
(item v_base (PyData.int 0)).bind fun z4 =>
(lenD p3).bind fun z5 =>
(m__law_power z4 z5).bind fun z6 =>
(item z6 (PyData.int 0)).bind fun z7 =>
(item z7 (PyData.int 0)).bind fun z8 =>
(sub z8 (PyData.int 1)).bind fun z9 =>
(item z6 (PyData.int 0)).bind fun z10 =>
(item z10 (PyData.int 1)).bind fun z11 =>
(item z6 (PyData.int 1)).bind fun z12 =>
(item z12 (PyData.int 0)).bind fun z13 =>
(item z6 (PyData.int 1)).bind fun z14 =>
(item z14 (PyData.int 1)).bind fun z15 =>
(sub z15 (PyData.int 1)).bind fun z16 =>
(m__law_sum v_base (PyData.tuple [(PyData.int 0), (PyData.int 0)]) p3).bind fun z17 =>
(m__law_solved (PyData.tuple [(PyData.tuple [z9, z11]), (PyData.tuple [z13, z16])]) z17).bind fun z18 =>
(un2 z18).bind fun (p19, p20) =>
(un2 p19).bind fun (p21, p22) =>
(m__law_sum v_base p1 p2).bind fun z23 =>
(item v_base (PyData.int 0)).bind fun z24 =>
(lenD p2).bind fun z25 =>
(m__law_power z24 z25).bind fun z26 =>
(item z23 (PyData.int 0)).bind fun z27 =>
(mul z27 p20).bind fun z28 =>
(add z28 p21).bind fun z29 =>
(item z23 (PyData.int 1)).bind fun z30 =>
(mul z30 p20).bind fun z31 =>
(add z31 p22).bind fun z32 =>
(m__law_solved z26 (PyData.tuple [z29, z32])).bind fun z33 =>
(un2 z33).bind fun (p34, p35) =>
(un2 p34).bind fun (p36, p37) =>
(mul p35 p20).bind fun z38 =>
(m__law_low p36 p37 z38).bind fun z39 =>
R.ok z39

@[irreducible] def m__law_near (v_base : D) (v_name : D) (v_point : D) (v_many : D) : R D :=
(un3 v_name).bind fun (p1, p2, p3) =>
(un2 v_point).bind fun (p4, p5) =>
(un2 p4).bind fun (p6, p7) =>
(mul p3 v_many).bind fun z8 =>
(add p2 z8).bind fun z9 =>
(iter z9).bind fun z10 =>
(forS z10 (PyData.tuple [p6, p7]) fun x11 s12 =>
(item v_base (PyData.int 0)).bind fun z14 =>
(m__law_led z14 s12).bind fun z15 =>
R.ok z15).bind fun s13 =>
(m__law_sum v_base p1 z9).bind fun z16 =>
(item s13 (PyData.int 0)).bind fun z17 =>
(item z16 (PyData.int 0)).bind fun z18 =>
(mul z18 p5).bind fun z19 =>
(sub z17 z19).bind fun z20 =>
(item s13 (PyData.int 1)).bind fun z21 =>
(item z16 (PyData.int 1)).bind fun z22 =>
(mul z22 p5).bind fun z23 =>
(sub z21 z23).bind fun z24 =>
(item (PyData.tuple [z20, z24]) (PyData.int 0)).bind fun z25 =>
(absD z25).bind fun z26 =>
(item (PyData.tuple [z20, z24]) (PyData.int 1)).bind fun z27 =>
(absD z27).bind fun z28 =>
(maxD2 z26 z28).bind fun z29 =>
(mul (PyData.int 400) p5).bind fun z30 =>
(leD z29 z30).bind fun z31 =>
R.ok (PyData.bool z31)

@[irreducible] def m_law (ns : List Int) : R D :=
(m__law_source ns).bind fun s1 =>
(range1 (PyData.int 3)).bind fun z2 =>
(forT z2 s1 fun x3 s4 =>
(m__law_of s4 (PyData.list [(PyData.int 1), (PyData.int 1), (PyData.int 2), (PyData.int 3)])).bind fun (z6, s7) =>
(m__law_base s7 (PyData.int 4) z6).bind fun (z8, s9) =>
(m__law_of s9 (PyData.list [(PyData.int 3), (PyData.int 3), (PyData.int 5), (PyData.int 12)])).bind fun (z10, s11) =>
(m__law_name s11 z8 z10).bind fun (z12, s13) =>
(un3 z12).bind fun (p14, p15, p16) =>
(reprD (PyData.list [z8, z12])).bind fun z17 =>
(m_worth z8 z12).bind fun z18 =>
(m__law_worth z8 z12).bind fun z19 =>
((reprD z18).bind fun z20 =>
(reprD z19).bind fun z21 =>
(neD z20 z21).bind fun z22 =>
if z22 = true then
R.ok true
else
(m__law_near z8 z12 z18 (PyData.int 12)).bind fun z23 =>
(truth z23).bind fun z24 =>
R.ok (!z24) : R Bool).bind fun t25 =>
if t25 = true then
R.ok (.rt (PyData.bool false) s13)
else
(m__law_pick s13 (PyData.int 9)).bind fun (z26, s27) =>
(sub z26 (PyData.int 4)).bind fun z28 =>
(m__law_pick s27 (PyData.int 99)).bind fun (z29, s30) =>
(sub z29 (PyData.int 40)).bind fun z31 =>
(un2 z19).bind fun (p32, p33) =>
(un2 p32).bind fun (p34, p35) =>
(m__law_add p14 (PyData.tuple [z28, z31])).bind fun z36 =>
(m_worth z8 (PyData.tuple [z36, p15, p16])).bind fun z37 =>
(add p16 p16).bind fun z38 =>
(m_worth z8 (PyData.tuple [p14, p15, z38])).bind fun z39 =>
(slice p16 none (some 1)).bind fun z40 =>
(add p15 z40).bind fun z41 =>
(slice p16 (some 1) none).bind fun z42 =>
(slice p16 none (some 1)).bind fun z43 =>
(add z42 z43).bind fun z44 =>
(m_worth z8 (PyData.tuple [p14, z41, z44])).bind fun z45 =>
(pushM [z37, z39] [z45]).bind fun (z46, y47) =>
(item (PyData.tuple [z28, z31]) (PyData.int 0)).bind fun z48 =>
(mul z48 p33).bind fun z49 =>
(add p34 z49).bind fun z50 =>
(item (PyData.tuple [z28, z31]) (PyData.int 1)).bind fun z51 =>
(mul z51 p33).bind fun z52 =>
(add p35 z52).bind fun z53 =>
(m__law_low z50 z53 p33).bind fun z54 =>
(add p15 p16).bind fun z55 =>
(item z8 (PyData.int 0)).bind fun z56 =>
(m__law_led z56 p14).bind fun z57 =>
(item z8 (PyData.int 1)).bind fun z58 =>
(item z55 (PyData.int 0)).bind fun z59 =>
(item z58 z59).bind fun z60 =>
(m__law_add z57 z60).bind fun z61 =>
((neD p15 (PyData.tuple [])).bind fun z62 =>
if z62 = true then
(slice p15 (some 1) none).bind fun z63 =>
R.ok (PyData.tuple [z61, z63, p16])
else
(slice p16 (some 1) none).bind fun z64 =>
(slice p16 none (some 1)).bind fun z65 =>
(add z64 z65).bind fun z66 =>
R.ok (PyData.tuple [z61, (PyData.tuple []), z66]) : R D).bind fun z67 =>
(m_worth z8 z67).bind fun z68 =>
(pushM y47 [z68]).bind fun (z69, y70) =>
(item z8 (PyData.int 0)).bind fun z71 =>
(m__law_led z71 (PyData.tuple [p34, p35])).bind fun z72 =>
(item z72 (PyData.int 0)).bind fun z73 =>
(item z72 (PyData.int 1)).bind fun z74 =>
(m__law_low z73 z74 p33).bind fun z75 =>
(pushM [z54, z19, z19] [z75]).bind fun (z76, y77) =>
(((reprD (PyData.list y70)).bind fun z78 =>
(reprD (PyData.list y77)).bind fun z79 =>
(neD z78 z79).bind fun z80 =>
R.ok z80).bind fun t81 =>
if t81 = true then
R.ok true
else
(reprD (PyData.list [z8, z12])).bind fun z82 =>
(neD z82 z17).bind fun z83 =>
R.ok z83 : R Bool).bind fun t84 =>
if t84 = true then
R.ok (.rt (PyData.bool false) s30)
else
(m_lot_back z8 (PyData.tuple [z28, z31])).bind fun z85 =>
(item z8 (PyData.int 0)).bind fun z86 =>
(item z85 (PyData.int 1)).bind fun z87 =>
(m__law_led z86 z87).bind fun z88 =>
(item z8 (PyData.int 1)).bind fun z89 =>
(item z85 (PyData.int 0)).bind fun z90 =>
(item z89 z90).bind fun z91 =>
(m__law_add z88 z91).bind fun z92 =>
(reprD z92).bind fun z93 =>
(reprD (PyData.tuple [z28, z31])).bind fun z94 =>
(neD z93 z94).bind fun z95 =>
if z95 = true then
R.ok (.rt (PyData.bool false) s30)
else
R.ok (.nx s30)).bind fun
| .nx s5 =>
(m_worth (PyData.tuple [(PyData.tuple [(PyData.tuple [(PyData.int 2), (PyData.int 0)]), (PyData.tuple [(PyData.int 0), (PyData.int 2)])]), (PyData.tuple [(PyData.tuple [(PyData.int 0), (PyData.int 0)]), (PyData.tuple [(PyData.int 1), (PyData.int 0)]), (PyData.tuple [(PyData.int 0), (PyData.int 1)]), (PyData.tuple [(PyData.int 1), (PyData.int 1)])])]) (PyData.tuple [(PyData.tuple [(PyData.int 0), (PyData.int 0)]), (PyData.tuple [(PyData.int 0)]), (PyData.tuple [(PyData.int 1)])])).bind fun z96 =>
(m_worth (PyData.tuple [(PyData.tuple [(PyData.tuple [(PyData.int 2), (PyData.int 0)]), (PyData.tuple [(PyData.int 0), (PyData.int 2)])]), (PyData.tuple [(PyData.tuple [(PyData.int 0), (PyData.int 0)]), (PyData.tuple [(PyData.int 1), (PyData.int 0)]), (PyData.tuple [(PyData.int 0), (PyData.int 1)]), (PyData.tuple [(PyData.int 1), (PyData.int 1)])])]) (PyData.tuple [(PyData.tuple [(PyData.int (-1)), (PyData.int 0)]), (PyData.tuple []), (PyData.tuple [(PyData.int 1), (PyData.int 0)])])).bind fun z97 =>
(m_worth (PyData.tuple [(PyData.tuple [(PyData.tuple [(PyData.int 2), (PyData.int 0)]), (PyData.tuple [(PyData.int 0), (PyData.int 2)])]), (PyData.tuple [(PyData.tuple [(PyData.int 0), (PyData.int 0)]), (PyData.tuple [(PyData.int 1), (PyData.int 0)]), (PyData.tuple [(PyData.int 0), (PyData.int 1)]), (PyData.tuple [(PyData.int 1), (PyData.int 1)])])]) (PyData.tuple [(PyData.tuple [(PyData.int 0), (PyData.int 0)]), (PyData.tuple []), (PyData.tuple [(PyData.int 0)])])).bind fun z98 =>
(pushM [z96, z97] [z98]).bind fun (z99, y100) =>
(flatR ((reprD (PyData.list y100)).bind fun z101 =>
(reprD (PyData.list [(PyData.tuple [(PyData.tuple [(PyData.int 1), (PyData.int 0)]), (PyData.int 2)]), (PyData.tuple [(PyData.tuple [(PyData.int (-1)), (PyData.int 0)]), (PyData.int 3)]), (PyData.tuple [(PyData.tuple [(PyData.int 0), (PyData.int 0)]), (PyData.int 1)])])).bind fun z102 =>
(eqD z101 z102).bind fun z103 =>
R.ok (PyData.bool z103))).bind fun z104 =>
R.ok z104
| .bk _ => .stuck
| .rt r105 s5 =>
R.ok r105


/-! ## the text by places -/
def top (i : Nat) : Stmt := PySem.Challenge.pw_touchingtiles_k10_worths_of_names_by_own.main.body.getD i (.Pass ⟨0, 0, 0, 0⟩)
abbrev s_lots_less : Stmt := top 3
abbrev s_table_det : Stmt := top 4
abbrev s_table_other : Stmt := top 5
abbrev s_lot_led : Stmt := top 6
abbrev s_lot_undone : Stmt := top 7
abbrev s_lot_back : Stmt := top 9
abbrev s_point_of : Stmt := top 12
abbrev s_point_low : Stmt := top 11
abbrev s_points_added : Stmt := top 13
abbrev s_point_undone : Stmt := top 14
abbrev s_lots_added : Stmt := top 2
abbrev s_row_worth : Stmt := top 16
abbrev s_round_worth : Stmt := top 17
abbrev s_worth : Stmt := top 18
abbrev s__law_source : Stmt := top 20
abbrev s__law_pick : Stmt := top 21
abbrev s__law_of : Stmt := top 22
abbrev s__law_led : Stmt := top 24
abbrev s__law_add : Stmt := top 28
abbrev s__law_mixed : Stmt := top 23
abbrev s__law_det : Stmt := top 26
abbrev s__law_undone : Stmt := top 27
abbrev s__law_less : Stmt := top 29
abbrev s__law_digits : Stmt := top 30
abbrev s__law_table : Stmt := top 31
abbrev s__law_base : Stmt := top 32
abbrev s__law_low : Stmt := top 33
abbrev s__law_name : Stmt := top 34
abbrev s__law_sum : Stmt := top 35
abbrev s__law_behind : Stmt := top 25
abbrev s__law_power : Stmt := top 36
abbrev s__law_solved : Stmt := top 37
abbrev s__law_worth : Stmt := top 38
abbrev s__law_near : Stmt := top 39
abbrev s_law : Stmt := top 40
structure Txt (K : PySem.W.Frag) (mg : Str → Option Value) : Prop where
  d_lots_less : At K mg "lots_less" s_lots_less ["one", "other"]
  d_table_det : At K mg "table_det" s_table_det ["table"]
  d_table_other : At K mg "table_other" s_table_other ["table"]
  d_lot_led : At K mg "lot_led" s_lot_led ["table", "lot"]
  d_lot_undone : At K mg "lot_undone" s_lot_undone ["table", "lot"]
  d_lot_back : At K mg "lot_back" s_lot_back ["base", "lot"]
  d_point_of : At K mg "point_of" s_point_of ["lot"]
  d_point_low : At K mg "point_low" s_point_low ["numbers", "bottom"]
  d_points_added : At K mg "points_added" s_points_added ["one", "other"]
  d_point_undone : At K mg "point_undone" s_point_undone ["table", "point"]
  d_lots_added : At K mg "lots_added" s_lots_added ["one", "other"]
  d_row_worth : At K mg "row_worth" s_row_worth ["base", "lot", "row"]
  d_round_worth : At K mg "round_worth" s_round_worth ["base", "row"]
  d_worth : At K mg "worth" s_worth ["base", "name"]
  d__law_source : At K mg "_law_source" s__law_source ["script"]
  d__law_pick : At K mg "_law_pick" s__law_pick ["source", "many"]
  d__law_of : At K mg "_law_of" s__law_of ["source", "some"]
  d__law_led : At K mg "_law_led" s__law_led ["table", "lot"]
  d__law_add : At K mg "_law_add" s__law_add ["one", "other"]
  d__law_mixed : At K mg "_law_mixed" s__law_mixed ["source", "things"]
  d__law_det : At K mg "_law_det" s__law_det ["table"]
  d__law_undone : At K mg "_law_undone" s__law_undone ["table", "lot"]
  d__law_less : At K mg "_law_less" s__law_less ["one", "other"]
  d__law_digits : At K mg "_law_digits" s__law_digits ["source", "table", "spread"]
  d__law_table : At K mg "_law_table" s__law_table ["source", "most"]
  d__law_base : At K mg "_law_base" s__law_base ["source", "most", "spread"]
  d__law_low : At K mg "_law_low" s__law_low ["x", "y", "bottom"]
  d__law_name : At K mg "_law_name" s__law_name ["source", "base", "most"]
  d__law_sum : At K mg "_law_sum" s__law_sum ["base", "lot", "row"]
  d__law_behind : At K mg "_law_behind" s__law_behind ["one", "other"]
  d__law_power : At K mg "_law_power" s__law_power ["table", "many"]
  d__law_solved : At K mg "_law_solved" s__law_solved ["table", "lot"]
  d__law_worth : At K mg "_law_worth" s__law_worth ["base", "name"]
  d__law_near : At K mg "_law_near" s__law_near ["base", "name", "point", "many"]
  z_enumerate : mg "enumerate" = none
  z_int : mg "int" = none
  z_abs : mg "abs" = none
  z_len : mg "len" = none
  z_max : mg "max" = none
  z_list : mg "list" = none
  z_range : mg "range" = none
  z_tuple : mg "tuple" = none
  z_repr : mg "repr" = none
  m_gcd : mg "gcd" = some (.builtin "math.gcd")
theorem bb_int : bootBuiltins "int" = some (.type "int") := by first | rfl | decide +kernel
theorem bb_abs : bootBuiltins "abs" = some (.builtin "abs") := by first | rfl | decide +kernel
theorem bb_len : bootBuiltins "len" = some (.builtin "len") := by first | rfl | decide +kernel
theorem bb_max : bootBuiltins "max" = some (.builtin "max") := by first | rfl | decide +kernel
theorem bb_list : bootBuiltins "list" = some (.type "list") := by first | rfl | decide +kernel
theorem bb_tuple : bootBuiltins "tuple" = some (.type "tuple") := by first | rfl | decide +kernel
theorem bb_repr : bootBuiltins "repr" = some (.builtin "repr") := by first | rfl | decide +kernel
theorem sc_lots_less : FnScope ["one", "other"] ["one", "other"] (defScope s_lots_less) := ⟨rfl, rfl, rfl, by decide +kernel, rfl, by decide +kernel, by decide +kernel⟩
theorem sc_table_det : FnScope ["table", "a", "b", "c", "d"] ["table"] (defScope s_table_det) := ⟨rfl, rfl, rfl, by decide +kernel, rfl, by decide +kernel, by decide +kernel⟩
theorem sc_table_other : FnScope ["table", "a", "b", "c", "d"] ["table"] (defScope s_table_other) := ⟨rfl, rfl, rfl, by decide +kernel, rfl, by decide +kernel, by decide +kernel⟩
theorem sc_lot_led : FnScope ["table", "lot", "a", "b", "c", "d"] ["table", "lot"] (defScope s_lot_led) := ⟨rfl, rfl, rfl, by decide +kernel, rfl, by decide +kernel, by decide +kernel⟩
theorem sc_lot_undone : FnScope ["table", "lot", "many", "late"] ["table", "lot"] (defScope s_lot_undone) := ⟨rfl, rfl, rfl, by decide +kernel, rfl, by decide +kernel, by decide +kernel⟩
theorem sc_lot_back : FnScope ["base", "lot", "some", "number", "digit", "told"] ["base", "lot"] (defScope s_lot_back) := ⟨rfl, rfl, rfl, by decide +kernel, rfl, by decide +kernel, by decide +kernel⟩
theorem sc_point_of : FnScope ["lot"] ["lot"] (defScope s_point_of) := ⟨rfl, rfl, rfl, by decide +kernel, rfl, by decide +kernel, by decide +kernel⟩
theorem sc_point_low : FnScope ["numbers", "bottom", "part"] ["numbers", "bottom"] (defScope s_point_low) := ⟨rfl, rfl, rfl, by decide +kernel, rfl, by decide +kernel, by decide +kernel⟩
theorem sc_points_added : FnScope ["one", "other", "x", "y", "c", "z", "w", "d"] ["one", "other"] (defScope s_points_added) := ⟨rfl, rfl, rfl, by decide +kernel, rfl, by decide +kernel, by decide +kernel⟩
theorem sc_point_undone : FnScope ["table", "point"] ["table", "point"] (defScope s_point_undone) := ⟨rfl, rfl, rfl, by decide +kernel, rfl, by decide +kernel, by decide +kernel⟩
theorem sc_lots_added : FnScope ["one", "other"] ["one", "other"] (defScope s_lots_added) := ⟨rfl, rfl, rfl, by decide +kernel, rfl, by decide +kernel, by decide +kernel⟩
theorem sc_row_worth : FnScope ["base", "lot", "row", "number"] ["base", "lot", "row"] (defScope s_row_worth) := ⟨rfl, rfl, rfl, by decide +kernel, rfl, by decide +kernel, by decide +kernel⟩
theorem sc_round_worth : FnScope ["base", "row", "first", "second", "number", "less"] ["base", "row"] (defScope s_round_worth) := ⟨rfl, rfl, rfl, by decide +kernel, rfl, by decide +kernel, by decide +kernel⟩
theorem sc_worth : FnScope ["base", "name", "lot", "ahead", "late", "found", "number"] ["base", "name"] (defScope s_worth) := ⟨rfl, rfl, rfl, by decide +kernel, rfl, by decide +kernel, by decide +kernel⟩
theorem sc__law_source : FnScope ["script", "mixed", "cell"] ["script"] (defScope s__law_source) := ⟨rfl, rfl, rfl, by decide +kernel, rfl, by decide +kernel, by decide +kernel⟩
theorem sc__law_pick : FnScope ["source", "many", "left", "mixed"] ["source", "many"] (defScope s__law_pick) := ⟨rfl, rfl, rfl, by decide +kernel, rfl, by decide +kernel, by decide +kernel⟩
theorem sc__law_of : FnScope ["source", "some"] ["source", "some"] (defScope s__law_of) := ⟨rfl, rfl, rfl, by decide +kernel, rfl, by decide +kernel, by decide +kernel⟩
theorem sc__law_led : FnScope ["table", "lot"] ["table", "lot"] (defScope s__law_led) := ⟨rfl, rfl, rfl, by decide +kernel, rfl, by decide +kernel, by decide +kernel⟩
theorem sc__law_add : FnScope ["one", "other"] ["one", "other"] (defScope s__law_add) := ⟨rfl, rfl, rfl, by decide +kernel, rfl, by decide +kernel, by decide +kernel⟩
theorem sc__law_mixed : FnScope ["source", "things", "rest", "lap"] ["source", "things"] (defScope s__law_mixed) := ⟨rfl, rfl, rfl, by decide +kernel, rfl, by decide +kernel, by decide +kernel⟩
theorem sc__law_det : FnScope ["table"] ["table"] (defScope s__law_det) := ⟨rfl, rfl, rfl, by decide +kernel, rfl, by decide +kernel, by decide +kernel⟩
theorem sc__law_undone : FnScope ["table", "lot", "a", "b", "c", "d", "q", "x", "y"] ["table", "lot"] (defScope s__law_undone) := ⟨rfl, rfl, rfl, by decide +kernel, rfl, by decide +kernel, by decide +kernel⟩
theorem sc__law_less : FnScope ["one", "other"] ["one", "other"] (defScope s__law_less) := ⟨rfl, rfl, rfl, by decide +kernel, rfl, by decide +kernel, by decide +kernel⟩
theorem sc__law_digits : FnScope ["source", "table", "spread", "some", "found", "x", "first", "lot", "y", "one"] ["source", "table", "spread"] (defScope s__law_digits) := ⟨rfl, rfl, rfl, by decide +kernel, rfl, by decide +kernel, by decide +kernel⟩
theorem sc__law_table : FnScope ["source", "most", "some", "more"] ["source", "most"] (defScope s__law_table) := ⟨rfl, rfl, rfl, by decide +kernel, rfl, by decide +kernel, by decide +kernel⟩
theorem sc__law_base : FnScope ["source", "most", "spread", "table"] ["source", "most", "spread"] (defScope s__law_base) := ⟨rfl, rfl, rfl, by decide +kernel, rfl, by decide +kernel, by decide +kernel⟩
theorem sc__law_low : FnScope ["x", "y", "bottom", "a", "b", "turn", "few", "lap", "sign"] ["x", "y", "bottom"] (defScope s__law_low) := ⟨rfl, rfl, rfl, by decide +kernel, rfl, by decide +kernel, by decide +kernel⟩
theorem sc__law_name : FnScope ["source", "base", "most", "many", "ahead", "late", "k"] ["source", "base", "most"] (defScope s__law_name) := ⟨rfl, rfl, rfl, by decide +kernel, rfl, by decide +kernel, by decide +kernel⟩
theorem sc__law_sum : FnScope ["base", "lot", "row", "number"] ["base", "lot", "row"] (defScope s__law_sum) := ⟨rfl, rfl, rfl, by decide +kernel, rfl, by decide +kernel, by decide +kernel⟩
theorem sc__law_behind : FnScope ["one", "other", "rows", "k"] ["one", "other"] (defScope s__law_behind) := ⟨rfl, rfl, rfl, by decide +kernel, rfl, by decide +kernel, by decide +kernel⟩
theorem sc__law_power : FnScope ["table", "many", "found", "lap"] ["table", "many"] (defScope s__law_power) := ⟨rfl, rfl, rfl, by decide +kernel, rfl, by decide +kernel, by decide +kernel⟩
theorem sc__law_solved : FnScope ["table", "lot", "a", "b", "c", "d"] ["table", "lot"] (defScope s__law_solved) := ⟨rfl, rfl, rfl, by decide +kernel, rfl, by decide +kernel, by decide +kernel⟩
theorem sc__law_worth : FnScope ["base", "name", "lot", "ahead", "late", "power", "less", "x", "y", "bottom", "whole", "p", "q", "more"] ["base", "name"] (defScope s__law_worth) := ⟨rfl, rfl, rfl, by decide +kernel, rfl, by decide +kernel, by decide +kernel⟩
theorem sc__law_near : FnScope ["base", "name", "point", "many", "lot", "ahead", "late", "x", "y", "bottom", "row", "here", "number", "whole", "left"] ["base", "name", "point", "many"] (defScope s__law_near) := ⟨rfl, rfl, rfl, by decide +kernel, rfl, by decide +kernel, by decide +kernel⟩
theorem sc_law : FnScope ["script", "source", "lap", "base", "name", "lot", "ahead", "late", "kept", "told", "due", "more", "x", "y", "bottom", "shown", "some", "row", "first", "rest", "there", "left", "square"] ["script"] (defScope s_law) := ⟨rfl, rfl, rfl, by decide +kernel, rfl, by decide +kernel, by decide +kernel⟩
section
variable {P : Program} {w : World} {K : PySem.W.Frag} {mg : Str → Option Value} {base : Heap}
theorem p_lots_less (T : Txt K mg) : ∀ k : Nat, 1 ≤ k → HasP P w K mg base k "lots_less" 2 (fn2 m_lots_less) :=
  T.d_lots_less.p (lv := 0) (N := ["one", "other"]) sc_lots_less rfl fun ds hds => match ds, hds with
  | [v_one, v_other], _ => by
    show DSs _ [some (.val v_one), some (.val v_other)] _ (m_lots_less v_one v_other) _
    unfold m_lots_less
    exact ds_at [some (.val v_one), some (.val v_other)] (ds_ret (de_tup (da_cons (de_op bs_sub (de_ix (de_var 0 rfl (de_int (⟨_, rfl, fun z1 => de_ix (de_var 1 rfl (de_int (⟨_, rfl, fun z2 => ⟨_, rfl, fun z3 => da_cons (de_op bs_sub (de_ix (de_var 0 rfl (de_int (⟨_, rfl, fun z4 => de_ix (de_var 1 rfl (de_int (⟨_, rfl, fun z5 => ⟨_, rfl, fun z6 => da_nil (⟨by show (2 : Nat) ≤ 16777216; decide, rfl⟩)⟩⟩)))⟩)))))⟩⟩)))⟩))))))))

theorem p_table_det (T : Txt K mg) : ∀ k : Nat, 1 ≤ k → HasP P w K mg base k "table_det" 1 (fn1 m_table_det) :=
  T.d_table_det.p (lv := 0) (N := ["table", "a", "b", "c", "d"]) sc_table_det rfl fun ds hds => match ds, hds with
  | [v_table], _ => by
    show DSs _ [some (.val v_table), none, none, none, none] _ (m_table_det v_table) _
    unfold m_table_det
    exact ds_at [some (.val v_table), none, none, none, none] (ds_asg (de_var 0 rfl (dg_tup2 rfl fun p1 p2 => dgs_cons (dg_tup2 rfl fun p3 p4 => dgs_cons (dg_name 1 (dgs_cons (dg_name 2 (dgs_nil (dgs_cons (dg_tup2 rfl fun p5 p6 => dgs_cons (dg_name 3 (dgs_cons (dg_name 4 (dgs_nil (dgs_nil (ds_at [some (.val v_table), some (.val p3), some (.val p4), some (.val p5), some (.val p6)] (ds_ret (de_op bs_sub (de_op bs_mul (de_var 1 rfl (de_var 4 rfl (⟨_, rfl, fun z7 => de_op bs_mul (de_var 2 rfl (de_var 3 rfl (⟨_, rfl, fun z8 => ⟨_, rfl, fun z9 => rfl⟩⟩)))⟩))))))))))))))))))))))

theorem p_table_other (T : Txt K mg) : ∀ k : Nat, 1 ≤ k → HasP P w K mg base k "table_other" 1 (fn1 m_table_other) :=
  T.d_table_other.p (lv := 0) (N := ["table", "a", "b", "c", "d"]) sc_table_other rfl fun ds hds => match ds, hds with
  | [v_table], _ => by
    show DSs _ [some (.val v_table), none, none, none, none] _ (m_table_other v_table) _
    unfold m_table_other
    exact ds_at [some (.val v_table), none, none, none, none] (ds_asg (de_var 0 rfl (dg_tup2 rfl fun p1 p2 => dgs_cons (dg_tup2 rfl fun p3 p4 => dgs_cons (dg_name 1 (dgs_cons (dg_name 2 (dgs_nil (dgs_cons (dg_tup2 rfl fun p5 p6 => dgs_cons (dg_name 3 (dgs_cons (dg_name 4 (dgs_nil (dgs_nil (ds_at [some (.val v_table), some (.val p3), some (.val p4), some (.val p5), some (.val p6)] (ds_ret (de_tup (da_cons (de_tup (da_cons (de_var 4 rfl (da_cons (de_un us_neg (de_var 2 rfl (⟨_, rfl, fun z7 => da_nil (⟨by show (2 : Nat) ≤ 16777216; decide, da_cons (de_tup (da_cons (de_un us_neg (de_var 3 rfl (⟨_, rfl, fun z8 => da_cons (de_var 1 rfl (da_nil (⟨by show (2 : Nat) ≤ 16777216; decide, da_nil (⟨by show (2 : Nat) ≤ 16777216; decide, rfl⟩)⟩)))⟩)))))⟩)⟩))))))))))))))))))))))))))

theorem p_lot_led (T : Txt K mg) : ∀ k : Nat, 1 ≤ k → HasP P w K mg base k "lot_led" 2 (fn2 m_lot_led) :=
  T.d_lot_led.p (lv := 0) (N := ["table", "lot", "a", "b", "c", "d"]) sc_lot_led rfl fun ds hds => match ds, hds with
  | [v_table, v_lot], _ => by
    show DSs _ [some (.val v_table), some (.val v_lot), none, none, none, none] _ (m_lot_led v_table v_lot) _
    unfold m_lot_led
    exact ds_at [some (.val v_table), some (.val v_lot), none, none, none, none] (ds_asg (de_var 0 rfl (dg_tup2 rfl fun p1 p2 => dgs_cons (dg_tup2 rfl fun p3 p4 => dgs_cons (dg_name 2 (dgs_cons (dg_name 3 (dgs_nil (dgs_cons (dg_tup2 rfl fun p5 p6 => dgs_cons (dg_name 4 (dgs_cons (dg_name 5 (dgs_nil (dgs_nil (ds_at [some (.val v_table), some (.val v_lot), some (.val p3), some (.val p4), some (.val p5), some (.val p6)] (ds_ret (de_tup (da_cons (de_op bs_add (de_op bs_mul (de_var 2 rfl (de_ix (de_var 1 rfl (de_int (⟨_, rfl, fun z7 => ⟨_, rfl, fun z8 => de_op bs_mul (de_var 3 rfl (de_ix (de_var 1 rfl (de_int (⟨_, rfl, fun z9 => ⟨_, rfl, fun z10 => ⟨_, rfl, fun z11 => da_cons (de_op bs_add (de_op bs_mul (de_var 4 rfl (de_ix (de_var 1 rfl (de_int (⟨_, rfl, fun z12 => ⟨_, rfl, fun z13 => de_op bs_mul (de_var 5 rfl (de_ix (de_var 1 rfl (de_int (⟨_, rfl, fun z14 => ⟨_, rfl, fun z15 => ⟨_, rfl, fun z16 => da_nil (⟨by show (2 : Nat) ≤ 16777216; decide, rfl⟩)⟩⟩⟩)))))⟩⟩)))))))⟩⟩⟩)))))⟩⟩))))))))))))))))))))))))))

theorem p_lot_undone (T : Txt K mg) : ∀ k : Nat, 2 ≤ k → HasP P w K mg base k "lot_undone" 2 (fn2 m_lot_undone) :=
  T.d_lot_undone.p (lv := 1) (N := ["table", "lot", "many", "late"]) sc_lot_undone rfl fun ds hds => match ds, hds with
  | [v_table, v_lot], _ => by
    show DSs _ [some (.val v_table), some (.val v_lot), none, none] _ (m_lot_undone v_table v_lot) _
    unfold m_lot_undone
    exact ds_at [some (.val v_table), some (.val v_lot), none, none] (ds_par 2 3 (de_call (p_table_det T _ (by show (1 : Nat) ≤ 1; decide) _ _ _) (da_cons (de_var 0 rfl (da_nil (⟨rfl, ⟨_, _, fn1_eq _ _, rfl, fun z1 => de_call (p_lot_led T _ (by show (1 : Nat) ≤ 1; decide) _ _ _) (da_cons (de_call (p_table_other T _ (by show (1 : Nat) ≤ 1; decide) _ _ _) (da_cons (de_var 0 rfl (da_nil (⟨rfl, ⟨_, _, fn1_eq _ _, rfl, fun z2 => da_cons (de_var 1 rfl (da_nil (⟨rfl, ⟨_, _, fn2_eq _ _ _, rfl, fun z3 => ds_at [some (.val v_table), some (.val v_lot), some (.val z1), some (.val z3)] (ds_if (dt_dir (dt_w (dw_or (dt_cmp cs_ne (de_op bs_fmod (de_ix (de_var 3 rfl (de_int (⟨_, rfl, fun z4 => de_var 2 rfl (⟨_, rfl, fun z5 => de_int (⟨_, rfl, fun z6 => ⟨_, _, rfl, ⟨rfl, rfl⟩, dw_or1 (dt_cmp cs_ne (de_op bs_fmod (de_ix (de_var 3 rfl (de_int (⟨_, rfl, fun z7 => de_var 2 rfl (⟨_, rfl, fun z8 => de_int (⟨_, rfl, fun z9 => ⟨rfl, rfl⟩⟩)⟩)⟩))))))⟩⟩)⟩)⟩)))))))) fun t10 => ⟨_, _, rfl, ds_ret (de_none (rfl)), ds_nil (ds_ret (de_tup (da_cons (de_op bs_fdiv (de_ix (de_var 3 rfl (de_int (⟨_, rfl, fun z11 => de_var 2 rfl (⟨_, rfl, fun z12 => da_cons (de_op bs_fdiv (de_ix (de_var 3 rfl (de_int (⟨_, rfl, fun z13 => de_var 2 rfl (⟨_, rfl, fun z14 => da_nil (⟨by show (2 : Nat) ≤ 16777216; decide, rfl⟩)⟩)⟩)))))⟩)⟩))))))))⟩))⟩⟩)))⟩⟩))))))⟩⟩))))) (hw := by intro env he; cases env; cases he; rfl))

theorem p_lot_back (T : Txt K mg) : ∀ k : Nat, 3 ≤ k → HasP P w K mg base k "lot_back" 2 (fn2 m_lot_back) :=
  T.d_lot_back.p (lv := 2) (N := ["base", "lot", "some", "number", "digit", "told"]) sc_lot_back rfl fun ds hds => match ds, hds with
  | [v_base, v_lot], _ => by
    show DSs _ [some (.val v_base), some (.val v_lot), none, none, none, none] _ (m_lot_back v_base v_lot) _
    unfold m_lot_back
    exact ds_at [some (.val v_base), some (.val v_lot), none, none, none, none] (ds_setLcP 2 [("number", 3), ("digit", 4)] (by kernel_rfl) (di_enum T.z_enumerate (de_ix (de_var 0 rfl (de_int (⟨_, rfl, fun z1 => ⟨_, rfl, fun z2 => ⟨[some (.val v_base), some (.val v_lot), none, none, none, none], _, _, (.s (.s (.n (.n (.n (.n .z)))))), rfl, rfl, fun x3 => dg_tup2 rfl fun p4 p5 => dgs_cons (dg_name 3 (dgs_cons (dg_name 4 (dgs_nil (dts_nil ⟨fun _ => de_tup (da_cons (de_var 3 rfl (da_cons (de_call (p_lot_undone T _ (by show (2 : Nat) ≤ 2; decide) _ _ _) (da_cons (de_ix (de_var 0 rfl (de_int (⟨_, rfl, fun z6 => da_cons (de_call (p_lots_less T _ (by show (1 : Nat) ≤ 2; decide) _ _ _) (da_cons (de_var 1 rfl (da_cons (de_var 4 rfl (da_nil (⟨rfl, ⟨_, _, fn2_eq _ _ _, rfl, fun z7 => da_nil (⟨rfl, ⟨_, _, fn2_eq _ _ _, rfl, fun z8 => da_nil (⟨by show (2 : Nat) ≤ 16777216; decide, rfl⟩)⟩⟩)⟩⟩)))))))⟩))))))))), fun h => nomatch h⟩))))), fun ys9 => ds_at [some (.val v_base), some (.val v_lot), some (.val (PyData.list ys9)), none, none, none] (ds_ret (de_ix (de_lcP [("told", 5)] (by kernel_rfl) (di_val (de_var 2 rfl (⟨_, rfl, fun z10 => ⟨[some (.val v_base), some (.val v_lot), some (.val (PyData.list ys9)), none, none, none], _, _, (.s (.s (.s (.n (.n (.n .z)))))), rfl, rfl, fun x11 => dg_name 5 (dts_one (dt_notN (de_ix (de_var 5 rfl (de_int (⟨_, rfl, fun z12 => lsplitP rfl (de_var 5 rfl (rfl)) rfl⟩)))))), fun ys13 => de_int (⟨_, rfl, fun z14 => rfl⟩)⟩⟩))))))⟩⟩⟩))))) (hsw := fun env he => sw_true (by rw [he]; rfl) (by rw [he]; rfl) rfl (by decide +kernel)))

theorem p_point_of (T : Txt K mg) : ∀ k : Nat, 1 ≤ k → HasP P w K mg base k "point_of" 1 (fn1 m_point_of) :=
  T.d_point_of.p (lv := 0) (N := ["lot"]) sc_point_of rfl fun ds hds => match ds, hds with
  | [v_lot], _ => by
    show DSs _ [some (.val v_lot)] _ (m_point_of v_lot) _
    unfold m_point_of
    exact ds_at [some (.val v_lot)] (ds_ret (de_tup (da_cons (de_var 0 rfl (da_cons (de_int (da_nil (⟨by show (2 : Nat) ≤ 16777216; decide, rfl⟩))))))))

theorem p_point_low (T : Txt K mg) : ∀ k : Nat, 1 ≤ k → HasP P w K mg base k "point_low" 2 (fn2 m_point_low) :=
  T.d_point_low.p (lv := 0) (N := ["numbers", "bottom", "part"]) sc_point_low rfl fun ds hds => match ds, hds with
  | [v_numbers, v_bottom], _ => by
    show DSs _ [some (.val v_numbers), some (.val v_bottom), none] _ (m_point_low v_numbers v_bottom) _
    unfold m_point_low
    exact ds_at [some (.val v_numbers), some (.val v_bottom), none] (ds_set 2 (de_bfn bl_gcd T.m_gcd (da_cons (de_bfn bl_gcd T.m_gcd (da_cons (de_ix (de_var 0 rfl (de_int (⟨_, rfl, fun z1 => da_cons (de_ix (de_var 0 rfl (de_int (⟨_, rfl, fun z2 => da_nil (⟨_, _, fn2_eq _ _ _, rfl, fun z3 => da_cons (de_var 1 rfl (da_nil (⟨_, _, fn2_eq _ _ _, rfl, fun z4 => ds_at [some (.val v_numbers), some (.val v_bottom), some (.val z4)] (ds_set 2 (de_dir (de_ifx (dt_cmp cs_gt (de_var 1 rfl (de_int (⟨_, rfl, fun z5 => ⟨_, _, rfl, de_var 2 rfl (⟨rfl, rfl⟩), de_un us_neg (de_var 2 rfl (⟨_, rfl, fun z6 => ⟨rfl, rfl⟩⟩))⟩⟩))))) fun z7 => ds_at [some (.val v_numbers), some (.val v_bottom), some (.val z7)] (ds_ret (de_tup (da_cons (de_tup (da_cons (de_op bs_fdiv (de_ix (de_var 0 rfl (de_int (⟨_, rfl, fun z8 => de_var 2 rfl (⟨_, rfl, fun z9 => da_cons (de_op bs_fdiv (de_ix (de_var 0 rfl (de_int (⟨_, rfl, fun z10 => de_var 2 rfl (⟨_, rfl, fun z11 => da_nil (⟨by show (2 : Nat) ≤ 16777216; decide, da_cons (de_op bs_fdiv (de_var 1 rfl (de_var 2 rfl (⟨_, rfl, fun z12 => da_nil (⟨by show (2 : Nat) ≤ 16777216; decide, rfl⟩)⟩))))⟩)⟩)⟩)))))⟩)⟩))))))))))))⟩)))⟩)⟩))))⟩)))))))))

theorem p_points_added (T : Txt K mg) : ∀ k : Nat, 2 ≤ k → HasP P w K mg base k "points_added" 2 (fn2 m_points_added) :=
  T.d_points_added.p (lv := 1) (N := ["one", "other", "x", "y", "c", "z", "w", "d"]) sc_points_added rfl fun ds hds => match ds, hds with
  | [v_one, v_other], _ => by
    show DSs _ [some (.val v_one), some (.val v_other), none, none, none, none, none, none] _ (m_points_added v_one v_other) _
    unfold m_points_added
    exact ds_at [some (.val v_one), some (.val v_other), none, none, none, none, none, none] (ds_asg (de_var 0 rfl (dg_tup2 rfl fun p1 p2 => dgs_cons (dg_tup2 rfl fun p3 p4 => dgs_cons (dg_name 2 (dgs_cons (dg_name 3 (dgs_nil (dgs_cons (dg_name 4 (dgs_nil (ds_at [some (.val v_one), some (.val v_other), some (.val p3), some (.val p4), some (.val p2), none, none, none] (ds_asg (de_var 1 rfl (dg_tup2 rfl fun p5 p6 => dgs_cons (dg_tup2 rfl fun p7 p8 => dgs_cons (dg_name 5 (dgs_cons (dg_name 6 (dgs_nil (dgs_cons (dg_name 7 (dgs_nil (ds_at [some (.val v_one), some (.val v_other), some (.val p3), some (.val p4), some (.val p2), some (.val p7), some (.val p8), some (.val p6)] (ds_ret (de_call (p_point_low T _ (by show (1 : Nat) ≤ 1; decide) _ _ _) (da_cons (de_tup (da_cons (de_op bs_add (de_op bs_mul (de_var 2 rfl (de_var 7 rfl (⟨_, rfl, fun z9 => de_op bs_mul (de_var 5 rfl (de_var 4 rfl (⟨_, rfl, fun z10 => ⟨_, rfl, fun z11 => da_cons (de_op bs_add (de_op bs_mul (de_var 3 rfl (de_var 7 rfl (⟨_, rfl, fun z12 => de_op bs_mul (de_var 6 rfl (de_var 4 rfl (⟨_, rfl, fun z13 => ⟨_, rfl, fun z14 => da_nil (⟨by show (2 : Nat) ≤ 16777216; decide, da_cons (de_op bs_mul (de_var 4 rfl (de_var 7 rfl (⟨_, rfl, fun z15 => da_nil (⟨rfl, ⟨_, _, fn2_eq _ _ _, rfl, fun z16 => rfl⟩⟩)⟩))))⟩)⟩⟩)))⟩)))))⟩⟩)))⟩))))))))))))))))))))))))))))))))))

theorem p_point_undone (T : Txt K mg) : ∀ k : Nat, 2 ≤ k → HasP P w K mg base k "point_undone" 2 (fn2 m_point_undone) :=
  T.d_point_undone.p (lv := 1) (N := ["table", "point"]) sc_point_undone rfl fun ds hds => match ds, hds with
  | [v_table, v_point], _ => by
    show DSs _ [some (.val v_table), some (.val v_point)] _ (m_point_undone v_table v_point) _
    unfold m_point_undone
    exact ds_at [some (.val v_table), some (.val v_point)] (ds_ret (de_call (p_point_low T _ (by show (1 : Nat) ≤ 1; decide) _ _ _) (da_cons (de_call (p_lot_led T _ (by show (1 : Nat) ≤ 1; decide) _ _ _) (da_cons (de_call (p_table_other T _ (by show (1 : Nat) ≤ 1; decide) _ _ _) (da_cons (de_var 0 rfl (da_nil (⟨rfl, ⟨_, _, fn1_eq _ _, rfl, fun z1 => da_cons (de_ix (de_var 1 rfl (de_int (⟨_, rfl, fun z2 => da_nil (⟨rfl, ⟨_, _, fn2_eq _ _ _, rfl, fun z3 => da_cons (de_op bs_mul (de_ix (de_var 1 rfl (de_int (⟨_, rfl, fun z4 => de_call (p_table_det T _ (by show (1 : Nat) ≤ 1; decide) _ _ _) (da_cons (de_var 0 rfl (da_nil (⟨rfl, ⟨_, _, fn1_eq _ _, rfl, fun z5 => ⟨_, rfl, fun z6 => da_nil (⟨rfl, ⟨_, _, fn2_eq _ _ _, rfl, fun z7 => rfl⟩⟩)⟩⟩⟩))))⟩)))))⟩⟩)⟩))))⟩⟩))))))))))

theorem p_lots_added (T : Txt K mg) : ∀ k : Nat, 1 ≤ k → HasP P w K mg base k "lots_added" 2 (fn2 m_lots_added) :=
  T.d_lots_added.p (lv := 0) (N := ["one", "other"]) sc_lots_added rfl fun ds hds => match ds, hds with
  | [v_one, v_other], _ => by
    show DSs _ [some (.val v_one), some (.val v_other)] _ (m_lots_added v_one v_other) _
    unfold m_lots_added
    exact ds_at [some (.val v_one), some (.val v_other)] (ds_ret (de_tup (da_cons (de_op bs_add (de_ix (de_var 0 rfl (de_int (⟨_, rfl, fun z1 => de_ix (de_var 1 rfl (de_int (⟨_, rfl, fun z2 => ⟨_, rfl, fun z3 => da_cons (de_op bs_add (de_ix (de_var 0 rfl (de_int (⟨_, rfl, fun z4 => de_ix (de_var 1 rfl (de_int (⟨_, rfl, fun z5 => ⟨_, rfl, fun z6 => da_nil (⟨by show (2 : Nat) ≤ 16777216; decide, rfl⟩)⟩⟩)))⟩)))))⟩⟩)))⟩))))))))

theorem p_row_worth (T : Txt K mg) : ∀ k : Nat, 2 ≤ k → HasP P w K mg base k "row_worth" 3 (fn3 m_row_worth) :=
  T.d_row_worth.p (lv := 1) (N := ["base", "lot", "row", "number"]) sc_row_worth rfl fun ds hds => match ds, hds with
  | [v_base, v_lot, v_row], _ => by
    show DSs _ [some (.val v_base), some (.val v_lot), some (.val v_row), none] _ (m_row_worth v_base v_lot v_row) _
    unfold m_row_worth
    exact ds_at [some (.val v_base), some (.val v_lot), some (.val v_row), none] (ds_forS (fun (st : D) => ([some (.val v_base), some (.val st), some (.val v_row), none] : Z.Env)) (di_val (de_var 2 rfl (⟨_, rfl, fun z1 => ⟨v_lot, _, _, (.s (.s (.s (.n .z)))), rfl, fun x2 s3 => dg_name 3 (ds_at [some (.val v_base), some (.val s3), some (.val v_row), some (.val x2)] (ds_set 1 (de_call (p_lots_added T _ (by show (1 : Nat) ≤ 1; decide) _ _ _) (da_cons (de_call (p_lot_led T _ (by show (1 : Nat) ≤ 1; decide) _ _ _) (da_cons (de_ix (de_var 0 rfl (de_int (⟨_, rfl, fun z5 => da_cons (de_var 1 rfl (da_nil (⟨rfl, ⟨_, _, fn2_eq _ _ _, rfl, fun z6 => da_cons (de_ix (de_ix (de_var 0 rfl (de_int (⟨_, rfl, fun z7 => de_var 3 rfl (⟨_, rfl, fun z8 => da_nil (⟨rfl, ⟨_, _, fn2_eq _ _ _, rfl, fun z9 => ds_nil (⟨z9, (.s (.s (.s (.n .z)))), rfl⟩)⟩⟩)⟩)⟩)))))⟩⟩)))⟩)))))))))), fun s4 => ds_at [some (.val v_base), some (.val s4), some (.val v_row), none] (ds_ret (de_var 1 rfl (rfl)))⟩⟩))))

theorem p_round_worth (T : Txt K mg) : ∀ k : Nat, 3 ≤ k → HasP P w K mg base k "round_worth" 2 (fn2 m_round_worth) :=
  T.d_round_worth.p (lv := 2) (N := ["base", "row", "first", "second", "number", "less"]) sc_round_worth rfl fun ds hds => match ds, hds with
  | [v_base, v_row], _ => by
    show DSs _ [some (.val v_base), some (.val v_row), none, none, none, none] _ (m_round_worth v_base v_row) _
    unfold m_round_worth
    exact ds_at [some (.val v_base), some (.val v_row), none, none, none, none] (ds_asg (de_tup (da_cons (de_tup (da_cons (de_int (da_cons (de_int (da_nil (⟨by show (2 : Nat) ≤ 16777216; decide, da_cons (de_tup (da_cons (de_int (da_cons (de_int (da_nil (⟨by show (2 : Nat) ≤ 16777216; decide, da_nil (⟨by show (2 : Nat) ≤ 16777216; decide, dg_tup2 rfl fun p1 p2 => dgs_cons (dg_name 2 (dgs_cons (dg_name 3 (dgs_nil (ds_at [some (.val v_base), some (.val v_row), some (.val p1), some (.val p2), none, none] (ds_forS (fun (st : D × D) => ([some (.val v_base), some (.val v_row), some (.val st.1), some (.val st.2), none, none] : Z.Env)) (di_val (de_var 1 rfl (⟨_, rfl, fun z3 => ⟨(p1, p2), _, _, (.s (.s (.s (.s (.n (.n .z)))))), rfl, fun x4 s5 => dg_name 4 (ds_at [some (.val v_base), some (.val v_row), some (.val s5.1), some (.val s5.2), some (.val x4), none] (ds_par 2 3 (de_call (p_lot_led T _ (by show (1 : Nat) ≤ 2; decide) _ _ _) (da_cons (de_ix (de_var 0 rfl (de_int (⟨_, rfl, fun z7 => da_cons (de_var 2 rfl (da_nil (⟨rfl, ⟨_, _, fn2_eq _ _ _, rfl, fun z8 => de_call (p_lot_led T _ (by show (1 : Nat) ≤ 2; decide) _ _ _) (da_cons (de_ix (de_var 0 rfl (de_int (⟨_, rfl, fun z9 => da_cons (de_var 3 rfl (da_nil (⟨rfl, ⟨_, _, fn2_eq _ _ _, rfl, fun z10 => ds_nil (⟨(z8, z10), (.s (.s (.s (.s (.n (.n .z)))))), rfl⟩)⟩⟩)))⟩)))))⟩⟩)))⟩)))))) (hw := by intro env he; cases env; cases he; rfl))), fun s6 => ds_at [some (.val v_base), some (.val v_row), some (.val s6.1), some (.val s6.2), none, none] (ds_set 5 (de_tup (da_cons (de_tup (da_cons (de_op bs_sub (de_ix (de_var 2 rfl (de_int (⟨_, rfl, fun z11 => de_int (⟨_, rfl, fun z12 => da_cons (de_ix (de_var 3 rfl (de_int (⟨_, rfl, fun z13 => da_nil (⟨by show (2 : Nat) ≤ 16777216; decide, da_cons (de_tup (da_cons (de_ix (de_var 2 rfl (de_int (⟨_, rfl, fun z14 => da_cons (de_op bs_sub (de_ix (de_var 3 rfl (de_int (⟨_, rfl, fun z15 => de_int (⟨_, rfl, fun z16 => da_nil (⟨by show (2 : Nat) ≤ 16777216; decide, da_nil (⟨by show (2 : Nat) ≤ 16777216; decide, ds_at [some (.val v_base), some (.val v_row), some (.val s6.1), some (.val s6.2), none, some (.val (PyData.tuple [(PyData.tuple [z12, z13]), (PyData.tuple [z14, z16])]))] (ds_ret (de_call (p_point_low T _ (by show (1 : Nat) ≤ 2; decide) _ _ _) (da_cons (de_call (p_lot_led T _ (by show (1 : Nat) ≤ 2; decide) _ _ _) (da_cons (de_call (p_table_other T _ (by show (1 : Nat) ≤ 2; decide) _ _ _) (da_cons (de_var 5 rfl (da_nil (⟨rfl, ⟨_, _, fn1_eq _ _, rfl, fun z17 => da_cons (de_call (p_row_worth T _ (by show (2 : Nat) ≤ 2; decide) _ _ _) (da_cons (de_var 0 rfl (da_cons (de_tup (da_cons (de_int (da_cons (de_int (da_nil (⟨by show (2 : Nat) ≤ 16777216; decide, da_cons (de_var 1 rfl (da_nil (⟨rfl, ⟨_, _, fn3_eq _ _ _ _, rfl, fun z18 => da_nil (⟨rfl, ⟨_, _, fn2_eq _ _ _, rfl, fun z19 => da_cons (de_call (p_table_det T _ (by show (1 : Nat) ≤ 2; decide) _ _ _) (da_cons (de_var 5 rfl (da_nil (⟨rfl, ⟨_, _, fn1_eq _ _, rfl, fun z20 => da_nil (⟨rfl, ⟨_, _, fn2_eq _ _ _, rfl, fun z21 => rfl⟩⟩)⟩⟩)))))⟩⟩)⟩⟩)))⟩)))))))))))⟩⟩))))))))))⟩)⟩)⟩)⟩)))))⟩))))))⟩)⟩))))⟩)⟩))))))))))⟩⟩)))))))))⟩)⟩)))))))⟩))))))))))

theorem p_worth (T : Txt K mg) : ∀ k : Nat, 4 ≤ k → HasP P w K mg base k "worth" 2 (fn2 m_worth) :=
  T.d_worth.p (lv := 3) (N := ["base", "name", "lot", "ahead", "late", "found", "number"]) sc_worth rfl fun ds hds => match ds, hds with
  | [v_base, v_name], _ => by
    show DSs _ [some (.val v_base), some (.val v_name), none, none, none, none, none] _ (m_worth v_base v_name) _
    unfold m_worth
    exact ds_at [some (.val v_base), some (.val v_name), none, none, none, none, none] (ds_asg (de_var 1 rfl (dg_tup3 rfl fun p1 p2 p3 => dgs_cons (dg_name 2 (dgs_cons (dg_name 3 (dgs_cons (dg_name 4 (dgs_nil (ds_at [some (.val v_base), some (.val v_name), some (.val p1), some (.val p2), some (.val p3), none, none] (ds_set 5 (de_call (p_points_added T _ (by show (2 : Nat) ≤ 3; decide) _ _ _) (da_cons (de_call (p_point_of T _ (by show (1 : Nat) ≤ 3; decide) _ _ _) (da_cons (de_call (p_row_worth T _ (by show (2 : Nat) ≤ 3; decide) _ _ _) (da_cons (de_var 0 rfl (da_cons (de_var 2 rfl (da_cons (de_var 3 rfl (da_nil (⟨rfl, ⟨_, _, fn3_eq _ _ _ _, rfl, fun z4 => da_nil (⟨rfl, ⟨_, _, fn1_eq _ _, rfl, fun z5 => da_cons (de_call (p_round_worth T _ (by show (3 : Nat) ≤ 3; decide) _ _ _) (da_cons (de_var 0 rfl (da_cons (de_var 4 rfl (da_nil (⟨rfl, ⟨_, _, fn2_eq _ _ _, rfl, fun z6 => da_nil (⟨rfl, ⟨_, _, fn2_eq _ _ _, rfl, fun z7 => ds_at [some (.val v_base), some (.val v_name), some (.val p1), some (.val p2), some (.val p3), some (.val z7), none] (ds_forS (fun (st : D) => ([some (.val v_base), some (.val v_name), some (.val p1), some (.val p2), some (.val p3), some (.val st), none] : Z.Env)) (di_val (de_var 3 rfl (⟨_, rfl, fun z8 => ⟨z7, _, _, (.s (.s (.s (.s (.s (.s (.n .z))))))), rfl, fun x9 s10 => dg_name 6 (ds_at [some (.val v_base), some (.val v_name), some (.val p1), some (.val p2), some (.val p3), some (.val s10), some (.val x9)] (ds_set 5 (de_call (p_point_undone T _ (by show (2 : Nat) ≤ 3; decide) _ _ _) (da_cons (de_ix (de_var 0 rfl (de_int (⟨_, rfl, fun z12 => da_cons (de_var 5 rfl (da_nil (⟨rfl, ⟨_, _, fn2_eq _ _ _, rfl, fun z13 => ds_nil (⟨z13, (.s (.s (.s (.s (.s (.s (.n .z))))))), rfl⟩)⟩⟩)))⟩)))))))), fun s11 => ds_at [some (.val v_base), some (.val v_name), some (.val p1), some (.val p2), some (.val p3), some (.val s11), none] (ds_ret (de_var 5 rfl (rfl)))⟩⟩))))⟩⟩)⟩⟩)))))))⟩⟩)⟩⟩))))))))))))))))))))))))

theorem p__law_source (T : Txt K mg) : ∀ k : Nat, 1 ≤ k → HasQ P w K mg base k "_law_source" m__law_source :=
  T.d__law_source.q (lv := 0) (N := ["script", "mixed", "cell"]) sc__law_source rfl fun ns => by
    show DSs _ [some (.scr ns), none, none] _ (m__law_source ns) _
    unfold m__law_source
    exact ds_at [some (.scr ns), none, none] (ds_set 1 (de_int (ds_at [some (.scr ns), some (.val (PyData.int 11)), none] (ds_forS (fun (st : D) => ([some (.scr ns), some (.val st), none] : Z.Env)) (di_scr 0 rfl (⟨(PyData.int 11), _, _, (.s (.s (.n .z))), rfl, fun x1 s2 => dg_name 2 (ds_at [some (.scr ns), some (.val s2), some (.val x1)] (ds_set 1 (de_op bs_fmod (de_bty bl_int T.z_int bb_int (da_cons (de_op bs_add (de_op bs_add (de_op bs_mul (de_var 1 rfl (de_int (⟨_, rfl, fun z4 => de_op bs_mul (de_var 2 rfl (de_int (⟨_, rfl, fun z5 => ⟨_, rfl, fun z6 => de_int (⟨_, rfl, fun z7 => da_nil (⟨_, _, fn1_eq _ _, rfl, fun z8 => de_int (⟨_, rfl, fun z9 => ds_nil (⟨z9, (.s (.s (.n .z))), rfl⟩)⟩)⟩)⟩)⟩⟩)))⟩))))))))))), fun s3 => ds_at [some (.scr ns), some (.val s3), none] (ds_retSrc (dn_rev (de_lcP [("cell", 2)] (by kernel_rfl) (di_scr 0 rfl (⟨[none, some (.val s3), none], _, _, (.n (.s (.n .z))), rfl, rfl, fun x10 => dg_name 2 (dts_nil ⟨fun _ => de_blt bl_abs T.z_abs bb_abs (da_cons (de_var 2 rfl (da_nil (⟨_, _, fn1_eq _ _, rfl, fun z11 => rfl⟩)))), fun h => nomatch h⟩), fun ys12 => ⟨_, rfl, fun y13 => ⟨_, _, _, _, ie_int, (ie_var 1 rfl), ie_int, rfl, fun s14 => ⟨s14, rfl, rfl⟩⟩⟩⟩)))))⟩))))))

theorem p__law_pick (T : Txt K mg) : ∀ k : Nat, 1 ≤ k → HasS P w K mg base k "_law_pick" 1 (sn1 m__law_pick) :=
  T.d__law_pick.s (lv := 0) (N := ["source", "many", "left", "mixed"]) sc__law_pick rfl fun a0 s0 ds hds => match ds, hds with
  | [v_many], _ => by
    show DSs _ [some (.src a0 s0), some (.val v_many), none, none] _ (m__law_pick s0 v_many) _
    unfold m__law_pick
    exact ds_at [some (.src a0 s0), some (.val v_many), none, none] (ds_while (fun (st : Src) => ([some (.src a0 st), some (.val v_many), none, none] : Z.Env)) ((s0.cells.length + 1)) s0 (.s (.s (.n (.n .z)))) rfl (fun s1 => dt_dir (dt_w (dw_and (dt_cmp cs_gt (de_var 1 rfl (de_int (⟨_, rfl, fun z4 => ⟨_, _, rfl, dw_and (dt_cmp cs_lt (de_srcGet kf_left 0 rfl (de_int (⟨_, rfl, fun z5 => ⟨_, _, rfl, dw_and1 (dt_cmp cs_gt (de_srcLen T.z_len 0 rfl (de_int (⟨_, rfl, fun z6 => ⟨rfl, rfl⟩⟩)))), ⟨rfl, rfl⟩⟩⟩)))), ⟨rfl, rfl⟩⟩⟩)))))) fun t7 => ⟨_, _, rfl, ds_at [some (.src a0 s1), some (.val v_many), none, none] (ds_srcPut kf_left 0 (de_srcPop 0 rfl rfl fun z8 c9 => ⟨_, _, _, rfl, rfl, fun n10 => ds_nil (⟨{ { s1 with cells := c9 } with left := n10 }, (.s (.s (.n (.n .z)))), rfl⟩)⟩)), s1, (.s (.s (.n (.n .z)))), rfl⟩) (fun s2 => ds_at [some (.src a0 s2), some (.val v_many), none, none] (ds_set 2 (de_srcGet kf_left 0 rfl (ds_at [some (.src a0 s2), some (.val v_many), some (.val (PyData.int s2.left)), none] (ds_if (dt_dir (dt_w (dw_or (dt_cmp cs_lt (de_var 1 rfl (de_int (⟨_, rfl, fun z11 => ⟨_, _, rfl, ⟨rfl, rfl⟩, dw_or1 (dt_cmp cs_gt (de_var 2 rfl (de_int (⟨_, rfl, fun z12 => ⟨rfl, rfl⟩⟩))))⟩⟩)))))) fun t13 => ⟨_, _, rfl, ds_srcPut kf_left 0 (de_op bs_fdiv (de_var 2 rfl (de_blt bl_max2 T.z_max bb_max (da_cons (de_int (da_cons (de_var 1 rfl (da_nil (⟨_, _, fn2_eq _ _ _, rfl, fun z14 => ⟨_, rfl, fun z15 => ⟨_, _, _, rfl, rfl, fun n16 => ds_at [some (.src a0 { s2 with left := n16 }), some (.val v_many), some (.val (PyData.int s2.left)), none] (ds_ret (de_op bs_fmod (de_bty bl_int T.z_int bb_int (da_cons (de_var 2 rfl (da_nil (⟨_, _, fn1_eq _ _, rfl, fun z17 => de_blt bl_max2 T.z_max bb_max (da_cons (de_int (da_cons (de_var 1 rfl (da_nil (⟨_, _, fn2_eq _ _ _, rfl, fun z18 => ⟨_, rfl, fun z19 => ⟨_, rfl, rfl⟩⟩⟩))))))⟩)))))))⟩⟩⟩))))))))), ds_nil (ds_srcPut kf_turn 0 (de_op bs_add (de_srcGet kf_turn 0 rfl (de_int (⟨_, rfl, fun z20 => ⟨_, _, _, rfl, rfl, fun n21 => ds_at [some (.src a0 { s2 with turn := n21 }), some (.val v_many), some (.val (PyData.int s2.left)), none] (ds_set 3 (de_op bs_fmod (de_bty bl_int T.z_int bb_int (da_cons (de_op bs_add (de_srcGet kf_mixed 0 rfl (de_op bs_mul (de_srcGet kf_turn 0 rfl (de_int (⟨_, rfl, fun z22 => ⟨_, rfl, fun z23 => da_nil (⟨_, _, fn1_eq _ _, rfl, fun z24 => de_int (⟨_, rfl, fun z25 => ds_at [some (.src a0 { s2 with turn := n21 }), some (.val v_many), some (.val (PyData.int s2.left)), some (.val z25)] (ds_set 3 (de_op bs_fmod (de_bty bl_int T.z_int bb_int (da_cons (de_op bs_add (de_op bs_mul (de_var 3 rfl (de_var 3 rfl (⟨_, rfl, fun z26 => de_op bs_mul (de_srcGet kf_turn 0 rfl (de_int (⟨_, rfl, fun z27 => ⟨_, rfl, fun z28 => da_nil (⟨_, _, fn1_eq _ _, rfl, fun z29 => de_int (⟨_, rfl, fun z30 => ds_at [some (.src a0 { s2 with turn := n21 }), some (.val v_many), some (.val (PyData.int s2.left)), some (.val z30)] (ds_srcPut kf_mixed 0 (de_var 3 rfl (⟨_, _, _, rfl, rfl, fun n31 => ds_at [some (.src a0 { { s2 with turn := n21 } with mixed := n31 }), some (.val v_many), some (.val (PyData.int s2.left)), some (.val z30)] (ds_ret (de_op bs_fmod (de_bty bl_int T.z_int bb_int (da_cons (de_op bs_fdiv (de_var 3 rfl (de_int (⟨_, rfl, fun z32 => da_nil (⟨_, _, fn1_eq _ _, rfl, fun z33 => de_var 1 rfl (⟨_, rfl, fun z34 => ⟨_, rfl, rfl⟩⟩)⟩)⟩))))))))⟩)))⟩)⟩)⟩⟩)))⟩)))))))))⟩)⟩)⟩⟩))))))))))⟩⟩)))))⟩)))))) (fun r3 s2 _ hl => ⟨_, hl.get rfl, rfl⟩))

theorem p__law_of (T : Txt K mg) : ∀ k : Nat, 2 ≤ k → HasS P w K mg base k "_law_of" 1 (sn1 m__law_of) :=
  T.d__law_of.s (lv := 1) (N := ["source", "some"]) sc__law_of rfl fun a0 s0 ds hds => match ds, hds with
  | [v_some], _ => by
    show DSs _ [some (.src a0 s0), some (.val v_some)] _ (m__law_of s0 v_some) _
    unfold m__law_of
    exact ds_at [some (.src a0 s0), some (.val v_some)] (ds_ret (de_ix (de_var 1 rfl (de_callS 0 (p__law_pick T _ (by show (1 : Nat) ≤ 1; decide) _ _ _) rfl (da_cons (de_blt bl_len T.z_len bb_len (da_cons (de_var 1 rfl (da_nil (⟨_, _, fn1_eq _ _, rfl, fun z1 => da_nil (⟨rfl, _, _, _, rfl, sn1_eq _ _ _, rfl, fun z2 s3 => ⟨_, rfl, fun z4 => ⟨_, rfl, rfl⟩⟩⟩)⟩))))))))))

theorem p__law_led (T : Txt K mg) : ∀ k : Nat, 1 ≤ k → HasP P w K mg base k "_law_led" 2 (fn2 m__law_led) :=
  T.d__law_led.p (lv := 0) (N := ["table", "lot"]) sc__law_led rfl fun ds hds => match ds, hds with
  | [v_table, v_lot], _ => by
    show DSs _ [some (.val v_table), some (.val v_lot)] _ (m__law_led v_table v_lot) _
    unfold m__law_led
    exact ds_at [some (.val v_table), some (.val v_lot)] (ds_ret (de_tup (da_cons (de_op bs_add (de_op bs_mul (de_ix (de_ix (de_var 0 rfl (de_int (⟨_, rfl, fun z1 => de_int (⟨_, rfl, fun z2 => de_ix (de_var 1 rfl (de_int (⟨_, rfl, fun z3 => ⟨_, rfl, fun z4 => de_op bs_mul (de_ix (de_ix (de_var 0 rfl (de_int (⟨_, rfl, fun z5 => de_int (⟨_, rfl, fun z6 => de_ix (de_var 1 rfl (de_int (⟨_, rfl, fun z7 => ⟨_, rfl, fun z8 => ⟨_, rfl, fun z9 => da_cons (de_op bs_add (de_op bs_mul (de_ix (de_ix (de_var 0 rfl (de_int (⟨_, rfl, fun z10 => de_int (⟨_, rfl, fun z11 => de_ix (de_var 1 rfl (de_int (⟨_, rfl, fun z12 => ⟨_, rfl, fun z13 => de_op bs_mul (de_ix (de_ix (de_var 0 rfl (de_int (⟨_, rfl, fun z14 => de_int (⟨_, rfl, fun z15 => de_ix (de_var 1 rfl (de_int (⟨_, rfl, fun z16 => ⟨_, rfl, fun z17 => ⟨_, rfl, fun z18 => da_nil (⟨by show (2 : Nat) ≤ 16777216; decide, rfl⟩)⟩⟩⟩)))⟩)⟩)))))⟩⟩)))⟩)⟩)))))))⟩⟩⟩)))⟩)⟩)))))⟩⟩)))⟩)⟩))))))))))

theorem p__law_add (T : Txt K mg) : ∀ k : Nat, 1 ≤ k → HasP P w K mg base k "_law_add" 2 (fn2 m__law_add) :=
  T.d__law_add.p (lv := 0) (N := ["one", "other"]) sc__law_add rfl fun ds hds => match ds, hds with
  | [v_one, v_other], _ => by
    show DSs _ [some (.val v_one), some (.val v_other)] _ (m__law_add v_one v_other) _
    unfold m__law_add
    exact ds_at [some (.val v_one), some (.val v_other)] (ds_ret (de_tup (da_cons (de_op bs_add (de_ix (de_var 0 rfl (de_int (⟨_, rfl, fun z1 => de_ix (de_var 1 rfl (de_int (⟨_, rfl, fun z2 => ⟨_, rfl, fun z3 => da_cons (de_op bs_add (de_ix (de_var 0 rfl (de_int (⟨_, rfl, fun z4 => de_ix (de_var 1 rfl (de_int (⟨_, rfl, fun z5 => ⟨_, rfl, fun z6 => da_nil (⟨by show (2 : Nat) ≤ 16777216; decide, rfl⟩)⟩⟩)))⟩)))))⟩⟩)))⟩))))))))

theorem p__law_mixed (T : Txt K mg) : ∀ k : Nat, 2 ≤ k → HasS P w K mg base k "_law_mixed" 1 (sn1 m__law_mixed) :=
  T.d__law_mixed.s (lv := 1) (N := ["source", "things", "rest", "lap"]) sc__law_mixed rfl fun a0 s0 ds hds => match ds, hds with
  | [v_things], _ => by
    show DSs _ [some (.src a0 s0), some (.val v_things), none, none] _ (m__law_mixed s0 v_things) _
    unfold m__law_mixed
    exact ds_at [some (.src a0 s0), some (.val v_things), none, none] (ds_own 2 (dn_list T.z_list (de_var 1 rfl (⟨_, rfl, fun y1 => ds_at [some (.src a0 s0), some (.val v_things), some (.own y1), none] (ds_ret (de_lcT (fun (st : Src × List D) => ([some (.src a0 st.1), some (.val v_things), some (.own st.2), none] : Z.Env)) [("lap", 3)] (by kernel_rfl) (di_range1 T.z_range (de_peek (de_blt bl_len T.z_len bb_len (da_cons (de_var 2 rfl (da_nil (⟨_, _, fn1_eq _ _, rfl, fun z2 => rfl⟩))))) fun z3 => ⟨_, rfl, fun z4 => ⟨(s0, y1), _, _, (.s (.s (.s (.n .z)))), rfl, fun x5 s6 => dg_name 3 (dts_nil ⟨fun _ => de_om F.slot_list_pop F.type_list_pop om_pop1 2 rfl (da_cons (de_callS 0 (p__law_pick T _ (by show (1 : Nat) ≤ 1; decide) _ _ _) rfl (da_cons (de_peek (de_blt bl_len T.z_len bb_len (da_cons (de_var 2 rfl (da_nil (⟨_, _, fn1_eq _ _, rfl, fun z7 => rfl⟩))))) fun z8 => da_nil (⟨rfl, _, _, _, rfl, sn1_eq _ _ _, rfl, fun z9 s10 => da_nil (⟨_, _, rfl, rfl, fun z11 y12 => ⟨(s10, y12), (.s (.s (.s (.n .z)))), rfl⟩⟩)⟩))))), fun h => nomatch h⟩), fun ys13 s14 => ⟨_, rfl, rfl⟩⟩⟩))))⟩))))

theorem p__law_det (T : Txt K mg) : ∀ k : Nat, 1 ≤ k → HasP P w K mg base k "_law_det" 1 (fn1 m__law_det) :=
  T.d__law_det.p (lv := 0) (N := ["table"]) sc__law_det rfl fun ds hds => match ds, hds with
  | [v_table], _ => by
    show DSs _ [some (.val v_table)] _ (m__law_det v_table) _
    unfold m__law_det
    exact ds_at [some (.val v_table)] (ds_ret (de_op bs_sub (de_op bs_mul (de_ix (de_ix (de_var 0 rfl (de_int (⟨_, rfl, fun z1 => de_int (⟨_, rfl, fun z2 => de_ix (de_ix (de_var 0 rfl (de_int (⟨_, rfl, fun z3 => de_int (⟨_, rfl, fun z4 => ⟨_, rfl, fun z5 => de_op bs_mul (de_ix (de_ix (de_var 0 rfl (de_int (⟨_, rfl, fun z6 => de_int (⟨_, rfl, fun z7 => de_ix (de_ix (de_var 0 rfl (de_int (⟨_, rfl, fun z8 => de_int (⟨_, rfl, fun z9 => ⟨_, rfl, fun z10 => ⟨_, rfl, fun z11 => rfl⟩⟩⟩)⟩))))⟩)⟩)))))⟩⟩)⟩))))⟩)⟩))))))))

theorem p__law_undone (T : Txt K mg) : ∀ k : Nat, 2 ≤ k → HasP P w K mg base k "_law_undone" 2 (fn2 m__law_undone) :=
  T.d__law_undone.p (lv := 1) (N := ["table", "lot", "a", "b", "c", "d", "q", "x", "y"]) sc__law_undone rfl fun ds hds => match ds, hds with
  | [v_table, v_lot], _ => by
    show DSs _ [some (.val v_table), some (.val v_lot), none, none, none, none, none, none, none] _ (m__law_undone v_table v_lot) _
    unfold m__law_undone
    exact ds_at [some (.val v_table), some (.val v_lot), none, none, none, none, none, none, none] (ds_asg (de_var 0 rfl (dg_tup2 rfl fun p1 p2 => dgs_cons (dg_tup2 rfl fun p3 p4 => dgs_cons (dg_name 2 (dgs_cons (dg_name 3 (dgs_nil (dgs_cons (dg_tup2 rfl fun p5 p6 => dgs_cons (dg_name 4 (dgs_cons (dg_name 5 (dgs_nil (dgs_nil (ds_at [some (.val v_table), some (.val v_lot), some (.val p3), some (.val p4), some (.val p5), some (.val p6), none, none, none] (ds_set 6 (de_call (p__law_det T _ (by show (1 : Nat) ≤ 1; decide) _ _ _) (da_cons (de_var 0 rfl (da_nil (⟨rfl, ⟨_, _, fn1_eq _ _, rfl, fun z7 => ds_at [some (.val v_table), some (.val v_lot), some (.val p3), some (.val p4), some (.val p5), some (.val p6), some (.val z7), none, none] (ds_par 7 8 (de_op bs_sub (de_op bs_mul (de_var 5 rfl (de_ix (de_var 1 rfl (de_int (⟨_, rfl, fun z8 => ⟨_, rfl, fun z9 => de_op bs_mul (de_var 3 rfl (de_ix (de_var 1 rfl (de_int (⟨_, rfl, fun z10 => ⟨_, rfl, fun z11 => ⟨_, rfl, fun z12 => de_op bs_sub (de_op bs_mul (de_var 2 rfl (de_ix (de_var 1 rfl (de_int (⟨_, rfl, fun z13 => ⟨_, rfl, fun z14 => de_op bs_mul (de_var 4 rfl (de_ix (de_var 1 rfl (de_int (⟨_, rfl, fun z15 => ⟨_, rfl, fun z16 => ⟨_, rfl, fun z17 => ds_at [some (.val v_table), some (.val v_lot), some (.val p3), some (.val p4), some (.val p5), some (.val p6), some (.val z7), some (.val z12), some (.val z17)] (ds_ret (de_dir (de_ifx (dt_dir (dt_w (dw_and (dt_cmp cs_eq (de_op bs_fmod (de_bty bl_int T.z_int bb_int (da_cons (de_var 7 rfl (da_nil (⟨_, _, fn1_eq _ _, rfl, fun z18 => de_blt bl_abs T.z_abs bb_abs (da_cons (de_var 6 rfl (da_nil (⟨_, _, fn1_eq _ _, rfl, fun z19 => ⟨_, rfl, fun z20 => de_int (⟨_, rfl, fun z21 => ⟨_, _, rfl, dw_and1 (dt_cmp cs_eq (de_op bs_fmod (de_bty bl_int T.z_int bb_int (da_cons (de_var 8 rfl (da_nil (⟨_, _, fn1_eq _ _, rfl, fun z22 => de_blt bl_abs T.z_abs bb_abs (da_cons (de_var 6 rfl (da_nil (⟨_, _, fn1_eq _ _, rfl, fun z23 => ⟨_, rfl, fun z24 => de_int (⟨_, rfl, fun z25 => ⟨rfl, rfl⟩⟩)⟩⟩))))⟩))))))), ⟨rfl, rfl⟩⟩⟩)⟩⟩))))⟩))))))))) fun t26 => ⟨_, _, rfl, de_tup (da_cons (de_op bs_fdiv (de_var 7 rfl (de_var 6 rfl (⟨_, rfl, fun z27 => da_cons (de_op bs_fdiv (de_var 8 rfl (de_var 6 rfl (⟨_, rfl, fun z28 => da_nil (⟨by show (2 : Nat) ≤ 16777216; decide, ⟨rfl, rfl⟩⟩)⟩))))⟩))))), de_none (⟨rfl, rfl⟩)⟩)) fun z29 => rfl))⟩⟩⟩)))))⟩⟩))))))⟩⟩⟩)))))⟩⟩))))))) (hw := by intro env he; cases env; cases he; rfl))⟩⟩))))))))))))))))))))))

theorem p__law_less (T : Txt K mg) : ∀ k : Nat, 1 ≤ k → HasP P w K mg base k "_law_less" 2 (fn2 m__law_less) :=
  T.d__law_less.p (lv := 0) (N := ["one", "other"]) sc__law_less rfl fun ds hds => match ds, hds with
  | [v_one, v_other], _ => by
    show DSs _ [some (.val v_one), some (.val v_other)] _ (m__law_less v_one v_other) _
    unfold m__law_less
    exact ds_at [some (.val v_one), some (.val v_other)] (ds_ret (de_tup (da_cons (de_op bs_sub (de_ix (de_var 0 rfl (de_int (⟨_, rfl, fun z1 => de_ix (de_var 1 rfl (de_int (⟨_, rfl, fun z2 => ⟨_, rfl, fun z3 => da_cons (de_op bs_sub (de_ix (de_var 0 rfl (de_int (⟨_, rfl, fun z4 => de_ix (de_var 1 rfl (de_int (⟨_, rfl, fun z5 => ⟨_, rfl, fun z6 => da_nil (⟨by show (2 : Nat) ≤ 16777216; decide, rfl⟩)⟩⟩)))⟩)))))⟩⟩)))⟩))))))))

theorem p__law_digits (T : Txt K mg) : ∀ k : Nat, 3 ≤ k → HasS P w K mg base k "_law_digits" 2 (sn2 m__law_digits) :=
  T.d__law_digits.s (lv := 2) (N := ["source", "table", "spread", "some", "found", "x", "first", "lot", "y", "one"]) sc__law_digits rfl fun a0 s0 ds hds => match ds, hds with
  | [v_table, v_spread], _ => by
    show DSs _ [some (.src a0 s0), some (.val v_table), some (.val v_spread), none, none, none, none, none, none, none] _ (m__law_digits s0 v_table v_spread) _
    unfold m__law_digits
    exact ds_at [some (.src a0 s0), some (.val v_table), some (.val v_spread), none, none, none, none, none, none, none] (ds_parN 3 4 (dps_val 3 (de_lst (da_nil (⟨by show (0 : Nat) ≤ 16777216; decide, dps_own 4 (dn_lst (da_nil (⟨by show (0 : Nat) ≤ 16777216; decide, dps_nil (ds_at [some (.src a0 s0), some (.val v_table), some (.val v_spread), some (.val (PyData.list [])), some (.own []), none, none, none, none, none] (ds_forS (fun (st : D) => ([some (.src a0 s0), some (.val v_table), some (.val v_spread), some (.val st), some (.own []), none, none, none, none, none] : Z.Env)) (di_range2 T.z_range (de_op bs_sub (de_int (de_var 2 rfl (⟨_, rfl, fun z1 => de_op bs_add (de_var 2 rfl (de_int (⟨_, rfl, fun z2 => ⟨_, rfl, fun z3 => ⟨(PyData.list []), _, _, (.s (.s (.s (.s (.s (.n (.n (.n (.n (.n .z)))))))))), rfl, fun x4 s5 => dg_name 5 (ds_at [some (.src a0 s0), some (.val v_table), some (.val v_spread), some (.val s5), some (.own []), some (.val x4), none, none, none, none] (ds_set 3 (de_op bs_add (de_var 3 rfl (de_lcP [("y", 8)] (by kernel_rfl) (di_range2 T.z_range (de_op bs_sub (de_int (de_var 2 rfl (⟨_, rfl, fun z7 => de_op bs_add (de_var 2 rfl (de_int (⟨_, rfl, fun z8 => ⟨_, rfl, fun z9 => ⟨[none, some (.val v_table), some (.val v_spread), some (.val s5), none, some (.val x4), none, none, none, none], _, _, (.n (.s (.s (.s (.n (.s (.n (.n (.n (.n .z)))))))))), rfl, rfl, fun x10 => dg_name 8 (dts_nil ⟨fun _ => de_tup (da_cons (de_var 5 rfl (da_cons (de_var 8 rfl (da_nil (⟨by show (2 : Nat) ≤ 16777216; decide, rfl⟩)))))), fun h => nomatch h⟩), fun ys11 => ⟨_, rfl, fun z12 => ds_nil (⟨z12, (.s (.s (.s (.s (.s (.n (.n (.n (.n (.n .z)))))))))), rfl⟩)⟩⟩⟩⟩)))⟩)))))))))), fun s6 => ds_at [some (.src a0 s0), some (.val v_table), some (.val v_spread), some (.val s6), some (.own []), none, none, none, none, none] (ds_set 6 (de_join (fun (st : Src) => ([some (.src a0 st), some (.val v_table), some (.val v_spread), some (.val s6), some (.own []), none, none, none, none, none] : Z.Env)) (de_ifx (dt_cmp cs_gt (de_callS 0 (p__law_pick T _ (by show (1 : Nat) ≤ 2; decide) _ _ _) rfl (da_cons (de_int (da_nil (⟨rfl, _, _, _, rfl, sn1_eq _ _ _, rfl, fun z13 s14 => de_int (⟨_, rfl, fun z15 => ⟨_, _, rfl, de_lst (da_cons (de_tup (da_cons (de_int (da_cons (de_int (da_nil (⟨by show (2 : Nat) ≤ 16777216; decide, da_nil (⟨by show (1 : Nat) ≤ 16777216; decide, ⟨s14, rfl, rfl⟩⟩)⟩)))))))), de_lst (da_nil (⟨by show (0 : Nat) ≤ 16777216; decide, ⟨s14, rfl, rfl⟩⟩))⟩⟩)⟩))))))) fun z16 s17 => ds_at [some (.src a0 s17), some (.val v_table), some (.val v_spread), some (.val s6), some (.own []), none, some (.val z16), none, none, none] (ds_forS (fun (st : Src × List D) => ([some (.src a0 st.1), some (.val v_table), some (.val v_spread), some (.val s6), some (.own st.2), none, some (.val z16), none, none, none] : Z.Env)) (di_val (de_op bs_add (de_var 6 rfl (de_callS 0 (p__law_mixed T _ (by show (2 : Nat) ≤ 2; decide) _ _ _) rfl (da_cons (de_var 3 rfl (da_nil (⟨rfl, _, _, _, rfl, sn1_eq _ _ _, rfl, fun z18 s19 => ⟨_, rfl, fun z20 => ⟨_, rfl, fun z21 => ⟨(s19, []), _, _, (.s (.s (.s (.s (.s (.n (.s (.n (.n (.n .z)))))))))), rfl, fun x22 s23 => dg_name 7 (ds_at [some (.src a0 s23.1), some (.val v_table), some (.val v_spread), some (.val s6), some (.own s23.2), none, some (.val z16), some (.val x22), none, none] (ds_if (dt_peek (dt_cmp cs_eq (de_lcP [("one", 9)] (by kernel_rfl) (di_val (de_var 4 rfl (⟨_, rfl, fun z25 => ⟨[none, some (.val v_table), some (.val v_spread), some (.val s6), some (.val (PyData.list s23.2)), none, some (.val z16), some (.val x22), none, none], _, _, (.n (.s (.s (.s (.s (.n (.s (.s (.n (.n .z)))))))))), rfl, rfl, fun x26 => dg_name 9 (dts_one (dt_notN (de_call (p__law_undone T _ (by show (2 : Nat) ≤ 2; decide) _ _ _) (da_cons (de_var 1 rfl (da_cons (de_call (p__law_less T _ (by show (1 : Nat) ≤ 2; decide) _ _ _) (da_cons (de_var 7 rfl (da_cons (de_var 9 rfl (da_nil (⟨rfl, ⟨_, _, fn2_eq _ _ _, rfl, fun z27 => da_nil (⟨rfl, ⟨_, _, fn2_eq _ _ _, rfl, fun z28 => lsplitP rfl (de_var 9 rfl (rfl)) rfl⟩⟩)⟩⟩))))))))))))), fun ys29 => de_lst (da_nil (⟨by show (0 : Nat) ≤ 16777216; decide, ⟨_, rfl, fun z30 => rfl⟩⟩))⟩⟩))))) fun t31 => ⟨_, _, rfl, ds_expr (de_om F.slot_list_append F.type_list_append om_append 4 rfl (da_cons (de_var 7 rfl (da_nil (⟨_, _, rfl, rfl, fun z32 y33 => ds_nil (ds_nil (⟨(s23.1, y33), (.s (.s (.s (.s (.s (.n (.s (.n (.n (.n .z)))))))))), rfl⟩))⟩))))), ds_nil (ds_nil (⟨(s23.1, s23.2), (.s (.s (.s (.s (.s (.n (.s (.n (.n (.n .z)))))))))), rfl⟩))⟩))), fun s24 => ds_at [some (.src a0 s24.1), some (.val v_table), some (.val v_spread), some (.val s6), some (.own s24.2), none, some (.val z16), none, none, none] (ds_ret (de_bty bl_tuple T.z_tuple bb_tuple (da_cons (de_callS 0 (p__law_mixed T _ (by show (2 : Nat) ≤ 2; decide) _ _ _) rfl (da_cons (de_take 4 rfl (da_nil (⟨rfl, _, _, _, rfl, sn1_eq _ _ _, rfl, fun z34 s35 => da_nil (⟨_, _, fn1_eq _ _, rfl, fun z36 => ⟨_, rfl, rfl⟩⟩)⟩))))))))⟩⟩⟩⟩)))))))))))⟩⟩⟩)))⟩)))))))⟩)))⟩)))))

theorem p__law_table (T : Txt K mg) : ∀ k : Nat, 3 ≤ k → HasS P w K mg base k "_law_table" 1 (sn1 m__law_table) :=
  T.d__law_table.s (lv := 2) (N := ["source", "most", "some", "more"]) sc__law_table rfl fun a0 s0 ds hds => match ds, hds with
  | [v_most], _ => by
    show DSs _ [some (.src a0 s0), some (.val v_most), none, none] _ (m__law_table s0 v_most) _
    unfold m__law_table
    exact ds_at [some (.src a0 s0), some (.val v_most), none, none] (ds_set 2 (de_lst (da_cons (de_tup (da_cons (de_tup (da_cons (de_int (da_cons (de_negc (da_nil (⟨by show (2 : Nat) ≤ 16777216; decide, da_cons (de_tup (da_cons (de_int (da_cons (de_int (da_nil (⟨by show (2 : Nat) ≤ 16777216; decide, da_nil (⟨by show (2 : Nat) ≤ 16777216; decide, da_cons (de_tup (da_cons (de_tup (da_cons (de_int (da_cons (de_negc (da_nil (⟨by show (2 : Nat) ≤ 16777216; decide, da_cons (de_tup (da_cons (de_int (da_cons (de_int (da_nil (⟨by show (2 : Nat) ≤ 16777216; decide, da_nil (⟨by show (2 : Nat) ≤ 16777216; decide, da_cons (de_tup (da_cons (de_tup (da_cons (de_int (da_cons (de_negc (da_nil (⟨by show (2 : Nat) ≤ 16777216; decide, da_cons (de_tup (da_cons (de_int (da_cons (de_int (da_nil (⟨by show (2 : Nat) ≤ 16777216; decide, da_nil (⟨by show (2 : Nat) ≤ 16777216; decide, da_cons (de_tup (da_cons (de_tup (da_cons (de_int (da_cons (de_int (da_nil (⟨by show (2 : Nat) ≤ 16777216; decide, da_cons (de_tup (da_cons (de_int (da_cons (de_int (da_nil (⟨by show (2 : Nat) ≤ 16777216; decide, da_nil (⟨by show (2 : Nat) ≤ 16777216; decide, da_cons (de_tup (da_cons (de_tup (da_cons (de_int (da_cons (de_negc (da_nil (⟨by show (2 : Nat) ≤ 16777216; decide, da_cons (de_tup (da_cons (de_int (da_cons (de_int (da_nil (⟨by show (2 : Nat) ≤ 16777216; decide, da_nil (⟨by show (2 : Nat) ≤ 16777216; decide, da_nil (⟨by show (5 : Nat) ≤ 16777216; decide, ds_at [some (.src a0 s0), some (.val v_most), some (.val (PyData.list [(PyData.tuple [(PyData.tuple [(PyData.int 1), (PyData.int (-1))]), (PyData.tuple [(PyData.int 1), (PyData.int 1)])]), (PyData.tuple [(PyData.tuple [(PyData.int 1), (PyData.int (-1))]), (PyData.tuple [(PyData.int 1), (PyData.int 1)])]), (PyData.tuple [(PyData.tuple [(PyData.int 0), (PyData.int (-2))]), (PyData.tuple [(PyData.int 1), (PyData.int 0)])]), (PyData.tuple [(PyData.tuple [(PyData.int 0), (PyData.int 2)]), (PyData.tuple [(PyData.int 1), (PyData.int 0)])]), (PyData.tuple [(PyData.tuple [(PyData.int 1), (PyData.int (-2))]), (PyData.tuple [(PyData.int 1), (PyData.int 0)])])])), none] (ds_set 2 (de_op bs_add (de_var 2 rfl (de_lst (da_cons (de_tup (da_cons (de_tup (da_cons (de_negc (da_cons (de_negc (da_nil (⟨by show (2 : Nat) ≤ 16777216; decide, da_cons (de_tup (da_cons (de_int (da_cons (de_negc (da_nil (⟨by show (2 : Nat) ≤ 16777216; decide, da_nil (⟨by show (2 : Nat) ≤ 16777216; decide, da_nil (⟨by show (1 : Nat) ≤ 16777216; decide, ⟨_, rfl, fun z1 => ds_at [some (.src a0 s0), some (.val v_most), some (.val z1), none] (ds_set 3 (de_dir (de_ifx (dt_cmp cs_gt (de_var 1 rfl (de_int (⟨_, rfl, fun z2 => ⟨_, _, rfl, de_lst (da_cons (de_tup (da_cons (de_tup (da_cons (de_int (da_cons (de_negc (da_nil (⟨by show (2 : Nat) ≤ 16777216; decide, da_cons (de_tup (da_cons (de_int (da_cons (de_int (da_nil (⟨by show (2 : Nat) ≤ 16777216; decide, da_nil (⟨by show (2 : Nat) ≤ 16777216; decide, da_cons (de_tup (da_cons (de_tup (da_cons (de_int (da_cons (de_int (da_nil (⟨by show (2 : Nat) ≤ 16777216; decide, da_cons (de_tup (da_cons (de_int (da_cons (de_int (da_nil (⟨by show (2 : Nat) ≤ 16777216; decide, da_nil (⟨by show (2 : Nat) ≤ 16777216; decide, da_cons (de_tup (da_cons (de_tup (da_cons (de_int (da_cons (de_negc (da_nil (⟨by show (2 : Nat) ≤ 16777216; decide, da_cons (de_tup (da_cons (de_int (da_cons (de_int (da_nil (⟨by show (2 : Nat) ≤ 16777216; decide, da_nil (⟨by show (2 : Nat) ≤ 16777216; decide, da_cons (de_tup (da_cons (de_tup (da_cons (de_int (da_cons (de_negc (da_nil (⟨by show (2 : Nat) ≤ 16777216; decide, da_cons (de_tup (da_cons (de_int (da_cons (de_int (da_nil (⟨by show (2 : Nat) ≤ 16777216; decide, da_nil (⟨by show (2 : Nat) ≤ 16777216; decide, da_nil (⟨by show (4 : Nat) ≤ 16777216; decide, ⟨rfl, rfl⟩⟩)⟩)⟩)))))))⟩)))))))))⟩)⟩)))))))⟩)))))))))⟩)⟩)))))))⟩)))))))))⟩)⟩)))))))⟩)))))))))), de_lst (da_nil (⟨by show (0 : Nat) ≤ 16777216; decide, ⟨rfl, rfl⟩⟩))⟩⟩))))) fun z3 => ds_at [some (.src a0 s0), some (.val v_most), some (.val z1), some (.val z3)] (ds_ret (de_callS 0 (p__law_of T _ (by show (2 : Nat) ≤ 2; decide) _ _ _) rfl (da_cons (de_op bs_add (de_op bs_add (de_var 2 rfl (de_var 3 rfl (⟨_, rfl, fun z4 => de_dir (de_ifx (dt_cmp cs_gt (de_var 1 rfl (de_int (⟨_, rfl, fun z5 => ⟨_, _, rfl, de_lst (da_cons (de_tup (da_cons (de_tup (da_cons (de_int (da_cons (de_int (da_nil (⟨by show (2 : Nat) ≤ 16777216; decide, da_cons (de_tup (da_cons (de_int (da_cons (de_int (da_nil (⟨by show (2 : Nat) ≤ 16777216; decide, da_nil (⟨by show (2 : Nat) ≤ 16777216; decide, da_cons (de_tup (da_cons (de_tup (da_cons (de_int (da_cons (de_int (da_nil (⟨by show (2 : Nat) ≤ 16777216; decide, da_cons (de_tup (da_cons (de_int (da_cons (de_int (da_nil (⟨by show (2 : Nat) ≤ 16777216; decide, da_nil (⟨by show (2 : Nat) ≤ 16777216; decide, da_nil (⟨by show (2 : Nat) ≤ 16777216; decide, ⟨rfl, rfl⟩⟩)⟩)⟩)))))))⟩)))))))))⟩)⟩)))))))⟩)))))))))), de_lst (da_nil (⟨by show (0 : Nat) ≤ 16777216; decide, ⟨rfl, rfl⟩⟩))⟩⟩))))) fun z6 => ⟨_, rfl, fun z7 => da_nil (⟨rfl, _, _, _, rfl, sn1_eq _ _ _, rfl, fun z8 s9 => ⟨_, rfl, rfl⟩⟩)⟩⟩))))))))))⟩⟩)⟩)⟩)))))))⟩))))))))))))))⟩)⟩)⟩)))))))⟩)))))))))⟩)⟩)))))))⟩)))))))))⟩)⟩)))))))⟩)))))))))⟩)⟩)))))))⟩)))))))))⟩)⟩)))))))⟩))))))))))))

theorem p__law_base (T : Txt K mg) : ∀ k : Nat, 4 ≤ k → HasS P w K mg base k "_law_base" 2 (sn2 m__law_base) :=
  T.d__law_base.s (lv := 3) (N := ["source", "most", "spread", "table"]) sc__law_base rfl fun a0 s0 ds hds => match ds, hds with
  | [v_most, v_spread], _ => by
    show DSs _ [some (.src a0 s0), some (.val v_most), some (.val v_spread), none] _ (m__law_base s0 v_most v_spread) _
    unfold m__law_base
    exact ds_at [some (.src a0 s0), some (.val v_most), some (.val v_spread), none] (ds_set 3 (de_callS 0 (p__law_table T _ (by show (3 : Nat) ≤ 3; decide) _ _ _) rfl (da_cons (de_var 1 rfl (da_nil (⟨rfl, _, _, _, rfl, sn1_eq _ _ _, rfl, fun z1 s2 => ds_at [some (.src a0 s2), some (.val v_most), some (.val v_spread), some (.val z1)] (ds_ret (de_tup (da_cons (de_var 3 rfl (da_cons (de_callS 0 (p__law_digits T _ (by show (3 : Nat) ≤ 3; decide) _ _ _) rfl (da_cons (de_var 3 rfl (da_cons (de_var 2 rfl (da_nil (⟨rfl, _, _, _, rfl, sn2_eq _ _ _ _, rfl, fun z3 s4 => da_nil (⟨by show (2 : Nat) ≤ 16777216; decide, ⟨_, rfl, rfl⟩⟩)⟩))))))))))))⟩))))))

theorem p__law_low (T : Txt K mg) : ∀ k : Nat, 1 ≤ k → HasP P w K mg base k "_law_low" 3 (fn3 m__law_low) :=
  T.d__law_low.p (lv := 0) (N := ["x", "y", "bottom", "a", "b", "turn", "few", "lap", "sign"]) sc__law_low rfl fun ds hds => match ds, hds with
  | [v_x, v_y, v_bottom], _ => by
    show DSs _ [some (.val v_x), some (.val v_y), some (.val v_bottom), none, none, none, none, none, none] _ (m__law_low v_x v_y v_bottom) _
    unfold m__law_low
    exact ds_at [some (.val v_x), some (.val v_y), some (.val v_bottom), none, none, none, none, none, none] (ds_par 3 4 (de_blt bl_abs T.z_abs bb_abs (da_cons (de_var 0 rfl (da_nil (⟨_, _, fn1_eq _ _, rfl, fun z1 => de_blt bl_abs T.z_abs bb_abs (da_cons (de_var 1 rfl (da_nil (⟨_, _, fn1_eq _ _, rfl, fun z2 => ds_at [some (.val v_x), some (.val v_y), some (.val v_bottom), some (.val z1), some (.val z2), none, none, none, none] (ds_forS (fun (st : D) => ([some (.val v_x), some (.val v_y), some (.val v_bottom), some (.val st), some (.val z2), none, none, none, none] : Z.Env)) (di_range1 T.z_range (de_int (⟨_, rfl, fun z3 => ⟨z1, _, _, (.s (.s (.s (.s (.s (.n (.n (.n (.n .z))))))))), rfl, fun x4 s5 => dg_name 5 (ds_at [some (.val v_x), some (.val v_y), some (.val v_bottom), some (.val s5), some (.val z2), some (.val x4), none, none, none] (ds_set 6 (de_dir (de_ifx (dt_cmp cs_eq (de_var 5 rfl (de_int (⟨_, rfl, fun z7 => ⟨_, _, rfl, de_tup (da_cons (de_var 3 rfl (da_cons (de_var 4 rfl (da_nil (⟨by show (2 : Nat) ≤ 16777216; decide, ⟨rfl, rfl⟩⟩)))))), de_tup (da_cons (de_var 3 rfl (da_cons (de_blt bl_abs T.z_abs bb_abs (da_cons (de_var 2 rfl (da_nil (⟨_, _, fn1_eq _ _, rfl, fun z8 => da_nil (⟨by show (2 : Nat) ≤ 16777216; decide, ⟨rfl, rfl⟩⟩)⟩))))))))⟩⟩))))) fun z9 => ds_at [some (.val v_x), some (.val v_y), some (.val v_bottom), some (.val s5), some (.val z2), some (.val x4), some (.val z9), none, none] (ds_forS (fun (st : D) => ([some (.val v_x), some (.val v_y), some (.val v_bottom), some (.val s5), some (.val z2), some (.val x4), some (.val st), none, none] : Z.Env)) (di_range1 T.z_range (de_int (⟨_, rfl, fun z10 => ⟨z9, _, _, (.s (.s (.s (.s (.s (.s (.s (.n (.n .z))))))))), rfl, fun x11 s12 => dg_name 7 (ds_at [some (.val v_x), some (.val v_y), some (.val v_bottom), some (.val s5), some (.val z2), some (.val x4), some (.val s12), some (.val x11), none] (ds_set 6 (de_dir (de_ifx (dt_cmp cs_ne (de_ix (de_var 6 rfl (de_int (⟨_, rfl, fun z14 => de_int (⟨_, rfl, fun z15 => ⟨_, _, rfl, de_tup (da_cons (de_ix (de_var 6 rfl (de_int (⟨_, rfl, fun z16 => da_cons (de_op bs_fmod (de_bty bl_int T.z_int bb_int (da_cons (de_ix (de_var 6 rfl (de_int (⟨_, rfl, fun z17 => da_nil (⟨_, _, fn1_eq _ _, rfl, fun z18 => de_ix (de_var 6 rfl (de_int (⟨_, rfl, fun z19 => ⟨_, rfl, fun z20 => da_nil (⟨by show (2 : Nat) ≤ 16777216; decide, ⟨rfl, rfl⟩⟩)⟩⟩)))⟩)⟩)))))))⟩))))), de_var 6 rfl (⟨rfl, rfl⟩)⟩⟩)⟩)))))) fun z21 => ds_nil (⟨z21, (.s (.s (.s (.s (.s (.s (.s (.n (.n .z))))))))), rfl⟩)))), fun s13 => ds_at [some (.val v_x), some (.val v_y), some (.val v_bottom), some (.val s5), some (.val z2), some (.val x4), some (.val s13), none, none] (ds_set 3 (de_ix (de_var 6 rfl (de_int (⟨_, rfl, fun z22 => ds_nil (⟨z22, (.s (.s (.s (.s (.s (.n (.n (.n (.n .z))))))))), rfl⟩)⟩)))))⟩⟩))))))), fun s6 => ds_at [some (.val v_x), some (.val v_y), some (.val v_bottom), some (.val s6), some (.val z2), none, none, none, none] (ds_set 8 (de_dir (de_ifx (dt_cmp cs_gt (de_var 2 rfl (de_int (⟨_, rfl, fun z23 => ⟨_, _, rfl, de_int (⟨rfl, rfl⟩), de_negc (⟨rfl, rfl⟩)⟩⟩))))) fun z24 => ds_at [some (.val v_x), some (.val v_y), some (.val v_bottom), some (.val s6), some (.val z2), none, none, none, some (.val z24)] (ds_ret (de_tup (da_cons (de_tup (da_cons (de_op bs_fdiv (de_op bs_mul (de_var 8 rfl (de_var 0 rfl (⟨_, rfl, fun z25 => de_var 3 rfl (⟨_, rfl, fun z26 => da_cons (de_op bs_fdiv (de_op bs_mul (de_var 8 rfl (de_var 1 rfl (⟨_, rfl, fun z27 => de_var 3 rfl (⟨_, rfl, fun z28 => da_nil (⟨by show (2 : Nat) ≤ 16777216; decide, da_cons (de_op bs_fdiv (de_blt bl_abs T.z_abs bb_abs (da_cons (de_var 2 rfl (da_nil (⟨_, _, fn1_eq _ _, rfl, fun z29 => de_var 3 rfl (⟨_, rfl, fun z30 => da_nil (⟨by show (2 : Nat) ≤ 16777216; decide, rfl⟩)⟩)⟩))))))⟩)⟩)⟩)))))⟩)⟩))))))))))))⟩⟩))))⟩))))⟩))))) (hw := by intro env he; cases env; cases he; rfl))

theorem p__law_name (T : Txt K mg) : ∀ k : Nat, 2 ≤ k → HasS P w K mg base k "_law_name" 2 (sn2 m__law_name) :=
  T.d__law_name.s (lv := 1) (N := ["source", "base", "most", "many", "ahead", "late", "k"]) sc__law_name rfl fun a0 s0 ds hds => match ds, hds with
  | [v_base, v_most], _ => by
    show DSs _ [some (.src a0 s0), some (.val v_base), some (.val v_most), none, none, none, none] _ (m__law_name s0 v_base v_most) _
    unfold m__law_name
    exact ds_at [some (.src a0 s0), some (.val v_base), some (.val v_most), none, none, none, none] (ds_set 3 (de_blt bl_len T.z_len bb_len (da_cons (de_ix (de_var 1 rfl (de_int (⟨_, rfl, fun z1 => da_nil (⟨_, _, fn1_eq _ _, rfl, fun z2 => ds_at [some (.src a0 s0), some (.val v_base), some (.val v_most), some (.val z2), none, none, none] (ds_set 4 (de_bty bl_tuple T.z_tuple bb_tuple (da_cons (de_lcT (fun (st : Src) => ([some (.src a0 st), some (.val v_base), some (.val v_most), some (.val z2), none, none, none] : Z.Env)) [("k", 6)] (by kernel_rfl) (di_range1 T.z_range (de_callS 0 (p__law_pick T _ (by show (1 : Nat) ≤ 1; decide) _ _ _) rfl (da_cons (de_var 2 rfl (da_nil (⟨rfl, _, _, _, rfl, sn1_eq _ _ _, rfl, fun z3 s4 => ⟨_, rfl, fun z5 => ⟨s4, _, _, (.s (.s (.s (.s (.n (.n (.n .z))))))), rfl, fun x6 s7 => dg_name 6 (dts_nil ⟨fun _ => de_callS 0 (p__law_pick T _ (by show (1 : Nat) ≤ 1; decide) _ _ _) rfl (da_cons (de_var 3 rfl (da_nil (⟨rfl, _, _, _, rfl, sn1_eq _ _ _, rfl, fun z8 s9 => ⟨s9, (.s (.s (.s (.s (.n (.n (.n .z))))))), rfl⟩⟩)))), fun h => nomatch h⟩), fun ys10 s11 => da_nil (⟨_, _, fn1_eq _ _, rfl, fun z12 => ds_at [some (.src a0 s11), some (.val v_base), some (.val v_most), some (.val z2), some (.val z12), none, none] (ds_set 5 (de_bty bl_tuple T.z_tuple bb_tuple (da_cons (de_lcT (fun (st : Src) => ([some (.src a0 st), some (.val v_base), some (.val v_most), some (.val z2), some (.val z12), none, none] : Z.Env)) [("k", 6)] (by kernel_rfl) (di_range1 T.z_range (de_op bs_add (de_int (de_callS 0 (p__law_pick T _ (by show (1 : Nat) ≤ 1; decide) _ _ _) rfl (da_cons (de_var 2 rfl (da_nil (⟨rfl, _, _, _, rfl, sn1_eq _ _ _, rfl, fun z13 s14 => ⟨_, rfl, fun z15 => ⟨_, rfl, fun z16 => ⟨s14, _, _, (.s (.s (.s (.s (.s (.n (.n .z))))))), rfl, fun x17 s18 => dg_name 6 (dts_nil ⟨fun _ => de_callS 0 (p__law_pick T _ (by show (1 : Nat) ≤ 1; decide) _ _ _) rfl (da_cons (de_var 3 rfl (da_nil (⟨rfl, _, _, _, rfl, sn1_eq _ _ _, rfl, fun z19 s20 => ⟨s20, (.s (.s (.s (.s (.s (.n (.n .z))))))), rfl⟩⟩)))), fun h => nomatch h⟩), fun ys21 s22 => da_nil (⟨_, _, fn1_eq _ _, rfl, fun z23 => ds_at [some (.src a0 s22), some (.val v_base), some (.val v_most), some (.val z2), some (.val z12), some (.val z23), none] (ds_ret (de_tup (da_cons (de_tup (da_cons (de_op bs_sub (de_callS 0 (p__law_pick T _ (by show (1 : Nat) ≤ 1; decide) _ _ _) rfl (da_cons (de_int (da_nil (⟨rfl, _, _, _, rfl, sn1_eq _ _ _, rfl, fun z24 s25 => de_int (⟨_, rfl, fun z26 => da_cons (de_op bs_sub (de_callS 0 (p__law_pick T _ (by show (1 : Nat) ≤ 1; decide) _ _ _) rfl (da_cons (de_int (da_nil (⟨rfl, _, _, _, rfl, sn1_eq _ _ _, rfl, fun z27 s28 => de_int (⟨_, rfl, fun z29 => da_nil (⟨by show (2 : Nat) ≤ 16777216; decide, da_cons (de_var 4 rfl (da_cons (de_var 5 rfl (da_nil (⟨by show (3 : Nat) ≤ 16777216; decide, ⟨_, rfl, rfl⟩⟩)))))⟩)⟩)⟩))))))⟩)⟩)))))))))))⟩)⟩⟩⟩⟩))))))))))))⟩)⟩⟩⟩))))))))))⟩)⟩)))))))

theorem p__law_sum (T : Txt K mg) : ∀ k : Nat, 2 ≤ k → HasP P w K mg base k "_law_sum" 3 (fn3 m__law_sum) :=
  T.d__law_sum.p (lv := 1) (N := ["base", "lot", "row", "number"]) sc__law_sum rfl fun ds hds => match ds, hds with
  | [v_base, v_lot, v_row], _ => by
    show DSs _ [some (.val v_base), some (.val v_lot), some (.val v_row), none] _ (m__law_sum v_base v_lot v_row) _
    unfold m__law_sum
    exact ds_at [some (.val v_base), some (.val v_lot), some (.val v_row), none] (ds_forS (fun (st : D) => ([some (.val v_base), some (.val st), some (.val v_row), none] : Z.Env)) (di_val (de_var 2 rfl (⟨_, rfl, fun z1 => ⟨v_lot, _, _, (.s (.s (.s (.n .z)))), rfl, fun x2 s3 => dg_name 3 (ds_at [some (.val v_base), some (.val s3), some (.val v_row), some (.val x2)] (ds_set 1 (de_call (p__law_add T _ (by show (1 : Nat) ≤ 1; decide) _ _ _) (da_cons (de_call (p__law_led T _ (by show (1 : Nat) ≤ 1; decide) _ _ _) (da_cons (de_ix (de_var 0 rfl (de_int (⟨_, rfl, fun z5 => da_cons (de_var 1 rfl (da_nil (⟨rfl, ⟨_, _, fn2_eq _ _ _, rfl, fun z6 => da_cons (de_ix (de_ix (de_var 0 rfl (de_int (⟨_, rfl, fun z7 => de_var 3 rfl (⟨_, rfl, fun z8 => da_nil (⟨rfl, ⟨_, _, fn2_eq _ _ _, rfl, fun z9 => ds_nil (⟨z9, (.s (.s (.s (.n .z)))), rfl⟩)⟩⟩)⟩)⟩)))))⟩⟩)))⟩)))))))))), fun s4 => ds_at [some (.val v_base), some (.val s4), some (.val v_row), none] (ds_ret (de_var 1 rfl (rfl)))⟩⟩))))

theorem p__law_behind (T : Txt K mg) : ∀ k : Nat, 2 ≤ k → HasP P w K mg base k "_law_behind" 2 (fn2 m__law_behind) :=
  T.d__law_behind.p (lv := 1) (N := ["one", "other", "rows", "k"]) sc__law_behind rfl fun ds hds => match ds, hds with
  | [v_one, v_other], _ => by
    show DSs _ [some (.val v_one), some (.val v_other), none, none] _ (m__law_behind v_one v_other) _
    unfold m__law_behind
    exact ds_at [some (.val v_one), some (.val v_other), none, none] (ds_setLcP 2 [("k", 3)] (by kernel_rfl) (di_range1 T.z_range (de_int (⟨_, rfl, fun z1 => ⟨[some (.val v_one), some (.val v_other), none, none], _, _, (.s (.s (.n (.n .z)))), rfl, rfl, fun x2 => dg_name 3 (dts_nil ⟨fun _ => de_call (p__law_led T _ (by show (1 : Nat) ≤ 1; decide) _ _ _) (da_cons (de_var 0 rfl (da_cons (de_tup (da_cons (de_ix (de_ix (de_var 1 rfl (de_int (⟨_, rfl, fun z3 => de_var 3 rfl (⟨_, rfl, fun z4 => da_cons (de_ix (de_ix (de_var 1 rfl (de_int (⟨_, rfl, fun z5 => de_var 3 rfl (⟨_, rfl, fun z6 => da_nil (⟨by show (2 : Nat) ≤ 16777216; decide, da_nil (⟨rfl, ⟨_, _, fn2_eq _ _ _, rfl, fun z7 => rfl⟩⟩)⟩)⟩)⟩)))))⟩)⟩)))))))))), fun h => nomatch h⟩), fun ys8 => ds_at [some (.val v_one), some (.val v_other), some (.val (PyData.list ys8)), none] (ds_ret (de_tup (da_cons (de_tup (da_cons (de_ix (de_ix (de_var 2 rfl (de_int (⟨_, rfl, fun z9 => de_int (⟨_, rfl, fun z10 => da_cons (de_ix (de_ix (de_var 2 rfl (de_int (⟨_, rfl, fun z11 => de_int (⟨_, rfl, fun z12 => da_nil (⟨by show (2 : Nat) ≤ 16777216; decide, da_cons (de_tup (da_cons (de_ix (de_ix (de_var 2 rfl (de_int (⟨_, rfl, fun z13 => de_int (⟨_, rfl, fun z14 => da_cons (de_ix (de_ix (de_var 2 rfl (de_int (⟨_, rfl, fun z15 => de_int (⟨_, rfl, fun z16 => da_nil (⟨by show (2 : Nat) ≤ 16777216; decide, da_nil (⟨by show (2 : Nat) ≤ 16777216; decide, rfl⟩)⟩)⟩)⟩)))))⟩)⟩)))))))⟩)⟩)⟩)))))⟩)⟩))))))))))⟩⟩))) (hsw := fun env he => sw_true (by rw [he]; rfl) (by rw [he]; rfl) rfl (by decide +kernel)))

theorem p__law_power (T : Txt K mg) : ∀ k : Nat, 3 ≤ k → HasP P w K mg base k "_law_power" 2 (fn2 m__law_power) :=
  T.d__law_power.p (lv := 2) (N := ["table", "many", "found", "lap"]) sc__law_power rfl fun ds hds => match ds, hds with
  | [v_table, v_many], _ => by
    show DSs _ [some (.val v_table), some (.val v_many), none, none] _ (m__law_power v_table v_many) _
    unfold m__law_power
    exact ds_at [some (.val v_table), some (.val v_many), none, none] (ds_set 2 (de_tup (da_cons (de_tup (da_cons (de_int (da_cons (de_int (da_nil (⟨by show (2 : Nat) ≤ 16777216; decide, da_cons (de_tup (da_cons (de_int (da_cons (de_int (da_nil (⟨by show (2 : Nat) ≤ 16777216; decide, da_nil (⟨by show (2 : Nat) ≤ 16777216; decide, ds_at [some (.val v_table), some (.val v_many), some (.val (PyData.tuple [(PyData.tuple [(PyData.int 1), (PyData.int 0)]), (PyData.tuple [(PyData.int 0), (PyData.int 1)])])), none] (ds_forS (fun (st : D) => ([some (.val v_table), some (.val v_many), some (.val st), none] : Z.Env)) (di_range1 T.z_range (de_var 1 rfl (⟨_, rfl, fun z1 => ⟨(PyData.tuple [(PyData.tuple [(PyData.int 1), (PyData.int 0)]), (PyData.tuple [(PyData.int 0), (PyData.int 1)])]), _, _, (.s (.s (.s (.n .z)))), rfl, fun x2 s3 => dg_name 3 (ds_at [some (.val v_table), some (.val v_many), some (.val s3), some (.val x2)] (ds_set 2 (de_call (p__law_behind T _ (by show (2 : Nat) ≤ 2; decide) _ _ _) (da_cons (de_var 0 rfl (da_cons (de_var 2 rfl (da_nil (⟨rfl, ⟨_, _, fn2_eq _ _ _, rfl, fun z5 => ds_nil (⟨z5, (.s (.s (.s (.n .z)))), rfl⟩)⟩⟩))))))))), fun s4 => ds_at [some (.val v_table), some (.val v_many), some (.val s4), none] (ds_ret (de_var 2 rfl (rfl)))⟩⟩))))⟩)⟩)))))))⟩))))))))))

theorem p__law_solved (T : Txt K mg) : ∀ k : Nat, 2 ≤ k → HasP P w K mg base k "_law_solved" 2 (fn2 m__law_solved) :=
  T.d__law_solved.p (lv := 1) (N := ["table", "lot", "a", "b", "c", "d"]) sc__law_solved rfl fun ds hds => match ds, hds with
  | [v_table, v_lot], _ => by
    show DSs _ [some (.val v_table), some (.val v_lot), none, none, none, none] _ (m__law_solved v_table v_lot) _
    unfold m__law_solved
    exact ds_at [some (.val v_table), some (.val v_lot), none, none, none, none] (ds_asg (de_var 0 rfl (dg_tup2 rfl fun p1 p2 => dgs_cons (dg_tup2 rfl fun p3 p4 => dgs_cons (dg_name 2 (dgs_cons (dg_name 3 (dgs_nil (dgs_cons (dg_tup2 rfl fun p5 p6 => dgs_cons (dg_name 4 (dgs_cons (dg_name 5 (dgs_nil (dgs_nil (ds_at [some (.val v_table), some (.val v_lot), some (.val p3), some (.val p4), some (.val p5), some (.val p6)] (ds_ret (de_call (p__law_low T _ (by show (1 : Nat) ≤ 1; decide) _ _ _) (da_cons (de_op bs_sub (de_op bs_mul (de_var 5 rfl (de_ix (de_var 1 rfl (de_int (⟨_, rfl, fun z7 => ⟨_, rfl, fun z8 => de_op bs_mul (de_var 3 rfl (de_ix (de_var 1 rfl (de_int (⟨_, rfl, fun z9 => ⟨_, rfl, fun z10 => ⟨_, rfl, fun z11 => da_cons (de_op bs_sub (de_op bs_mul (de_var 2 rfl (de_ix (de_var 1 rfl (de_int (⟨_, rfl, fun z12 => ⟨_, rfl, fun z13 => de_op bs_mul (de_var 4 rfl (de_ix (de_var 1 rfl (de_int (⟨_, rfl, fun z14 => ⟨_, rfl, fun z15 => ⟨_, rfl, fun z16 => da_cons (de_call (p__law_det T _ (by show (1 : Nat) ≤ 1; decide) _ _ _) (da_cons (de_var 0 rfl (da_nil (⟨rfl, ⟨_, _, fn1_eq _ _, rfl, fun z17 => da_nil (⟨rfl, ⟨_, _, fn3_eq _ _ _ _, rfl, fun z18 => rfl⟩⟩)⟩⟩)))))⟩⟩⟩)))))⟩⟩)))))))⟩⟩⟩)))))⟩⟩))))))))))))))))))))))))))

theorem p__law_worth (T : Txt K mg) : ∀ k : Nat, 4 ≤ k → HasP P w K mg base k "_law_worth" 2 (fn2 m__law_worth) :=
  T.d__law_worth.p (lv := 3) (N := ["base", "name", "lot", "ahead", "late", "power", "less", "x", "y", "bottom", "whole", "p", "q", "more"]) sc__law_worth rfl fun ds hds => match ds, hds with
  | [v_base, v_name], _ => by
    show DSs _ [some (.val v_base), some (.val v_name), none, none, none, none, none, none, none, none, none, none, none, none] _ (m__law_worth v_base v_name) _
    unfold m__law_worth
    exact ds_at [some (.val v_base), some (.val v_name), none, none, none, none, none, none, none, none, none, none, none, none] (ds_asg (de_var 1 rfl (dg_tup3 rfl fun p1 p2 p3 => dgs_cons (dg_name 2 (dgs_cons (dg_name 3 (dgs_cons (dg_name 4 (dgs_nil (ds_at [some (.val v_base), some (.val v_name), some (.val p1), some (.val p2), some (.val p3), none, none, none, none, none, none, none, none, none] (ds_set 5 (de_call (p__law_power T _ (by show (3 : Nat) ≤ 3; decide) _ _ _) (da_cons (de_ix (de_var 0 rfl (de_int (⟨_, rfl, fun z4 => da_cons (de_blt bl_len T.z_len bb_len (da_cons (de_var 4 rfl (da_nil (⟨_, _, fn1_eq _ _, rfl, fun z5 => da_nil (⟨rfl, ⟨_, _, fn2_eq _ _ _, rfl, fun z6 => ds_at [some (.val v_base), some (.val v_name), some (.val p1), some (.val p2), some (.val p3), some (.val z6), none, none, none, none, none, none, none, none] (ds_set 6 (de_tup (da_cons (de_tup (da_cons (de_op bs_sub (de_ix (de_ix (de_var 5 rfl (de_int (⟨_, rfl, fun z7 => de_int (⟨_, rfl, fun z8 => de_int (⟨_, rfl, fun z9 => da_cons (de_ix (de_ix (de_var 5 rfl (de_int (⟨_, rfl, fun z10 => de_int (⟨_, rfl, fun z11 => da_nil (⟨by show (2 : Nat) ≤ 16777216; decide, da_cons (de_tup (da_cons (de_ix (de_ix (de_var 5 rfl (de_int (⟨_, rfl, fun z12 => de_int (⟨_, rfl, fun z13 => da_cons (de_op bs_sub (de_ix (de_ix (de_var 5 rfl (de_int (⟨_, rfl, fun z14 => de_int (⟨_, rfl, fun z15 => de_int (⟨_, rfl, fun z16 => da_nil (⟨by show (2 : Nat) ≤ 16777216; decide, da_nil (⟨by show (2 : Nat) ≤ 16777216; decide, ds_at [some (.val v_base), some (.val v_name), some (.val p1), some (.val p2), some (.val p3), some (.val z6), some (.val (PyData.tuple [(PyData.tuple [z9, z11]), (PyData.tuple [z13, z16])])), none, none, none, none, none, none, none] (ds_asg (de_call (p__law_solved T _ (by show (2 : Nat) ≤ 3; decide) _ _ _) (da_cons (de_var 6 rfl (da_cons (de_call (p__law_sum T _ (by show (2 : Nat) ≤ 3; decide) _ _ _) (da_cons (de_var 0 rfl (da_cons (de_tup (da_cons (de_int (da_cons (de_int (da_nil (⟨by show (2 : Nat) ≤ 16777216; decide, da_cons (de_var 4 rfl (da_nil (⟨rfl, ⟨_, _, fn3_eq _ _ _ _, rfl, fun z17 => da_nil (⟨rfl, ⟨_, _, fn2_eq _ _ _, rfl, fun z18 => dg_tup2 rfl fun p19 p20 => dgs_cons (dg_tup2 rfl fun p21 p22 => dgs_cons (dg_name 7 (dgs_cons (dg_name 8 (dgs_nil (dgs_cons (dg_name 9 (dgs_nil (ds_at [some (.val v_base), some (.val v_name), some (.val p1), some (.val p2), some (.val p3), some (.val z6), some (.val (PyData.tuple [(PyData.tuple [z9, z11]), (PyData.tuple [z13, z16])])), some (.val p21), some (.val p22), some (.val p20), none, none, none, none] (ds_set 10 (de_call (p__law_sum T _ (by show (2 : Nat) ≤ 3; decide) _ _ _) (da_cons (de_var 0 rfl (da_cons (de_var 2 rfl (da_cons (de_var 3 rfl (da_nil (⟨rfl, ⟨_, _, fn3_eq _ _ _ _, rfl, fun z23 => ds_at [some (.val v_base), some (.val v_name), some (.val p1), some (.val p2), some (.val p3), some (.val z6), some (.val (PyData.tuple [(PyData.tuple [z9, z11]), (PyData.tuple [z13, z16])])), some (.val p21), some (.val p22), some (.val p20), some (.val z23), none, none, none] (ds_set 5 (de_call (p__law_power T _ (by show (3 : Nat) ≤ 3; decide) _ _ _) (da_cons (de_ix (de_var 0 rfl (de_int (⟨_, rfl, fun z24 => da_cons (de_blt bl_len T.z_len bb_len (da_cons (de_var 3 rfl (da_nil (⟨_, _, fn1_eq _ _, rfl, fun z25 => da_nil (⟨rfl, ⟨_, _, fn2_eq _ _ _, rfl, fun z26 => ds_at [some (.val v_base), some (.val v_name), some (.val p1), some (.val p2), some (.val p3), some (.val z26), some (.val (PyData.tuple [(PyData.tuple [z9, z11]), (PyData.tuple [z13, z16])])), some (.val p21), some (.val p22), some (.val p20), some (.val z23), none, none, none] (ds_asg (de_call (p__law_solved T _ (by show (2 : Nat) ≤ 3; decide) _ _ _) (da_cons (de_var 5 rfl (da_cons (de_tup (da_cons (de_op bs_add (de_op bs_mul (de_ix (de_var 10 rfl (de_int (⟨_, rfl, fun z27 => de_var 9 rfl (⟨_, rfl, fun z28 => de_var 7 rfl (⟨_, rfl, fun z29 => da_cons (de_op bs_add (de_op bs_mul (de_ix (de_var 10 rfl (de_int (⟨_, rfl, fun z30 => de_var 9 rfl (⟨_, rfl, fun z31 => de_var 8 rfl (⟨_, rfl, fun z32 => da_nil (⟨by show (2 : Nat) ≤ 16777216; decide, da_nil (⟨rfl, ⟨_, _, fn2_eq _ _ _, rfl, fun z33 => dg_tup2 rfl fun p34 p35 => dgs_cons (dg_tup2 rfl fun p36 p37 => dgs_cons (dg_name 11 (dgs_cons (dg_name 12 (dgs_nil (dgs_cons (dg_name 13 (dgs_nil (ds_at [some (.val v_base), some (.val v_name), some (.val p1), some (.val p2), some (.val p3), some (.val z26), some (.val (PyData.tuple [(PyData.tuple [z9, z11]), (PyData.tuple [z13, z16])])), some (.val p21), some (.val p22), some (.val p20), some (.val z23), some (.val p36), some (.val p37), some (.val p35)] (ds_ret (de_call (p__law_low T _ (by show (1 : Nat) ≤ 3; decide) _ _ _) (da_cons (de_var 11 rfl (da_cons (de_var 12 rfl (da_cons (de_op bs_mul (de_var 13 rfl (de_var 9 rfl (⟨_, rfl, fun z38 => da_nil (⟨rfl, ⟨_, _, fn3_eq _ _ _ _, rfl, fun z39 => rfl⟩⟩)⟩))))))))))))))))))))⟩⟩)⟩)⟩)⟩)⟩))))))⟩)⟩)⟩)))))))))))))⟩⟩)⟩)))))⟩)))))))⟩⟩)))))))))))))))))))⟩⟩)⟩⟩)))⟩))))))))))))))))⟩)⟩)⟩)⟩)⟩))))))⟩)⟩)))))))⟩)⟩)⟩)))))⟩)⟩)⟩)))))))))))⟩⟩)⟩)))))⟩)))))))))))))))))

theorem p__law_near (T : Txt K mg) : ∀ k : Nat, 3 ≤ k → HasP P w K mg base k "_law_near" 4 (fn4 m__law_near) :=
  T.d__law_near.p (lv := 2) (N := ["base", "name", "point", "many", "lot", "ahead", "late", "x", "y", "bottom", "row", "here", "number", "whole", "left"]) sc__law_near rfl fun ds hds => match ds, hds with
  | [v_base, v_name, v_point, v_many], _ => by
    show DSs _ [some (.val v_base), some (.val v_name), some (.val v_point), some (.val v_many), none, none, none, none, none, none, none, none, none, none, none] _ (m__law_near v_base v_name v_point v_many) _
    unfold m__law_near
    exact ds_at [some (.val v_base), some (.val v_name), some (.val v_point), some (.val v_many), none, none, none, none, none, none, none, none, none, none, none] (ds_asg (de_var 1 rfl (dg_tup3 rfl fun p1 p2 p3 => dgs_cons (dg_name 4 (dgs_cons (dg_name 5 (dgs_cons (dg_name 6 (dgs_nil (ds_at [some (.val v_base), some (.val v_name), some (.val v_point), some (.val v_many), some (.val p1), some (.val p2), some (.val p3), none, none, none, none, none, none, none, none] (ds_asg (de_var 2 rfl (dg_tup2 rfl fun p4 p5 => dgs_cons (dg_tup2 rfl fun p6 p7 => dgs_cons (dg_name 7 (dgs_cons (dg_name 8 (dgs_nil (dgs_cons (dg_name 9 (dgs_nil (ds_at [some (.val v_base), some (.val v_name), some (.val v_point), some (.val v_many), some (.val p1), some (.val p2), some (.val p3), some (.val p6), some (.val p7), some (.val p5), none, none, none, none, none] (ds_set 10 (de_op bs_add (de_var 5 rfl (de_op bs_mul (de_var 6 rfl (de_var 3 rfl (⟨_, rfl, fun z8 => ⟨_, rfl, fun z9 => ds_at [some (.val v_base), some (.val v_name), some (.val v_point), some (.val v_many), some (.val p1), some (.val p2), some (.val p3), some (.val p6), some (.val p7), some (.val p5), some (.val z9), none, none, none, none] (ds_set 11 (de_tup (da_cons (de_var 7 rfl (da_cons (de_var 8 rfl (da_nil (⟨by show (2 : Nat) ≤ 16777216; decide, ds_at [some (.val v_base), some (.val v_name), some (.val v_point), some (.val v_many), some (.val p1), some (.val p2), some (.val p3), some (.val p6), some (.val p7), some (.val p5), some (.val z9), some (.val (PyData.tuple [p6, p7])), none, none, none] (ds_forS (fun (st : D) => ([some (.val v_base), some (.val v_name), some (.val v_point), some (.val v_many), some (.val p1), some (.val p2), some (.val p3), some (.val p6), some (.val p7), some (.val p5), some (.val z9), some (.val st), none, none, none] : Z.Env)) (di_val (de_var 10 rfl (⟨_, rfl, fun z10 => ⟨(PyData.tuple [p6, p7]), _, _, (.s (.s (.s (.s (.s (.s (.s (.s (.s (.s (.s (.s (.n (.n (.n .z))))))))))))))), rfl, fun x11 s12 => dg_name 12 (ds_at [some (.val v_base), some (.val v_name), some (.val v_point), some (.val v_many), some (.val p1), some (.val p2), some (.val p3), some (.val p6), some (.val p7), some (.val p5), some (.val z9), some (.val s12), some (.val x11), none, none] (ds_set 11 (de_call (p__law_led T _ (by show (1 : Nat) ≤ 2; decide) _ _ _) (da_cons (de_ix (de_var 0 rfl (de_int (⟨_, rfl, fun z14 => da_cons (de_var 11 rfl (da_nil (⟨rfl, ⟨_, _, fn2_eq _ _ _, rfl, fun z15 => ds_nil (⟨z15, (.s (.s (.s (.s (.s (.s (.s (.s (.s (.s (.s (.s (.n (.n (.n .z))))))))))))))), rfl⟩)⟩⟩)))⟩)))))))), fun s13 => ds_at [some (.val v_base), some (.val v_name), some (.val v_point), some (.val v_many), some (.val p1), some (.val p2), some (.val p3), some (.val p6), some (.val p7), some (.val p5), some (.val z9), some (.val s13), none, none, none] (ds_set 13 (de_call (p__law_sum T _ (by show (2 : Nat) ≤ 2; decide) _ _ _) (da_cons (de_var 0 rfl (da_cons (de_var 4 rfl (da_cons (de_var 10 rfl (da_nil (⟨rfl, ⟨_, _, fn3_eq _ _ _ _, rfl, fun z16 => ds_at [some (.val v_base), some (.val v_name), some (.val v_point), some (.val v_many), some (.val p1), some (.val p2), some (.val p3), some (.val p6), some (.val p7), some (.val p5), some (.val z9), some (.val s13), none, some (.val z16), none] (ds_set 14 (de_tup (da_cons (de_op bs_sub (de_ix (de_var 11 rfl (de_int (⟨_, rfl, fun z17 => de_op bs_mul (de_ix (de_var 13 rfl (de_int (⟨_, rfl, fun z18 => de_var 9 rfl (⟨_, rfl, fun z19 => ⟨_, rfl, fun z20 => da_cons (de_op bs_sub (de_ix (de_var 11 rfl (de_int (⟨_, rfl, fun z21 => de_op bs_mul (de_ix (de_var 13 rfl (de_int (⟨_, rfl, fun z22 => de_var 9 rfl (⟨_, rfl, fun z23 => ⟨_, rfl, fun z24 => da_nil (⟨by show (2 : Nat) ≤ 16777216; decide, ds_at [some (.val v_base), some (.val v_name), some (.val v_point), some (.val v_many), some (.val p1), some (.val p2), some (.val p3), some (.val p6), some (.val p7), some (.val p5), some (.val z9), some (.val s13), none, some (.val z16), some (.val (PyData.tuple [z20, z24]))] (ds_ret (de_cmp cs_le (de_blt bl_max2 T.z_max bb_max (da_cons (de_blt bl_abs T.z_abs bb_abs (da_cons (de_ix (de_var 14 rfl (de_int (⟨_, rfl, fun z25 => da_nil (⟨_, _, fn1_eq _ _, rfl, fun z26 => da_cons (de_blt bl_abs T.z_abs bb_abs (da_cons (de_ix (de_var 14 rfl (de_int (⟨_, rfl, fun z27 => da_nil (⟨_, _, fn1_eq _ _, rfl, fun z28 => da_nil (⟨_, _, fn2_eq _ _ _, rfl, fun z29 => de_op bs_mul (de_int (de_var 9 rfl (⟨_, rfl, fun z30 => ⟨_, rfl, fun z31 => rfl⟩⟩)))⟩)⟩)⟩))))))⟩)⟩))))))))))⟩)⟩⟩)⟩))))⟩)))))⟩⟩)⟩))))⟩))))))))⟩⟩))))))))))⟩⟩))))⟩))))))))⟩⟩)))))))))))))))))))))))))))))

theorem p_law (T : Txt K mg) (ns : List Int) : DSs ⟨P, w, K, mg, base, 4, ["script", "source", "lap", "base", "name", "lot", "ahead", "late", "kept", "told", "due", "more", "x", "y", "bottom", "shown", "some", "row", "first", "rest", "there", "left", "square"], defScope s_law, fun _ => true⟩ (startE ["script", "source", "lap", "base", "name", "lot", "ahead", "late", "kept", "told", "due", "more", "x", "y", "bottom", "shown", "some", "row", "first", "rest", "there", "left", "square"] [.scr ns]) (defBody s_law) (m_law ns) Jf := by
    show DSs _ [some (.scr ns), none, none, none, none, none, none, none, none, none, none, none, none, none, none, none, none, none, none, none, none, none, none] _ (m_law ns) _
    unfold m_law
    exact ds_at [some (.scr ns), none, none, none, none, none, none, none, none, none, none, none, none, none, none, none, none, none, none, none, none, none, none] (ds_source 1 0 (p__law_source T _ (by show (1 : Nat) ≤ 4; decide) _ _ _) rfl rfl fun a0 s1 => ds_at [some (.scr ns), some (.src a0 s1), none, none, none, none, none, none, none, none, none, none, none, none, none, none, none, none, none, none, none, none, none] (ds_forT (fun (st : Src) => ([some (.scr ns), some (.src a0 st), none, none, none, none, none, none, none, none, none, none, none, none, none, none, none, none, none, none, none, none, none] : Z.Env)) (di_range1 T.z_range (de_int (⟨_, rfl, fun z2 => ⟨s1, _, _, (.s (.s (.n (.n (.n (.n (.n (.n (.n (.n (.n (.n (.n (.n (.n (.n (.n (.n (.n (.n (.n (.n (.n .z))))))))))))))))))))))), rfl, fun x3 s4 => dg_name 2 (ds_at [some (.scr ns), some (.src a0 s4), some (.val x3), none, none, none, none, none, none, none, none, none, none, none, none, none, none, none, none, none, none, none, none] (ds_set 3 (de_callS 1 (p__law_base T _ (by show (4 : Nat) ≤ 4; decide) _ _ _) rfl (da_cons (de_int (da_cons (de_callS 1 (p__law_of T _ (by show (2 : Nat) ≤ 4; decide) _ _ _) rfl (da_cons (de_lst (da_cons (de_int (da_cons (de_int (da_cons (de_int (da_cons (de_int (da_nil (⟨by show (4 : Nat) ≤ 16777216; decide, da_nil (⟨rfl, _, _, _, rfl, sn1_eq _ _ _, rfl, fun z6 s7 => da_nil (⟨rfl, _, _, _, rfl, sn2_eq _ _ _ _, rfl, fun z8 s9 => ds_at [some (.scr ns), some (.src a0 s9), some (.val x3), some (.val z8), none, none, none, none, none, none, none, none, none, none, none, none, none, none, none, none, none, none, none] (ds_set 4 (de_callS 1 (p__law_name T _ (by show (2 : Nat) ≤ 4; decide) _ _ _) rfl (da_cons (de_var 3 rfl (da_cons (de_callS 1 (p__law_of T _ (by show (2 : Nat) ≤ 4; decide) _ _ _) rfl (da_cons (de_lst (da_cons (de_int (da_cons (de_int (da_cons (de_int (da_cons (de_int (da_nil (⟨by show (4 : Nat) ≤ 16777216; decide, da_nil (⟨rfl, _, _, _, rfl, sn1_eq _ _ _, rfl, fun z10 s11 => da_nil (⟨rfl, _, _, _, rfl, sn2_eq _ _ _ _, rfl, fun z12 s13 => ds_at [some (.scr ns), some (.src a0 s13), some (.val x3), some (.val z8), some (.val z12), none, none, none, none, none, none, none, none, none, none, none, none, none, none, none, none, none, none] (ds_asg (de_var 4 rfl (dg_tup3 rfl fun p14 p15 p16 => dgs_cons (dg_name 5 (dgs_cons (dg_name 6 (dgs_cons (dg_name 7 (dgs_nil (ds_at [some (.scr ns), some (.src a0 s13), some (.val x3), some (.val z8), some (.val z12), some (.val p14), some (.val p15), some (.val p16), none, none, none, none, none, none, none, none, none, none, none, none, none, none, none] (ds_parN3 8 9 10 (dps_val 8 (de_blt bl_repr T.z_repr bb_repr (da_cons (de_lst (da_cons (de_var 3 rfl (da_cons (de_var 4 rfl (da_nil (⟨by show (2 : Nat) ≤ 16777216; decide, da_nil (⟨_, _, fn1_eq _ _, rfl, fun z17 => dps_val 9 (de_call (p_worth T _ (by show (4 : Nat) ≤ 4; decide) _ _ _) (da_cons (de_var 3 rfl (da_cons (de_var 4 rfl (da_nil (⟨rfl, ⟨_, _, fn2_eq _ _ _, rfl, fun z18 => dps_val 10 (de_call (p__law_worth T _ (by show (4 : Nat) ≤ 4; decide) _ _ _) (da_cons (de_var 3 rfl (da_cons (de_var 4 rfl (da_nil (⟨rfl, ⟨_, _, fn2_eq _ _ _, rfl, fun z19 => dps_nil (ds_at [some (.scr ns), some (.src a0 s13), some (.val x3), some (.val z8), some (.val z12), some (.val p14), some (.val p15), some (.val p16), some (.val z17), some (.val z18), some (.val z19), none, none, none, none, none, none, none, none, none, none, none, none] (ds_if (dt_dir (dt_w (dw_or (dt_cmp cs_ne (de_blt bl_repr T.z_repr bb_repr (da_cons (de_var 9 rfl (da_nil (⟨_, _, fn1_eq _ _, rfl, fun z20 => de_blt bl_repr T.z_repr bb_repr (da_cons (de_var 10 rfl (da_nil (⟨_, _, fn1_eq _ _, rfl, fun z21 => ⟨_, rfl, fun z22 => ⟨_, _, rfl, ⟨rfl, rfl⟩, dw_or1 (dt_not (dt_truth (de_call (p__law_near T _ (by show (3 : Nat) ≤ 4; decide) _ _ _) (da_cons (de_var 3 rfl (da_cons (de_var 4 rfl (da_cons (de_var 9 rfl (da_cons (de_int (da_nil (⟨rfl, ⟨_, _, fn4_eq _ _ _ _ _, rfl, fun z23 => ⟨_, rfl, fun z24 => ⟨rfl, rfl⟩⟩⟩⟩)))))))))))))⟩⟩⟩))))⟩)))))))) fun t25 => ⟨_, _, rfl, ds_ret (de_bool (⟨s13, (.s (.s (.n (.n (.n (.n (.n (.n (.n (.n (.n (.n (.n (.n (.n (.n (.n (.n (.n (.n (.n (.n (.n .z))))))))))))))))))))))), rfl⟩)), ds_nil (ds_set 11 (de_tup (da_cons (de_op bs_sub (de_callS 1 (p__law_pick T _ (by show (1 : Nat) ≤ 4; decide) _ _ _) rfl (da_cons (de_int (da_nil (⟨rfl, _, _, _, rfl, sn1_eq _ _ _, rfl, fun z26 s27 => de_int (⟨_, rfl, fun z28 => da_cons (de_op bs_sub (de_callS 1 (p__law_pick T _ (by show (1 : Nat) ≤ 4; decide) _ _ _) rfl (da_cons (de_int (da_nil (⟨rfl, _, _, _, rfl, sn1_eq _ _ _, rfl, fun z29 s30 => de_int (⟨_, rfl, fun z31 => da_nil (⟨by show (2 : Nat) ≤ 16777216; decide, ds_at [some (.scr ns), some (.src a0 s30), some (.val x3), some (.val z8), some (.val z12), some (.val p14), some (.val p15), some (.val p16), some (.val z17), some (.val z18), some (.val z19), some (.val (PyData.tuple [z28, z31])), none, none, none, none, none, none, none, none, none, none, none] (ds_asg (de_var 10 rfl (dg_tup2 rfl fun p32 p33 => dgs_cons (dg_tup2 rfl fun p34 p35 => dgs_cons (dg_name 12 (dgs_cons (dg_name 13 (dgs_nil (dgs_cons (dg_name 14 (dgs_nil (ds_at [some (.scr ns), some (.src a0 s30), some (.val x3), some (.val z8), some (.val z12), some (.val p14), some (.val p15), some (.val p16), some (.val z17), some (.val z18), some (.val z19), some (.val (PyData.tuple [z28, z31])), some (.val p34), some (.val p35), some (.val p33), none, none, none, none, none, none, none, none] (ds_own 15 (dn_lst (da_cons (de_call (p_worth T _ (by show (4 : Nat) ≤ 4; decide) _ _ _) (da_cons (de_var 3 rfl (da_cons (de_tup (da_cons (de_call (p__law_add T _ (by show (1 : Nat) ≤ 4; decide) _ _ _) (da_cons (de_var 5 rfl (da_cons (de_var 11 rfl (da_nil (⟨rfl, ⟨_, _, fn2_eq _ _ _, rfl, fun z36 => da_cons (de_var 6 rfl (da_cons (de_var 7 rfl (da_nil (⟨by show (3 : Nat) ≤ 16777216; decide, da_nil (⟨rfl, ⟨_, _, fn2_eq _ _ _, rfl, fun z37 => da_cons (de_call (p_worth T _ (by show (4 : Nat) ≤ 4; decide) _ _ _) (da_cons (de_var 3 rfl (da_cons (de_tup (da_cons (de_var 5 rfl (da_cons (de_var 6 rfl (da_cons (de_op bs_add (de_var 7 rfl (de_var 7 rfl (⟨_, rfl, fun z38 => da_nil (⟨by show (3 : Nat) ≤ 16777216; decide, da_nil (⟨rfl, ⟨_, _, fn2_eq _ _ _, rfl, fun z39 => da_nil (⟨by show (2 : Nat) ≤ 16777216; decide, ds_at [some (.scr ns), some (.src a0 s30), some (.val x3), some (.val z8), some (.val z12), some (.val p14), some (.val p15), some (.val p16), some (.val z17), some (.val z18), some (.val z19), some (.val (PyData.tuple [z28, z31])), some (.val p34), some (.val p35), some (.val p33), some (.own [z37, z39]), none, none, none, none, none, none, none] (ds_expr (de_om F.slot_list_append F.type_list_append om_append 15 rfl (da_cons (de_call (p_worth T _ (by show (4 : Nat) ≤ 4; decide) _ _ _) (da_cons (de_var 3 rfl (da_cons (de_tup (da_cons (de_var 5 rfl (da_cons (de_op bs_add (de_var 6 rfl (de_slice (de_var 7 rfl (de_int (.inl ⟨_, rfl, ⟨_, rfl, fun z40 => ⟨_, rfl, fun z41 => da_cons (de_op bs_add (de_slice (de_var 7 rfl (de_int (.inl ⟨_, rfl, ⟨_, rfl, fun z42 => de_slice (de_var 7 rfl (de_int (.inl ⟨_, rfl, ⟨_, rfl, fun z43 => ⟨_, rfl, fun z44 => da_nil (⟨by show (3 : Nat) ≤ 16777216; decide, da_nil (⟨rfl, ⟨_, _, fn2_eq _ _ _, rfl, fun z45 => da_nil (⟨_, _, rfl, rfl, fun z46 y47 => ds_at [some (.scr ns), some (.src a0 s30), some (.val x3), some (.val z8), some (.val z12), some (.val p14), some (.val p15), some (.val p16), some (.val z17), some (.val z18), some (.val z19), some (.val (PyData.tuple [z28, z31])), some (.val p34), some (.val p35), some (.val p33), some (.own y47), none, none, none, none, none, none, none] (ds_own 16 (dn_lst (da_cons (de_call (p__law_low T _ (by show (1 : Nat) ≤ 4; decide) _ _ _) (da_cons (de_op bs_add (de_var 12 rfl (de_op bs_mul (de_ix (de_var 11 rfl (de_int (⟨_, rfl, fun z48 => de_var 14 rfl (⟨_, rfl, fun z49 => ⟨_, rfl, fun z50 => da_cons (de_op bs_add (de_var 13 rfl (de_op bs_mul (de_ix (de_var 11 rfl (de_int (⟨_, rfl, fun z51 => de_var 14 rfl (⟨_, rfl, fun z52 => ⟨_, rfl, fun z53 => da_cons (de_var 14 rfl (da_nil (⟨rfl, ⟨_, _, fn3_eq _ _ _ _, rfl, fun z54 => da_cons (de_var 10 rfl (da_cons (de_var 10 rfl (da_nil (⟨by show (3 : Nat) ≤ 16777216; decide, ds_at [some (.scr ns), some (.src a0 s30), some (.val x3), some (.val z8), some (.val z12), some (.val p14), some (.val p15), some (.val p16), some (.val z17), some (.val z18), some (.val z19), some (.val (PyData.tuple [z28, z31])), some (.val p34), some (.val p35), some (.val p33), some (.own y47), some (.own [z54, z19, z19]), none, none, none, none, none, none] (ds_set 17 (de_op bs_add (de_var 6 rfl (de_var 7 rfl (⟨_, rfl, fun z55 => ds_at [some (.scr ns), some (.src a0 s30), some (.val x3), some (.val z8), some (.val z12), some (.val p14), some (.val p15), some (.val p16), some (.val z17), some (.val z18), some (.val z19), some (.val (PyData.tuple [z28, z31])), some (.val p34), some (.val p35), some (.val p33), some (.own y47), some (.own [z54, z19, z19]), some (.val z55), none, none, none, none, none] (ds_set 18 (de_call (p__law_add T _ (by show (1 : Nat) ≤ 4; decide) _ _ _) (da_cons (de_call (p__law_led T _ (by show (1 : Nat) ≤ 4; decide) _ _ _) (da_cons (de_ix (de_var 3 rfl (de_int (⟨_, rfl, fun z56 => da_cons (de_var 5 rfl (da_nil (⟨rfl, ⟨_, _, fn2_eq _ _ _, rfl, fun z57 => da_cons (de_ix (de_ix (de_var 3 rfl (de_int (⟨_, rfl, fun z58 => de_ix (de_var 17 rfl (de_int (⟨_, rfl, fun z59 => ⟨_, rfl, fun z60 => da_nil (⟨rfl, ⟨_, _, fn2_eq _ _ _, rfl, fun z61 => ds_at [some (.scr ns), some (.src a0 s30), some (.val x3), some (.val z8), some (.val z12), some (.val p14), some (.val p15), some (.val p16), some (.val z17), some (.val z18), some (.val z19), some (.val (PyData.tuple [z28, z31])), some (.val p34), some (.val p35), some (.val p33), some (.own y47), some (.own [z54, z19, z19]), some (.val z55), some (.val z61), none, none, none, none] (ds_set 19 (de_dir (de_ifx (dt_cmp cs_ne (de_var 6 rfl (de_tup (da_nil (⟨by show (0 : Nat) ≤ 16777216; decide, ⟨_, rfl, fun z62 => ⟨_, _, rfl, de_tup (da_cons (de_var 18 rfl (da_cons (de_slice (de_var 6 rfl (de_int (.inl ⟨_, rfl, ⟨_, rfl, fun z63 => da_cons (de_var 7 rfl (da_nil (⟨by show (3 : Nat) ≤ 16777216; decide, ⟨rfl, rfl⟩⟩)))⟩⟩))))))), de_tup (da_cons (de_var 18 rfl (da_cons (de_tup (da_nil (⟨by show (0 : Nat) ≤ 16777216; decide, da_cons (de_op bs_add (de_slice (de_var 7 rfl (de_int (.inl ⟨_, rfl, ⟨_, rfl, fun z64 => de_slice (de_var 7 rfl (de_int (.inl ⟨_, rfl, ⟨_, rfl, fun z65 => ⟨_, rfl, fun z66 => da_nil (⟨by show (3 : Nat) ≤ 16777216; decide, ⟨rfl, rfl⟩⟩)⟩⟩⟩)))⟩⟩)))))⟩))))))⟩⟩⟩)))))) fun z67 => ds_at [some (.scr ns), some (.src a0 s30), some (.val x3), some (.val z8), some (.val z12), some (.val p14), some (.val p15), some (.val p16), some (.val z17), some (.val z18), some (.val z19), some (.val (PyData.tuple [z28, z31])), some (.val p34), some (.val p35), some (.val p33), some (.own y47), some (.own [z54, z19, z19]), some (.val z55), some (.val z61), some (.val z67), none, none, none] (ds_expr (de_om F.slot_list_append F.type_list_append om_append 15 rfl (da_cons (de_call (p_worth T _ (by show (4 : Nat) ≤ 4; decide) _ _ _) (da_cons (de_var 3 rfl (da_cons (de_var 19 rfl (da_nil (⟨rfl, ⟨_, _, fn2_eq _ _ _, rfl, fun z68 => da_nil (⟨_, _, rfl, rfl, fun z69 y70 => ds_at [some (.scr ns), some (.src a0 s30), some (.val x3), some (.val z8), some (.val z12), some (.val p14), some (.val p15), some (.val p16), some (.val z17), some (.val z18), some (.val z19), some (.val (PyData.tuple [z28, z31])), some (.val p34), some (.val p35), some (.val p33), some (.own y70), some (.own [z54, z19, z19]), some (.val z55), some (.val z61), some (.val z67), none, none, none] (ds_set 20 (de_call (p__law_led T _ (by show (1 : Nat) ≤ 4; decide) _ _ _) (da_cons (de_ix (de_var 3 rfl (de_int (⟨_, rfl, fun z71 => da_cons (de_tup (da_cons (de_var 12 rfl (da_cons (de_var 13 rfl (da_nil (⟨by show (2 : Nat) ≤ 16777216; decide, da_nil (⟨rfl, ⟨_, _, fn2_eq _ _ _, rfl, fun z72 => ds_at [some (.scr ns), some (.src a0 s30), some (.val x3), some (.val z8), some (.val z12), some (.val p14), some (.val p15), some (.val p16), some (.val z17), some (.val z18), some (.val z19), some (.val (PyData.tuple [z28, z31])), some (.val p34), some (.val p35), some (.val p33), some (.own y70), some (.own [z54, z19, z19]), some (.val z55), some (.val z61), some (.val z67), some (.val z72), none, none] (ds_expr (de_om F.slot_list_append F.type_list_append om_append 16 rfl (da_cons (de_call (p__law_low T _ (by show (1 : Nat) ≤ 4; decide) _ _ _) (da_cons (de_ix (de_var 20 rfl (de_int (⟨_, rfl, fun z73 => da_cons (de_ix (de_var 20 rfl (de_int (⟨_, rfl, fun z74 => da_cons (de_var 14 rfl (da_nil (⟨rfl, ⟨_, _, fn3_eq _ _ _ _, rfl, fun z75 => da_nil (⟨_, _, rfl, rfl, fun z76 y77 => ds_at [some (.scr ns), some (.src a0 s30), some (.val x3), some (.val z8), some (.val z12), some (.val p14), some (.val p15), some (.val p16), some (.val z17), some (.val z18), some (.val z19), some (.val (PyData.tuple [z28, z31])), some (.val p34), some (.val p35), some (.val p33), some (.own y70), some (.own y77), some (.val z55), some (.val z61), some (.val z67), some (.val z72), none, none] (ds_if (dt_dir (dt_w (dw_or (dt_peek (dt_cmp cs_ne (de_blt bl_repr T.z_repr bb_repr (da_cons (de_var 15 rfl (da_nil (⟨_, _, fn1_eq _ _, rfl, fun z78 => de_blt bl_repr T.z_repr bb_repr (da_cons (de_var 16 rfl (da_nil (⟨_, _, fn1_eq _ _, rfl, fun z79 => ⟨_, rfl, fun z80 => rfl⟩⟩))))⟩)))))) fun t81 => ⟨_, _, rfl, ⟨rfl, rfl⟩, dw_or1 (dt_cmp cs_ne (de_blt bl_repr T.z_repr bb_repr (da_cons (de_lst (da_cons (de_var 3 rfl (da_cons (de_var 4 rfl (da_nil (⟨by show (2 : Nat) ≤ 16777216; decide, da_nil (⟨_, _, fn1_eq _ _, rfl, fun z82 => de_var 8 rfl (⟨_, rfl, fun z83 => ⟨rfl, rfl⟩⟩)⟩)⟩))))))))))⟩))) fun t84 => ⟨_, _, rfl, ds_ret (de_bool (⟨s30, (.s (.s (.n (.n (.n (.n (.n (.n (.n (.n (.n (.n (.n (.n (.n (.n (.n (.n (.n (.n (.n (.n (.n .z))))))))))))))))))))))), rfl⟩)), ds_nil (ds_set 21 (de_call (p_lot_back T _ (by show (3 : Nat) ≤ 4; decide) _ _ _) (da_cons (de_var 3 rfl (da_cons (de_var 11 rfl (da_nil (⟨rfl, ⟨_, _, fn2_eq _ _ _, rfl, fun z85 => ds_at [some (.scr ns), some (.src a0 s30), some (.val x3), some (.val z8), some (.val z12), some (.val p14), some (.val p15), some (.val p16), some (.val z17), some (.val z18), some (.val z19), some (.val (PyData.tuple [z28, z31])), some (.val p34), some (.val p35), some (.val p33), some (.own y70), some (.own y77), some (.val z55), some (.val z61), some (.val z67), some (.val z72), some (.val z85), none] (ds_if (dt_cmp cs_ne (de_blt bl_repr T.z_repr bb_repr (da_cons (de_call (p__law_add T _ (by show (1 : Nat) ≤ 4; decide) _ _ _) (da_cons (de_call (p__law_led T _ (by show (1 : Nat) ≤ 4; decide) _ _ _) (da_cons (de_ix (de_var 3 rfl (de_int (⟨_, rfl, fun z86 => da_cons (de_ix (de_var 21 rfl (de_int (⟨_, rfl, fun z87 => da_nil (⟨rfl, ⟨_, _, fn2_eq _ _ _, rfl, fun z88 => da_cons (de_ix (de_ix (de_var 3 rfl (de_int (⟨_, rfl, fun z89 => de_ix (de_var 21 rfl (de_int (⟨_, rfl, fun z90 => ⟨_, rfl, fun z91 => da_nil (⟨rfl, ⟨_, _, fn2_eq _ _ _, rfl, fun z92 => da_nil (⟨_, _, fn1_eq _ _, rfl, fun z93 => de_blt bl_repr T.z_repr bb_repr (da_cons (de_var 11 rfl (da_nil (⟨_, _, fn1_eq _ _, rfl, fun z94 => ⟨_, rfl, fun z95 => ⟨_, _, rfl, ds_ret (de_bool (⟨s30, (.s (.s (.n (.n (.n (.n (.n (.n (.n (.n (.n (.n (.n (.n (.n (.n (.n (.n (.n (.n (.n (.n (.n .z))))))))))))))))))))))), rfl⟩)), ds_nil (ds_nil (⟨s30, (.s (.s (.n (.n (.n (.n (.n (.n (.n (.n (.n (.n (.n (.n (.n (.n (.n (.n (.n (.n (.n (.n (.n .z))))))))))))))))))))))), rfl⟩))⟩⟩⟩))))⟩)⟩⟩)⟩⟩)))⟩)))))⟩⟩)⟩))))⟩))))))))))))⟩⟩))))))))⟩))⟩)⟩⟩)))⟩))))⟩)))))))))⟩⟩)⟩)))))))⟩)))))))⟩)⟩⟩))))))))))))⟩⟩)⟩⟩)))⟩)))))⟩⟩)))⟩)))))))))⟩)))))⟩)))))⟩⟩)))⟩⟩)⟩)))))))⟩⟩)⟩))))))))))))⟩)⟩⟩)⟩)⟩⟩⟩)))⟩⟩)))))⟩⟩⟩)))))))))))))))))⟩)⟩⟩)⟩)⟩))))))))))))))⟩⟩)⟩)))))⟩⟩))))))))))))))))))))))))))))⟩)⟩)⟩))))))⟩)⟩)))))))))⟩)))⟩⟩)))))))⟩⟩)))))))⟩)⟩)))))))))))))))))))))⟩)⟩)⟩))))))))))))))))))⟩)⟩)⟩))))))))))))))))))), fun s5 => ds_at [some (.scr ns), some (.src a0 s5), none, none, none, none, none, none, none, none, none, none, none, none, none, none, none, none, none, none, none, none, none] (ds_set 22 (de_tup (da_cons (de_tup (da_cons (de_tup (da_cons (de_int (da_cons (de_int (da_nil (⟨by show (2 : Nat) ≤ 16777216; decide, da_cons (de_tup (da_cons (de_int (da_cons (de_int (da_nil (⟨by show (2 : Nat) ≤ 16777216; decide, da_nil (⟨by show (2 : Nat) ≤ 16777216; decide, da_cons (de_tup (da_cons (de_tup (da_cons (de_int (da_cons (de_int (da_nil (⟨by show (2 : Nat) ≤ 16777216; decide, da_cons (de_tup (da_cons (de_int (da_cons (de_int (da_nil (⟨by show (2 : Nat) ≤ 16777216; decide, da_cons (de_tup (da_cons (de_int (da_cons (de_int (da_nil (⟨by show (2 : Nat) ≤ 16777216; decide, da_cons (de_tup (da_cons (de_int (da_cons (de_int (da_nil (⟨by show (2 : Nat) ≤ 16777216; decide, da_nil (⟨by show (4 : Nat) ≤ 16777216; decide, da_nil (⟨by show (2 : Nat) ≤ 16777216; decide, ds_at [some (.scr ns), some (.src a0 s5), none, none, none, none, none, none, none, none, none, none, none, none, none, none, none, none, none, none, none, none, some (.val (PyData.tuple [(PyData.tuple [(PyData.tuple [(PyData.int 2), (PyData.int 0)]), (PyData.tuple [(PyData.int 0), (PyData.int 2)])]), (PyData.tuple [(PyData.tuple [(PyData.int 0), (PyData.int 0)]), (PyData.tuple [(PyData.int 1), (PyData.int 0)]), (PyData.tuple [(PyData.int 0), (PyData.int 1)]), (PyData.tuple [(PyData.int 1), (PyData.int 1)])])]))] (ds_own 9 (dn_lst (da_cons (de_call (p_worth T _ (by show (4 : Nat) ≤ 4; decide) _ _ _) (da_cons (de_var 22 rfl (da_cons (de_tup (da_cons (de_tup (da_cons (de_int (da_cons (de_int (da_nil (⟨by show (2 : Nat) ≤ 16777216; decide, da_cons (de_tup (da_cons (de_int (da_nil (⟨by show (1 : Nat) ≤ 16777216; decide, da_cons (de_tup (da_cons (de_int (da_nil (⟨by show (1 : Nat) ≤ 16777216; decide, da_nil (⟨by show (3 : Nat) ≤ 16777216; decide, da_nil (⟨rfl, ⟨_, _, fn2_eq _ _ _, rfl, fun z96 => da_cons (de_call (p_worth T _ (by show (4 : Nat) ≤ 4; decide) _ _ _) (da_cons (de_var 22 rfl (da_cons (de_tup (da_cons (de_tup (da_cons (de_negc (da_cons (de_int (da_nil (⟨by show (2 : Nat) ≤ 16777216; decide, da_cons (de_tup (da_nil (⟨by show (0 : Nat) ≤ 16777216; decide, da_cons (de_tup (da_cons (de_int (da_cons (de_int (da_nil (⟨by show (2 : Nat) ≤ 16777216; decide, da_nil (⟨by show (3 : Nat) ≤ 16777216; decide, da_nil (⟨rfl, ⟨_, _, fn2_eq _ _ _, rfl, fun z97 => da_nil (⟨by show (2 : Nat) ≤ 16777216; decide, ds_at [some (.scr ns), some (.src a0 s5), none, none, none, none, none, none, none, some (.own [z96, z97]), none, none, none, none, none, none, none, none, none, none, none, none, some (.val (PyData.tuple [(PyData.tuple [(PyData.tuple [(PyData.int 2), (PyData.int 0)]), (PyData.tuple [(PyData.int 0), (PyData.int 2)])]), (PyData.tuple [(PyData.tuple [(PyData.int 0), (PyData.int 0)]), (PyData.tuple [(PyData.int 1), (PyData.int 0)]), (PyData.tuple [(PyData.int 0), (PyData.int 1)]), (PyData.tuple [(PyData.int 1), (PyData.int 1)])])]))] (ds_expr (de_om F.slot_list_append F.type_list_append om_append 9 rfl (da_cons (de_call (p_worth T _ (by show (4 : Nat) ≤ 4; decide) _ _ _) (da_cons (de_var 22 rfl (da_cons (de_tup (da_cons (de_tup (da_cons (de_int (da_cons (de_int (da_nil (⟨by show (2 : Nat) ≤ 16777216; decide, da_cons (de_tup (da_nil (⟨by show (0 : Nat) ≤ 16777216; decide, da_cons (de_tup (da_cons (de_int (da_nil (⟨by show (1 : Nat) ≤ 16777216; decide, da_nil (⟨by show (3 : Nat) ≤ 16777216; decide, da_nil (⟨rfl, ⟨_, _, fn2_eq _ _ _, rfl, fun z98 => da_nil (⟨_, _, rfl, rfl, fun z99 y100 => ds_at [some (.scr ns), some (.src a0 s5), none, none, none, none, none, none, none, some (.own y100), none, none, none, none, none, none, none, none, none, none, none, none, some (.val (PyData.tuple [(PyData.tuple [(PyData.tuple [(PyData.int 2), (PyData.int 0)]), (PyData.tuple [(PyData.int 0), (PyData.int 2)])]), (PyData.tuple [(PyData.tuple [(PyData.int 0), (PyData.int 0)]), (PyData.tuple [(PyData.int 1), (PyData.int 0)]), (PyData.tuple [(PyData.int 0), (PyData.int 1)]), (PyData.tuple [(PyData.int 1), (PyData.int 1)])])]))] (ds_ret (de_peek (de_cmp cs_eq (de_blt bl_repr T.z_repr bb_repr (da_cons (de_var 9 rfl (da_nil (⟨_, _, fn1_eq _ _, rfl, fun z101 => de_blt bl_repr T.z_repr bb_repr (da_cons (de_lst (da_cons (de_tup (da_cons (de_tup (da_cons (de_int (da_cons (de_int (da_nil (⟨by show (2 : Nat) ≤ 16777216; decide, da_cons (de_int (da_nil (⟨by show (2 : Nat) ≤ 16777216; decide, da_cons (de_tup (da_cons (de_tup (da_cons (de_negc (da_cons (de_int (da_nil (⟨by show (2 : Nat) ≤ 16777216; decide, da_cons (de_int (da_nil (⟨by show (2 : Nat) ≤ 16777216; decide, da_cons (de_tup (da_cons (de_tup (da_cons (de_int (da_cons (de_int (da_nil (⟨by show (2 : Nat) ≤ 16777216; decide, da_cons (de_int (da_nil (⟨by show (2 : Nat) ≤ 16777216; decide, da_nil (⟨by show (3 : Nat) ≤ 16777216; decide, da_nil (⟨_, _, fn1_eq _ _, rfl, fun z102 => ⟨_, rfl, fun z103 => rfl⟩⟩)⟩)⟩)))⟩)))))))))⟩)))⟩)))))))))⟩)))⟩))))))))))))⟩)))))) fun z104 => rfl))⟩)⟩⟩)⟩)⟩)))))⟩)))⟩))))))))))))))))⟩)⟩⟩)⟩)⟩)))))))⟩)))⟩)))))))))))))⟩⟩)⟩)⟩)))))⟩)))))⟩))))))))))))))))⟩)⟩)⟩)))))))⟩)))))))⟩)))))))⟩)))))))))⟩)⟩)))))))⟩)))))))))))), fun r105 s5 _ hl => rfl⟩⟩)))))

end
theorem all_mk {l : PySem.W.OpenLaw} {w : World} {K : PySem.W.Frag} {h : Heap} {mg : Str → Option Value} {fa f0 f1 f2 f3 f4 f5 f6 f7 f8 f9 f10 f11 f12 f13 f14 f15 f16 f17 f18 f19 f20 f21 f22 f23 f24 f25 f26 f27 f28 f29 f30 f31 f32 f33 f34 : Addr} (X : K.In h) (G : h.Ns mainGlobals mg) (hfa : mg "law" = some (.ref fa))
    {od0 an0 od1 an1 od2 an2 od3 an3 od4 an4 od5 an5 od6 an6 od7 an7 od8 an8 od9 an9 od10 an10 od11 an11 od12 an12 od13 an13 od14 an14 od15 an15 od16 an16 od17 an17 od18 an18 od19 an19 od20 an20 od21 an21 od22 an22 od23 an23 od24 an24 od25 an25 od26 an26 od27 an27 od28 an28 od29 an29 od30 an30 od31 an31 od32 an32 od33 an33 od34 an34 : Option Addr} {sl0 sl1 sl2 sl3 sl4 sl5 sl6 sl7 sl8 sl9 sl10 sl11 sl12 sl13 sl14 sl15 sl16 sl17 sl18 sl19 sl20 sl21 sl22 sl23 sl24 sl25 sl26 sl27 sl28 sl29 sl30 sl31 sl32 sl33 sl34 : Array (Option Value)} {oc0 kV0 dc0 pm0 cd0 ct0 oc1 kV1 dc1 pm1 cd1 ct1 oc2 kV2 dc2 pm2 cd2 ct2 oc3 kV3 dc3 pm3 cd3 ct3 oc4 kV4 dc4 pm4 cd4 ct4 oc5 kV5 dc5 pm5 cd5 ct5 oc6 kV6 dc6 pm6 cd6 ct6 oc7 kV7 dc7 pm7 cd7 ct7 oc8 kV8 dc8 pm8 cd8 ct8 oc9 kV9 dc9 pm9 cd9 ct9 oc10 kV10 dc10 pm10 cd10 ct10 oc11 kV11 dc11 pm11 cd11 ct11 oc12 kV12 dc12 pm12 cd12 ct12 oc13 kV13 dc13 pm13 cd13 ct13 oc14 kV14 dc14 pm14 cd14 ct14 oc15 kV15 dc15 pm15 cd15 ct15 oc16 kV16 dc16 pm16 cd16 ct16 oc17 kV17 dc17 pm17 cd17 ct17 oc18 kV18 dc18 pm18 cd18 ct18 oc19 kV19 dc19 pm19 cd19 ct19 oc20 kV20 dc20 pm20 cd20 ct20 oc21 kV21 dc21 pm21 cd21 ct21 oc22 kV22 dc22 pm22 cd22 ct22 oc23 kV23 dc23 pm23 cd23 ct23 oc24 kV24 dc24 pm24 cd24 ct24 oc25 kV25 dc25 pm25 cd25 ct25 oc26 kV26 dc26 pm26 cd26 ct26 oc27 kV27 dc27 pm27 cd27 ct27 oc28 kV28 dc28 pm28 cd28 ct28 oc29 kV29 dc29 pm29 cd29 ct29 oc30 kV30 dc30 pm30 cd30 ct30 oc31 kV31 dc31 pm31 cd31 ct31 oc32 kV32 dc32 pm32 cd32 ct32 oc33 kV33 dc33 pm33 cd33 ct33 oc34 kV34 dc34 pm34 cd34 ct34 : Value}
    (a0 : PySem.W.nsIn K mainGlobals "lots_less" = some (some (.ref f0)))
    (l0 : K.lookup f0 = some ⟨oc0, od0, .func (PySem.W.fnOf "lots_less" "lots_less" (defArgs s_lots_less) (defBody s_lots_less) (defScope s_lots_less) .none kV0 dc0 pm0 an0 cd0 ct0), sl0⟩)
    (c0 : PySem.W.codeIn K cd0 "lots_less" = true)
    (k0 : PySem.W.keepIn K (.ref f0) = true)
    (a1 : PySem.W.nsIn K mainGlobals "table_det" = some (some (.ref f1)))
    (l1 : K.lookup f1 = some ⟨oc1, od1, .func (PySem.W.fnOf "table_det" "table_det" (defArgs s_table_det) (defBody s_table_det) (defScope s_table_det) .none kV1 dc1 pm1 an1 cd1 ct1), sl1⟩)
    (c1 : PySem.W.codeIn K cd1 "table_det" = true)
    (k1 : PySem.W.keepIn K (.ref f1) = true)
    (a2 : PySem.W.nsIn K mainGlobals "table_other" = some (some (.ref f2)))
    (l2 : K.lookup f2 = some ⟨oc2, od2, .func (PySem.W.fnOf "table_other" "table_other" (defArgs s_table_other) (defBody s_table_other) (defScope s_table_other) .none kV2 dc2 pm2 an2 cd2 ct2), sl2⟩)
    (c2 : PySem.W.codeIn K cd2 "table_other" = true)
    (k2 : PySem.W.keepIn K (.ref f2) = true)
    (a3 : PySem.W.nsIn K mainGlobals "lot_led" = some (some (.ref f3)))
    (l3 : K.lookup f3 = some ⟨oc3, od3, .func (PySem.W.fnOf "lot_led" "lot_led" (defArgs s_lot_led) (defBody s_lot_led) (defScope s_lot_led) .none kV3 dc3 pm3 an3 cd3 ct3), sl3⟩)
    (c3 : PySem.W.codeIn K cd3 "lot_led" = true)
    (k3 : PySem.W.keepIn K (.ref f3) = true)
    (a4 : PySem.W.nsIn K mainGlobals "lot_undone" = some (some (.ref f4)))
    (l4 : K.lookup f4 = some ⟨oc4, od4, .func (PySem.W.fnOf "lot_undone" "lot_undone" (defArgs s_lot_undone) (defBody s_lot_undone) (defScope s_lot_undone) .none kV4 dc4 pm4 an4 cd4 ct4), sl4⟩)
    (c4 : PySem.W.codeIn K cd4 "lot_undone" = true)
    (k4 : PySem.W.keepIn K (.ref f4) = true)
    (a5 : PySem.W.nsIn K mainGlobals "lot_back" = some (some (.ref f5)))
    (l5 : K.lookup f5 = some ⟨oc5, od5, .func (PySem.W.fnOf "lot_back" "lot_back" (defArgs s_lot_back) (defBody s_lot_back) (defScope s_lot_back) .none kV5 dc5 pm5 an5 cd5 ct5), sl5⟩)
    (c5 : PySem.W.codeIn K cd5 "lot_back" = true)
    (k5 : PySem.W.keepIn K (.ref f5) = true)
    (a6 : PySem.W.nsIn K mainGlobals "point_of" = some (some (.ref f6)))
    (l6 : K.lookup f6 = some ⟨oc6, od6, .func (PySem.W.fnOf "point_of" "point_of" (defArgs s_point_of) (defBody s_point_of) (defScope s_point_of) .none kV6 dc6 pm6 an6 cd6 ct6), sl6⟩)
    (c6 : PySem.W.codeIn K cd6 "point_of" = true)
    (k6 : PySem.W.keepIn K (.ref f6) = true)
    (a7 : PySem.W.nsIn K mainGlobals "point_low" = some (some (.ref f7)))
    (l7 : K.lookup f7 = some ⟨oc7, od7, .func (PySem.W.fnOf "point_low" "point_low" (defArgs s_point_low) (defBody s_point_low) (defScope s_point_low) .none kV7 dc7 pm7 an7 cd7 ct7), sl7⟩)
    (c7 : PySem.W.codeIn K cd7 "point_low" = true)
    (k7 : PySem.W.keepIn K (.ref f7) = true)
    (a8 : PySem.W.nsIn K mainGlobals "points_added" = some (some (.ref f8)))
    (l8 : K.lookup f8 = some ⟨oc8, od8, .func (PySem.W.fnOf "points_added" "points_added" (defArgs s_points_added) (defBody s_points_added) (defScope s_points_added) .none kV8 dc8 pm8 an8 cd8 ct8), sl8⟩)
    (c8 : PySem.W.codeIn K cd8 "points_added" = true)
    (k8 : PySem.W.keepIn K (.ref f8) = true)
    (a9 : PySem.W.nsIn K mainGlobals "point_undone" = some (some (.ref f9)))
    (l9 : K.lookup f9 = some ⟨oc9, od9, .func (PySem.W.fnOf "point_undone" "point_undone" (defArgs s_point_undone) (defBody s_point_undone) (defScope s_point_undone) .none kV9 dc9 pm9 an9 cd9 ct9), sl9⟩)
    (c9 : PySem.W.codeIn K cd9 "point_undone" = true)
    (k9 : PySem.W.keepIn K (.ref f9) = true)
    (a10 : PySem.W.nsIn K mainGlobals "lots_added" = some (some (.ref f10)))
    (l10 : K.lookup f10 = some ⟨oc10, od10, .func (PySem.W.fnOf "lots_added" "lots_added" (defArgs s_lots_added) (defBody s_lots_added) (defScope s_lots_added) .none kV10 dc10 pm10 an10 cd10 ct10), sl10⟩)
    (c10 : PySem.W.codeIn K cd10 "lots_added" = true)
    (k10 : PySem.W.keepIn K (.ref f10) = true)
    (a11 : PySem.W.nsIn K mainGlobals "row_worth" = some (some (.ref f11)))
    (l11 : K.lookup f11 = some ⟨oc11, od11, .func (PySem.W.fnOf "row_worth" "row_worth" (defArgs s_row_worth) (defBody s_row_worth) (defScope s_row_worth) .none kV11 dc11 pm11 an11 cd11 ct11), sl11⟩)
    (c11 : PySem.W.codeIn K cd11 "row_worth" = true)
    (k11 : PySem.W.keepIn K (.ref f11) = true)
    (a12 : PySem.W.nsIn K mainGlobals "round_worth" = some (some (.ref f12)))
    (l12 : K.lookup f12 = some ⟨oc12, od12, .func (PySem.W.fnOf "round_worth" "round_worth" (defArgs s_round_worth) (defBody s_round_worth) (defScope s_round_worth) .none kV12 dc12 pm12 an12 cd12 ct12), sl12⟩)
    (c12 : PySem.W.codeIn K cd12 "round_worth" = true)
    (k12 : PySem.W.keepIn K (.ref f12) = true)
    (a13 : PySem.W.nsIn K mainGlobals "worth" = some (some (.ref f13)))
    (l13 : K.lookup f13 = some ⟨oc13, od13, .func (PySem.W.fnOf "worth" "worth" (defArgs s_worth) (defBody s_worth) (defScope s_worth) .none kV13 dc13 pm13 an13 cd13 ct13), sl13⟩)
    (c13 : PySem.W.codeIn K cd13 "worth" = true)
    (k13 : PySem.W.keepIn K (.ref f13) = true)
    (a14 : PySem.W.nsIn K mainGlobals "_law_source" = some (some (.ref f14)))
    (l14 : K.lookup f14 = some ⟨oc14, od14, .func (PySem.W.fnOf "_law_source" "_law_source" (defArgs s__law_source) (defBody s__law_source) (defScope s__law_source) .none kV14 dc14 pm14 an14 cd14 ct14), sl14⟩)
    (c14 : PySem.W.codeIn K cd14 "_law_source" = true)
    (k14 : PySem.W.keepIn K (.ref f14) = true)
    (a15 : PySem.W.nsIn K mainGlobals "_law_pick" = some (some (.ref f15)))
    (l15 : K.lookup f15 = some ⟨oc15, od15, .func (PySem.W.fnOf "_law_pick" "_law_pick" (defArgs s__law_pick) (defBody s__law_pick) (defScope s__law_pick) .none kV15 dc15 pm15 an15 cd15 ct15), sl15⟩)
    (c15 : PySem.W.codeIn K cd15 "_law_pick" = true)
    (k15 : PySem.W.keepIn K (.ref f15) = true)
    (a16 : PySem.W.nsIn K mainGlobals "_law_of" = some (some (.ref f16)))
    (l16 : K.lookup f16 = some ⟨oc16, od16, .func (PySem.W.fnOf "_law_of" "_law_of" (defArgs s__law_of) (defBody s__law_of) (defScope s__law_of) .none kV16 dc16 pm16 an16 cd16 ct16), sl16⟩)
    (c16 : PySem.W.codeIn K cd16 "_law_of" = true)
    (k16 : PySem.W.keepIn K (.ref f16) = true)
    (a17 : PySem.W.nsIn K mainGlobals "_law_led" = some (some (.ref f17)))
    (l17 : K.lookup f17 = some ⟨oc17, od17, .func (PySem.W.fnOf "_law_led" "_law_led" (defArgs s__law_led) (defBody s__law_led) (defScope s__law_led) .none kV17 dc17 pm17 an17 cd17 ct17), sl17⟩)
    (c17 : PySem.W.codeIn K cd17 "_law_led" = true)
    (k17 : PySem.W.keepIn K (.ref f17) = true)
    (a18 : PySem.W.nsIn K mainGlobals "_law_add" = some (some (.ref f18)))
    (l18 : K.lookup f18 = some ⟨oc18, od18, .func (PySem.W.fnOf "_law_add" "_law_add" (defArgs s__law_add) (defBody s__law_add) (defScope s__law_add) .none kV18 dc18 pm18 an18 cd18 ct18), sl18⟩)
    (c18 : PySem.W.codeIn K cd18 "_law_add" = true)
    (k18 : PySem.W.keepIn K (.ref f18) = true)
    (a19 : PySem.W.nsIn K mainGlobals "_law_mixed" = some (some (.ref f19)))
    (l19 : K.lookup f19 = some ⟨oc19, od19, .func (PySem.W.fnOf "_law_mixed" "_law_mixed" (defArgs s__law_mixed) (defBody s__law_mixed) (defScope s__law_mixed) .none kV19 dc19 pm19 an19 cd19 ct19), sl19⟩)
    (c19 : PySem.W.codeIn K cd19 "_law_mixed" = true)
    (k19 : PySem.W.keepIn K (.ref f19) = true)
    (a20 : PySem.W.nsIn K mainGlobals "_law_det" = some (some (.ref f20)))
    (l20 : K.lookup f20 = some ⟨oc20, od20, .func (PySem.W.fnOf "_law_det" "_law_det" (defArgs s__law_det) (defBody s__law_det) (defScope s__law_det) .none kV20 dc20 pm20 an20 cd20 ct20), sl20⟩)
    (c20 : PySem.W.codeIn K cd20 "_law_det" = true)
    (k20 : PySem.W.keepIn K (.ref f20) = true)
    (a21 : PySem.W.nsIn K mainGlobals "_law_undone" = some (some (.ref f21)))
    (l21 : K.lookup f21 = some ⟨oc21, od21, .func (PySem.W.fnOf "_law_undone" "_law_undone" (defArgs s__law_undone) (defBody s__law_undone) (defScope s__law_undone) .none kV21 dc21 pm21 an21 cd21 ct21), sl21⟩)
    (c21 : PySem.W.codeIn K cd21 "_law_undone" = true)
    (k21 : PySem.W.keepIn K (.ref f21) = true)
    (a22 : PySem.W.nsIn K mainGlobals "_law_less" = some (some (.ref f22)))
    (l22 : K.lookup f22 = some ⟨oc22, od22, .func (PySem.W.fnOf "_law_less" "_law_less" (defArgs s__law_less) (defBody s__law_less) (defScope s__law_less) .none kV22 dc22 pm22 an22 cd22 ct22), sl22⟩)
    (c22 : PySem.W.codeIn K cd22 "_law_less" = true)
    (k22 : PySem.W.keepIn K (.ref f22) = true)
    (a23 : PySem.W.nsIn K mainGlobals "_law_digits" = some (some (.ref f23)))
    (l23 : K.lookup f23 = some ⟨oc23, od23, .func (PySem.W.fnOf "_law_digits" "_law_digits" (defArgs s__law_digits) (defBody s__law_digits) (defScope s__law_digits) .none kV23 dc23 pm23 an23 cd23 ct23), sl23⟩)
    (c23 : PySem.W.codeIn K cd23 "_law_digits" = true)
    (k23 : PySem.W.keepIn K (.ref f23) = true)
    (a24 : PySem.W.nsIn K mainGlobals "_law_table" = some (some (.ref f24)))
    (l24 : K.lookup f24 = some ⟨oc24, od24, .func (PySem.W.fnOf "_law_table" "_law_table" (defArgs s__law_table) (defBody s__law_table) (defScope s__law_table) .none kV24 dc24 pm24 an24 cd24 ct24), sl24⟩)
    (c24 : PySem.W.codeIn K cd24 "_law_table" = true)
    (k24 : PySem.W.keepIn K (.ref f24) = true)
    (a25 : PySem.W.nsIn K mainGlobals "_law_base" = some (some (.ref f25)))
    (l25 : K.lookup f25 = some ⟨oc25, od25, .func (PySem.W.fnOf "_law_base" "_law_base" (defArgs s__law_base) (defBody s__law_base) (defScope s__law_base) .none kV25 dc25 pm25 an25 cd25 ct25), sl25⟩)
    (c25 : PySem.W.codeIn K cd25 "_law_base" = true)
    (k25 : PySem.W.keepIn K (.ref f25) = true)
    (a26 : PySem.W.nsIn K mainGlobals "_law_low" = some (some (.ref f26)))
    (l26 : K.lookup f26 = some ⟨oc26, od26, .func (PySem.W.fnOf "_law_low" "_law_low" (defArgs s__law_low) (defBody s__law_low) (defScope s__law_low) .none kV26 dc26 pm26 an26 cd26 ct26), sl26⟩)
    (c26 : PySem.W.codeIn K cd26 "_law_low" = true)
    (k26 : PySem.W.keepIn K (.ref f26) = true)
    (a27 : PySem.W.nsIn K mainGlobals "_law_name" = some (some (.ref f27)))
    (l27 : K.lookup f27 = some ⟨oc27, od27, .func (PySem.W.fnOf "_law_name" "_law_name" (defArgs s__law_name) (defBody s__law_name) (defScope s__law_name) .none kV27 dc27 pm27 an27 cd27 ct27), sl27⟩)
    (c27 : PySem.W.codeIn K cd27 "_law_name" = true)
    (k27 : PySem.W.keepIn K (.ref f27) = true)
    (a28 : PySem.W.nsIn K mainGlobals "_law_sum" = some (some (.ref f28)))
    (l28 : K.lookup f28 = some ⟨oc28, od28, .func (PySem.W.fnOf "_law_sum" "_law_sum" (defArgs s__law_sum) (defBody s__law_sum) (defScope s__law_sum) .none kV28 dc28 pm28 an28 cd28 ct28), sl28⟩)
    (c28 : PySem.W.codeIn K cd28 "_law_sum" = true)
    (k28 : PySem.W.keepIn K (.ref f28) = true)
    (a29 : PySem.W.nsIn K mainGlobals "_law_behind" = some (some (.ref f29)))
    (l29 : K.lookup f29 = some ⟨oc29, od29, .func (PySem.W.fnOf "_law_behind" "_law_behind" (defArgs s__law_behind) (defBody s__law_behind) (defScope s__law_behind) .none kV29 dc29 pm29 an29 cd29 ct29), sl29⟩)
    (c29 : PySem.W.codeIn K cd29 "_law_behind" = true)
    (k29 : PySem.W.keepIn K (.ref f29) = true)
    (a30 : PySem.W.nsIn K mainGlobals "_law_power" = some (some (.ref f30)))
    (l30 : K.lookup f30 = some ⟨oc30, od30, .func (PySem.W.fnOf "_law_power" "_law_power" (defArgs s__law_power) (defBody s__law_power) (defScope s__law_power) .none kV30 dc30 pm30 an30 cd30 ct30), sl30⟩)
    (c30 : PySem.W.codeIn K cd30 "_law_power" = true)
    (k30 : PySem.W.keepIn K (.ref f30) = true)
    (a31 : PySem.W.nsIn K mainGlobals "_law_solved" = some (some (.ref f31)))
    (l31 : K.lookup f31 = some ⟨oc31, od31, .func (PySem.W.fnOf "_law_solved" "_law_solved" (defArgs s__law_solved) (defBody s__law_solved) (defScope s__law_solved) .none kV31 dc31 pm31 an31 cd31 ct31), sl31⟩)
    (c31 : PySem.W.codeIn K cd31 "_law_solved" = true)
    (k31 : PySem.W.keepIn K (.ref f31) = true)
    (a32 : PySem.W.nsIn K mainGlobals "_law_worth" = some (some (.ref f32)))
    (l32 : K.lookup f32 = some ⟨oc32, od32, .func (PySem.W.fnOf "_law_worth" "_law_worth" (defArgs s__law_worth) (defBody s__law_worth) (defScope s__law_worth) .none kV32 dc32 pm32 an32 cd32 ct32), sl32⟩)
    (c32 : PySem.W.codeIn K cd32 "_law_worth" = true)
    (k32 : PySem.W.keepIn K (.ref f32) = true)
    (a33 : PySem.W.nsIn K mainGlobals "_law_near" = some (some (.ref f33)))
    (l33 : K.lookup f33 = some ⟨oc33, od33, .func (PySem.W.fnOf "_law_near" "_law_near" (defArgs s__law_near) (defBody s__law_near) (defScope s__law_near) .none kV33 dc33 pm33 an33 cd33 ct33), sl33⟩)
    (c33 : PySem.W.codeIn K cd33 "_law_near" = true)
    (k33 : PySem.W.keepIn K (.ref f33) = true)
    (a34 : PySem.W.nsIn K mainGlobals "law" = some (some (.ref f34)))
    (l34 : K.lookup f34 = some ⟨oc34, od34, .func (PySem.W.fnOf "law" "law" (defArgs s_law) (defBody s_law) (defScope s_law) .none kV34 dc34 pm34 an34 cd34 ct34), sl34⟩)
    (c34 : PySem.W.codeIn K cd34 "law" = true)
    (k34 : PySem.W.keepIn K (.ref f34) = true)
    (z_enumerate : PySem.W.nsIn K mainGlobals "enumerate" = some none)
    (z_int : PySem.W.nsIn K mainGlobals "int" = some none)
    (z_abs : PySem.W.nsIn K mainGlobals "abs" = some none)
    (z_len : PySem.W.nsIn K mainGlobals "len" = some none)
    (z_max : PySem.W.nsIn K mainGlobals "max" = some none)
    (z_list : PySem.W.nsIn K mainGlobals "list" = some none)
    (z_range : PySem.W.nsIn K mainGlobals "range" = some none)
    (z_tuple : PySem.W.nsIn K mainGlobals "tuple" = some none)
    (z_repr : PySem.W.nsIn K mainGlobals "repr" = some none)
    (m_gcd : PySem.W.nsIn K mainGlobals "gcd" = some (some (.builtin "math.gcd")))
    (holds : ∀ ns : List Int, ns.length ≤ 63 → m_law ns = .ok (.bool true)) :
    ∃ fd : FuncData, (∀ (s : Shared) (v : Value), BindsTo s fd ⟨[v], []⟩ [("script", v)]) ∧ ∀ base : Heap, K.In base → base.Ns mainGlobals mg → FnG l.prog w K mg base CX0 5 fa fd ["script"] (spLaw K) := by
  have e := hfa.symm.trans (PySem.W.mg_of X G a34)
  cases e
  have T : Txt K mg := {
    d_lots_less := At.mk X G a0 l0 c0 k0 fun _ _ _ _ _ _ us hl => match us, hl with | [_, _], _ => rfl
    d_table_det := At.mk X G a1 l1 c1 k1 fun _ _ _ _ _ _ us hl => match us, hl with | [_], _ => rfl
    d_table_other := At.mk X G a2 l2 c2 k2 fun _ _ _ _ _ _ us hl => match us, hl with | [_], _ => rfl
    d_lot_led := At.mk X G a3 l3 c3 k3 fun _ _ _ _ _ _ us hl => match us, hl with | [_, _], _ => rfl
    d_lot_undone := At.mk X G a4 l4 c4 k4 fun _ _ _ _ _ _ us hl => match us, hl with | [_, _], _ => rfl
    d_lot_back := At.mk X G a5 l5 c5 k5 fun _ _ _ _ _ _ us hl => match us, hl with | [_, _], _ => rfl
    d_point_of := At.mk X G a6 l6 c6 k6 fun _ _ _ _ _ _ us hl => match us, hl with | [_], _ => rfl
    d_point_low := At.mk X G a7 l7 c7 k7 fun _ _ _ _ _ _ us hl => match us, hl with | [_, _], _ => rfl
    d_points_added := At.mk X G a8 l8 c8 k8 fun _ _ _ _ _ _ us hl => match us, hl with | [_, _], _ => rfl
    d_point_undone := At.mk X G a9 l9 c9 k9 fun _ _ _ _ _ _ us hl => match us, hl with | [_, _], _ => rfl
    d_lots_added := At.mk X G a10 l10 c10 k10 fun _ _ _ _ _ _ us hl => match us, hl with | [_, _], _ => rfl
    d_row_worth := At.mk X G a11 l11 c11 k11 fun _ _ _ _ _ _ us hl => match us, hl with | [_, _, _], _ => rfl
    d_round_worth := At.mk X G a12 l12 c12 k12 fun _ _ _ _ _ _ us hl => match us, hl with | [_, _], _ => rfl
    d_worth := At.mk X G a13 l13 c13 k13 fun _ _ _ _ _ _ us hl => match us, hl with | [_, _], _ => rfl
    d__law_source := At.mk X G a14 l14 c14 k14 fun _ _ _ _ _ _ us hl => match us, hl with | [_], _ => rfl
    d__law_pick := At.mk X G a15 l15 c15 k15 fun _ _ _ _ _ _ us hl => match us, hl with | [_, _], _ => rfl
    d__law_of := At.mk X G a16 l16 c16 k16 fun _ _ _ _ _ _ us hl => match us, hl with | [_, _], _ => rfl
    d__law_led := At.mk X G a17 l17 c17 k17 fun _ _ _ _ _ _ us hl => match us, hl with | [_, _], _ => rfl
    d__law_add := At.mk X G a18 l18 c18 k18 fun _ _ _ _ _ _ us hl => match us, hl with | [_, _], _ => rfl
    d__law_mixed := At.mk X G a19 l19 c19 k19 fun _ _ _ _ _ _ us hl => match us, hl with | [_, _], _ => rfl
    d__law_det := At.mk X G a20 l20 c20 k20 fun _ _ _ _ _ _ us hl => match us, hl with | [_], _ => rfl
    d__law_undone := At.mk X G a21 l21 c21 k21 fun _ _ _ _ _ _ us hl => match us, hl with | [_, _], _ => rfl
    d__law_less := At.mk X G a22 l22 c22 k22 fun _ _ _ _ _ _ us hl => match us, hl with | [_, _], _ => rfl
    d__law_digits := At.mk X G a23 l23 c23 k23 fun _ _ _ _ _ _ us hl => match us, hl with | [_, _, _], _ => rfl
    d__law_table := At.mk X G a24 l24 c24 k24 fun _ _ _ _ _ _ us hl => match us, hl with | [_, _], _ => rfl
    d__law_base := At.mk X G a25 l25 c25 k25 fun _ _ _ _ _ _ us hl => match us, hl with | [_, _, _], _ => rfl
    d__law_low := At.mk X G a26 l26 c26 k26 fun _ _ _ _ _ _ us hl => match us, hl with | [_, _, _], _ => rfl
    d__law_name := At.mk X G a27 l27 c27 k27 fun _ _ _ _ _ _ us hl => match us, hl with | [_, _, _], _ => rfl
    d__law_sum := At.mk X G a28 l28 c28 k28 fun _ _ _ _ _ _ us hl => match us, hl with | [_, _, _], _ => rfl
    d__law_behind := At.mk X G a29 l29 c29 k29 fun _ _ _ _ _ _ us hl => match us, hl with | [_, _], _ => rfl
    d__law_power := At.mk X G a30 l30 c30 k30 fun _ _ _ _ _ _ us hl => match us, hl with | [_, _], _ => rfl
    d__law_solved := At.mk X G a31 l31 c31 k31 fun _ _ _ _ _ _ us hl => match us, hl with | [_, _], _ => rfl
    d__law_worth := At.mk X G a32 l32 c32 k32 fun _ _ _ _ _ _ us hl => match us, hl with | [_, _], _ => rfl
    d__law_near := At.mk X G a33 l33 c33 k33 fun _ _ _ _ _ _ us hl => match us, hl with | [_, _, _, _], _ => rfl
    z_enumerate := PySem.W.mg_none_of X G z_enumerate
    z_int := PySem.W.mg_none_of X G z_int
    z_abs := PySem.W.mg_none_of X G z_abs
    z_len := PySem.W.mg_none_of X G z_len
    z_max := PySem.W.mg_none_of X G z_max
    z_list := PySem.W.mg_none_of X G z_list
    z_range := PySem.W.mg_none_of X G z_range
    z_tuple := PySem.W.mg_none_of X G z_tuple
    z_repr := PySem.W.mg_none_of X G z_repr
    m_gcd := PySem.W.mg_of X G m_gcd
  }
  exact ⟨PySem.W.fnOf "law" "law" (defArgs s_law) (defBody s_law) (defScope s_law) .none kV34 dc34 pm34 an34 cd34 ct34, fun s v => .of_eq rfl, fun base _ _ =>
    fnLaw_of (fun_mk (st := s_law) l34 c34 k34) sc_law rfl (fun ns => p_law T ns) holds⟩

end K10

set_option autoImplicit false
set_option maxRecDepth 100000
namespace K10
open PySem L2 Z
/-- the cells are asked while they tell nothing -/
theorem pick_while (many : Int) {f : Src → R (Wl Src)} (hf : ∀ s1, f s1 = (
    ((gtD (.int many) (PyData.int 1)).bind fun z4 =>
    if z4 = true then
    (ltD (PyData.int s1.left) (PyData.int 2)).bind fun z5 =>
    if z5 = true then
    (gtD (PyData.int s1.cells.length) (PyData.int 0)).bind fun z6 =>
    R.ok z6
    else
    R.ok false
    else
    R.ok false : R Bool).bind fun t7 =>
    if t7 = true then
    (popC s1.cells).bind fun (z8, c9) =>
    (toI (PyData.int z8)).bind fun n10 =>
    R.ok (.go { { s1 with cells := c9 } with left := n10 })
    else
    R.ok (.done s1))) : ∀ (k : Nat) (s : Src), s.cells.length ≤ k → ∃ s', whileT (k + 1) s f = .ok (.nx s') ∧ s'.turn = s.turn := by
  intro k
  induction k with
  | zero =>
    intro s hs
    have h0 : s.cells = [] := List.eq_nil_of_length_eq_zero (Nat.le_zero.mp hs)
    refine ⟨s, ?_, rfl⟩
    simp only [whileT, hf, gt_i, lt_i, R.bind_ok, h0]
    by_cases c1 : 1 < many <;> by_cases c2 : s.left < 2 <;> simp [c1, c2, R.bind_ok]
  | succ k ih =>
    intro s hs
    rw [whileT, hf]
    simp only [gt_i, lt_i, R.bind_ok]
    by_cases c : 1 < many ∧ s.left < 2 ∧ 0 < s.cells.length
    · obtain ⟨c1, c2, c3⟩ := c
      have c3' : (0 : Int) < (s.cells.length : Int) := by omega
      cases hl : s.cells.getLast? with
      | none => rw [List.getLast?_eq_none_iff] at hl; rw [hl] at c3; simp at c3
      | some t =>
        obtain ⟨s', e, ht⟩ := ih { s with cells := s.cells.dropLast, left := t } (by simp [List.length_dropLast]; omega)
        refine ⟨s', ?_, ht⟩
        simp only [decide_eq_true c1, decide_eq_true c2, decide_eq_true c3', if_true, R.bind_ok, popC, hl, toI_i]
        exact e
    · refine ⟨s, ?_, rfl⟩
      by_cases c1 : 1 < many <;> by_cases c2 : s.left < 2 <;> by_cases c3 : 0 < s.cells.length
      · exact absurd ⟨c1, c2, c3⟩ c
      all_goals (have c3' : (0 : Int) < (s.cells.length : Int) ↔ 0 < s.cells.length := by omega); simp [c1, c2, c3, c3', R.bind_ok]
theorem pick_ok {n : Nat} {s : Src} {many : Int} (h : Ok (n + 1) s) (h1 : 1 ≤ many) (h2 : many < 2 ^ 60) : ∃ (r : Nat) (s' : Src), m__law_pick s (.int many) = .ok (.int (r : Int), s') ∧ (r : Int) < many ∧ Ok n s' := by
  unfold m__law_pick
  obtain ⟨s2, e, ht⟩ := pick_while many (fun _ => rfl) s.cells.length s (Nat.le_refl _)
  obtain ⟨h3, h4⟩ := h
  rw [e]
  simp only [R.bind_ok, lt_i, gt_i]
  have nat : ∀ {i : Int}, 0 ≤ i → i < many → ∃ r : Nat, i = (r : Int) ∧ (r : Int) < many := fun {i} a b => ⟨i.toNat, by omega, by omega⟩
  by_cases c : many < 2 ∨ 1 < s2.left
  · have ec : ((if decide (many < 2) = true then R.ok true else (R.ok (decide (1 < s2.left)))) : R Bool) = .ok true := by
      by_cases c1 : many < 2
      · simp [c1]
      · simp [c1, c.resolve_left c1]
    have hm : max 1 many = many := by omega
    have hn : many ≠ 0 := by omega
    have hb : bigD many = true := bigD_of (k := 60) (by omega) (by decide)
    rw [ec]
    simp only [R.bind_ok, if_true, max2_i, hm, fdiv_i hn hb, fmod_i hn, int_i, toI_i]
    obtain ⟨r, e1, e2⟩ := nat (Int.fmod_nonneg_of_pos s2.left (by omega : 0 < many)) (Int.fmod_lt_of_pos s2.left (by omega : 0 < many))
    exact ⟨r, _, by rw [e1], e2, by show 0 ≤ s2.turn; omega, by show s2.turn + _ ≤ _; omega⟩
  · have c1 : ¬ many < 2 := fun q => c (.inl q)
    have c2 : ¬ 1 < s2.left := fun q => c (.inr q)
    have hn : many ≠ 0 := by omega
    have lt : ∀ {i : Int}, 0 ≤ i → i ≤ 2 ^ 100 → Sz i := fun {i} a b => Sz.of (k := 101) (by omega) (by decide)
    have s1 : Sz (s2.turn + 1) := lt (by omega) (by omega)
    have s3 : Sz 104729 := lt (by decide) (by decide)
    have s4 : Sz 17 := lt (by decide) (by decide)
    have f1 : ∀ x : Int, 0 ≤ x.fmod 998244353 := fun x => Int.fmod_nonneg_of_pos x (by decide)
    have f2 : ∀ x : Int, x.fmod 998244353 < 998244353 := fun x => Int.fmod_lt_of_pos x (by decide)
    have s5 : ∀ x : Int, Sz (x.fmod 998244353) := fun x => lt (f1 x) (by have := f2 x; omega)
    have hb : bigD 16 = true := by decide
    simp only [decide_eq_false c1, decide_eq_false c2, R.bind_ok, if_false, Bool.false_eq_true, add_i, toI_i, mul_i s1 s3, mul_i s1 s4, int_i, fmod_i (by decide : (998244353 : Int) ≠ 0), fmod_i (by decide : (2147483647 : Int) ≠ 0), mul_i (s5 _) (s5 _), fdiv_i (by decide : (16 : Int) ≠ 0) hb, fmod_i hn]
    obtain ⟨r, e1, e2⟩ := nat (Int.fmod_nonneg_of_pos _ (by omega : 0 < many)) (Int.fmod_lt_of_pos _ (by omega : 0 < many))
    exact ⟨r, _, by rw [← e1], e2, by show 0 ≤ s2.turn + 1; omega, by show s2.turn + 1 + _ ≤ _; omega⟩
end K10
namespace K10
open PySem L2 Z
theorem source_ok (ns : List Int) (hl : ns.length ≤ 63) : ∃ s, m__law_source ns = .ok s ∧ Ok 1000000000 s := by
  unfold m__law_source
  obtain ⟨mx, e1, n, hn⟩ := forS_inv (xs := ns.map PyData.int) (st := PyData.int 11) (f := fun x1 s2 => (mul s2 (PyData.int 69069)).bind fun z4 => (mul x1 (PyData.int 31)).bind fun z5 => (add z4 z5).bind fun z6 => (add z6 (PyData.int 5)).bind fun z7 => (intD z7).bind fun z8 => (fmod z8 (PyData.int 2147483629)).bind fun z9 => R.ok z9)
    (fun _ s => ∃ n : Int, s = .int n) ⟨11, rfl⟩ (fun ys x s ⟨zs, e⟩ ⟨n, en⟩ => by
      have hx : x ∈ ns.map PyData.int := by rw [e]; simp
      obtain ⟨c, _, rfl⟩ := List.mem_map.mp hx
      subst en
      exact ⟨_, by simp only [mul_r (by decide : ((69069 : Int)).natAbs < 2 ^ 64), mul_r (by decide : ((31 : Int)).natAbs < 2 ^ 64), add_i, int_i, fmod_i (by decide : (2147483629 : Int) ≠ 0), R.bind_ok]; rfl, _, rfl⟩)
  subst hn
  rw [e1]
  simp only [R.bind_ok]
  rw [compL_all (h := fun n => PyData.int (n.natAbs : Int)) (by omega) fun x _ => by rw [abs_i]; rfl]
  simp only [R.bind_ok, revL]
  have e2 : ((ns.map fun n => PyData.int (n.natAbs : Int)).reverse : List D) = (ns.map fun n => (n.natAbs : Int)).reverse.map PyData.int := by rw [List.map_reverse, List.map_map]; rfl
  rw [e2]
  unfold mkSrc
  rw [intsD_map]
  simp only [toI_i, R.bind_ok]
  rw [if_pos (by simpa using hl)]
  exact ⟨_, rfl, by show (0 : Int) ≤ 0; decide, by show (0 : Int) + _ ≤ _; decide⟩
end K10

set_option autoImplicit false
set_option linter.all false
set_option maxRecDepth 100000
namespace K10
open PySem L2 Z
def SzT (M : Tb) : Prop := Sz M.a ∧ Sz M.b ∧ Sz M.c ∧ Sz M.d
def SzV (v : Vc) : Prop := Sz v.1 ∧ Sz v.2
theorem added_ok (u v : Vc) : m_lots_added (lotD u) (lotD v) = .ok (lotD (vadd u v)) := by
  unfold m_lots_added lotD
  simp only [item0, item1, R.bind_ok, add_i]; rfl
theorem less_ok (u v : Vc) : m_lots_less (lotD u) (lotD v) = .ok (lotD (vsub u v)) := by
  unfold m_lots_less lotD
  simp only [item0, item1, R.bind_ok, sub_i]; rfl
theorem det_ok {M : Tb} (h : SzT M) : m_table_det (tabD M) = .ok (.int M.det) := by
  unfold m_table_det tabD
  obtain ⟨h1, h2, h3, h4⟩ := h
  simp only [un2_t, R.bind_ok, mul_i h1 h4, mul_i h2 h3, sub_i]; rfl
theorem other_ok (M : Tb) : m_table_other (tabD M) = .ok (tabD M.adj) := by
  unfold m_table_other tabD
  simp only [un2_t, R.bind_ok, neg_i]; rfl
theorem led_ok {M : Tb} {v : Vc} (h : SzT M) (hv : SzV v) : m_lot_led (tabD M) (lotD v) = .ok (lotD (M.led v)) := by
  unfold m_lot_led tabD lotD
  obtain ⟨h1, h2, h3, h4⟩ := h
  obtain ⟨k1, k2⟩ := hv
  simp only [un2_t, R.bind_ok, item0, item1, mul_i h1 k1, mul_i h2 k2, mul_i h3 k1, mul_i h4 k2, add_i]; rfl
theorem ladd_ok (u v : Vc) : m__law_add (lotD u) (lotD v) = .ok (lotD (vadd u v)) := by
  unfold m__law_add lotD
  simp only [item0, item1, R.bind_ok, add_i]; rfl
theorem lless_ok (u v : Vc) : m__law_less (lotD u) (lotD v) = .ok (lotD (vsub u v)) := by
  unfold m__law_less lotD
  simp only [item0, item1, R.bind_ok, sub_i]; rfl
theorem ldet_ok {M : Tb} (h : SzT M) : m__law_det (tabD M) = .ok (.int M.det) := by
  unfold m__law_det tabD
  obtain ⟨h1, h2, h3, h4⟩ := h
  simp only [item0, item1, R.bind_ok, mul_i h1 h4, mul_i h2 h3, sub_i]; rfl
theorem lled_ok {M : Tb} {v : Vc} (h : SzT M) (hv : SzV v) : m__law_led (tabD M) (lotD v) = .ok (lotD (M.led v)) := by
  unfold m__law_led tabD lotD
  obtain ⟨h1, h2, h3, h4⟩ := h
  obtain ⟨k1, k2⟩ := hv
  simp only [R.bind_ok, item0, item1, mul_i h1 k1, mul_i h2 k2, mul_i h3 k1, mul_i h4 k2, add_i]; rfl
/-- a point in least terms -/
structure Pt (x y c X Y C : Int) : Prop where
  low : IsLow x y c X Y C
  bx : X.natAbs ≤ x.natAbs
  by' : Y.natAbs ≤ y.natAbs
  bc : C.natAbs ≤ c.natAbs
theorem Pt.of {x y c : Int} (hc : c ≠ 0) (g : Int) (hg : g.natAbs = Nat.gcd (Nat.gcd x.natAbs y.natAbs) c.natAbs) (hs : 0 < g * c) : Pt x y c (x / g) (y / g) (c / g) ∧ x.fdiv g = x / g ∧ y.fdiv g = y / g ∧ c.fdiv g = c / g := by
  obtain ⟨h, r⟩ := IsLow.of hc g hg hs
  exact ⟨⟨h, Int.natAbs_ediv_le_natAbs _ _, Int.natAbs_ediv_le_natAbs _ _, Int.natAbs_ediv_le_natAbs _ _⟩, r⟩
theorem low_ok {x y c : Int} (hc : c ≠ 0) (hb : c.natAbs < 2 ^ 200) : ∃ X Y C, m_point_low (lotD (x, y)) (.int c) = .ok (pointD ((X, Y), C)) ∧ Pt x y c X Y C := by
  unfold m_point_low lotD
  have gpos : 0 < Nat.gcd (Nat.gcd x.natAbs y.natAbs) c.natAbs := Nat.gcd_pos_of_pos_right _ (by omega)
  have gle : Nat.gcd (Nat.gcd x.natAbs y.natAbs) c.natAbs ≤ c.natAbs := Nat.gcd_le_right _ (by omega)
  have bd : ∀ g : Int, g.natAbs = Nat.gcd (Nat.gcd x.natAbs y.natAbs) c.natAbs → bigD g = true := fun g e => bigD_of (k := 200) (by omega) (by decide)
  have ge : Nat.gcd (Nat.gcd x.natAbs y.natAbs) c.natAbs = Nat.gcd ((Nat.gcd x.natAbs y.natAbs : Nat) : Int).natAbs c.natAbs := rfl
  simp only [item0, item1, R.bind_ok, gcd_i, gt_i]
  by_cases h : 0 < c
  · have hg : ((Nat.gcd ((Nat.gcd x.natAbs y.natAbs : Nat) : Int).natAbs c.natAbs : Nat) : Int).natAbs = Nat.gcd (Nat.gcd x.natAbs y.natAbs) c.natAbs := rfl
    have g0 : ((Nat.gcd ((Nat.gcd x.natAbs y.natAbs : Nat) : Int).natAbs c.natAbs : Nat) : Int) ≠ 0 := by rw [← ge]; omega
    obtain ⟨p, e1, e2, e3⟩ := Pt.of (x := x) (y := y) hc _ hg (Int.mul_pos (by rw [← ge]; omega) h)
    simp only [decide_eq_true h, if_true, R.bind_ok, fdiv_i g0 (bd _ hg)]
    exact ⟨_, _, _, by rw [e1, e2, e3]; rfl, p⟩
  · have hg : (-((Nat.gcd ((Nat.gcd x.natAbs y.natAbs : Nat) : Int).natAbs c.natAbs : Nat) : Int)).natAbs = Nat.gcd (Nat.gcd x.natAbs y.natAbs) c.natAbs := by rw [Int.natAbs_neg]; rfl
    have g0 : (-((Nat.gcd ((Nat.gcd x.natAbs y.natAbs : Nat) : Int).natAbs c.natAbs : Nat) : Int)) ≠ 0 := by rw [← ge]; omega
    obtain ⟨p, e1, e2, e3⟩ := Pt.of (x := x) (y := y) hc _ hg (Int.mul_pos_of_neg_of_neg (by rw [← ge]; omega) (by omega))
    simp only [decide_eq_false h, if_false, Bool.false_eq_true, neg_i, R.bind_ok, fdiv_i g0 (bd _ hg)]
    exact ⟨_, _, _, by rw [e1, e2, e3]; rfl, p⟩
end K10

set_option autoImplicit false
set_option linter.all false
set_option maxRecDepth 100000
namespace K10
open PySem L2 Z
def enc2 (p : Nat × Nat) : D := .tuple [.int (p.1 : Int), .int (p.2 : Int)]
theorem laps_run {f : D → D → R D} (hf : ∀ x s, f x s = ((item s (PyData.int 1)).bind fun z14 =>
    (neD z14 (PyData.int 0)).bind fun z15 =>
    if z15 = true then
    (item s (PyData.int 1)).bind fun z16 =>
    (item s (PyData.int 0)).bind fun z17 =>
    (intD z17).bind fun z18 =>
    (item s (PyData.int 1)).bind fun z19 =>
    (fmod z18 z19).bind fun z20 =>
    R.ok (PyData.tuple [z16, z20])
    else
    R.ok s : R D).bind fun z21 =>
    R.ok z21) : ∀ (xs : List D) (p : Nat × Nat), forS xs (enc2 p) f = .ok (enc2 (laps xs.length p))
  | [], p => rfl
  | x :: xs, p => by
    have e : f x (enc2 p) = .ok (enc2 (lap p)) := by
      rw [hf]
      unfold enc2 lap
      simp only [item1, item0, R.bind_ok, ne_i, int_i]
      by_cases h : p.2 = 0
      · simp [h]
      · have h' : ¬ ((p.2 : Int) = 0) := by omega
        simp only [h', decide_false, Bool.not_false, if_true, fmod_i h', R.bind_ok, ne_eq, h, not_false_eq_true]
        rw [Int.fmod_eq_emod_of_nonneg _ (by omega), Int.natCast_emod]
    rw [forS_cons, e]
    exact laps_run hf xs (lap p)
theorem laps_200 {f : D → D → R D} (hf : ∀ x s, f x s = ((item s (PyData.int 1)).bind fun z14 =>
    (neD z14 (PyData.int 0)).bind fun z15 =>
    if z15 = true then
    (item s (PyData.int 1)).bind fun z16 =>
    (item s (PyData.int 0)).bind fun z17 =>
    (intD z17).bind fun z18 =>
    (item s (PyData.int 1)).bind fun z19 =>
    (fmod z18 z19).bind fun z20 =>
    R.ok (PyData.tuple [z16, z20])
    else
    R.ok s : R D).bind fun z21 =>
    R.ok z21) (a b : Nat) (h : b < 2 ^ 100) : forS (rangeD 0 200) (enc2 (a, b)) f = .ok (enc2 (Nat.gcd a b, 0)) := by
  rw [laps_run hf]
  have : (rangeD 0 200).length = 2 * 100 := by rw [show (200 : Int) = ((200 : Nat) : Int) from rfl, rangeD_eq]; simp
  rw [this, laps_gcd 100 a b h]
theorem llow_ok {x y c : Int} (hc : c ≠ 0) (hy : y.natAbs < 2 ^ 100) (hb : c.natAbs < 2 ^ 100) : ∃ X Y C, m__law_low (.int x) (.int y) (.int c) = .ok (pointD ((X, Y), C)) ∧ Pt x y c X Y C := by
  unfold m__law_low
  have r2 : range1 (PyData.int 2) = .ok [.int 0, .int 1] := by rw [show (2 : Int) = ((2 : Nat) : Int) from rfl, range_i (by decide)]; rfl
  have r200 : range1 (PyData.int 200) = .ok (rangeD 0 200) := range_i (n := 200) (by decide)
  have l1 : ∀ {f : D → D → R D} (hf : ∀ x s, f x s = _) (a b : Nat), b < 2 ^ 100 → forS (rangeD 0 200) (PyData.tuple [PyData.int (a : Int), PyData.int (b : Int)]) f = .ok (enc2 (Nat.gcd a b, 0)) := fun {f} hf a b h => laps_200 hf a b h
  have e0 : eqD (PyData.int 0) (PyData.int 0) = .ok true := by rw [eq_i]; rfl
  have e1 : eqD (PyData.int 1) (PyData.int 0) = .ok false := by rw [eq_i]; rfl
  simp only [abs_i, R.bind_ok, r2, r200, forS_cons, forS_nil, e0, e1, if_true, if_false, Bool.false_eq_true]
  rw [l1 (fun _ _ => rfl) _ _ hy]
  simp only [R.bind_ok, enc2, item0]
  rw [l1 (fun _ _ => rfl) _ _ hb]
  simp only [R.bind_ok, enc2, item0, gt_i]
  have gpos : 0 < Nat.gcd (Nat.gcd x.natAbs y.natAbs) c.natAbs := Nat.gcd_pos_of_pos_right _ (by omega)
  have gle : Nat.gcd (Nat.gcd x.natAbs y.natAbs) c.natAbs ≤ c.natAbs := Nat.gcd_le_right _ (by omega)
  generalize hg : Nat.gcd (Nat.gcd x.natAbs y.natAbs) c.natAbs = G at *
  have g0 : (G : Int) ≠ 0 := by omega
  have gb : bigD (G : Int) = true := bigD_of (k := 100) (by omega) (by decide)
  have s1 : Int.natAbs 1 < 2 ^ 64 := by decide
  have s2 : Int.natAbs (-1) < 2 ^ 64 := by decide
  by_cases h : 0 < c
  · obtain ⟨p, q1, q2, q3⟩ := Pt.of (x := x) (y := y) hc (G : Int) (by rw [hg]; rfl) (Int.mul_pos (by omega) h)
    have ec : ((c.natAbs : Nat) : Int) = c := by omega
    simp only [decide_eq_true h, if_true, R.bind_ok, mul_l s1, Int.one_mul, fdiv_i g0 gb, ec]
    exact ⟨_, _, _, by rw [q1, q2, q3]; rfl, p⟩
  · have hg' : (-(G : Int)).natAbs = Nat.gcd (Nat.gcd x.natAbs y.natAbs) c.natAbs := by rw [hg]; omega
    obtain ⟨p, q1, q2, q3⟩ := Pt.of (x := x) (y := y) hc (-(G : Int)) hg' (Int.mul_pos_of_neg_of_neg (by omega) (by omega))
    have ec : ((c.natAbs : Nat) : Int) = -c := by omega
    have fd : ∀ z : Int, (-z).fdiv (G : Int) = z.fdiv (-(G : Int)) := fun z => by rw [← Int.neg_fdiv_neg, Int.neg_neg]
    simp only [decide_eq_false h, if_false, Bool.false_eq_true, R.bind_ok, mul_l s2, Int.neg_mul, Int.one_mul, fdiv_i g0 gb, ec, fd]
    exact ⟨_, _, _, by rw [q1, q2, q3]; rfl, p⟩
end K10

set_option autoImplicit false
set_option linter.all false
set_option maxRecDepth 100000
namespace K10
open PySem L2 Z
def nv (v : Vc) : Nat := max v.1.natAbs v.2.natAbs
/-- rows of sum 3 at most -/
structure RS (M : Tb) : Prop where
  r1 : M.a.natAbs + M.b.natAbs ≤ 3
  r2 : M.c.natAbs + M.d.natAbs ≤ 3
theorem two_le {a b x y : Int} {n k : Nat} (h : a.natAbs + b.natAbs ≤ k) (hx : x.natAbs ≤ n) (hy : y.natAbs ≤ n) : (a * x + b * y).natAbs ≤ k * n := by
  have h1 : (a * x).natAbs ≤ a.natAbs * n := by rw [Int.natAbs_mul]; exact Nat.mul_le_mul_left _ hx
  have h2 : (b * y).natAbs ≤ b.natAbs * n := by rw [Int.natAbs_mul]; exact Nat.mul_le_mul_left _ hy
  have h3 : (a.natAbs + b.natAbs) * n ≤ k * n := Nat.mul_le_mul_right _ h
  rw [Nat.add_mul] at h3
  have := Int.natAbs_add_le (a * x) (b * y)
  omega
theorem nv1 (v : Vc) : v.1.natAbs ≤ nv v := Nat.le_max_left _ _
theorem nv2 (v : Vc) : v.2.natAbs ≤ nv v := Nat.le_max_right _ _
theorem nv_le {v : Vc} {n : Nat} (h1 : v.1.natAbs ≤ n) (h2 : v.2.natAbs ≤ n) : nv v ≤ n := Nat.max_le.mpr ⟨h1, h2⟩
theorem nv_led {M : Tb} (h : RS M) (v : Vc) : nv (M.led v) ≤ 3 * nv v := nv_le (two_le h.r1 (nv1 v) (nv2 v)) (two_le h.r2 (nv1 v) (nv2 v))
theorem nv_add (u v : Vc) : nv (vadd u v) ≤ nv u + nv v := by
  have := nv1 u; have := nv2 u; have := nv1 v; have := nv2 v
  refine nv_le ?_ ?_
  · have := Int.natAbs_add_le u.1 v.1; simp only [vadd]; omega
  · have := Int.natAbs_add_le u.2 v.2; simp only [vadd]; omega
theorem nv_sub (u v : Vc) : nv (vsub u v) ≤ nv u + nv v := by
  have := nv1 u; have := nv2 u; have := nv1 v; have := nv2 v
  refine nv_le ?_ ?_
  · simp only [vsub]; omega
  · simp only [vsub]; omega
theorem nv_mul (k : Int) (v : Vc) : nv (vmul k v) ≤ k.natAbs * nv v := by
  refine nv_le ?_ ?_
  · simp only [vmul]; rw [Int.natAbs_mul]; exact Nat.mul_le_mul_left _ (nv1 v)
  · simp only [vmul]; rw [Int.natAbs_mul]; exact Nat.mul_le_mul_left _ (nv2 v)
theorem nv_it {M : Tb} (h : RS M) (v : Vc) : ∀ n, nv (M.it n v) ≤ 3 ^ n * nv v
  | 0 => by simp [Tb.it]
  | n + 1 => by
    have h1 := nv_led h (M.it n v)
    have h2 := nv_it h v n
    have : 3 ^ (n + 1) * nv v = 3 * (3 ^ n * nv v) := by rw [Nat.pow_succ]; grind
    show nv (M.led _) ≤ _
    omega
theorem nv_row {M : Tb} (h : RS M) : ∀ (r : List Vc) (v : Vc), (∀ d ∈ r, nv d ≤ 3) → nv (M.row v r) + 3 ≤ 3 ^ r.length * (nv v + 3)
  | [], v, _ => by simp [Tb.row]
  | d :: r, v, hd => by
    have h1 := nv_row h r (vadd (M.led v) d) fun e he => hd e (by simp [he])
    have h2 := nv_add (M.led v) d
    have h3 := nv_led h v
    have h4 := hd d (by simp)
    have h5 : 3 ^ r.length * (nv (vadd (M.led v) d) + 3) ≤ 3 ^ r.length * (3 * (nv v + 3)) := Nat.mul_le_mul_left _ (by omega)
    have h6 : 3 ^ (d :: r).length * (nv v + 3) = 3 ^ r.length * (3 * (nv v + 3)) := by rw [List.length_cons, Nat.pow_succ]; grind
    rw [h6]
    exact Nat.le_trans h1 h5
theorem SzV.of {v : Vc} {k : Nat} (h : nv v < 2 ^ k) (hk : k ≤ 400000) : SzV v := ⟨Sz.of (Nat.lt_of_le_of_lt (nv1 v) h) hk, Sz.of (Nat.lt_of_le_of_lt (nv2 v) h) hk⟩
theorem RS.sz {M : Tb} (h : RS M) : SzT M := by
  have := h.r1; have := h.r2
  exact ⟨Sz.of (k := 2) (by omega) (by decide), Sz.of (k := 2) (by omega) (by decide), Sz.of (k := 2) (by omega) (by decide), Sz.of (k := 2) (by omega) (by decide)⟩

/-! ### the base, its rows -/
structure Base (M : Tb) (ds : List Vc) : Prop where
  rs : RS M
  dg : ∀ d ∈ ds, nv d ≤ 3
def baseD (M : Tb) (ds : List Vc) : D := .tuple [tabD M, .tuple (ds.map lotD)]
def numD (k : Nat) : D := .int (k : Int)
def dig (ds : List Vc) (k : Nat) : Vc := ds.getD k (0, 0)
theorem dig_at {ds : List Vc} {k : Nat} (h : k < ds.length) : (ds.map lotD)[k]? = some (lotD (dig ds k)) := by
  rw [List.getElem?_map, List.getElem?_eq_getElem h]
  simp [dig, List.getD, List.getElem?_eq_getElem h]
theorem dig_mem {ds : List Vc} {k : Nat} (h : k < ds.length) : dig ds k ∈ ds := by
  simp [dig, List.getD, List.getElem?_eq_getElem h]
theorem Base.digs {M : Tb} {ds : List Vc} (b : Base M ds) {ks : List Nat} (hk : ∀ k ∈ ks, k < ds.length) : ∀ d ∈ ks.map (dig ds), nv d ≤ 3 := fun d hd => by
  obtain ⟨k, h1, rfl⟩ := List.mem_map.mp hd
  exact b.dg _ (dig_mem (hk k h1))
theorem row_run {M : Tb} {ds : List Vc} (b : Base M ds) {f : D → D → R D} (hf : ∀ (k : Nat) (v : Vc), k < ds.length → SzV v → f (numD k) (lotD v) = .ok (lotD (vadd (M.led v) (dig ds k)))) :
    ∀ (ks : List Nat) (v : Vc) (j : Nat), (∀ k ∈ ks, k < ds.length) → nv v + 3 ≤ 3 ^ j * 100 → j + ks.length ≤ 1000 → forS (ks.map numD) (lotD v) f = .ok (lotD (M.row v (ks.map (dig ds))))
  | [], v, j, _, _, _ => rfl
  | k :: ks, v, j, hk, hv, hj => by
    have p : 3 ^ j * 100 < 2 ^ 3000 := by
      have h1 : 3 ^ j ≤ 3 ^ 1000 := Nat.pow_le_pow_right (by decide) (by simp at hj; omega)
      have h2 : 3 ^ 1000 * 100 < 2 ^ 3000 := by decide
      omega
    have sv : SzV v := SzV.of (k := 3000) (by omega) (by decide)
    rw [List.map_cons, forS_cons, hf k v (hk k (by simp)) sv, R.bind_ok]
    have h1 := nv_add (M.led v) (dig ds k)
    have h2 := nv_led b.rs v
    have h3 := b.dg _ (dig_mem (hk k (by simp)))
    exact row_run b hf ks _ (j + 1) (fun e he => hk e (by simp [he])) (by rw [Nat.pow_succ]; omega) (by simp at hj; omega)
theorem rowW_ok {M : Tb} {ds : List Vc} (b : Base M ds) (ks : List Nat) (v : Vc) (hk : ∀ k ∈ ks, k < ds.length) (hv : nv v ≤ 97) (hl : ks.length ≤ 1000) : m_row_worth (baseD M ds) (lotD v) (.tuple (ks.map numD)) = .ok (lotD (M.row v (ks.map (dig ds)))) := by
  unfold m_row_worth
  rw [iter_t, R.bind_ok, row_run b (fun k v h1 h2 => ?_) ks v 0 hk (by omega) (by omega)]
  · rfl
  · unfold baseD numD
    simp only [item0, item1, R.bind_ok, led_ok b.rs.sz h2, item_n (dig_at h1), added_ok]
theorem sum_ok {M : Tb} {ds : List Vc} (b : Base M ds) (ks : List Nat) (v : Vc) (hk : ∀ k ∈ ks, k < ds.length) (hv : nv v ≤ 97) (hl : ks.length ≤ 1000) : m__law_sum (baseD M ds) (lotD v) (.tuple (ks.map numD)) = .ok (lotD (M.row v (ks.map (dig ds)))) := by
  unfold m__law_sum
  rw [iter_t, R.bind_ok, row_run b (fun k v h1 h2 => ?_) ks v 0 hk (by omega) (by omega)]
  · rfl
  · unfold baseD numD
    simp only [item0, item1, R.bind_ok, lled_ok b.rs.sz h2, item_n (dig_at h1), ladd_ok]
end K10

set_option autoImplicit false
set_option linter.all false
set_option maxRecDepth 100000
namespace K10
open PySem L2 Z
def zv : Vc := (0, 0)
section
variable (M : Tb) (n k : Nat) (W S : Vc)
/-- what is left of a point led by the digits ahead -/
def left (p : Vc) (c : Int) : Vc := vsub (M.it k p) (vmul c W)
/-- (p, c) is the point: 0 -/
def E (p : Vc) (c : Int) : Vc := vsub (vsub (M.it n (left M k W p c)) (left M k W p c)) (vmul c S)
theorem vmul_sub (t : Int) (u v : Vc) : vmul t (vsub u v) = vsub (vmul t u) (vmul t v) := by apply vext <;> simp only [vmul, vsub] <;> grind
theorem vmul_mul (t s : Int) (v : Vc) : vmul t (vmul s v) = vmul (t * s) v := by apply vext <;> simp only [vmul] <;> grind
theorem left_mul (t : Int) (p : Vc) (c : Int) : left M k W (vmul t p) (t * c) = vmul t (left M k W p c) := by
  unfold left; rw [it_mul, vmul_sub, vmul_mul]
theorem E_mul (t : Int) (p : Vc) (c : Int) : E M n k W S (vmul t p) (t * c) = vmul t (E M n k W S p c) := by
  unfold E; rw [left_mul, it_mul, vmul_sub, vmul_sub, vmul_mul]
theorem left_sub (p q : Vc) (c d : Int) : left M k W (vsub p q) (c - d) = vsub (left M k W p c) (left M k W q d) := by
  unfold left; rw [it_sub]; apply vext <;> simp only [vmul, vsub] <;> grind
theorem E_sub (p q : Vc) (c d : Int) : E M n k W S (vsub p q) (c - d) = vsub (E M n k W S p c) (E M n k W S q d) := by
  unfold E; rw [left_sub, it_sub]; apply vext <;> simp only [vmul, vsub] <;> grind
end
theorem vmul_zero {t : Int} {v : Vc} (ht : t ≠ 0) (h : vmul t v = zv) : v = zv := by
  have h1 : t * v.1 = 0 := congrArg Prod.fst h
  have h2 : t * v.2 = 0 := congrArg Prod.snd h
  exact vext ((Int.mul_eq_zero.mp h1).resolve_left ht) ((Int.mul_eq_zero.mp h2).resolve_left ht)
theorem vmul_z (t : Int) : vmul t zv = zv := by apply vext <;> simp [vmul, zv]
theorem vsub_z {u v : Vc} (h : vsub u v = zv) : u = v := by
  have h1 : u.1 - v.1 = 0 := congrArg Prod.fst h
  have h2 : u.2 - v.2 = 0 := congrArg Prod.snd h
  exact vext (by omega) (by omega)
theorem vsub_self (u : Vc) : vsub u u = zv := by apply vext <;> simp [vsub, zv]
theorem led_zero {N : Tb} {v : Vc} (hd : N.det ≠ 0) (h : N.led v = zv) : v = zv := by
  have h1 := adj_led N v
  rw [h] at h1
  have h2 : N.adj.led zv = zv := by apply vext <;> simp [Tb.led, zv]
  rw [h2] at h1
  exact vmul_zero hd h1.symm
theorem det_mul (M N : Tb) : (M.mul N).det = M.det * N.det := by simp only [Tb.det, Tb.mul]; grind
theorem det_pw {M : Tb} (h : M.det ≠ 0) : ∀ n, (M.pw n).det ≠ 0
  | 0 => by show Tb.one.det ≠ 0; decide
  | n + 1 => by rw [Tb.pw, det_mul]; exact Int.mul_ne_zero h (det_pw h n)
/-- one point alone -/
theorem E_uniq {M : Tb} {n k : Nat} {W S p q : Vc} {c d : Int} (hM : M.det ≠ 0) (hL : (M.pw n).less1.det ≠ 0) (h1 : E M n k W S p c = zv) (h2 : E M n k W S q d = zv) : vmul d p = vmul c q := by
  have e1 : E M n k W S (vmul d p) (d * c) = zv := by rw [E_mul, h1, vmul_z]
  have e2 : E M n k W S (vmul c q) (c * d) = zv := by rw [E_mul, h2, vmul_z]
  have e3 : E M n k W S (vsub (vmul d p) (vmul c q)) (d * c - c * d) = zv := by rw [E_sub, e1, e2, vsub_self]
  have e4 : d * c - c * d = 0 := by grind
  rw [e4] at e3
  generalize hq : vsub (vmul d p) (vmul c q) = r at e3
  unfold E left at e3
  have z0 : ∀ v : Vc, vmul 0 v = zv := fun v => by apply vext <;> simp [vmul, zv]
  have s0 : ∀ v : Vc, vsub v zv = v := fun v => by apply vext <;> simp [vsub, zv]
  rw [z0, z0, s0, s0] at e3
  rw [← pw_led, ← less1_led] at e3
  have e5 := led_zero hL e3
  rw [← pw_led] at e5
  have e6 := led_zero (det_pw hM k) e5
  rw [e6] at hq
  exact vsub_z hq
/-- least terms tell the same -/
theorem E_low {M : Tb} {n k : Nat} {W S : Vc} {x y c X Y C : Int} (hc : c ≠ 0) (h : E M n k W S (x, y) c = zv) (l : IsLow x y c X Y C) : E M n k W S (X, Y) C = zv := by
  have e : vmul c (X, Y) = vmul C (x, y) := by
    apply vext
    · show c * X = C * x; have := l.ex; grind
    · show c * Y = C * y; have := l.ey; grind
  have e1 : vmul c (E M n k W S (X, Y) C) = zv := by
    rw [← E_mul, e, Int.mul_comm c C, E_mul, h, vmul_z]
  exact vmul_zero hc e1
/-- two in least terms are one -/
theorem E_eq {M : Tb} {n k : Nat} {W S : Vc} {x y c X Y C x' y' c' X' Y' C' : Int} (hM : M.det ≠ 0) (hL : (M.pw n).less1.det ≠ 0) (hc : c ≠ 0) (hc' : c' ≠ 0) (h : E M n k W S (x, y) c = zv) (h' : E M n k W S (x', y') c' = zv) (l : IsLow x y c X Y C) (l' : IsLow x' y' c' X' Y' C') :
    X = X' ∧ Y = Y' ∧ C = C' := by
  have e := E_uniq hM hL h h'
  have e1 : c' * x = c * x' := congrArg Prod.fst e
  have e2 : c' * y = c * y' := congrArg Prod.snd e
  exact l.uniq l' hc hc' (by grind) (by grind)

/-! ### what changes with the name -/
section
variable {M : Tb} {n k : Nat} {W S p : Vc} {c : Int}
theorem E_iff : E M n k W S p c = zv ↔ vsub (M.it n (left M k W p c)) (left M k W p c) = vmul c S := ⟨fun h => vsub_z h, fun h => by unfold E; rw [h, vsub_self]⟩
/-- moved -/
theorem E_moved (t : Vc) (h : E M n k W S p c = zv) : E M n k (vadd W (M.it k t)) S (vadd p (vmul c t)) c = zv := by
  have e : left M k (vadd W (M.it k t)) (vadd p (vmul c t)) c = left M k W p c := by
    unfold left
    rw [it_add, it_mul]
    apply vext <;> simp only [vmul, vsub, vadd] <;> grind
  unfold E at h ⊢
  rw [e]; exact h
/-- the round told twice -/
theorem E_twice (h : E M n k W S p c = zv) : E M (n + n) k W (vadd (M.it n S) S) p c = zv := by
  rw [E_iff] at h ⊢
  generalize left M k W p c = z at h ⊢
  have h1 : M.it n z = vadd z (vmul c S) := by
    apply vext
    · have := congrArg Prod.fst h; simp only [vsub, vadd] at this ⊢; omega
    · have := congrArg Prod.snd h; simp only [vsub, vadd] at this ⊢; omega
  rw [← it_it, h1, it_add, h1, it_mul]
  apply vext <;> simp only [vmul, vsub, vadd] <;> grind
/-- a digit of the round ahead -/
theorem E_turned {d R : Vc} (n0 : Nat) (hn : n = n0 + 1) (hS : S = vadd (M.it n0 d) R) (h : E M n k W S p c = zv) : E M n (k + 1) (vadd (M.led W) d) (vadd (M.led R) d) p c = zv := by
  subst hn
  rw [E_iff] at h ⊢
  have e : left M (k + 1) (vadd (M.led W) d) p c = vsub (M.led (left M k W p c)) (vmul c d) := by
    unfold left
    show vsub (M.led (M.it k p)) _ = _
    rw [led_sub, led_mul]
    apply vext <;> simp only [vmul, vsub, vadd] <;> grind
  rw [e]
  generalize left M k W p c = z at h ⊢
  have h1 : M.it (n0 + 1) z = vadd z (vmul c S) := by
    apply vext
    · have := congrArg Prod.fst h; simp only [vsub, vadd] at this ⊢; omega
    · have := congrArg Prod.snd h; simp only [vsub, vadd] at this ⊢; omega
  rw [it_sub, it_led, h1, it_mul, led_add, led_mul, hS, led_add]
  show vsub (vsub (vadd (M.led z) (vmul c (vadd (M.led (M.it n0 d)) (M.led R)))) (vmul c (M.led (M.it n0 d)))) _ = _
  apply vext <;> simp only [vmul, vsub, vadd] <;> grind
end
theorem E_led {M : Tb} {n k : Nat} {W S p : Vc} {c : Int} : E M n (k + 1) W S p c = E M n k W S (M.led p) c := by
  unfold E left; rw [it_led]; rfl
end K10

set_option autoImplicit false
set_option linter.all false
set_option maxRecDepth 100000
set_option exponentiation.threshold 5000
namespace K10
open PySem L2 Z
/-- entries below -/
def Ent (M : Tb) (B : Nat) : Prop := M.a.natAbs ≤ B ∧ M.b.natAbs ≤ B ∧ M.c.natAbs ≤ B ∧ M.d.natAbs ≤ B
theorem Ent.sz {M : Tb} {B k : Nat} (h : Ent M B) (hB : B < 2 ^ k) (hk : k ≤ 400000) : SzT M :=
  ⟨Sz.of (Nat.lt_of_le_of_lt h.1 hB) hk, Sz.of (Nat.lt_of_le_of_lt h.2.1 hB) hk, Sz.of (Nat.lt_of_le_of_lt h.2.2.1 hB) hk, Sz.of (Nat.lt_of_le_of_lt h.2.2.2 hB) hk⟩
theorem Ent.adj {M : Tb} {B : Nat} (h : Ent M B) : Ent M.adj B := by
  obtain ⟨h1, h2, h3, h4⟩ := h
  exact ⟨h4, by simpa [Tb.adj] using h2, by simpa [Tb.adj] using h3, h1⟩
theorem Ent.less1 {M : Tb} {B : Nat} (h : Ent M B) : Ent M.less1 (B + 1) := by
  obtain ⟨h1, h2, h3, h4⟩ := h
  refine ⟨?_, ?_, ?_, ?_⟩ <;> simp only [Tb.less1] <;> omega
theorem Ent.led {M : Tb} {B : Nat} (h : Ent M B) (v : Vc) : nv (M.led v) ≤ 2 * B * nv v := by
  obtain ⟨h1, h2, h3, h4⟩ := h
  exact nv_le (two_le (by omega) (nv1 v) (nv2 v)) (two_le (by omega) (nv1 v) (nv2 v))
theorem Ent.det {M : Tb} {B : Nat} (h : Ent M B) : M.det.natAbs ≤ 2 * B * B := by
  obtain ⟨h1, h2, h3, h4⟩ := h
  have e1 : (M.a * M.d).natAbs ≤ B * B := by rw [Int.natAbs_mul]; exact Nat.mul_le_mul h1 h4
  have e2 : (M.b * M.c).natAbs ≤ B * B := by rw [Int.natAbs_mul]; exact Nat.mul_le_mul h2 h3
  unfold Tb.det
  have : 2 * B * B = B * B + B * B := by grind
  omega
theorem pw_ent {M : Tb} (h : RS M) (n : Nat) : Ent (M.pw n) (3 ^ n) := by
  have e1 := nv_it h (1, 0) n
  have e2 := nv_it h (0, 1) n
  rw [← pw_led] at e1 e2
  have n1 : nv ((1, 0) : Vc) = 1 := rfl
  have n2 : nv ((0, 1) : Vc) = 1 := rfl
  rw [n1, Nat.mul_one] at e1
  rw [n2, Nat.mul_one] at e2
  have a1 := nv1 ((M.pw n).led (1, 0)); have a2 := nv2 ((M.pw n).led (1, 0))
  have b1 := nv1 ((M.pw n).led (0, 1)); have b2 := nv2 ((M.pw n).led (0, 1))
  simp only [Tb.led, Int.mul_one, Int.mul_zero, Int.add_zero, Int.zero_add] at a1 a2 b1 b2 e1 e2
  exact ⟨by omega, by omega, by omega, by omega⟩
theorem pw_it1 (M : Tb) (n : Nat) : M.it n (1, 0) = ((M.pw n).a, (M.pw n).c) := by rw [← pw_led]; simp [Tb.led]
theorem pw_it2 (M : Tb) (n : Nat) : M.it n (0, 1) = ((M.pw n).b, (M.pw n).d) := by rw [← pw_led]; simp [Tb.led]
theorem behind_ok {M N : Tb} (hM : SzT M) (hN : SzT N) : m__law_behind (tabD M) (tabD N) = .ok (tabD (M.mul N)) := by
  unfold m__law_behind
  have r2 : range1 (PyData.int 2) = .ok [.int 0, .int 1] := by rw [show (2 : Int) = ((2 : Nat) : Int) from rfl, range_i (by decide)]; rfl
  have l1 := lled_ok (v := (N.a, N.c)) hM ⟨hN.1, hN.2.2.1⟩
  have l2 := lled_ok (v := (N.b, N.d)) hM ⟨hN.2.1, hN.2.2.2⟩
  unfold lotD at l1 l2
  have t : tabD N = .tuple [.tuple [.int N.a, .int N.b], .tuple [.int N.c, .int N.d]] := rfl
  rw [r2, R.bind_ok, compL_of (by decide), t]
  simp only [compP, item0, item1, R.bind_ok, l1, l2, item_l0, item_l1]
  rfl
theorem range_run {τ : Type} {f : D → τ → R τ} (g : Nat → τ) {n : Nat} (h : ∀ (i : Nat) (x : D), i < n → f x (g i) = .ok (g (i + 1))) : forS (rangeD 0 (n : Int)) (g 0) f = .ok (g n) := by
  have key : ∀ (xs : List D) (i : Nat), i + xs.length = n → forS xs (g i) f = .ok (g n) := by
    intro xs
    induction xs with
    | nil => intro i e; have : i = n := by simpa using e
             subst this; rfl
    | cons x xs ih => intro i e; rw [forS_cons, h i x (by simp at e; omega), R.bind_ok]; exact ih (i + 1) (by simp at e; omega)
  exact key _ 0 (by rw [rangeD_eq]; simp)
theorem pw_sz {M : Tb} (h : RS M) {n : Nat} (hn : n ≤ 1000) : SzT (M.pw n) := by
  refine (pw_ent h n).sz (k := 2000) ?_ (by decide)
  have h1 : 3 ^ n ≤ 3 ^ 1000 := Nat.pow_le_pow_right (by decide) hn
  have h2 : 3 ^ 1000 < 2 ^ 2000 := by decide
  omega
theorem power_ok {M : Tb} (h : RS M) {n : Nat} (hn : n ≤ 1000) : m__law_power (tabD M) (.int (n : Int)) = .ok (tabD (M.pw n)) := by
  unfold m__law_power
  rw [range_i (by omega), R.bind_ok]
  have := range_run (f := fun x2 s3 => (m__law_behind (tabD M) s3).bind fun z5 => R.ok z5) (fun i => tabD (M.pw i)) (n := n) fun i x hi => by rw [behind_ok h.sz (pw_sz h (by omega)), R.bind_ok]; rfl
  show (forS (rangeD 0 (n : Int)) (tabD (M.pw 0)) _).bind _ = _
  rw [this]; rfl
/-- (d x - b y, a y - c x) over the determinant, in least terms -/
theorem solved_ok {L : Tb} {v : Vc} (hL : SzT L) (hv : SzV v) (hd : L.det ≠ 0) (h1 : L.det.natAbs < 2 ^ 100) (h2 : nv (L.adj.led v) < 2 ^ 100) : ∃ X Y C, m__law_solved (tabD L) (lotD v) = .ok (pointD ((X, Y), C)) ∧ Pt (L.adj.led v).1 (L.adj.led v).2 L.det X Y C := by
  unfold m__law_solved
  obtain ⟨a1, a2, a3, a4⟩ := id hL
  obtain ⟨b1, b2⟩ := hv
  have t : tabD L = .tuple [.tuple [.int L.a, .int L.b], .tuple [.int L.c, .int L.d]] := rfl
  have e1 : L.d * v.1 - L.b * v.2 = (L.adj.led v).1 := by simp only [Tb.led, Tb.adj]; grind
  have e2 : L.a * v.2 - L.c * v.1 = (L.adj.led v).2 := by simp only [Tb.led, Tb.adj]; grind
  obtain ⟨X, Y, C, e, p⟩ := llow_ok (x := (L.adj.led v).1) (y := (L.adj.led v).2) hd (Nat.lt_of_le_of_lt (nv2 _) h2) h1
  refine ⟨X, Y, C, ?_, p⟩
  have ld := ldet_ok hL
  rw [t] at ld ⊢
  unfold lotD
  simp only [un2_t, R.bind_ok, item0, item1, mul_i a4 b1, mul_i a2 b2, mul_i a1 b2, mul_i a3 b1, sub_i, ld, e1, e2, e]
theorem added_pt {x y c u v d : Int} (hs : Sz x ∧ Sz y ∧ Sz c ∧ Sz u ∧ Sz v ∧ Sz d) (hc : c * d ≠ 0) (hb : (c * d).natAbs < 2 ^ 200) : ∃ X Y C, m_points_added (pointD ((x, y), c)) (pointD ((u, v), d)) = .ok (pointD ((X, Y), C)) ∧ Pt (x * d + u * c) (y * d + v * c) (c * d) X Y C := by
  unfold m_points_added pointD lotD
  obtain ⟨h1, h2, h3, h4, h5, h6⟩ := hs
  obtain ⟨X, Y, C, e, p⟩ := low_ok (x := x * d + u * c) (y := y * d + v * c) hc hb
  refine ⟨X, Y, C, ?_, p⟩
  unfold lotD at e
  simp only [un2_t, R.bind_ok, mul_i h1 h6, mul_i h4 h3, mul_i h2 h6, mul_i h5 h3, mul_i h3 h6, add_i, e]
  rfl
theorem undone_pt {M : Tb} {x y c : Int} (hM : SzT M) (hs : Sz x ∧ Sz y ∧ Sz c) (hd : Sz M.det) (hc : c * M.det ≠ 0) (hb : (c * M.det).natAbs < 2 ^ 200) : ∃ X Y C, m_point_undone (tabD M) (pointD ((x, y), c)) = .ok (pointD ((X, Y), C)) ∧ Pt (M.adj.led (x, y)).1 (M.adj.led (x, y)).2 (c * M.det) X Y C := by
  unfold m_point_undone pointD
  obtain ⟨h1, h2, h3⟩ := hs
  have hA : SzT M.adj := by
    obtain ⟨a1, a2, a3, a4⟩ := hM
    exact ⟨a4, by unfold Sz at *; simpa [Tb.adj] using a2, by unfold Sz at *; simpa [Tb.adj] using a3, a1⟩
  obtain ⟨X, Y, C, e, p⟩ := low_ok (x := (M.adj.led (x, y)).1) (y := (M.adj.led (x, y)).2) hc hb
  refine ⟨X, Y, C, ?_, p⟩
  simp only [other_ok, R.bind_ok, item0, item1, led_ok hA (v := (x, y)) ⟨h1, h2⟩, det_ok hM, mul_i h3 hd, e]
  rfl
end K10

set_option autoImplicit false
set_option linter.all false
set_option maxRecDepth 100000
set_option exponentiation.threshold 5000
namespace K10
open PySem L2 Z
/-- in least terms -/
structure Red (X Y C : Int) : Prop where
  pos : 0 < C
  co : Nat.gcd (Nat.gcd X.natAbs Y.natAbs) C.natAbs = 1
theorem Red.self {X Y C : Int} (h : Red X Y C) : IsLow X Y C X Y C := ⟨h.pos, h.co, rfl, rfl⟩
theorem Pt.red {x y c X Y C : Int} (h : Pt x y c X Y C) : Red X Y C := ⟨h.low.pos, h.low.co⟩
theorem Red.eq {M : Tb} {n k : Nat} {W S : Vc} {X Y C X' Y' C' : Int} (hM : M.det ≠ 0) (hL : (M.pw n).less1.det ≠ 0) (r : Red X Y C) (r' : Red X' Y' C') (h : E M n k W S (X, Y) C = zv) (h' : E M n k W S (X', Y') C' = zv) : X = X' ∧ Y = Y' ∧ C = C' :=
  E_eq hM hL (by have := r.pos; omega) (by have := r'.pos; omega) h h' r.self r'.self
theorem run_lt {τ : Type} {f : D → τ → R τ} (g : Nat → τ) (N : Nat) (h : ∀ (i : Nat) (x : D), i < N → f x (g i) = .ok (g (i + 1))) : ∀ (xs : List D) (i : Nat), i + xs.length ≤ N → forS xs (g i) f = .ok (g (i + xs.length))
  | [], i, _ => rfl
  | x :: xs, i, hl => by
    rw [List.length_cons] at hl
    rw [forS_cons, h i x (by omega), R.bind_ok, run_lt g N h xs (i + 1) (by omega), List.length_cons]; congr 2; omega
theorem lotz : lotD zv = .tuple [.int 0, .int 0] := rfl
theorem pow24 {n : Nat} (h : n ≤ 24) : 3 ^ n ≤ 282429536481 := by
  have : 3 ^ n ≤ 3 ^ 24 := Nat.pow_le_pow_right (by decide) h
  have e : 3 ^ 24 = 282429536481 := by decide
  omega
theorem pow12 {n : Nat} (h : n ≤ 12) : 3 ^ n ≤ 531441 := by
  have : 3 ^ n ≤ 3 ^ 12 := Nat.pow_le_pow_right (by decide) h
  have e : 3 ^ 12 = 531441 := by decide
  omega
theorem mul_bd {a b A B : Nat} (h1 : a ≤ A) (h2 : b ≤ B) : a * b ≤ A * B := Nat.mul_le_mul h1 h2
/-- the sum of a round -/
theorem nv_S {M : Tb} {ds : List Vc} (b : Base M ds) {ks : List Nat} (hk : ∀ k ∈ ks, k < ds.length) (v : Vc) : nv (M.row v (ks.map (dig ds))) ≤ 3 ^ ks.length * (nv v + 3) := by
  have := nv_row b.rs (ks.map (dig ds)) v (b.digs hk)
  rw [List.length_map] at this
  omega
theorem E0_of {M : Tb} {n : Nat} {S : Vc} {hd : (M.pw n).less1.det ≠ 0} : E M n 0 zv S ((M.pw n).less1.adj.led S) (M.pw n).less1.det = zv := by
  have e := led_adj (M.pw n).less1 S
  rw [less1_led, pw_led] at e
  rw [E_iff]
  have l : left M 0 zv ((M.pw n).less1.adj.led S) (M.pw n).less1.det = (M.pw n).less1.adj.led S := by
    unfold left; rw [vmul_z]; apply vext <;> simp [vsub, zv, Tb.it]
  rw [l]; exact e
/-- the facts of a round by itself -/
structure RoundAt (M : Tb) (n : Nat) (S : Vc) (X Y C : Int) : Prop where
  red : Red X Y C
  eq : E M n 0 zv S (X, Y) C = zv
  bx : nv (X, Y) ≤ 2 * (3 ^ n + 1) * nv S
  bc : C.natAbs ≤ 2 * (3 ^ n + 1) * (3 ^ n + 1)
theorem RoundAt.of {M : Tb} (h : RS M) {n : Nat} {S : Vc} (hd : (M.pw n).less1.det ≠ 0) {X Y C : Int} (p : Pt ((M.pw n).less1.adj.led S).1 ((M.pw n).less1.adj.led S).2 (M.pw n).less1.det X Y C) : RoundAt M n S X Y C := by
  have en := (pw_ent h n).less1
  have b1 := en.adj.led S
  have b2 := en.det
  have := p.bx; have := p.by'; have := p.bc
  have := nv1 ((M.pw n).less1.adj.led S); have := nv2 ((M.pw n).less1.adj.led S)
  exact ⟨p.red, E_low hd (E0_of (hd := hd)) p.low, nv_le (by show X.natAbs ≤ _; omega) (by show Y.natAbs ≤ _; omega), by omega⟩
theorem round_ok {M : Tb} {ds : List Vc} (b : Base M ds) {ks : List Nat} (hk : ∀ k ∈ ks, k < ds.length) (hl : ks.length ≤ 24) (hd : (M.pw ks.length).less1.det ≠ 0) :
    ∃ X Y C, m_round_worth (baseD M ds) (.tuple (ks.map numD)) = .ok (pointD ((X, Y), C)) ∧ RoundAt M ks.length (M.row zv (ks.map (dig ds))) X Y C := by
  have en := (pw_ent b.rs ks.length).less1
  have p24 := pow24 hl
  have bS := nv_S b hk zv
  have z0 : nv zv = 0 := rfl
  rw [z0] at bS
  have sA := en.adj.sz (k := 100) (Nat.lt_of_le_of_lt (Nat.add_le_add_right p24 1) (by decide)) (by decide)
  have sL := en.sz (k := 100) (Nat.lt_of_le_of_lt (Nat.add_le_add_right p24 1) (by decide)) (by decide)
  have p100 : (2 : Nat) ^ 100 = 1267650600228229401496703205376 := by decide
  have sS : SzV (M.row zv (ks.map (dig ds))) := SzV.of (k := 100) (by omega) (by decide)
  have bd : (M.pw ks.length).less1.det.natAbs < 2 ^ 200 := by
    have h1 := en.det
    have h2 : 2 * (3 ^ ks.length + 1) * (3 ^ ks.length + 1) ≤ 2 * 282429536482 * 282429536482 := mul_bd (by omega) (by omega)
    have h3 : 2 * 282429536482 * 282429536482 < 2 ^ 200 := by decide
    omega
  obtain ⟨X, Y, C, e, p⟩ := low_ok (x := ((M.pw ks.length).less1.adj.led (M.row zv (ks.map (dig ds)))).1) (y := ((M.pw ks.length).less1.adj.led (M.row zv (ks.map (dig ds)))).2) hd bd
  refine ⟨X, Y, C, ?_, RoundAt.of b.rs hd p⟩
  unfold m_round_worth
  have n1 : nv ((1, 0) : Vc) = 1 := rfl
  have n2 : nv ((0, 1) : Vc) = 1 := rfl
  have sit : ∀ (v : Vc) (i : Nat), nv v = 1 → i < 25 → SzV (M.it i v) := fun v i hv hi => by
    have h1 := nv_it b.rs v i
    have h2 := pow24 (n := i) (by omega)
    rw [hv] at h1
    exact SzV.of (k := 100) (by omega) (by decide)
  have run := run_lt (f := fun (_ : D) (s5 : D × D) => (item (baseD M ds) (PyData.int 0)).bind fun z7 => (m_lot_led z7 s5.1).bind fun z8 => (item (baseD M ds) (PyData.int 0)).bind fun z9 => (m_lot_led z9 s5.2).bind fun z10 => R.ok (z8, z10)) (fun i => (lotD (M.it i (1, 0)), lotD (M.it i (0, 1)))) 25 (fun i x hi => by
    unfold baseD
    simp only [item0, R.bind_ok, led_ok b.rs.sz (sit _ i n1 hi), led_ok b.rs.sz (sit _ i n2 hi)]; rfl) (ks.map numD) 0 (by rw [List.length_map]; omega)
  rw [List.length_map, Nat.zero_add] at run
  have st : ((PyData.tuple [PyData.int 1, PyData.int 0]), (PyData.tuple [PyData.int 0, PyData.int 1])) = ((lotD (M.it 0 (1, 0)), lotD (M.it 0 (0, 1))) : D × D) := rfl
  rw [un2_t]
  simp only [R.bind_ok, iter_t]
  rw [st, run]
  simp only [R.bind_ok, pw_it1, pw_it2]
  have t : PyData.tuple [PyData.tuple [PyData.int ((M.pw ks.length).a - 1), PyData.int (M.pw ks.length).b], PyData.tuple [PyData.int (M.pw ks.length).c, PyData.int ((M.pw ks.length).d - 1)]] = tabD (M.pw ks.length).less1 := rfl
  have rw1 := rowW_ok b ks zv hk (by decide) (by omega)
  rw [lotz] at rw1
  have e1 : ∀ a c : Int, item (lotD (a, c)) (PyData.int 0) = .ok (.int a) := fun a c => item0 _ _
  have e2 : ∀ a c : Int, item (lotD (a, c)) (PyData.int 1) = .ok (.int c) := fun a c => item1 _ _ _
  simp only [e1, e2, R.bind_ok, sub_i, t, other_ok, rw1, led_ok sA sS, det_ok sL, e]
end K10

set_option autoImplicit false
set_option linter.all false
set_option maxRecDepth 100000
set_option exponentiation.threshold 5000
namespace K10
open PySem L2 Z
def nameD (v : Vc) (ks js : List Nat) : D := .tuple [lotD v, .tuple (ks.map numD), .tuple (js.map numD)]
/-- the point of a name -/
structure WorthAt (M : Tb) (ds : List Vc) (v : Vc) (ks js : List Nat) (X Y C : Int) : Prop where
  red : Red X Y C
  eq : E M js.length ks.length (M.row v (ks.map (dig ds))) (M.row zv (js.map (dig ds))) (X, Y) C = zv
  bx : nv (X, Y) < 2 ^ 200
  bc : C.natAbs < 2 ^ 200
theorem det_bd {M : Tb} (h : RS M) : M.det.natAbs ≤ 18 := by
  have : Ent M 3 := by have := h.r1; have := h.r2; exact ⟨by omega, by omega, by omega, by omega⟩
  have := this.det
  omega
theorem ent3 {M : Tb} (h : RS M) : Ent M 3 := by have := h.r1; have := h.r2; exact ⟨by omega, by omega, by omega, by omega⟩
theorem E_undone {M : Tb} {n i : Nat} {W S p : Vc} {c : Int} (h : E M n i W S p c = zv) : E M n (i + 1) W S (M.adj.led p) (c * M.det) = zv := by
  rw [E_led, led_adj, Int.mul_comm, E_mul, h, vmul_z]
theorem szN {i : Int} {B k : Nat} (h : i.natAbs ≤ B) (hB : B < 2 ^ k) (hk : k ≤ 400000) : Sz i := Sz.of (Nat.lt_of_le_of_lt h hB) hk
theorem undo_run {M : Tb} {ds : List Vc} (b : Base M ds) (hM : M.det ≠ 0) {n : Nat} {W S : Vc} {f : D → D → R D} (hf : ∀ x p, f x p = ((item (baseD M ds) (PyData.int 0)).bind fun z12 => (m_point_undone z12 p).bind fun z13 => R.ok z13)) :
    ∀ (xs : List D) (i : Nat) (X Y C : Int), i + xs.length ≤ 12 → Red X Y C → E M n i W S (X, Y) C = zv → nv (X, Y) ≤ 2 ^ 110 * 6 ^ i → C.natAbs ≤ 2 ^ 90 * 18 ^ i →
      ∃ X' Y' C', forS xs (pointD ((X, Y), C)) f = .ok (pointD ((X', Y'), C')) ∧ Red X' Y' C' ∧ E M n (i + xs.length) W S (X', Y') C' = zv ∧ nv (X', Y') ≤ 2 ^ 110 * 6 ^ 12 ∧ C'.natAbs ≤ 2 ^ 90 * 18 ^ 12
  | [], i, X, Y, C, hl, r, e, b1, b2 => ⟨X, Y, C, rfl, r, e, Nat.le_trans b1 (Nat.mul_le_mul_left _ (Nat.pow_le_pow_right (by decide) (by simpa using hl))), Nat.le_trans b2 (Nat.mul_le_mul_left _ (Nat.pow_le_pow_right (by decide) (by simpa using hl)))⟩
  | x :: xs, i, X, Y, C, hl, r, e, b1, b2 => by
    rw [List.length_cons] at hl
    have q1 : 2 ^ 110 * 6 ^ i ≤ 2 ^ 110 * 6 ^ 12 := Nat.mul_le_mul_left _ (Nat.pow_le_pow_right (by decide) (by omega))
    have q2 : 2 ^ 90 * 18 ^ i ≤ 2 ^ 90 * 18 ^ 12 := Nat.mul_le_mul_left _ (Nat.pow_le_pow_right (by decide) (by omega))
    have w1 : 2 ^ 110 * 6 ^ 12 < 2 ^ 199 := by decide
    have w2 : 2 ^ 90 * 18 ^ 12 < 2 ^ 190 := by decide
    have d18 := det_bd b.rs
    have cp := r.pos
    have m1 : (C * M.det).natAbs ≤ 2 ^ 90 * 18 ^ i * 18 := by rw [Int.natAbs_mul]; exact Nat.mul_le_mul b2 d18
    have m2 : 2 ^ 90 * 18 ^ (i + 1) = 2 ^ 90 * 18 ^ i * 18 := by rw [Nat.pow_succ]; grind
    have m3 : 2 ^ 90 * 18 ^ i * 18 < 2 ^ 200 := by
      have : (2 : Nat) ^ 200 = 2 ^ 190 * 1024 := by decide
      omega
    obtain ⟨X', Y', C', e1, p⟩ := undone_pt (M := M) (x := X) (y := Y) (c := C) b.rs.sz ⟨szN (Nat.le_trans (nv1 (X, Y)) (Nat.le_trans b1 q1)) w1 (by decide), szN (Nat.le_trans (nv2 (X, Y)) (Nat.le_trans b1 q1)) w1 (by decide), szN (Nat.le_trans b2 q2) w2 (by decide)⟩
      (szN d18 (by decide : 18 < 2 ^ 5) (by decide)) (Int.mul_ne_zero (by omega) hM) (by omega)
    have e2 : f x (pointD ((X, Y), C)) = .ok (pointD ((X', Y'), C')) := by rw [hf]; unfold baseD; simp only [item0, R.bind_ok, e1]
    have en := (ent3 b.rs).adj.led (X, Y)
    have k1 : nv (X', Y') ≤ 2 ^ 110 * 6 ^ (i + 1) := by
      have h1 := p.bx; have h2 := p.by'
      have h3 := nv1 (M.adj.led (X, Y)); have h4 := nv2 (M.adj.led (X, Y))
      have h5 : 2 ^ 110 * 6 ^ (i + 1) = 6 * (2 ^ 110 * 6 ^ i) := by rw [Nat.pow_succ]; grind
      exact nv_le (by show X'.natAbs ≤ _; omega) (by show Y'.natAbs ≤ _; omega)
    have k2 : C'.natAbs ≤ 2 ^ 90 * 18 ^ (i + 1) := by have := p.bc; omega
    obtain ⟨X2, Y2, C2, r1, r2, r3, r4, r5⟩ := undo_run b hM hf xs (i + 1) X' Y' C' (by omega) p.red (E_low (Int.mul_ne_zero (by omega) hM) (E_undone e) p.low) k1 k2
    refine ⟨X2, Y2, C2, by rw [forS_cons, e2]; exact r1, r2, ?_, r4, r5⟩
    rw [List.length_cons, show i + (xs.length + 1) = i + 1 + xs.length by omega]
    exact r3
theorem worth_ok {M : Tb} {ds : List Vc} (b : Base M ds) (hM : M.det ≠ 0) {v : Vc} {ks js : List Nat} (hv : nv v ≤ 97) (hk : ∀ k ∈ ks, k < ds.length) (hj : ∀ k ∈ js, k < ds.length) (lk : ks.length ≤ 12) (lj : js.length ≤ 24) (hd : (M.pw js.length).less1.det ≠ 0) :
    ∃ X Y C, m_worth (baseD M ds) (nameD v ks js) = .ok (pointD ((X, Y), C)) ∧ WorthAt M ds v ks js X Y C := by
  obtain ⟨x, y, c, e1, ra⟩ := round_ok b hj lj hd
  have bW := nv_S b hk v
  have bS := nv_S b hj zv
  have z0 : nv zv = 0 := rfl
  rw [z0] at bS
  have p24 := pow24 lj
  have p12 := pow12 lk
  have cp := ra.red.pos
  have c1 : c.natAbs ≤ 2 * 282429536482 * 282429536482 := Nat.le_trans ra.bc (mul_bd (by omega) (by omega))
  have c2 : nv (x, y) ≤ 2 * 282429536482 * 847288609443 := Nat.le_trans ra.bx (mul_bd (by omega) (by omega))
  have c3 : nv (M.row v (ks.map (dig ds))) ≤ 531441 * 100 := Nat.le_trans bW (mul_bd p12 (by omega))
  have w1 : 2 * 282429536482 * 282429536482 < 2 ^ 90 := by decide
  have w2 : 2 * 282429536482 * 847288609443 < 2 ^ 90 := by decide
  have w3 : 531441 * 100 < 2 ^ 90 := by decide
  generalize hW : M.row v (ks.map (dig ds)) = W at *
  have nW1 := nv1 W; have nW2 := nv2 W
  have nx := nv1 (x, y); have ny := nv2 (x, y)
  obtain ⟨X, Y, C, e2, p⟩ := added_pt (x := W.1) (y := W.2) (c := 1) (u := x) (v := y) (d := c) ⟨szN (Nat.le_trans nW1 c3) w3 (by decide), szN (Nat.le_trans nW2 c3) w3 (by decide), szN (by decide : (1 : Int).natAbs ≤ 1) (by decide : 1 < 2 ^ 5) (by decide), szN (Nat.le_trans nx c2) w2 (by decide), szN (Nat.le_trans ny c2) w2 (by decide), szN c1 w1 (by decide)⟩
    (by omega) (by rw [Int.one_mul]; omega)
  have E0 : E M js.length 0 W (M.row zv (js.map (dig ds))) (W.1 * c + x * 1, W.2 * c + y * 1) (1 * c) = zv := by
    have h := ra.eq
    unfold E left at h ⊢
    have q1 : vsub (M.it 0 (W.1 * c + x * 1, W.2 * c + y * 1)) (vmul (1 * c) W) = (x, y) := by apply vext <;> simp only [Tb.it, vsub, vmul] <;> grind
    have q2 : vsub (M.it 0 (x, y)) (vmul c zv) = (x, y) := by rw [vmul_z]; apply vext <;> simp [Tb.it, vsub, zv]
    rw [q2] at h
    rw [q1, Int.one_mul]; exact h
  have hc : (1 : Int) * c ≠ 0 := by omega
  have k1 : nv (X, Y) ≤ 2 ^ 110 * 6 ^ 0 := by
    have h1 := p.bx; have h2 := p.by'
    have h3 : (W.1 * c).natAbs ≤ 531441 * 100 * (2 * 282429536482 * 282429536482) := by rw [Int.natAbs_mul]; exact mul_bd (Nat.le_trans nW1 c3) c1
    have h4 : (W.2 * c).natAbs ≤ 531441 * 100 * (2 * 282429536482 * 282429536482) := by rw [Int.natAbs_mul]; exact mul_bd (Nat.le_trans nW2 c3) c1
    have h5 : 531441 * 100 * (2 * 282429536482 * 282429536482) + 2 * 282429536482 * 847288609443 ≤ 2 ^ 110 := by decide
    have nx' : x.natAbs ≤ nv (x, y) := nx
    have ny' : y.natAbs ≤ nv (x, y) := ny
    refine nv_le ?_ ?_
    · show X.natAbs ≤ _
      have := Int.natAbs_add_le (W.1 * c) (x * 1)
      rw [Int.mul_one] at this h1
      omega
    · show Y.natAbs ≤ _
      have := Int.natAbs_add_le (W.2 * c) (y * 1)
      rw [Int.mul_one] at this h2
      omega
  have k2 : C.natAbs ≤ 2 ^ 90 * 18 ^ 0 := by have := p.bc; rw [Int.one_mul] at this; omega
  obtain ⟨X', Y', C', e3, r1, r2, r3, r4⟩ := undo_run b hM (n := js.length) (W := W) (S := M.row zv (js.map (dig ds))) (f := fun x9 s10 => (item (baseD M ds) (PyData.int 0)).bind fun z12 => (m_point_undone z12 s10).bind fun z13 => R.ok z13) (fun _ _ => rfl) (ks.map numD) 0 X Y C (by rw [List.length_map]; omega) p.red (E_low hc E0 p.low) k1 k2
  rw [List.length_map, Nat.zero_add] at r2
  refine ⟨X', Y', C', ?_, r1, by rw [hW]; exact r2, ?_, ?_⟩
  · unfold m_worth nameD
    have rw1 := rowW_ok b ks v hk hv (by omega)
    rw [hW] at rw1
    have po : m_point_of (lotD W) = .ok (pointD ((W.1, W.2), 1)) := by unfold m_point_of; rfl
    simp only [un3_t, R.bind_ok, rw1, po, e1, e2, iter_t, e3]
  · have : 2 ^ 110 * 6 ^ 12 < 2 ^ 200 := by decide
    omega
  · have : 2 ^ 90 * 18 ^ 12 < 2 ^ 200 := by decide
    omega
end K10

set_option autoImplicit false
set_option linter.all false
set_option maxRecDepth 100000
set_option exponentiation.threshold 5000
namespace K10
open PySem L2 Z
theorem bok {α β : Type} {m : R α} {f : α → R β} {a : α} {r : R β} (h : m = .ok a) (k : f a = r) : m.bind f = r := by rw [h]; exact k
theorem lworth_ok {M : Tb} {ds : List Vc} (b : Base M ds) (hM : M.det ≠ 0) {v : Vc} {ks js : List Nat} (hv : nv v ≤ 97) (hk : ∀ k ∈ ks, k < ds.length) (hj : ∀ k ∈ js, k < ds.length) (lk : ks.length ≤ 12) (lj : js.length ≤ 12) (hd : (M.pw js.length).less1.det ≠ 0) :
    ∃ X Y C, m__law_worth (baseD M ds) (nameD v ks js) = .ok (pointD ((X, Y), C)) ∧ Red X Y C ∧ E M js.length ks.length (M.row v (ks.map (dig ds))) (M.row zv (js.map (dig ds))) (X, Y) C = zv ∧ nv (X, Y) < 2 ^ 90 ∧ C.natAbs < 2 ^ 90 := by
  have pj := pow12 lj
  have pk := pow12 lk
  have enj := (pw_ent b.rs js.length).less1
  have enk := pw_ent b.rs ks.length
  have bW := nv_S b hk v
  have bS := nv_S b hj zv
  have z0 : nv zv = 0 := rfl
  rw [z0] at bS
  have hdk := det_pw hM ks.length
  generalize hS : M.row zv (js.map (dig ds)) = S at *
  generalize hW : M.row v (ks.map (dig ds)) = W at *
  have bS' : nv S ≤ 1594323 := by omega
  have bW' : nv W ≤ 531441 * 100 := Nat.le_trans bW (mul_bd pk (by omega))
  have sL := enj.sz (k := 30) (Nat.lt_of_le_of_lt (Nat.add_le_add_right pj 1) (by decide)) (by decide)
  have aL : nv ((M.pw js.length).less1.adj.led S) ≤ 2 * 531442 * 1594323 := Nat.le_trans (enj.adj.led S) (mul_bd (by omega) bS')
  have dL : (M.pw js.length).less1.det.natAbs ≤ 2 * 531442 * 531442 := Nat.le_trans enj.det (mul_bd (by omega) (by omega))
  obtain ⟨x, y, c, e1, p1⟩ := solved_ok (v := S) sL (SzV.of (k := 30) (Nat.lt_of_le_of_lt bS' (by decide)) (by decide)) hd (Nat.lt_of_le_of_lt dL (by decide)) (Nat.lt_of_le_of_lt aL (by decide))
  have ra := RoundAt.of b.rs hd p1
  have cp := ra.red.pos
  have c1 : c.natAbs ≤ 2 * 531442 * 531442 := Nat.le_trans p1.bc dL
  have nx : x.natAbs ≤ 2 * 531442 * 1594323 := Nat.le_trans p1.bx (Nat.le_trans (nv1 _) aL)
  have ny : y.natAbs ≤ 2 * 531442 * 1594323 := Nat.le_trans p1.by' (Nat.le_trans (nv2 _) aL)
  have m1 : (W.1 * c).natAbs ≤ 531441 * 100 * (2 * 531442 * 531442) := by rw [Int.natAbs_mul]; exact mul_bd (Nat.le_trans (nv1 W) bW') c1
  have m2 : (W.2 * c).natAbs ≤ 531441 * 100 * (2 * 531442 * 531442) := by rw [Int.natAbs_mul]; exact mul_bd (Nat.le_trans (nv2 W) bW') c1
  have bw : nv (W.1 * c + x, W.2 * c + y) ≤ 2 ^ 66 := by
    have h5 : 531441 * 100 * (2 * 531442 * 531442) + 2 * 531442 * 1594323 ≤ 2 ^ 66 := by decide
    refine nv_le ?_ ?_
    · have := Int.natAbs_add_le (W.1 * c) x; show (W.1 * c + x).natAbs ≤ _; omega
    · have := Int.natAbs_add_le (W.2 * c) y; show (W.2 * c + y).natAbs ≤ _; omega
  have sK := enk.sz (k := 30) (Nat.lt_of_le_of_lt pk (by decide)) (by decide)
  have aK : nv ((M.pw ks.length).adj.led (W.1 * c + x, W.2 * c + y)) ≤ 2 * 531441 * 2 ^ 66 := Nat.le_trans (enk.adj.led _) (mul_bd (by omega) bw)
  have dK : (M.pw ks.length).det.natAbs ≤ 2 * 531441 * 531441 := Nat.le_trans enk.det (mul_bd (by omega) (by omega))
  obtain ⟨u, w, d, e2, p2⟩ := solved_ok (v := (W.1 * c + x, W.2 * c + y)) sK (SzV.of (k := 67) (Nat.lt_of_le_of_lt bw (by decide)) (by decide)) hdk (Nat.lt_of_le_of_lt dK (by decide)) (Nat.lt_of_le_of_lt aK (by decide))
  have dp := p2.low.pos
  have d1 : d.natAbs ≤ 2 * 531441 * 531441 := Nat.le_trans p2.bc dK
  have nu : u.natAbs ≤ 2 * 531441 * 2 ^ 66 := Nat.le_trans p2.bx (Nat.le_trans (nv1 _) aK)
  have nw : w.natAbs ≤ 2 * 531441 * 2 ^ 66 := Nat.le_trans p2.by' (Nat.le_trans (nv2 _) aK)
  have dc : (d * c).natAbs ≤ 2 * 531441 * 531441 * (2 * 531442 * 531442) := by rw [Int.natAbs_mul]; exact mul_bd d1 c1
  have w9 : 2 * 531441 * 2 ^ 66 < 2 ^ 90 := by decide
  have w8 : 2 * 531441 * 531441 * (2 * 531442 * 531442) < 2 ^ 90 := by decide
  have dc0 : d * c ≠ 0 := Int.mul_ne_zero (by omega) (by omega)
  obtain ⟨X, Y, C, e3, p3⟩ := llow_ok (x := u) (y := w) (c := d * c) dc0 (by omega) (by omega)
  have key : E M js.length ks.length W S (u, w) (d * c) = zv := by
    have h := ra.eq
    have la := led_adj (M.pw ks.length) (W.1 * c + x, W.2 * c + y)
    have v1 : vmul (M.pw ks.length).det (u, w) = vmul d ((M.pw ks.length).adj.led (W.1 * c + x, W.2 * c + y)) := by
      apply vext
      · have := p2.low.ex; show _ * u = d * _; grind
      · have := p2.low.ey; show _ * w = d * _; grind
    have v2 : vmul (M.pw ks.length).det ((M.pw ks.length).led (u, w)) = vmul (M.pw ks.length).det (vmul d (W.1 * c + x, W.2 * c + y)) := by
      rw [← led_mul, v1, led_mul, la, vmul_mul, vmul_mul, Int.mul_comm]
    have v3 : (M.pw ks.length).led (u, w) = vmul d (W.1 * c + x, W.2 * c + y) := by
      have q1 : (M.pw ks.length).det * ((M.pw ks.length).led (u, w)).1 = (M.pw ks.length).det * (vmul d (W.1 * c + x, W.2 * c + y)).1 := congrArg Prod.fst v2
      have q2 : (M.pw ks.length).det * ((M.pw ks.length).led (u, w)).2 = (M.pw ks.length).det * (vmul d (W.1 * c + x, W.2 * c + y)).2 := congrArg Prod.snd v2
      exact vext (Int.eq_of_mul_eq_mul_left hdk q1) (Int.eq_of_mul_eq_mul_left hdk q2)
    rw [E_iff] at h ⊢
    have l0 : left M 0 zv (x, y) c = (x, y) := by unfold left; rw [vmul_z]; apply vext <;> simp [Tb.it, vsub, zv]
    have l1 : left M ks.length W (u, w) (d * c) = vmul d (x, y) := by
      unfold left; rw [← pw_led, v3]; apply vext <;> simp only [vmul, vsub] <;> grind
    rw [l0] at h
    rw [l1, it_mul, ← vmul_sub, h, vmul_mul]
  have nX : nv (X, Y) ≤ 2 * 531441 * 2 ^ 66 := nv_le (Nat.le_trans p3.bx nu) (Nat.le_trans p3.by' nw)
  refine ⟨X, Y, C, ?_, p3.red, E_low dc0 key p3.low, Nat.lt_of_le_of_lt nX w9, Nat.lt_of_le_of_lt (Nat.le_trans p3.bc dc) w8⟩
  unfold m__law_worth nameD
  have s1 := sum_ok b js zv hj (by decide) (by omega)
  have s2 := sum_ok b ks v hk hv (by omega)
  rw [hS, lotz] at s1
  rw [hW] at s2
  have b0 : item (baseD M ds) (PyData.int 0) = .ok (tabD M) := item0 _ _
  have ljs : (js.map numD).length = js.length := List.length_map ..
  have lks : (ks.map numD).length = ks.length := List.length_map ..
  have r0 : ∀ N : Tb, item (tabD N) (PyData.int 0) = .ok (.tuple [.int N.a, .int N.b]) := fun N => item0 _ _
  have r1 : ∀ N : Tb, item (tabD N) (PyData.int 1) = .ok (.tuple [.int N.c, .int N.d]) := fun N => item1 _ _ _
  have t : PyData.tuple [PyData.tuple [PyData.int ((M.pw js.length).a - 1), PyData.int (M.pw js.length).b], PyData.tuple [PyData.int (M.pw js.length).c, PyData.int ((M.pw js.length).d - 1)]] = tabD (M.pw js.length).less1 := rfl
  have u1 : un2 (pointD ((x, y), c)) = .ok (lotD (x, y), .int c) := rfl
  have u2 : un2 (pointD ((u, w), d)) = .ok (lotD (u, w), .int d) := rfl
  have u3 : ∀ a b : Int, un2 (lotD (a, b)) = .ok (.int a, .int b) := fun _ _ => rfl
  have i1 : item (lotD W) (PyData.int 0) = .ok (.int W.1) := item0 _ _
  have i2 : item (lotD W) (PyData.int 1) = .ok (.int W.2) := item1 _ _ _
  have sc : Sz c := szN c1 (by decide : 2 * 531442 * 531442 < 2 ^ 100) (by decide)
  have sd : Sz d := szN d1 (by decide : 2 * 531441 * 531441 < 2 ^ 100) (by decide)
  have sw1 : Sz W.1 := szN (Nat.le_trans (nv1 W) bW') (by decide : 531441 * 100 < 2 ^ 100) (by decide)
  have sw2 : Sz W.2 := szN (Nat.le_trans (nv2 W) bW') (by decide : 531441 * 100 < 2 ^ 100) (by decide)
  have t2 : PyData.tuple [PyData.int (W.1 * c + x), PyData.int (W.2 * c + y)] = lotD (W.1 * c + x, W.2 * c + y) := rfl
  have pw1 := power_ok b.rs (show js.length ≤ 1000 by omega)
  have pw2 := power_ok b.rs (show ks.length ≤ 1000 by omega)
  clear key ra p1 p2 p3 enj enk
  generalize m__law_power = fp at *
  generalize m__law_solved = fs at *
  generalize m__law_sum = fu at *
  generalize m__law_low = fl at *
  generalize baseD M ds = bD at *
  have pw1' : fp (tabD M) (.int ((js.map numD).length : Int)) = .ok (tabD (M.pw js.length)) := by rw [ljs]; exact pw1
  have pw2' : fp (tabD M) (.int ((ks.map numD).length : Int)) = .ok (tabD (M.pw ks.length)) := by rw [lks]; exact pw2
  exact bok (un3_t _ _ _) <| bok b0 <| bok (len_t _) <| bok pw1' <| bok (r0 _) <| bok (item0 _ _) <| bok (sub_i _ _) <| bok (r0 _) <| bok (item1 _ _ _) <| bok (r1 _) <| bok (item0 _ _) <| bok (r1 _) <| bok (item1 _ _ _) <| bok (sub_i _ _) <|
    bok s1 <| bok e1 <| bok u1 <| bok (u3 _ _) <| bok s2 <| bok b0 <| bok (len_t _) <| bok pw2' <| bok i1 <| bok (mul_i sw1 sc) <| bok (add_i _ _) <| bok i2 <| bok (mul_i sw2 sc) <| bok (add_i _ _) <| bok e2 <| bok u2 <| bok (u3 _ _) <| bok (mul_i sd sc) <| bok e3 rfl
/-- both tell the same -/
theorem worths_eq {M : Tb} {ds : List Vc} (b : Base M ds) (hM : M.det ≠ 0) {v : Vc} {ks js : List Nat} (hv : nv v ≤ 97) (hk : ∀ k ∈ ks, k < ds.length) (hj : ∀ k ∈ js, k < ds.length) (lk : ks.length ≤ 12) (lj : js.length ≤ 12) (hd : (M.pw js.length).less1.det ≠ 0) :
    ∃ X Y C, m_worth (baseD M ds) (nameD v ks js) = .ok (pointD ((X, Y), C)) ∧ m__law_worth (baseD M ds) (nameD v ks js) = .ok (pointD ((X, Y), C)) ∧ Red X Y C ∧ E M js.length ks.length (M.row v (ks.map (dig ds))) (M.row zv (js.map (dig ds))) (X, Y) C = zv ∧ nv (X, Y) < 2 ^ 90 ∧ C.natAbs < 2 ^ 90 := by
  obtain ⟨X, Y, C, e, w⟩ := worth_ok b hM hv hk hj lk (by omega) hd
  obtain ⟨X', Y', C', e', r', q', b1, b2⟩ := lworth_ok b hM hv hk hj lk lj hd
  obtain ⟨rfl, rfl, rfl⟩ := w.red.eq hM hd r' w.eq q'
  exact ⟨_, _, _, e, e', r', q', b1, b2⟩
end K10

set_option autoImplicit false
set_option linter.all false
set_option maxRecDepth 100000
set_option exponentiation.threshold 5000
namespace K10
open PySem L2 Z
theorem of_ok {n : Nat} {s : Src} {xs : List D} (h : Ok (n + 1) s) (h0 : 0 < xs.length) (hl : xs.length < 2 ^ 60) : ∃ (r : Nat) (d : D) (s' : Src), m__law_of s (.list xs) = .ok (d, s') ∧ xs[r]? = some d ∧ Ok n s' := by
  obtain ⟨r, s', e, hr, ho⟩ := pick_ok h (many := (xs.length : Int)) (by omega) (by omega)
  have hr' : r < xs.length := by omega
  refine ⟨r, xs[r], s', ?_, List.getElem?_eq_getElem hr', ho⟩
  unfold m__law_of
  exact bok (len_l _) <| bok e <| bok (item_ln (List.getElem?_eq_getElem hr')) rfl
theorem pop1_ok {ys : List D} {r : Nat} (h : r < ys.length) : pop1M ys [.int (r : Int)] = .ok (ys[r], ys.eraseIdx r) := by
  have : L2.ixN ys.length (r : Int) = some r := by unfold L2.ixN; rw [if_pos (by omega), if_pos (by omega)]; simp
  simp [pop1M, this, List.getElem?_eq_getElem h]
theorem erase_perm {l : List D} {i : Nat} (h : i < l.length) : (l[i] :: l.eraseIdx i).Perm l := by
  rw [List.eraseIdx_eq_take_drop_succ]
  have e : l = l.take i ++ l[i] :: l.drop (i + 1) := by rw [← List.drop_eq_getElem_cons h, List.take_append_drop]
  exact (List.perm_middle.symm).trans (List.Perm.of_eq e.symm)
theorem mixed_ok {n : Nat} {s : Src} {xs : List D} (h : Ok (n + xs.length) s) (hl : xs.length < 16777216) : ∃ ys s', m__law_mixed s (.list xs) = .ok (.list ys, s') ∧ ys.Perm xs ∧ Ok n s' := by
  obtain ⟨out, ⟨s2, rest⟩, e, hp, hlen, ho⟩ := compT_inv (τ := Src × List D) (xs := rangeD 0 (xs.length : Nat)) (st := (s, xs)) (f := fun x5 s6 => (flatR ((lenD (PyData.list s6.2)).bind fun z7 => R.ok z7)).bind fun z8 => (m__law_pick s6.1 z8).bind fun (z9, s10) => (pop1M s6.2 [z9]).bind fun (z11, y12) => R.ok (some z11, (s10, y12)))
    (fun walked out st => (out ++ st.2).Perm xs ∧ st.2.length + walked.length = xs.length ∧ Ok (n + (xs.length - walked.length)) st.1) ⟨by simp, by simp, by simpa using h⟩ (fun ws x st out ⟨zs, ez⟩ ⟨hp, hlen, ho⟩ => by
      have wl : ws.length < xs.length := by
        have := congrArg List.length ez
        rw [rangeD_eq] at this
        simp at this
        omega
      have e1 : n + (xs.length - ws.length) = n + (xs.length - (ws.length + 1)) + 1 := by omega
      rw [e1] at ho
      obtain ⟨r, s', e2, hr, ho'⟩ := pick_ok ho (many := (st.2.length : Int)) (by omega) (by omega)
      have hr' : r < st.2.length := by omega
      refine ⟨some st.2[r], (s', st.2.eraseIdx r), ?_, ?_, ?_, by simpa using ho'⟩
      · exact bok (a := PyData.int (st.2.length : Int)) rfl <| bok e2 <| bok (pop1_ok hr') rfl
      · refine List.Perm.trans ?_ hp
        simp only [Option.toList, List.append_assoc, List.cons_append, List.nil_append]
        exact List.Perm.append_left _ (erase_perm hr')
      · simp [List.length_eraseIdx, hr']; omega)
  have r0 : rest.length = 0 := by
    rw [rangeD_eq] at hlen
    simp at hlen
    simpa using hlen
  have r1 : rest = [] := List.eq_nil_of_length_eq_zero r0
  have hp' : out.Perm xs := by simpa [r1] using hp
  refine ⟨out, s2, ?_, hp', ?_⟩
  · unfold m__law_mixed
    refine bok (iterL_l _) <| bok (a := PyData.int (xs.length : Int)) rfl <| bok (range_i (by omega)) <| bok (a := (out, (s2, rest))) ?_ rfl
    rw [compS_of (by rw [rangeD_eq]; simpa using hl)]
    exact e
  · exact Ok.le ho (by omega)
def tables : List Tb := [⟨1, -1, 1, 1⟩, ⟨1, -1, 1, 1⟩, ⟨0, -2, 1, 0⟩, ⟨0, 2, 1, 0⟩, ⟨1, -2, 1, 0⟩, ⟨-1, -1, 1, -1⟩, ⟨1, -1, 2, 1⟩, ⟨0, 3, 1, 0⟩, ⟨2, -1, 1, 1⟩, ⟨0, -3, 1, 1⟩, ⟨2, 0, 0, 2⟩, ⟨2, 1, 0, 2⟩]
theorem table_ok {n : Nat} {s : Src} (h : Ok (n + 1) s) : ∃ M s', m__law_table s (.int 4) = .ok (tabD M, s') ∧ M ∈ tables ∧ Ok n s' := by
  obtain ⟨r, d, s', e, hd, ho⟩ := of_ok (xs := tables.map tabD) h (by decide) (by decide)
  rw [List.getElem?_map] at hd
  obtain ⟨M, hM, rfl⟩ := Option.map_eq_some_iff.mp hd
  refine ⟨M, s', ?_, List.mem_of_getElem? hM, ho⟩
  unfold m__law_table
  exact bok (a := PyData.list ((tables.take 6).map tabD)) rfl <| bok (a := PyData.list (((tables.drop 6).take 4).map tabD)) rfl <| bok (a := PyData.list ((tables.take 10).map tabD)) rfl <| bok (a := PyData.list ((tables.drop 10).map tabD)) rfl <| bok (a := PyData.list (tables.map tabD)) rfl <| bok e rfl
theorem tables_rs : ∀ M ∈ tables, RS M := by
  have : ∀ M ∈ tables, M.a.natAbs + M.b.natAbs ≤ 3 ∧ M.c.natAbs + M.d.natAbs ≤ 3 := by decide
  exact fun M h => ⟨(this M h).1, (this M h).2⟩
theorem tables_det : ∀ M ∈ tables, M.det ≠ 0 := by decide
theorem tables_less : ∀ M ∈ tables, ∀ n : Nat, n < 25 → 1 ≤ n → (M.pw n).less1.det ≠ 0 := by decide +kernel
end K10

set_option autoImplicit false
set_option linter.all false
set_option maxRecDepth 100000
set_option exponentiation.threshold 5000
namespace K10
open PySem L2 Z
theorem picks_ok {n cnt m : Nat} {s : Src} (h : Ok (n + cnt) s) (hc : cnt < 16777216) (hm : 1 ≤ m) (hm2 : m < 2 ^ 60) {f : D → Src → R (Option D × Src)} (hf : ∀ x s, f x s = ((m__law_pick s (.int (m : Int))).bind fun (z, s') => R.ok (some z, s'))) :
    ∃ (ks : List Nat) (s' : Src), compS (rangeD 0 (cnt : Int)) s f = .ok (ks.map numD, s') ∧ ks.length = cnt ∧ (∀ k ∈ ks, k < m) ∧ Ok n s' := by
  obtain ⟨out, s2, e, ⟨ks, rfl, hl, hk⟩, ho⟩ := compT_inv (xs := rangeD 0 (cnt : Int)) (st := s) (f := f)
    (fun walked out st => (∃ ks : List Nat, out = ks.map numD ∧ ks.length = walked.length ∧ ∀ k ∈ ks, k < m) ∧ Ok (n + (cnt - walked.length)) st) ⟨⟨[], rfl, rfl, by simp⟩, by simpa using h⟩ (fun ws x st out ⟨zs, ez⟩ ⟨⟨ks, e0, hl, hk⟩, ho⟩ => by
      have wl : ws.length < cnt := by
        have := congrArg List.length ez
        rw [rangeD_eq] at this
        simp at this
        omega
      have e1 : n + (cnt - ws.length) = n + (cnt - (ws.length + 1)) + 1 := by omega
      rw [e1] at ho
      obtain ⟨r, s', e2, hr, ho'⟩ := pick_ok ho (many := (m : Int)) (by omega) (by omega)
      refine ⟨some (numD r), s', by rw [hf]; exact bok e2 rfl, ⟨ks ++ [r], by rw [e0]; simp, by simp [hl], fun k hk' => ?_⟩, by simpa using ho'⟩
      rcases List.mem_append.mp hk' with q | q
      · exact hk k q
      · have : k = r := by simpa using q
        omega)
  refine ⟨ks, s2, by rw [compS_of (by rw [rangeD_eq]; simpa using hc)]; exact e, ?_, hk, Ok.le ho (by omega)⟩
  rw [hl, rangeD_eq]; simp
theorem name_ok {n most : Nat} {M : Tb} {ds : List Vc} {s : Src} (h : Ok (n + 40) s) (hd : 1 ≤ ds.length) (hd2 : ds.length < 2 ^ 60) (hm : 1 ≤ most) (hm2 : most ≤ 12) : ∃ (v : Vc) (ks js : List Nat) (s' : Src), m__law_name s (baseD M ds) (.int (most : Int)) = .ok (nameD v ks js, s') ∧ nv v ≤ 4 ∧ ks.length ≤ 11 ∧ 1 ≤ js.length ∧ js.length ≤ 12 ∧ (∀ k ∈ ks, k < ds.length) ∧ (∀ k ∈ js, k < ds.length) ∧ Ok n s' := by
  obtain ⟨r1, s1, e1, h1, o1⟩ := pick_ok (n := n + 39) h (many := (most : Int)) (by omega) (by omega)
  obtain ⟨ks, s2, e2, l2, k2, o2⟩ := picks_ok (n := n + 28) (cnt := r1) (m := ds.length) (Ok.le o1 (by omega)) (by omega) hd hd2 (f := fun x6 s7 => (m__law_pick s7 (.int (ds.length : Int))).bind fun (z8, s9) => R.ok (some z8, s9)) (fun _ _ => rfl)
  obtain ⟨r3, s3, e3, h3, o3⟩ := pick_ok (n := n + 27) o2 (many := (most : Int)) (by omega) (by omega)
  obtain ⟨js, s4, e4, l4, k4, o4⟩ := picks_ok (n := n + 15) (cnt := 1 + r3) (m := ds.length) (Ok.le o3 (by omega)) (by omega) hd hd2 (f := fun x6 s7 => (m__law_pick s7 (.int (ds.length : Int))).bind fun (z8, s9) => R.ok (some z8, s9)) (fun _ _ => rfl)
  obtain ⟨r5, s5, e5, h5, o5⟩ := pick_ok (n := n + 14) o4 (many := 9) (by omega) (by omega)
  obtain ⟨r6, s6, e6, h6, o6⟩ := pick_ok (n := n + 13) o5 (many := 9) (by omega) (by omega)
  refine ⟨((r5 : Int) - 4, (r6 : Int) - 4), ks, js, s6, ?_, nv_le (by show ((r5 : Int) - 4).natAbs ≤ 4; omega) (by show ((r6 : Int) - 4).natAbs ≤ 4; omega), by omega, by omega, by omega, k2, k4, Ok.le o6 (by omega)⟩
  unfold m__law_name
  have lm : (ds.map lotD).length = ds.length := List.length_map ..
  have ll : lenD (.tuple (ds.map lotD)) = .ok (.int (ds.length : Int)) := by rw [len_t, lm]
  have ea : add (PyData.int 1) (.int (r3 : Int)) = .ok (.int ((1 + r3 : Nat) : Int)) := by rw [add_i]; congr 2
  exact bok (item1 _ _ _) <| bok ll <| bok e1 <| bok (range_i (by omega)) <| bok e2 <| bok (tuple_l _) <| bok e3 <| bok ea <| bok (range_i (by omega)) <| bok e4 <| bok (tuple_l _) <| bok e5 <| bok (sub_i _ _) <| bok e6 <| bok (sub_i _ _) rfl
end K10

set_option autoImplicit false
set_option linter.all false
set_option maxRecDepth 100000
set_option exponentiation.threshold 5000
namespace K10
open PySem L2 Z
def rn (L : Tb) : Nat := max (L.a.natAbs + L.b.natAbs) (L.c.natAbs + L.d.natAbs)
theorem rn_led (L : Tb) (v : Vc) : nv (L.led v) ≤ rn L * nv v := nv_le (two_le (Nat.le_max_left _ _) (nv1 v) (nv2 v)) (two_le (Nat.le_max_right _ _) (nv1 v) (nv2 v))
def rsum (L M : Tb) : Nat → Nat
  | 0 => 0
  | n + 1 => rn (L.mul (M.pw n)) + rsum L M n
theorem rsum_le (L M : Tb) : ∀ r : List Vc, (∀ d ∈ r, nv d ≤ 3) → nv (L.led (M.row zv r)) ≤ 3 * rsum L M r.length
  | [], _ => by
    have : L.led zv = zv := by apply vext <;> simp [Tb.led, zv]
    show nv (L.led zv) ≤ _
    rw [this]; exact Nat.zero_le _
  | d :: r, h => by
    have e : M.row zv (d :: r) = vadd (M.row zv r) (M.it r.length d) := by
      have q : vadd (M.led zv) d = d := by apply vext <;> simp [Tb.led, zv, vadd]
      rw [Tb.row, q]; exact row_zero M d r
    have h1 := rsum_le L M r fun x hx => h x (by simp [hx])
    have h2 := rn_led (L.mul (M.pw r.length)) d
    rw [mul_led, pw_led] at h2
    have h3 := nv_add (L.led (M.row zv r)) (L.led (M.it r.length d))
    have h4 : rn (L.mul (M.pw r.length)) * nv d ≤ rn (L.mul (M.pw r.length)) * 3 := Nat.mul_le_mul_left _ (h d (by simp))
    rw [e, led_add, List.length_cons, rsum]
    omega
theorem tables_near : ∀ M ∈ tables, ∀ n : Nat, n < 13 → 1 ≤ n → 3 * rsum (M.pw n).less1.adj M n ≤ 400 * (M.pw n).less1.det.natAbs := by decide +kernel
/-- the rest of the round is near nothing -/
theorem rest_near {M : Tb} {ds : List Vc} (hM : M ∈ tables) (b : Base M ds) {k : Nat} {W p : Vc} {c : Int} {js : List Nat} (hj : ∀ k ∈ js, k < ds.length) (l1 : 1 ≤ js.length) (l2 : js.length ≤ 12) (hc : 0 < c) (h : E M js.length k W (M.row zv (js.map (dig ds))) p c = zv) :
    nv (left M k W p c) ≤ 400 * c.natAbs := by
  rw [E_iff] at h
  have hn := tables_near M hM js.length (by omega) l1
  have hd := tables_less M hM js.length (by omega) l1
  have hs := rsum_le (M.pw js.length).less1.adj M (js.map (dig ds)) (b.digs hj)
  rw [List.length_map] at hs
  generalize left M k W p c = z at *
  generalize M.row zv (js.map (dig ds)) = S at *
  rw [← pw_led, ← less1_led] at h
  have e := adj_led (M.pw js.length).less1 z
  rw [h, led_mul] at e
  generalize (M.pw js.length).less1 = L at *
  have h1 : L.det.natAbs * nv z ≤ c.natAbs * nv (L.adj.led S) := by
    have q1 : (c * (L.adj.led S).1).natAbs = (L.det * z.1).natAbs := by rw [show c * (L.adj.led S).1 = L.det * z.1 from congrArg Prod.fst e]
    have q2 : (c * (L.adj.led S).2).natAbs = (L.det * z.2).natAbs := by rw [show c * (L.adj.led S).2 = L.det * z.2 from congrArg Prod.snd e]
    rw [Int.natAbs_mul, Int.natAbs_mul] at q1 q2
    have r1 := Nat.mul_le_mul_left c.natAbs (nv1 (L.adj.led S))
    have r2 := Nat.mul_le_mul_left c.natAbs (nv2 (L.adj.led S))
    unfold nv
    rcases Nat.le_total z.1.natAbs z.2.natAbs with q | q
    · rw [Nat.max_eq_right q]; unfold nv at r1 r2; omega
    · rw [Nat.max_eq_left q]; unfold nv at r1 r2; omega
  have h2 : c.natAbs * nv (L.adj.led S) ≤ c.natAbs * (400 * L.det.natAbs) := Nat.mul_le_mul_left _ (by omega)
  have h3 : L.det.natAbs * nv z ≤ L.det.natAbs * (400 * c.natAbs) := by
    have : c.natAbs * (400 * L.det.natAbs) = L.det.natAbs * (400 * c.natAbs) := by grind
    omega
  exact Nat.le_of_mul_le_mul_left h3 (by omega)
/-- the round told again and again leaves the same -/
theorem left_rep {M : Tb} {n k : Nat} {v p : Vc} {c : Int} {r q : List Vc} (hr : r.length = k) (hq : q.length = n) (h : E M n k (M.row v r) (M.row zv q) p c = zv) : ∀ i : Nat, left M (k + i * n) (M.row v (r ++ (List.replicate i q).flatten)) p c = left M k (M.row v r) p c
  | 0 => by simp
  | i + 1 => by
    have ih := left_rep hr hq h i
    rw [E_iff] at h
    have e : r ++ (List.replicate (i + 1) q).flatten = (r ++ (List.replicate i q).flatten) ++ q := by
      rw [List.replicate_succ', List.flatten_append]; simp
    have e2 : k + (i + 1) * n = n + (k + i * n) := by grind
    rw [e, row_append, row_zero, hq, e2]
    have : left M (n + (k + i * n)) (vadd (M.row zv q) (M.it n (M.row v (r ++ (List.replicate i q).flatten)))) p c = vsub (M.it n (left M (k + i * n) (M.row v (r ++ (List.replicate i q).flatten)) p c)) (vmul c (M.row zv q)) := by
      unfold left
      rw [it_sub, it_it, it_mul]
      apply vext <;> simp only [vmul, vsub, vadd] <;> grind
    have z0 : ((0, 0) : Vc) = zv := rfl
    rw [z0, this, ih]
    generalize left M k (M.row v r) p c = z at *
    apply vext
    · have := congrArg Prod.fst h; simp only [vsub] at this ⊢; omega
    · have := congrArg Prod.snd h; simp only [vsub] at this ⊢; omega
theorem near_ok {M : Tb} {ds : List Vc} (hM : M ∈ tables) (b : Base M ds) {v : Vc} {ks js : List Nat} (hv : nv v ≤ 97) (hk : ∀ k ∈ ks, k < ds.length) (hj : ∀ k ∈ js, k < ds.length) (lk : ks.length ≤ 12) (l1 : 1 ≤ js.length) (l2 : js.length ≤ 12) {X Y C : Int} (r : Red X Y C)
    (h : E M js.length ks.length (M.row v (ks.map (dig ds))) (M.row zv (js.map (dig ds))) (X, Y) C = zv) (bX : nv (X, Y) < 2 ^ 100) (bC : C.natAbs < 2 ^ 100) : m__law_near (baseD M ds) (nameD v ks js) (pointD ((X, Y), C)) (.int 12) = .ok (.bool true) := by
  have cp := r.pos
  have hn := rest_near hM b hj l1 l2 cp h
  have hr := left_rep (r := ks.map (dig ds)) (q := js.map (dig ds)) (List.length_map ..) (List.length_map ..) h 12
  have flat : (List.replicate 12 (js.map (dig ds))).flatten = ((List.replicate 12 js).flatten).map (dig ds) := by rw [List.map_flatten, List.map_replicate]
  have flatN : (List.replicate 12 (js.map numD)).flatten = ((List.replicate 12 js).flatten).map numD := by rw [List.map_flatten, List.map_replicate]
  have len : ((List.replicate 12 js).flatten).length = 12 * js.length := by simp; omega
  rw [flat, ← List.map_append] at hr
  generalize hrow : ks ++ (List.replicate 12 js).flatten = row at hr
  have lr : row.length = ks.length + 12 * js.length := by rw [← hrow, List.length_append, len]
  have hrk : ∀ k ∈ row, k < ds.length := by
    intro k hk'
    rw [← hrow] at hk'
    rcases List.mem_append.mp hk' with q | q
    · exact hk k q
    · obtain ⟨l, hl, hkl⟩ := List.mem_flatten.mp q
      rw [List.eq_of_mem_replicate hl] at hkl
      exact hj k hkl
  have e1 : mul (.tuple (js.map numD)) (.int 12) = .ok (.tuple (((List.replicate 12 js).flatten).map numD)) := by
    have c1 : (js.map numD).isEmpty = false := by
      cases js with
      | nil => simp at l1
      | cons a l => rfl
    have c2 : decide ((js.map numD).length ≤ 1000) = true := decide_eq_true (by rw [List.length_map]; omega)
    simp only [mul, c1, c2]
    rw [← flatN]
    rfl
  have e2 : add (.tuple (ks.map numD)) (.tuple (((List.replicate 12 js).flatten).map numD)) = .ok (.tuple (row.map numD)) := by
    have c1 : szOk ((ks.map numD).length + (((List.replicate 12 js).flatten).map numD).length) = true := by unfold szOk; rw [List.length_map, List.length_map, len]; exact decide_eq_true (by omega)
    simp only [add, c1, if_true]
    rw [← List.map_append, hrow]
  have sit : ∀ i, i < 1000 → SzV (M.it i (X, Y)) := fun i hi => by
    have h1 := nv_it b.rs (X, Y) i
    have h2 : 3 ^ i ≤ 3 ^ 1000 := Nat.pow_le_pow_right (by decide) (by omega)
    have h3 := mul_bd h2 (Nat.le_of_lt bX)
    have h4 : 3 ^ 1000 * 2 ^ 100 < 2 ^ 3000 := by decide
    exact SzV.of (k := 3000) (by omega) (by decide)
  have run := run_lt (f := fun (_ : D) (s12 : D) => (item (baseD M ds) (PyData.int 0)).bind fun z14 => (m__law_led z14 s12).bind fun z15 => R.ok z15) (fun i => lotD (M.it i (X, Y))) 1000 (fun i x hi => by
    unfold baseD
    exact bok (item0 _ _) <| bok (lled_ok b.rs.sz (sit i hi)) rfl) (row.map numD) 0 (by rw [List.length_map]; omega)
  rw [List.length_map, Nat.zero_add] at run
  have e3 := sum_ok b row v hrk hv (by omega)
  have er : M.it (ks.length + 12 * js.length) (X, Y) = M.it row.length (X, Y) := by rw [lr]
  have hl : vsub (M.it row.length (X, Y)) (vmul C (M.row v (row.map (dig ds)))) = left M ks.length (M.row v (ks.map (dig ds))) (X, Y) C := by rw [← er]; exact hr
  have sT : SzV (M.row v (row.map (dig ds))) := by
    have h1 := nv_S b hrk v
    have h2 : 3 ^ row.length ≤ 3 ^ 1000 := Nat.pow_le_pow_right (by decide) (by omega)
    have h3 := mul_bd h2 (show nv v + 3 ≤ 100 by omega)
    have h4 : 3 ^ 1000 * 100 < 2 ^ 3000 := by decide
    exact SzV.of (k := 3000) (by omega) (by decide)
  have sC : Sz C := Sz.of bC (by decide)
  clear h er hr
  generalize M.row v (row.map (dig ds)) = T at *
  generalize M.it row.length (X, Y) = U at *
  generalize left M ks.length (M.row v (ks.map (dig ds))) (X, Y) C = z at *
  have z1 : U.1 - T.1 * C = z.1 := by rw [← hl]; show _ = U.1 - C * T.1; grind
  have z2 : U.2 - T.2 * C = z.2 := by rw [← hl]; show _ = U.2 - C * T.2; grind
  have n1 := nv1 z; have n2 := nv2 z
  have m400 : mul (PyData.int 400) (.int C) = .ok (.int (400 * C)) := mul_l (by decide)
  have fin : decide (max (((U.1 - T.1 * C).natAbs : Nat) : Int) (((U.2 - T.2 * C).natAbs : Nat) : Int) ≤ 400 * C) = true := by rw [z1, z2]; exact decide_eq_true (by omega)
  unfold m__law_near nameD
  exact bok (un3_t _ _ _) <| bok (un2_t _ _) <| bok (un2_t _ _) <| bok e1 <| bok e2 <| bok (iter_t _) <| bok run <| bok e3 <| bok (item0 _ _) <| bok (item0 _ _) <| bok (mul_i sT.1 sC) <| bok (sub_i _ _) <| bok (item1 _ _ _) <| bok (item1 _ _ _) <| bok (mul_i sT.2 sC) <| bok (sub_i _ _) <|
    bok (item0 _ _) <| bok (abs_i _) <| bok (item1 _ _ _) <| bok (abs_i _) <| bok (max2_i _ _) <| bok m400 <| bok (le_i _ _) (by rw [fin])
end K10

set_option autoImplicit false
set_option linter.all false
set_option maxRecDepth 100000
set_option exponentiation.threshold 5000
namespace K10
open PySem L2 Z
/-- w is led from some lot -/
def Cg (M : Tb) (w : Vc) : Prop := M.det ∣ (M.adj.led w).1 ∧ M.det ∣ (M.adj.led w).2
instance (M : Tb) (w : Vc) : Decidable (Cg M w) := inferInstanceAs (Decidable (_ ∧ _))
theorem fmod_zero {i j : Int} : i.fmod j = 0 ↔ j ∣ i := ⟨Int.dvd_of_fmod_eq_zero, fun h => Int.fmod_eq_zero_of_dvd h⟩
def back (M : Tb) (w : Vc) : Vc := ((M.adj.led w).1.fdiv M.det, (M.adj.led w).2.fdiv M.det)
theorem back_led {M : Tb} {w : Vc} (hM : M.det ≠ 0) (h : Cg M w) : M.led (back M w) = w := by
  have e : vmul M.det (back M w) = M.adj.led w := vext (Int.mul_fdiv_cancel' h.1) (Int.mul_fdiv_cancel' h.2)
  have e2 := led_adj M w
  rw [← e, led_mul] at e2
  exact vext (Int.eq_of_mul_eq_mul_left hM (congrArg Prod.fst e2)) (Int.eq_of_mul_eq_mul_left hM (congrArg Prod.snd e2))
theorem undone_ok {M : Tb} {w : Vc} (r : RS M) (hM : M.det ≠ 0) (hw : SzV w) : m_lot_undone (tabD M) (lotD w) = .ok (if Cg M w then lotD (back M w) else .none) := by
  have hA : SzT M.adj := by
    obtain ⟨a1, a2, a3, a4⟩ := r.sz
    exact ⟨a4, by unfold Sz at *; simpa [Tb.adj] using a2, by unfold Sz at *; simpa [Tb.adj] using a3, a1⟩
  have bd : bigD M.det = true := bigD_of (k := 10) (Nat.lt_of_le_of_lt (det_bd r) (by decide)) (by decide)
  unfold m_lot_undone
  refine bok (det_ok r.sz) <| bok (other_ok M) <| bok (led_ok hA hw) ?_
  have f1 := fmod_zero (i := (M.adj.led w).1) (j := M.det)
  have f2 := fmod_zero (i := (M.adj.led w).2) (j := M.det)
  by_cases c1 : M.det ∣ (M.adj.led w).1
  · by_cases c2 : M.det ∣ (M.adj.led w).2
    · have c : Cg M w := ⟨c1, c2⟩
      rw [if_pos c]
      refine bok (a := false) (bok (item0 _ _) <| bok (fmod_i hM) <| bok (ne_i _ _) ?_) ?_
      · rw [f1.mpr c1, if_neg (by decide)]
        exact bok (item1 _ _ _) <| bok (fmod_i hM) <| bok (ne_i _ _) (by rw [f2.mpr c2]; rfl)
      · rw [if_neg Bool.false_ne_true]
        exact bok (item0 _ _) <| bok (fdiv_i hM bd) <| bok (item1 _ _ _) <| bok (fdiv_i hM bd) rfl
    · have c : ¬ Cg M w := fun h => c2 h.2
      rw [if_neg c]
      refine bok (a := true) (bok (item0 _ _) <| bok (fmod_i hM) <| bok (ne_i _ _) ?_) rfl
      rw [f1.mpr c1, if_neg (by decide)]
      exact bok (item1 _ _ _) <| bok (fmod_i hM) <| bok (ne_i _ _) (by rw [decide_eq_false (fun q => c2 (f2.mp q))]; rfl)
  · have c : ¬ Cg M w := fun h => c1 h.1
    rw [if_neg c]
    refine bok (a := true) (bok (item0 _ _) <| bok (fmod_i hM) <| bok (ne_i _ _) ?_) rfl
    rw [decide_eq_false (fun q => c1 (f1.mp q))]; rfl
end K10

set_option autoImplicit false
set_option linter.all false
set_option maxRecDepth 100000
set_option exponentiation.threshold 5000
namespace K10
open PySem L2 Z
theorem lundone_ok {M : Tb} {w : Vc} (r : RS M) (hM : M.det ≠ 0) (hw : SzV w) : m__law_undone (tabD M) (lotD w) = .ok (if Cg M w then lotD (back M w) else .none) := by
  have bd : bigD M.det = true := bigD_of (k := 10) (Nat.lt_of_le_of_lt (det_bd r) (by decide)) (by decide)
  have hN : ((M.det.natAbs : Nat) : Int) ≠ 0 := by omega
  have g : ∀ i : Int, i.fmod ((M.det.natAbs : Nat) : Int) = 0 ↔ M.det ∣ i := fun i => by rw [fmod_zero, Int.natAbs_dvd]
  obtain ⟨a1, a2, a3, a4⟩ := r.sz
  have e1 : M.d * w.1 - M.b * w.2 = (M.adj.led w).1 := by simp only [Tb.led, Tb.adj]; grind
  have e2 : M.a * w.2 - M.c * w.1 = (M.adj.led w).2 := by simp only [Tb.led, Tb.adj]; grind
  have s1 : sub (.int (M.d * w.1)) (.int (M.b * w.2)) = .ok (.int (M.adj.led w).1) := by rw [sub_i, e1]
  have s2 : sub (.int (M.a * w.2)) (.int (M.c * w.1)) = .ok (.int (M.adj.led w).2) := by rw [sub_i, e2]
  unfold m__law_undone
  refine bok (un2_t _ _) <| bok (un2_t _ _) <| bok (un2_t _ _) <| bok (ldet_ok r.sz) <| bok (item0 _ _) <| bok (mul_i a4 hw.1) <| bok (item1 _ _ _) <| bok (mul_i a2 hw.2) <| bok s1 <| bok (item1 _ _ _) <| bok (mul_i a1 hw.2) <| bok (item0 _ _) <| bok (mul_i a3 hw.1) <| bok s2 ?_
  have f1 := g (M.adj.led w).1
  have f2 := g (M.adj.led w).2
  refine bok ?_ rfl
  by_cases c1 : M.det ∣ (M.adj.led w).1
  · by_cases c2 : M.det ∣ (M.adj.led w).2
    · have c : Cg M w := ⟨c1, c2⟩
      rw [if_pos c]
      refine bok (a := true) (bok (int_i _) <| bok (abs_i _) <| bok (fmod_i hN) <| bok (eq_i _ _) ?_) ?_
      · rw [f1.mpr c1, if_pos (by decide)]
        exact bok (int_i _) <| bok (abs_i _) <| bok (fmod_i hN) <| bok (eq_i _ _) (by rw [f2.mpr c2]; rfl)
      · rw [if_pos rfl]
        exact bok (fdiv_i hM bd) <| bok (fdiv_i hM bd) rfl
    · have c : ¬ Cg M w := fun h => c2 h.2
      rw [if_neg c]
      refine bok (a := false) (bok (int_i _) <| bok (abs_i _) <| bok (fmod_i hN) <| bok (eq_i _ _) ?_) rfl
      rw [f1.mpr c1, if_pos (by decide)]
      exact bok (int_i _) <| bok (abs_i _) <| bok (fmod_i hN) <| bok (eq_i _ _) (by rw [decide_eq_false (fun q => c2 (f2.mp q))])
  · have c : ¬ Cg M w := fun h => c1 h.1
    rw [if_neg c]
    refine bok (a := false) (bok (int_i _) <| bok (abs_i _) <| bok (fmod_i hN) <| bok (eq_i _ _) ?_) rfl
    rw [decide_eq_false (fun q => c1 (f1.mp q))]; rfl
end K10

set_option autoImplicit false
set_option linter.all false
set_option maxRecDepth 100000
set_option exponentiation.threshold 5000
namespace K10
open PySem L2 Z
theorem cg_self (M : Tb) (v : Vc) : Cg M (vsub v v) := by
  rw [vsub_self]
  have : M.adj.led zv = zv := by apply vext <;> simp [Tb.led, zv]
  unfold Cg; rw [this]; exact ⟨Int.dvd_zero _, Int.dvd_zero _⟩
theorem cg_trans {M : Tb} {u v w : Vc} (h1 : Cg M (vsub u v)) (h2 : Cg M (vsub v w)) : Cg M (vsub u w) := by
  have e : vsub u w = vadd (vsub u v) (vsub v w) := by apply vext <;> simp only [vsub, vadd] <;> omega
  unfold Cg at *
  rw [e, led_add]
  exact ⟨Int.dvd_add h1.1 h2.1, Int.dvd_add h1.2 h2.2⟩
/-- some found one is of the lot's rest -/
def hasCg (M : Tb) (v : Vc) (fs : List Vc) : Bool := fs.any fun d => decide (Cg M (vsub v d))
theorem notNone_lot (v : Vc) : isNone (lotD v) = false := rfl
theorem found_test {M : Tb} (r : RS M) (hM : M.det ≠ 0) {v : Vc} (hv : nv v ≤ 10) {fs : List Vc} (hf : ∀ d ∈ fs, nv d ≤ 10) {f : D → R (Option D)} (hF : ∀ x, f x = ((m__law_less (lotD v) x).bind fun z27 => (m__law_undone (tabD M) z27).bind fun z28 => if (!isNone z28) = true then R.ok (some x) else R.ok none)) :
    compP (fs.map lotD) f = .ok ((fs.filter fun d => decide (Cg M (vsub v d))).map lotD) := by
  induction fs with
  | nil => rfl
  | cons d fs ih =>
    have hs : SzV (vsub v d) := SzV.of (k := 10) (by have := nv_sub v d; have := hf d (by simp); omega) (by decide)
    have e : f (lotD d) = .ok (if Cg M (vsub v d) then some (lotD d) else none) := by
      rw [hF]
      refine bok (lless_ok v d) <| bok (lundone_ok r hM hs) ?_
      by_cases c : Cg M (vsub v d)
      · rw [if_pos c, if_pos c, if_pos (by rw [notNone_lot]; rfl)]
      · rw [if_neg c, if_neg c, if_neg (by simp [isNone])]
    rw [List.map_cons, compP, e, R.bind_ok, ih (fun x hx => hf x (by simp [hx])), R.bind_ok]
    by_cases c : Cg M (vsub v d)
    · simp [c]
    · simp [c]
end K10

set_option autoImplicit false
set_option linter.all false
set_option maxRecDepth 100000
set_option exponentiation.threshold 5000
namespace K10
open PySem L2 Z
theorem plain_lots : ∀ l : List Vc, PyData.plainAll (l.map lotD) = true
  | [] => rfl
  | v :: l => by simp [PyData.plainAll, plain_lots l, lotD, PyData.plain]
theorem depth_lots : ∀ l : List Vc, PyData.depthAll (l.map lotD) ≤ 5
  | [] => by simp [PyData.depthAll]
  | v :: l => by
    have := depth_lots l
    simp [PyData.depthAll, lotD, PyData.depth]
    omega
theorem ok_lots (l : List Vc) : okD (.list (l.map lotD)) = true := by
  have := depth_lots l
  have hd : (PyData.list (l.map lotD)).depth ≤ 40 := by simp only [PyData.depth]; omega
  unfold okD
  simp only [PyData.plain, plain_lots, Bool.true_and]
  exact decide_eq_true hd
theorem eq_empty (l : List Vc) : eqD (.list (l.map lotD)) (.list []) = .ok l.isEmpty := by
  unfold eqD
  rw [ok_lots l, show okD (.list []) = true from ok_lots [], Bool.and_self, if_pos rfl]
  cases l with
  | nil => rfl
  | cons v l => rfl
theorem filter_empty {α : Type} (p : α → Bool) : ∀ l : List α, (l.filter p).isEmpty = !l.any p
  | [] => rfl
  | x :: l => by
    have := filter_empty p l
    cases h : p x <;> simp [h, this]
/-- the lots are gone through: each is of the rest of a found one -/
theorem found_run {M : Tb} (r : RS M) (hM : M.det ≠ 0) {sr : Src} {f : D → Src × List D → R (Src × List D)}
    (hF : ∀ x st, f x st = (((iter (PyData.list st.2)).bind fun z25 => (compL z25 fun x26 => (m__law_less x x26).bind fun z27 => (m__law_undone (tabD M) z27).bind fun z28 => if (!isNone z28) = true then R.ok (some x26) else R.ok none).bind fun ys29 => (eqD (PyData.list ys29) (PyData.list [])).bind fun z30 => R.ok z30).bind fun t31 =>
      if t31 = true then (pushM st.2 [x]).bind fun (z32, y33) => R.ok (st.1, y33) else R.ok (st.1, st.2))) :
    ∀ (ls fs : List Vc), (∀ d ∈ ls, nv d ≤ 3) → (∀ d ∈ fs, nv d ≤ 3) → fs.length + ls.length ≤ 1000 →
      ∃ gs : List Vc, forS (ls.map lotD) (sr, fs.map lotD) f = .ok (sr, gs.map lotD) ∧ (∀ d ∈ gs, nv d ≤ 3) ∧ gs.length ≤ fs.length + ls.length ∧ (∀ d ∈ fs, d ∈ gs) ∧ ∀ v ∈ ls, ∃ d ∈ gs, Cg M (vsub v d)
  | [], fs, _, hf, _ => ⟨fs, rfl, hf, by simp, fun d h => h, fun v h => by simp at h⟩
  | v :: ls, fs, hl, hf, hn => by
    rw [List.length_cons] at hn
    have ht := found_test r hM (v := v) (by have := hl v (by simp); omega) (fs := fs) (fun d h => by have := hf d h; omega) (f := fun x26 => (m__law_less (lotD v) x26).bind fun z27 => (m__law_undone (tabD M) z27).bind fun z28 => if (!isNone z28) = true then R.ok (some x26) else R.ok none) (fun _ => rfl)
    have hc : compL (fs.map lotD) (fun x26 => (m__law_less (lotD v) x26).bind fun z27 => (m__law_undone (tabD M) z27).bind fun z28 => if (!isNone z28) = true then R.ok (some x26) else R.ok none) = .ok ((fs.filter fun d => decide (Cg M (vsub v d))).map lotD) := by
      rw [compL_of (by rw [List.length_map]; omega)]; exact ht
    have he := eq_empty (fs.filter fun d => decide (Cg M (vsub v d)))
    have hemp : (fs.filter fun d => decide (Cg M (vsub v d))).isEmpty = !hasCg M v fs := by
      exact filter_empty _ fs
    by_cases h : hasCg M v fs = true
    · obtain ⟨gs, e, g1, g2, g3, g4⟩ := found_run r hM (sr := sr) hF ls fs (fun d hd => hl d (by simp [hd])) hf (by omega)
      refine ⟨gs, ?_, g1, by rw [List.length_cons]; omega, g3, fun w hw => ?_⟩
      · rw [List.map_cons, forS_cons]
        refine bok ?_ e
        rw [hF]
        refine bok (a := false) (bok (iter_l _) <| bok hc <| bok he (by rw [hemp, h]; rfl)) rfl
      · rcases List.mem_cons.mp hw with q | q
        · subst q
          obtain ⟨d, hd, hcg⟩ := List.any_eq_true.mp h
          exact ⟨d, g3 d hd, of_decide_eq_true hcg⟩
        · exact g4 w q
    · have h' : hasCg M v fs = false := by simpa using h
      obtain ⟨gs, e, g1, g2, g3, g4⟩ := found_run r hM (sr := sr) hF ls (fs ++ [v]) (fun d hd => hl d (by simp [hd])) (fun d hd => by
        rcases List.mem_append.mp hd with q | q
        · exact hf d q
        · have : d = v := by simpa using q
          subst this; exact hl d (by simp)) (by rw [List.length_append, List.length_singleton]; omega)
      refine ⟨gs, ?_, g1, by rw [List.length_append, List.length_singleton] at g2; rw [List.length_cons]; omega, fun d hd => g3 d (by simp [hd]), fun w hw => ?_⟩
      · rw [List.map_cons, forS_cons]
        refine bok ?_ e
        rw [hF]
        have hp : pushM (fs.map lotD) [lotD v] = .ok (.none, (fs ++ [v]).map lotD) := by
          show (if decide ((fs.map lotD).length < 16777216) = true then R.ok (PyData.none, fs.map lotD ++ [lotD v]) else .stuck) = _
          rw [if_pos (decide_eq_true (by rw [List.length_map]; omega)), List.map_append]; rfl
        refine bok (a := true) (bok (iter_l _) <| bok hc <| bok he (by rw [hemp, h']; rfl)) ?_
        rw [if_pos rfl]
        exact bok hp rfl
      · rcases List.mem_cons.mp hw with q | q
        · subst q; exact ⟨w, g3 w (by simp), cg_self M w⟩
        · exact g4 w q
end K10

set_option autoImplicit false
set_option linter.all false
set_option maxRecDepth 100000
set_option exponentiation.threshold 5000
namespace K10
open PySem L2 Z
def span (n : Nat) : List Int := (List.range (2 * n + 1)).map fun (k : Nat) => (k : Int) - n
def box (n : Nat) : List Vc := (span n).flatMap fun x => (span n).map fun y => (x, y)
/-- every rest has a lot in the box -/
theorem box_rests : ∀ M ∈ tables, ∀ x : Nat, x < M.det.natAbs → ∀ y : Nat, y < M.det.natAbs → ∀ n : Nat, n < 4 → 1 ≤ n → ∃ d ∈ box n, Cg M (vsub ((x : Int), (y : Int)) d) := by decide +kernel
theorem box_all {M : Tb} (hM : M ∈ tables) {n : Nat} (h1 : 1 ≤ n) (h2 : n < 4) (v : Vc) : ∃ d ∈ box n, Cg M (vsub v d) := by
  have hd := tables_det M hM
  have r1 := Int.emod_nonneg v.1 hd
  have r2 := Int.emod_nonneg v.2 hd
  have l1 : v.1 % M.det < M.det.natAbs := Int.emod_lt v.1 hd
  have l2 : v.2 % M.det < M.det.natAbs := Int.emod_lt v.2 hd
  obtain ⟨d, hd1, hd2⟩ := box_rests M hM (v.1 % M.det).toNat (by omega) (v.2 % M.det).toNat (by omega) n h2 h1
  refine ⟨d, hd1, cg_trans (v := (v.1 % M.det, v.2 % M.det)) ?_ (by rw [Int.toNat_of_nonneg r1, Int.toNat_of_nonneg r2] at hd2; exact hd2)⟩
  have e : vsub v (v.1 % M.det, v.2 % M.det) = vmul M.det (v.1 / M.det, v.2 / M.det) := by
    have q1 := Int.mul_ediv_add_emod v.1 M.det
    have q2 := Int.mul_ediv_add_emod v.2 M.det
    apply vext
    · show v.1 - v.1 % M.det = M.det * (v.1 / M.det); omega
    · show v.2 - v.2 % M.det = M.det * (v.2 / M.det); omega
  unfold Cg
  rw [e, led_mul]
  exact ⟨Int.dvd_mul_right _ _, Int.dvd_mul_right _ _⟩
end K10

set_option autoImplicit false
set_option linter.all false
set_option maxRecDepth 100000
set_option exponentiation.threshold 5000
namespace K10
open PySem L2 Z
theorem perm_lots {ys : List D} {fs : List Vc} (h : ys.Perm (fs.map lotD)) : ∃ gs : List Vc, ys = gs.map lotD ∧ gs.Perm fs := by
  have key : ∀ {xs ys : List D}, ys.Perm xs → ∀ fs : List Vc, xs = fs.map lotD → ∃ gs : List Vc, ys = gs.map lotD ∧ gs.Perm fs := by
    intro xs ys h
    induction h with
    | nil => intro fs e; exact ⟨[], rfl, by cases fs <;> simp at e ⊢⟩
    | cons x _ ih =>
      intro fs e
      cases fs with
      | nil => simp at e
      | cons f fs =>
        rw [List.map_cons] at e
        obtain ⟨e1, e2⟩ := List.cons.inj e
        obtain ⟨gs, q1, q2⟩ := ih fs e2
        exact ⟨f :: gs, by rw [List.map_cons, ← e1, q1], q2.cons f⟩
    | swap x y l =>
      intro fs e
      match fs, e with
      | a :: b :: fs, e =>
        simp only [List.map_cons, List.cons.injEq] at e
        exact ⟨b :: a :: fs, by simp [e], List.Perm.swap _ _ _⟩
    | trans _ _ ih1 ih2 =>
      intro fs e
      obtain ⟨gs, q1, q2⟩ := ih2 fs e
      obtain ⟨hs, r1, r2⟩ := ih1 gs q1
      exact ⟨hs, r1, r2.trans q2⟩
  exact key h fs rfl
end K10

set_option autoImplicit false
set_option linter.all false
set_option maxRecDepth 100000
set_option exponentiation.threshold 5000
namespace K10
open PySem L2 Z
theorem box_run {n : Nat} (h1 : 1 ≤ n) (h2 : n < 4) {f : D → D → R D} (hf : ∀ x s, f x s = (sub (PyData.int 0) (.int (n : Int))).bind fun z7 => (add (.int (n : Int)) (PyData.int 1)).bind fun z8 => (range2 z7 z8).bind fun z9 => (compL z9 fun x10 => R.ok (some (PyData.tuple [x, x10]))).bind fun ys11 => (add s (PyData.list ys11)).bind fun z12 => R.ok z12) :
    range2 (.int (0 - (n : Int))) (.int ((n : Int) + 1)) = .ok ((span n).map PyData.int) ∧ forS ((span n).map PyData.int) (PyData.list []) f = .ok (.list ((box n).map lotD)) := by
  have c : n = 1 ∨ n = 2 ∨ n = 3 := by omega
  have ef : f = _ := funext fun x => funext fun s => hf x s
  subst ef
  rcases c with rfl | rfl | rfl <;> exact ⟨rfl, rfl⟩
end K10

set_option autoImplicit false
set_option linter.all false
set_option maxRecDepth 100000
set_option exponentiation.threshold 5000
namespace K10
open PySem L2 Z
theorem box_small {n : Nat} (h1 : 1 ≤ n) (h2 : n < 4) : (∀ d ∈ box n, nv d ≤ 3) ∧ (box n).length ≤ 49 := by
  have c : n = 1 ∨ n = 2 ∨ n = 3 := by omega
  rcases c with rfl | rfl | rfl <;> decide
theorem digits_ok {n k : Nat} {M : Tb} {s : Src} (hM : M ∈ tables) (h1 : 1 ≤ n) (h2 : n < 4) (h : Ok (k + 120) s) : ∃ (ds : List Vc) (s' : Src), m__law_digits s (tabD M) (.int (n : Int)) = .ok (.tuple (ds.map lotD), s') ∧ (∀ d ∈ ds, nv d ≤ 3) ∧ ds.length ≤ 50 ∧ (∀ v : Vc, ∃ d ∈ ds, Cg M (vsub v d)) ∧ Ok k s' := by
  obtain ⟨b1, b2⟩ := box_small h1 h2
  obtain ⟨r, s1, e1, hr, o1⟩ := pick_ok (n := k + 119) h (many := 4) (by decide) (by decide)
  obtain ⟨ys, s2, e2, p2, o2⟩ := mixed_ok (n := k + 60) (xs := (box n).map lotD) (Ok.le o1 (by rw [List.length_map]; omega)) (by rw [List.length_map]; omega)
  obtain ⟨ls, rfl, pl⟩ := perm_lots p2
  obtain ⟨fl, e3, f1, f2⟩ : ∃ fl : List Vc, ((gtD (.int (r : Int)) (PyData.int 0)).bind fun z15 => if z15 = true then R.ok ((PyData.list [(PyData.tuple [(PyData.int 0), (PyData.int 0)])]), s1) else R.ok ((PyData.list []), s1) : R (D × Src)) = .ok (.list (fl.map lotD), s1) ∧ (∀ d ∈ fl, nv d ≤ 3) ∧ fl.length ≤ 1 := by
    by_cases c : (0 : Int) < (r : Int)
    · exact ⟨[zv], bok (gt_i _ _) (by rw [decide_eq_true c]; rfl), by decide, by decide⟩
    · exact ⟨[], bok (gt_i _ _) (by rw [decide_eq_false c]; rfl), by simp, by simp⟩
  have ll : ls.length ≤ 49 := by rw [pl.length_eq]; exact b2
  have l3 : ∀ d ∈ fl ++ ls, nv d ≤ 3 := fun d hd => by
    rcases List.mem_append.mp hd with q | q
    · exact f1 d q
    · exact b1 d (pl.mem_iff.mp q)
  obtain ⟨gs, e4, g1, g2, _, g4⟩ := found_run (tables_rs M hM) (tables_det M hM) (sr := s2) (f := fun x22 s23 =>
    ((iter (PyData.list s23.2)).bind fun z25 =>
    (compL z25 fun x26 =>
    (m__law_less x22 x26).bind fun z27 =>
    (m__law_undone (tabD M) z27).bind fun z28 =>
    if (!isNone z28) = true then
    R.ok (some x26)
    else
    R.ok none).bind fun ys29 =>
    (eqD (PyData.list ys29) (PyData.list [])).bind fun z30 =>
    R.ok z30).bind fun t31 =>
    if t31 = true then
    (pushM s23.2 [x22]).bind fun (z32, y33) =>
    R.ok (s23.1, y33)
    else
    R.ok (s23.1, s23.2)) (fun _ _ => rfl) (fl ++ ls) [] l3 (by simp) (by rw [List.length_append]; simp; omega)
  rw [List.length_append] at g2
  simp only [List.length_nil, Nat.zero_add] at g2
  obtain ⟨ys2, s3, e5, p5, o5⟩ := mixed_ok (n := k) (s := s2) (xs := gs.map lotD) (Ok.le o2 (by rw [List.length_map]; omega)) (by rw [List.length_map]; omega)
  obtain ⟨ds, rfl, pd⟩ := perm_lots p5
  refine ⟨ds, s3, ?_, fun d hd => g1 d (pd.mem_iff.mp hd), by rw [pd.length_eq]; omega, fun v => ?_, o5⟩
  · obtain ⟨r1, r2⟩ := box_run h1 h2 (f := fun x4 s5 => (sub (PyData.int 0) (.int (n : Int))).bind fun z7 => (add (.int (n : Int)) (PyData.int 1)).bind fun z8 => (range2 z7 z8).bind fun z9 => (compL z9 fun x10 => R.ok (some (PyData.tuple [x4, x10]))).bind fun ys11 => (add s5 (PyData.list ys11)).bind fun z12 => R.ok z12) (fun _ _ => rfl)
    have ea : add (.list (fl.map lotD)) (.list (ls.map lotD)) = .ok (.list ((fl ++ ls).map lotD)) := by
      have c1 : szOk ((fl.map lotD).length + (ls.map lotD).length) = true := by unfold szOk; rw [List.length_map, List.length_map]; exact decide_eq_true (by omega)
      simp only [add, c1, if_true, List.map_append]
    unfold m__law_digits
    exact bok (sub_i _ _) <| bok (add_i _ _) <| bok r1 <| bok r2 <| bok (bok e1 e3) <| bok e2 <| bok ea <| bok (iter_l _) <| bok e4 <| bok e5 <| bok (tuple_l _) rfl
  · obtain ⟨d, hd, c⟩ := box_all hM h1 h2 v
    obtain ⟨g, hg, c2⟩ := g4 d (List.mem_append.mpr (.inr (pl.mem_iff.mpr hd)))
    exact ⟨g, pd.mem_iff.mpr hg, cg_trans c c2⟩
end K10

set_option autoImplicit false
set_option linter.all false
set_option maxRecDepth 100000
set_option exponentiation.threshold 5000
namespace K10
open PySem L2 Z
theorem enum_lots (ds : List Vc) : enumD (ds.map lotD) = (List.range ds.length).map fun i => PyData.tuple [.int (i : Nat), lotD (dig ds i)] := by
  apply List.ext_getElem?
  intro i
  rw [enumD_at, List.getElem?_map, List.getElem?_map]
  by_cases h : i < ds.length
  · rw [List.getElem?_range h, List.getElem?_eq_getElem h]
    simp [dig, List.getD, List.getElem?_eq_getElem h]
  · rw [List.getElem?_eq_none (by omega), List.getElem?_eq_none (by simp; omega)]; rfl
theorem back_ok {M : Tb} {ds : List Vc} (r : RS M) (hM : M.det ≠ 0) (hd : ∀ d ∈ ds, nv d ≤ 3) (hl : ds.length ≤ 50) {v : Vc} (hv : nv v ≤ 100) (hc : ∃ d ∈ ds, Cg M (vsub v d)) :
    ∃ i, i < ds.length ∧ Cg M (vsub v (dig ds i)) ∧ m_lot_back (baseD M ds) (lotD v) = .ok (.tuple [.int (i : Nat), lotD (back M (vsub v (dig ds i)))]) := by
  have c1 : compL ((List.range ds.length).map fun i => PyData.tuple [.int (i : Nat), lotD (dig ds i)]) (fun x3 => (un2 x3).bind fun (p4, p5) => (item (baseD M ds) (PyData.int 0)).bind fun z6 => (m_lots_less (lotD v) p5).bind fun z7 => (m_lot_undone z6 z7).bind fun z8 => R.ok (some (PyData.tuple [p4, z8]))) =
      .ok ((List.range ds.length).map fun i => PyData.tuple [.int (i : Nat), if Cg M (vsub v (dig ds i)) then lotD (back M (vsub v (dig ds i))) else .none]) := by
    refine compL_all (by rw [List.length_range]; omega) fun i hi => ?_
    have hi' : i < ds.length := List.mem_range.mp hi
    have hs : SzV (vsub v (dig ds i)) := SzV.of (k := 10) (by have := nv_sub v (dig ds i); have := hd _ (dig_mem hi'); omega) (by decide)
    exact bok (un2_t _ _) <| bok (item0 _ _) <| bok (less_ok _ _) <| bok (undone_ok r hM hs) rfl
  have c2 : ∀ l : List Nat, (∀ i ∈ l, i < ds.length) → ∃ is : List Nat, compP (l.map fun i => PyData.tuple [.int (i : Nat), if Cg M (vsub v (dig ds i)) then lotD (back M (vsub v (dig ds i))) else .none]) (fun x11 => (item x11 (PyData.int 1)).bind fun z12 => if (!isNone z12) = true then R.ok (some x11) else R.ok none) =
      .ok (is.map fun i => PyData.tuple [.int (i : Nat), lotD (back M (vsub v (dig ds i)))]) ∧ (∀ i ∈ is, i < ds.length ∧ Cg M (vsub v (dig ds i))) ∧ (∀ i ∈ l, Cg M (vsub v (dig ds i)) → i ∈ is) := by
    intro l
    induction l with
    | nil => exact fun _ => ⟨[], rfl, by simp, by simp⟩
    | cons i l ih =>
      intro h
      obtain ⟨is, e, q1, q2⟩ := ih fun j hj => h j (by simp [hj])
      by_cases c : Cg M (vsub v (dig ds i))
      · refine ⟨i :: is, ?_, fun j hj => ?_, fun j hj hc => ?_⟩
        · rw [List.map_cons, if_pos c]
          exact bok (a := some (PyData.tuple [.int (i : Nat), lotD (back M (vsub v (dig ds i)))])) (bok (item1 _ _ _) (by rw [notNone_lot]; rfl)) <| bok e rfl
        · rcases List.mem_cons.mp hj with q | q
          · subst q; exact ⟨h j (by simp), c⟩
          · exact q1 j q
        · rcases List.mem_cons.mp hj with q | q
          · subst q; simp
          · simp [q2 j q hc]
      · refine ⟨is, ?_, q1, fun j hj hc => ?_⟩
        · rw [List.map_cons, if_neg c]
          exact bok (a := none) (bok (item1 _ _ _) rfl) <| bok e rfl
        · rcases List.mem_cons.mp hj with q | q
          · subst q; exact absurd hc c
          · exact q2 j q hc
  obtain ⟨is, e, q1, q2⟩ := c2 (List.range ds.length) fun i hi => List.mem_range.mp hi
  obtain ⟨d, hd1, hd2⟩ := hc
  obtain ⟨i0, hi0, ei0⟩ := List.getElem_of_mem hd1
  have m0 : i0 ∈ is := q2 i0 (List.mem_range.mpr hi0) (by
    have : dig ds i0 = d := by simp [dig, List.getD, List.getElem?_eq_getElem hi0, ei0]
    rw [this]; exact hd2)
  cases is with
  | nil => simp at m0
  | cons i is =>
    obtain ⟨a1, a2⟩ := q1 i (by simp)
    refine ⟨i, a1, a2, ?_⟩
    unfold m_lot_back
    refine bok (item1 _ _ _) <| bok (iterL_t _) <| bok (by rw [enum_lots]; exact c1) <| bok (iter_l _) <| bok (by rw [compL_of (by simp; omega)]; exact e) <| bok (item_l0 _ _) rfl
end K10

set_option autoImplicit false
set_option linter.all false
set_option maxRecDepth 100000
set_option exponentiation.threshold 5000
namespace K10
open PySem L2 Z
theorem small_i {i : Int} {k : Nat} (h : i.natAbs < 2 ^ k) (hk : k ≤ 200 := by decide) : Small 0 200 (.int i) := Small.int (Nat.lt_of_lt_of_le h (Nat.pow_le_pow_right (by decide) hk))
theorem small_lot {v : Vc} {k : Nat} (h : nv v < 2 ^ k) (hk : k ≤ 200 := by decide) : Small 1 402 (lotD v) :=
  (SmallAll.tuple ((small_i (Nat.lt_of_le_of_lt (nv1 v) h) hk |>.mono (Nat.le_refl _) (Nat.le_refl _) |> fun a => SmallAll.cons a (SmallAll.cons (small_i (Nat.lt_of_le_of_lt (nv2 v) h) hk) SmallAll.nil)))).mono (by decide) (by decide)
theorem small_point {X Y C : Int} (h : nv (X, Y) < 2 ^ 200) (hc : C.natAbs < 2 ^ 200) : Small 2 604 (pointD ((X, Y), C)) :=
  (SmallAll.tuple (SmallAll.cons (small_lot h) (SmallAll.cons (small_i hc) SmallAll.nil))).mono (by decide) (by decide)
theorem small_tab {M : Tb} (r : RS M) : Small 2 806 (tabD M) := by
  have h1 := r.r1
  have h2 := r.r2
  have a1 : nv (M.a, M.b) < 2 ^ 10 := Nat.lt_of_le_of_lt (nv_le (n := 3) (by show M.a.natAbs ≤ 3; omega) (by show M.b.natAbs ≤ 3; omega)) (by decide)
  have a2 : nv (M.c, M.d) < 2 ^ 10 := Nat.lt_of_le_of_lt (nv_le (n := 3) (by show M.c.natAbs ≤ 3; omega) (by show M.d.natAbs ≤ 3; omega)) (by decide)
  exact (SmallAll.tuple (SmallAll.cons (small_lot a1) (SmallAll.cons (small_lot a2) SmallAll.nil))).mono (by decide) (by decide)
theorem small_nums {ks : List Nat} {n : Nat} (hk : ∀ k ∈ ks, k < n) (hn : n ≤ 1000) (hl : ks.length ≤ 24) : Small 1 4824 (.tuple (ks.map numD)) := by
  have h : SmallAll 0 ((ks.map numD).length * (200 + 1)) (ks.map numD) := SmallAll.all fun d hd => by
    obtain ⟨k, h1, rfl⟩ := List.mem_map.mp hd
    have := hk k h1
    exact small_i (k := 10) (by show ((k : Nat) : Int).natAbs < 2 ^ 10; have : (2 : Nat) ^ 10 = 1024 := by decide
                                omega)
  rw [List.length_map] at h
  exact h.tuple.mono (by decide) (by omega)
theorem small_digs {ds : List Vc} (hd : ∀ d ∈ ds, nv d ≤ 3) (hl : ds.length ≤ 50) : Small 2 20150 (.tuple (ds.map lotD)) := by
  have h : SmallAll 1 ((ds.map lotD).length * (402 + 1)) (ds.map lotD) := SmallAll.all fun d h => by
    obtain ⟨v, h1, rfl⟩ := List.mem_map.mp h
    exact small_lot (k := 10) (Nat.lt_of_le_of_lt (hd v h1) (by decide))
  rw [List.length_map] at h
  exact h.tuple.mono (by decide) (by omega)
theorem small_base {M : Tb} {ds : List Vc} (b : Base M ds) (hl : ds.length ≤ 50) : Small 3 20958 (baseD M ds) :=
  (SmallAll.tuple (SmallAll.cons (small_tab b.rs) (SmallAll.cons (small_digs b.dg hl) SmallAll.nil))).mono (by decide) (by decide)
theorem small_name {v : Vc} {ks js : List Nat} {n : Nat} (hv : nv v ≤ 97) (hn : n ≤ 1000) (hk : ∀ k ∈ ks, k < n) (hj : ∀ k ∈ js, k < n) (lk : ks.length ≤ 24) (lj : js.length ≤ 24) : Small 2 10053 (nameD v ks js) :=
  (SmallAll.tuple (SmallAll.cons (small_lot (k := 10) (Nat.lt_of_le_of_lt hv (by decide))) (SmallAll.cons (small_nums hk hn lk) (SmallAll.cons (small_nums hj hn lj) SmallAll.nil)))).mono (by decide) (by decide)
/-- a point moved by a lot, shown in least terms -/
theorem low_of {M : Tb} {n k : Nat} {W S : Vc} (hM : M.det ≠ 0) (hL : (M.pw n).less1.det ≠ 0) {x y c X Y C : Int} (hc : c ≠ 0) (hx : nv (x, y) < 2 ^ 98) (hb : c.natAbs < 2 ^ 98) (h : E M n k W S (x, y) c = zv) (r : Red X Y C) (e : E M n k W S (X, Y) C = zv) :
    m__law_low (.int x) (.int y) (.int c) = .ok (pointD ((X, Y), C)) := by
  have h2 := nv2 (x, y)
  obtain ⟨X', Y', C', e1, p⟩ := llow_ok (x := x) (y := y) (c := c) hc (by simp only at h2; omega) (by omega)
  have q := E_low hc h p.low
  obtain ⟨rfl, rfl, rfl⟩ := p.red.eq hM hL r q e
  exact e1
end K10

set_option autoImplicit false
set_option linter.all false
set_option maxRecDepth 100000
set_option exponentiation.threshold 5000
namespace K10
open PySem L2 Z
theorem base_of {M : Tb} {ds : List Vc} (hM : M ∈ tables) (hd : ∀ d ∈ ds, nv d ≤ 3) : Base M ds := ⟨tables_rs M hM, hd⟩
section
variable {M : Tb} {ds : List Vc} {v : Vc} {ks js : List Nat} {X Y C : Int}
theorem moved_ok (hM : M ∈ tables) (b : Base M ds) (hv : nv v ≤ 4) (hk : ∀ k ∈ ks, k < ds.length) (hj : ∀ k ∈ js, k < ds.length) (lk : ks.length ≤ 11) (l1 : 1 ≤ js.length) (l2 : js.length ≤ 12)
    (r : Red X Y C) (e : E M js.length ks.length (M.row v (ks.map (dig ds))) (M.row zv (js.map (dig ds))) (X, Y) C = zv) (bX : nv (X, Y) < 2 ^ 90) (bC : C.natAbs < 2 ^ 90) {t : Vc} (ht : nv t ≤ 58) :
    ∃ X' Y' C', m_worth (baseD M ds) (nameD (vadd v t) ks js) = .ok (pointD ((X', Y'), C')) ∧ m__law_low (.int (X + t.1 * C)) (.int (Y + t.2 * C)) (.int C) = .ok (pointD ((X', Y'), C')) ∧ nv (X', Y') < 2 ^ 200 ∧ C'.natAbs < 2 ^ 200 := by
  have hL := tables_less M hM js.length (by omega) l1
  obtain ⟨X', Y', C', e1, w⟩ := worth_ok b (tables_det M hM) (v := vadd v t) (ks := ks) (js := js) (by have := nv_add v t; omega) hk hj (by omega) (by omega) hL
  refine ⟨X', Y', C', e1, ?_, w.bx, w.bc⟩
  have c0 := r.pos
  have h := E_moved (M := M) (n := js.length) (k := ks.length) (W := M.row v (ks.map (dig ds))) (S := M.row zv (js.map (dig ds))) (p := (X, Y)) (c := C) t e
  have hr : M.row (vadd v t) (ks.map (dig ds)) = vadd (M.row v (ks.map (dig ds))) (M.it ks.length t) := by rw [row_add, List.length_map]
  have ew := w.eq
  rw [hr] at ew
  have hp : vadd (X, Y) (vmul C t) = (X + t.1 * C, Y + t.2 * C) := by apply vext <;> simp only [vadd, vmul] <;> grind
  rw [hp] at h
  have t1 := nv1 t
  have t2 := nv2 t
  have x1 := nv1 (X, Y)
  have x2 := nv2 (X, Y)
  simp only at x1 x2
  have m1 : (t.1 * C).natAbs ≤ 58 * 2 ^ 90 := by rw [Int.natAbs_mul]; exact mul_bd (by omega) (by omega)
  have m2 : (t.2 * C).natAbs ≤ 58 * 2 ^ 90 := by rw [Int.natAbs_mul]; exact mul_bd (by omega) (by omega)
  refine low_of (tables_det M hM) hL (by omega) ?_ (by omega) h w.red ew
  refine Nat.lt_of_le_of_lt (nv_le (n := 59 * 2 ^ 90) ?_ ?_) (by decide)
  · show (X + t.1 * C).natAbs ≤ _
    have := Int.natAbs_add_le X (t.1 * C); omega
  · show (Y + t.2 * C).natAbs ≤ _
    have := Int.natAbs_add_le Y (t.2 * C); omega
theorem twice_ok (hM : M ∈ tables) (b : Base M ds) (hv : nv v ≤ 4) (hk : ∀ k ∈ ks, k < ds.length) (hj : ∀ k ∈ js, k < ds.length) (lk : ks.length ≤ 11) (l1 : 1 ≤ js.length) (l2 : js.length ≤ 12)
    (r : Red X Y C) (e : E M js.length ks.length (M.row v (ks.map (dig ds))) (M.row zv (js.map (dig ds))) (X, Y) C = zv) :
    m_worth (baseD M ds) (nameD v ks (js ++ js)) = .ok (pointD ((X, Y), C)) := by
  have ll : (js ++ js).length = js.length + js.length := List.length_append ..
  have hL := tables_less M hM (js ++ js).length (by omega) (by omega)
  obtain ⟨X', Y', C', e1, w⟩ := worth_ok b (tables_det M hM) (v := v) (ks := ks) (js := js ++ js) (by omega) hk (fun k h => (List.mem_append.mp h).elim (hj k) (hj k)) (by omega) (by omega) hL
  have h := E_twice (M := M) (n := js.length) (k := ks.length) (W := M.row v (ks.map (dig ds))) (S := M.row zv (js.map (dig ds))) (p := (X, Y)) (c := C) e
  have hr : M.row zv ((js ++ js).map (dig ds)) = vadd (M.it js.length (M.row zv (js.map (dig ds)))) (M.row zv (js.map (dig ds))) := by
    rw [List.map_append, row_append, row_zero (r := js.map (dig ds)) (v := M.row zv (js.map (dig ds))), List.length_map]
    apply vext <;> simp only [vadd, zv] <;> grind
  have ew := w.eq
  rw [hr, ll] at ew
  rw [ll] at hL
  obtain ⟨rfl, rfl, rfl⟩ := w.red.eq (tables_det M hM) hL r ew h
  exact e1
end
theorem snoc {l : List Nat} {j n : Nat} (h : ∀ k ∈ l, k < n) (hj : j < n) : ∀ k ∈ l ++ [j], k < n := fun k q => by
  rcases List.mem_append.mp q with q | q
  · exact h k q
  · have : k = j := by simpa using q
    omega
theorem bokF {β : Type} {m : R Bool} {f g : R β} {r : R β} (h : m = .ok false) (k : g = r) : (m.bind fun t => if t = true then f else g) = r := by
  rw [h]; exact k
theorem bokT {β : Type} {m : R Bool} {f g : R β} {r : R β} (h : m = .ok true) (k : f = r) : (m.bind fun t => if t = true then f else g) = r := by
  rw [h]; exact k
theorem led_z (M : Tb) : M.led zv = zv := by simp [Tb.led, zv]
section
variable {M : Tb} {ds : List Vc} {v : Vc} {ks jt : List Nat} {j : Nat} {X Y C : Int}
theorem turned_E (e : E M (j :: jt).length ks.length (M.row v (ks.map (dig ds))) (M.row zv ((j :: jt).map (dig ds))) (X, Y) C = zv) :
    E M (jt ++ [j]).length (ks.length + 1) (M.row v ((ks ++ [j]).map (dig ds))) (M.row zv ((jt ++ [j]).map (dig ds))) (X, Y) C = zv := by
  have h := E_turned (M := M) (n := jt.length + 1) (k := ks.length) (W := M.row v (ks.map (dig ds))) (S := M.row zv ((j :: jt).map (dig ds))) (p := (X, Y)) (c := C) (d := dig ds j) (R := M.row zv (jt.map (dig ds))) jt.length rfl (by
    rw [List.map_cons]
    show M.row (vadd (M.led zv) (dig ds j)) _ = _
    rw [led_z, row_zero, List.length_map]
    have : vadd zv (dig ds j) = dig ds j := by apply vext <;> simp [vadd, zv]
    rw [this]
    apply vext <;> simp only [vadd, zv] <;> grind) e
  have h1 : M.row v ((ks ++ [j]).map (dig ds)) = vadd (M.led (M.row v (ks.map (dig ds)))) (dig ds j) := by rw [List.map_append, row_append]; rfl
  have h2 : M.row zv ((jt ++ [j]).map (dig ds)) = vadd (M.led (M.row zv (jt.map (dig ds)))) (dig ds j) := by rw [List.map_append, row_append]; rfl
  have h3 : (jt ++ [j]).length = jt.length + 1 := by simp
  rw [h1, h2, h3]; exact h
theorem turned_ok (hM : M ∈ tables) (b : Base M ds) (hv : nv v ≤ 4) (hk : ∀ k ∈ ks, k < ds.length) (hj : ∀ k ∈ j :: jt, k < ds.length) (lk : ks.length ≤ 11) (l2 : (j :: jt).length ≤ 12)
    (r : Red X Y C) (e : E M (j :: jt).length ks.length (M.row v (ks.map (dig ds))) (M.row zv ((j :: jt).map (dig ds))) (X, Y) C = zv) :
    m_worth (baseD M ds) (nameD v (ks ++ [j]) (jt ++ [j])) = .ok (pointD ((X, Y), C)) := by
  have h3 : (jt ++ [j]).length = jt.length + 1 := by simp
  have h4 : (ks ++ [j]).length = ks.length + 1 := by simp
  have l3 : jt.length + 1 ≤ 12 := by simpa using l2
  have hj0 := hj j (by simp)
  have hL := tables_less M hM (jt ++ [j]).length (by omega) (by omega)
  obtain ⟨X', Y', C', e1, w⟩ := worth_ok b (tables_det M hM) (v := v) (ks := ks ++ [j]) (js := jt ++ [j]) (by omega) (snoc hk hj0)
    (snoc (fun k h => hj k (by simp [h])) hj0) (by omega) (by omega) hL
  have ew := w.eq
  rw [h4] at ew
  obtain ⟨rfl, rfl, rfl⟩ := w.red.eq (tables_det M hM) hL r ew (turned_E e)
  exact e1
theorem nums_ok (ks : List Nat) : okD (.tuple (ks.map numD)) = true := by
  have p : PyData.plainAll (ks.map numD) = true := by
    induction ks with
    | nil => rfl
    | cons k ks ih => simp [PyData.plainAll, numD, PyData.plain, ih]
  have d : PyData.depthAll (ks.map numD) = 0 := by
    induction ks with
    | nil => simp [PyData.depthAll]
    | cons k ks ih => 
      have ih' := ih (by
        have := p
        simp only [List.map_cons, PyData.plainAll, Bool.and_eq_true] at this
        exact this.2)
      simp [PyData.depthAll, numD, PyData.depth, ih']
  simp [okD, PyData.plain, PyData.depth, p, d]
theorem ne_empty (ks : List Nat) : neD (.tuple (ks.map numD)) (.tuple []) = .ok (!ks.isEmpty) := by
  have o : okD (.tuple []) = true := by decide
  unfold neD eqD
  rw [nums_ok, o]
  cases ks with
  | nil => simp [PyData.eqv, PyData.eqvAll]
  | cons k ks => simp [PyData.eqv, PyData.eqvAll]
theorem rest_ok (hM : M ∈ tables) (b : Base M ds) (hv : nv v ≤ 4) (hk : ∀ k ∈ ks, k < ds.length) (hj : ∀ k ∈ j :: jt, k < ds.length) (lk : ks.length ≤ 11) (l2 : (j :: jt).length ≤ 12)
    (r : Red X Y C) (e : E M (j :: jt).length ks.length (M.row v (ks.map (dig ds))) (M.row zv ((j :: jt).map (dig ds))) (X, Y) C = zv) (bX : nv (X, Y) < 2 ^ 90) (bC : C.natAbs < 2 ^ 90) :
    ∃ (n0 : Nat) (u : Vc) (X' Y' C' : Int) (d : D), n0 < ds.length ∧ (ks ++ j :: jt)[0]? = some n0 ∧ u = vadd (M.led v) (dig ds n0) ∧
      ((neD (.tuple (ks.map numD)) (PyData.tuple [])).bind fun z62 => if z62 = true then (slice (.tuple (ks.map numD)) (some 1) none).bind fun z63 => R.ok (PyData.tuple [lotD u, z63, .tuple ((j :: jt).map numD)]) else
        (slice (.tuple ((j :: jt).map numD)) (some 1) none).bind fun z64 => (slice (.tuple ((j :: jt).map numD)) none (some 1)).bind fun z65 => (add z64 z65).bind fun z66 => R.ok (PyData.tuple [lotD u, (PyData.tuple []), z66]) : R D) = .ok d ∧
      m_worth (baseD M ds) d = .ok (pointD ((X', Y'), C')) ∧ m__law_low (.int (M.led (X, Y)).1) (.int (M.led (X, Y)).2) (.int C) = .ok (pointD ((X', Y'), C')) ∧ nv (X', Y') < 2 ^ 200 ∧ C'.natAbs < 2 ^ 200 := by
  have l3 : jt.length + 1 ≤ 12 := by simpa using l2
  have c0 := r.pos
  have hp : nv ((M.led (X, Y)).1, (M.led (X, Y)).2) < 2 ^ 98 := by
    have := nv_led b.rs (X, Y)
    show nv (M.led (X, Y)) < _
    omega
  have hu : ∀ n0 : Nat, n0 < ds.length → nv (vadd (M.led v) (dig ds n0)) ≤ 97 := fun n0 h => by
    have h1 := nv_add (M.led v) (dig ds n0)
    have h2 := nv_led b.rs v
    have h3 := b.dg _ (dig_mem h)
    omega
  cases ks with
  | cons k0 kt =>
    have hk0 := hk k0 (by simp)
    have lk2 : kt.length + 1 ≤ 11 := by simpa using lk
    have hL := tables_less M hM (j :: jt).length (by simp; omega) (by simp)
    obtain ⟨X', Y', C', e1, w⟩ := worth_ok b (tables_det M hM) (v := vadd (M.led v) (dig ds k0)) (ks := kt) (js := j :: jt) (hu k0 hk0) (fun k h => hk k (by simp [h])) hj (by omega) (by simp; omega) hL
    refine ⟨k0, _, X', Y', C', nameD (vadd (M.led v) (dig ds k0)) kt (j :: jt), hk0, rfl, rfl, ?_, e1, ?_, w.bx, w.bc⟩
    · exact bokT (ne_empty _) <| bok (slice_2 _ _) rfl
    · have h := e
      rw [List.length_cons, List.map_cons] at h
      have h' : E M (j :: jt).length (kt.length + 1) (M.row (vadd (M.led v) (dig ds k0)) (kt.map (dig ds))) (M.row zv ((j :: jt).map (dig ds))) (X, Y) C = zv := h
      rw [E_led] at h'
      exact low_of (tables_det M hM) hL (by omega) hp (by omega) h' w.red w.eq
  | nil =>
    have hj0 := hj j (by simp)
    have h3 : (jt ++ [j]).length = jt.length + 1 := by simp
    have hL := tables_less M hM (jt ++ [j]).length (by omega) (by omega)
    obtain ⟨X', Y', C', e1, w⟩ := worth_ok b (tables_det M hM) (v := vadd (M.led v) (dig ds j)) (ks := []) (js := jt ++ [j]) (hu j hj0) (fun k h => nomatch h) (snoc (fun k h => hj k (by simp [h])) hj0) (by simp) (by omega) hL
    refine ⟨j, _, X', Y', C', nameD (vadd (M.led v) (dig ds j)) [] (jt ++ [j]), hj0, rfl, rfl, ?_, e1, ?_, w.bx, w.bc⟩
    · refine bokF (ne_empty _) <| bok (slice_2 _ _) <| bok (slice_1 _ _) <| bok (add_t (by simp; omega)) ?_
      simp only [nameD, List.map_append, List.map_cons, List.map_nil]
    · have h' : E M (jt ++ [j]).length (0 + 1) (M.row (vadd (M.led v) (dig ds j)) []) (M.row zv ((jt ++ [j]).map (dig ds))) (X, Y) C = zv := turned_E (ks := []) e
      rw [E_led] at h'
      exact low_of (tables_det M hM) hL (by omega) hp (by omega) h' w.red w.eq
end
end K10

set_option autoImplicit false
set_option linter.all false
set_option maxRecDepth 100000
set_option exponentiation.threshold 5000
namespace K10
open PySem L2 Z
theorem lled_rs {M : Tb} (r : RS M) (v : Vc) : m__law_led (tabD M) (lotD v) = .ok (lotD (M.led v)) := by
  unfold m__law_led tabD lotD
  have h1 := r.r1
  have h2 := r.r2
  have a : M.a.natAbs < 2 ^ 64 := by omega
  have b : M.b.natAbs < 2 ^ 64 := by omega
  have c : M.c.natAbs < 2 ^ 64 := by omega
  have d : M.d.natAbs < 2 ^ 64 := by omega
  simp only [R.bind_ok, item0, item1, mul_l a, mul_l b, mul_l c, mul_l d, add_i]; rfl
theorem base_ok {n k : Nat} {s : Src} (h1 : 1 ≤ n) (h2 : n < 4) (h : Ok (k + 121) s) : ∃ (M : Tb) (ds : List Vc) (s' : Src), m__law_base s (.int 4) (.int (n : Int)) = .ok (baseD M ds, s') ∧ M ∈ tables ∧ (∀ d ∈ ds, nv d ≤ 3) ∧ ds.length ≤ 50 ∧ 1 ≤ ds.length ∧ (∀ v : Vc, ∃ d ∈ ds, Cg M (vsub v d)) ∧ Ok k s' := by
  obtain ⟨M, s1, e1, hM, o1⟩ := table_ok (n := k + 120) h
  obtain ⟨ds, s2, e2, d1, d2, d3, o2⟩ := digits_ok hM h1 h2 o1
  refine ⟨M, ds, s2, ?_, hM, d1, d2, ?_, d3, o2⟩
  · unfold m__law_base
    exact bok e1 <| bok e2 rfl
  · obtain ⟨d, hd, _⟩ := d3 zv
    exact List.length_pos_of_mem hd
theorem some_ok {n : Nat} {s : Src} {ns : List Nat} (h : Ok (n + 1) s) (h0 : 0 < ns.length) (hl : ns.length < 100) : ∃ (r : Nat) (s' : Src), m__law_of s (.list (ns.map numD)) = .ok (.int (r : Int), s') ∧ r ∈ ns ∧ Ok n s' := by
  obtain ⟨i, d, s', e1, hd, o⟩ := of_ok (xs := ns.map numD) h (by simpa using h0) (by rw [List.length_map]; omega)
  rw [List.getElem?_map] at hd
  cases hq : ns[i]? with
  | none => rw [hq] at hd; simp at hd
  | some r =>
    rw [hq] at hd
    have : d = numD r := by simpa using hd.symm
    subst this
    exact ⟨r, s', e1, List.mem_of_getElem? hq, o⟩
theorem square_ok {v : Vc} {ks js : List Nat} (X Y C : Int) (hv : nv v ≤ 97) (hk : ∀ k ∈ ks, k < 4) (hj : ∀ k ∈ js, k < 4) (lk : ks.length ≤ 12) (lj : js.length ≤ 24) (l1 : 1 ≤ js.length) (r : Red X Y C)
    (h : E ⟨2, 0, 0, 2⟩ js.length ks.length (Tb.row ⟨2, 0, 0, 2⟩ v (ks.map (dig [(0, 0), (1, 0), (0, 1), (1, 1)]))) (Tb.row ⟨2, 0, 0, 2⟩ zv (js.map (dig [(0, 0), (1, 0), (0, 1), (1, 1)]))) (X, Y) C = zv) :
    m_worth (baseD ⟨2, 0, 0, 2⟩ [(0, 0), (1, 0), (0, 1), (1, 1)]) (nameD v ks js) = .ok (pointD ((X, Y), C)) := by
  have hM : (⟨2, 0, 0, 2⟩ : Tb) ∈ tables := by decide
  have hL := tables_less _ hM js.length (by omega) l1
  obtain ⟨X', Y', C', e1, w⟩ := worth_ok (base_of (ds := [(0, 0), (1, 0), (0, 1), (1, 1)]) hM (by decide)) (tables_det _ hM) hv (ks := ks) (js := js) hk hj lk lj hL
  obtain ⟨rfl, rfl, rfl⟩ := w.red.eq (tables_det _ hM) hL r w.eq h
  exact e1
theorem map2 (ks js : List Nat) : (ks ++ js).map numD = ks.map numD ++ js.map numD := List.map_append
theorem truth_b (b : Bool) : truth (.bool b) = .ok b := rfl
theorem holds : ∀ ns : List Int, ns.length ≤ 63 → m_law ns = .ok (.bool true) := by
  intro ns hl
  obtain ⟨s0, e0, o0⟩ := source_ok ns hl
  unfold m_law
  refine bok e0 <| bok (range_i (n := 3) (by decide)) <| forT_bind (fun n s => Ok (n * 1000) s) ?_ (Ok.le o0 (by simp [rangeD])) fun s' => ?_
  · intro n x s4 h4
    obtain ⟨n1, s7, e1, m1, o1⟩ := some_ok (n := n * 1000 + 900) (ns := [1, 1, 2, 3]) (Ok.le h4 (by omega)) (by decide) (by decide)
    have m1' : 1 ≤ n1 ∧ n1 < 4 := by
      have q : ∀ r ∈ [1, 1, 2, 3], 1 ≤ r ∧ r < 4 := by decide
      exact q n1 m1
    obtain ⟨M, ds, s9, e2, hM, hd, hl50, hl1, hc, o2⟩ := base_ok (k := n * 1000 + 500) m1'.1 m1'.2 (Ok.le o1 (by omega))
    have b := base_of hM hd
    have rs := b.rs
    have hdet := tables_det M hM
    obtain ⟨n2, s11, e3, m2, o3⟩ := some_ok (n := n * 1000 + 400) (ns := [3, 3, 5, 12]) (Ok.le o2 (by omega)) (by decide) (by decide)
    have m2' : 1 ≤ n2 ∧ n2 ≤ 12 := by
      have q : ∀ r ∈ [3, 3, 5, 12], 1 ≤ r ∧ r ≤ 12 := by decide
      exact q n2 m2
    obtain ⟨v, ks, js, s13, e4, hv, lk, lj1, lj2, hk, hj, o4⟩ := name_ok (n := n * 1000 + 300) (M := M) (ds := ds) (Ok.le o3 (by omega)) hl1 (by omega) m2'.1 m2'.2
    have hL := tables_less M hM js.length (by omega) lj1
    obtain ⟨X, Y, C, w1, w2, red, eE, bX, bC⟩ := worths_eq b hdet (v := v) (by omega) hk hj (by omega) lj2 hL
    have hnear := near_ok hM b (v := v) (by omega) hk hj (by omega) lj1 lj2 red eE (by omega) (by omega)
    obtain ⟨r5, s27, e5, h5, o5⟩ := pick_ok (n := n * 1000 + 200) (Ok.le o4 (by omega)) (many := 9) (by decide) (by decide)
    obtain ⟨r6, s30, e6, h6, o6⟩ := pick_ok (n := n * 1000) (Ok.le o5 (by omega)) (many := 99) (by decide) (by decide)
    obtain ⟨j, jt, rfl⟩ : ∃ j jt, js = j :: jt := by
      cases js with
      | nil => simp at lj1
      | cons j jt => exact ⟨j, jt, rfl⟩
    refine ⟨s30, ?_, o6⟩
    generalize ht1 : (r5 : Int) - 4 = t1
    generalize ht2 : (r6 : Int) - 40 = t2
    have ht : nv (t1, t2) ≤ 58 := nv_le (by show t1.natAbs ≤ 58; omega) (by show t2.natAbs ≤ 58; omega)
    obtain ⟨X1, Y1, C1, f1, f2, f3, f4⟩ := moved_ok hM b hv hk hj lk lj1 lj2 red eE bX bC ht
    have f5 := twice_ok hM b hv hk hj lk lj1 lj2 red eE
    have f6 := turned_ok hM b hv hk hj lk lj2 red eE
    obtain ⟨n0, u, X4, Y4, C4, d4, g1, g2, g3, g4, g5, g6, g7, g8⟩ := rest_ok hM b hv hk hj lk lj2 red eE bX bC
    obtain ⟨i, hi, hcg, hb⟩ := back_ok rs hdet hd hl50 (v := (t1, t2)) (by omega) (hc (t1, t2))
    have sz1 : (C : Int).natAbs < 2 ^ 200 := Nat.lt_trans bC (by decide)
    have sz2 : nv (X, Y) < 2 ^ 200 := Nat.lt_trans bX (by decide)
    have sp := small_point sz2 sz1
    have sp1 := small_point f3 f4
    have sp4 := small_point g7 g8
    have sb : Small 5 33000 (.list [baseD M ds, nameD v ks (j :: jt)]) := (SmallAll.list (SmallAll.cons (small_base b hl50) (SmallAll.cons (small_name (n := ds.length) (v := v) (ks := ks) (js := j :: jt) (by omega) (by omega) hk hj (by omega) (by omega)) SmallAll.nil))).mono (by decide) (by decide)
    have s4s : Small 5 4000 (.list [pointD ((X1, Y1), C1), pointD ((X, Y), C), pointD ((X, Y), C), pointD ((X4, Y4), C4)]) := (SmallAll.list (SmallAll.cons sp1 (SmallAll.cons sp (SmallAll.cons sp (SmallAll.cons sp4 SmallAll.nil))))).mono (by decide) (by decide)
    have st : Small 1 402 (lotD (t1, t2)) := small_lot (k := 10) (Nat.lt_of_le_of_lt ht (by decide))
    have rb := repr_l sb
    have r4 := repr_l s4s
    have rp : reprD (pointD ((X, Y), C)) = _ := repr_t sp
    have rt : reprD (lotD (t1, t2)) = _ := repr_t st
    have rowe : ((ks ++ j :: jt).map numD)[0]? = some (numD n0) := by rw [List.getElem?_map, g2]; rfl
    have sj : (j :: jt).length + (j :: jt).length < 16777216 := by omega
    have ladd1 : m__law_add (lotD v) (.tuple [.int t1, .int t2]) = .ok (lotD (vadd v (t1, t2))) := ladd_ok v (t1, t2)
    have f5' : m_worth (baseD M ds) (.tuple [lotD v, .tuple (ks.map numD), .tuple ((j :: jt).map numD ++ (j :: jt).map numD)]) = .ok (pointD ((X, Y), C)) := by rw [← map2]; exact f5
    have f6' : m_worth (baseD M ds) (.tuple [lotD v, .tuple (ks.map numD ++ [numD j]), .tuple (jt.map numD ++ [numD j])]) = .ok (pointD ((X, Y), C)) := by
      have q1 : (ks ++ [j]).map numD = ks.map numD ++ [numD j] := map2 _ _
      have q2 : (jt ++ [j]).map numD = jt.map numD ++ [numD j] := map2 _ _
      rw [← q1, ← q2]; exact f6
    have szC : Sz C := Sz.of bC (by decide)
    have t1b : t1.natAbs < 2 ^ 64 := by omega
    have t2b : t2.natAbs < 2 ^ 64 := by omega
    have arow : add (.tuple (ks.map numD)) (.tuple ((j :: jt).map numD)) = .ok (.tuple ((ks ++ j :: jt).map numD)) := by
      rw [map2]; exact add_t (by rw [List.length_map, List.length_map]; omega)
    have irow : item (.tuple ((ks ++ j :: jt).map numD)) (.int 0) = .ok (numD n0) := item_n (n := 0) rowe
    have idig : item (.tuple (ds.map lotD)) (numD n0) = .ok (lotD (dig ds n0)) := item_n (dig_at g1)
    have idig2 : item (.tuple (ds.map lotD)) (.int (i : Int)) = .ok (lotD (dig ds i)) := item_n (dig_at hi)
    have laddu : m__law_add (lotD (M.led v)) (lotD (dig ds n0)) = .ok (lotD u) := by rw [g3]; exact ladd_ok _ _
    have laddt : m__law_add (lotD (M.led (back M (vsub (t1, t2) (dig ds i))))) (lotD (dig ds i)) = .ok (lotD (t1, t2)) := by
      rw [ladd_ok, back_led hdet hcg]
      have : vadd (vsub (t1, t2) (dig ds i)) (dig ds i) = (t1, t2) := by apply vext <;> simp only [vadd, vsub] <;> omega
      rw [this]
    have ps1 : pushM [pointD ((X1, Y1), C1), pointD ((X, Y), C)] [pointD ((X, Y), C)] = .ok (.none, [pointD ((X1, Y1), C1), pointD ((X, Y), C), pointD ((X, Y), C)]) := push1 _ _ (by simp)
    have ps2 : ∀ p : D, pushM [pointD ((X1, Y1), C1), pointD ((X, Y), C), pointD ((X, Y), C)] [p] = .ok (.none, [pointD ((X1, Y1), C1), pointD ((X, Y), C), pointD ((X, Y), C), p]) := fun p => push1 _ _ (by simp)
    have u1 : un2 (pointD ((X, Y), C)) = .ok (lotD (X, Y), .int C) := rfl
    have u2 : un2 (lotD (X, Y)) = .ok (.int X, .int Y) := rfl
    have u3 : un3 (nameD v ks (j :: jt)) = .ok (lotD v, .tuple (ks.map numD), .tuple ((j :: jt).map numD)) := rfl
    have b0 : item (baseD M ds) (.int 0) = .ok (tabD M) := item0 _ _
    have b1 : item (baseD M ds) (.int 1) = .ok (.tuple (ds.map lotD)) := item1 _ _ _
    have lxy : m__law_led (tabD M) (.tuple [.int X, .int Y]) = .ok (lotD (M.led (X, Y))) := lled_rs rs (X, Y)
    have l0 : item (lotD (M.led (X, Y))) (.int 0) = .ok (.int (M.led (X, Y)).1) := item0 _ _
    have l1 : item (lotD (M.led (X, Y))) (.int 1) = .ok (.int (M.led (X, Y)).2) := item1 _ _ _
    have hb' : m_lot_back (baseD M ds) (.tuple [.int t1, .int t2]) = .ok (.tuple [.int (i : Nat), lotD (back M (vsub (t1, t2) (dig ds i)))]) := hb
    have rt' : reprD (.tuple [.int t1, .int t2]) = .ok (.str (lotD (t1, t2)).shown) := rt
    have sl1 : slice (.tuple ((j :: jt).map numD)) none (some 1) = .ok (.tuple [numD j]) := slice_1 _ _
    have sl2 : slice (.tuple ((j :: jt).map numD)) (some 1) none = .ok (.tuple (jt.map numD)) := slice_2 _ _
    have ad1 : add (.tuple ((j :: jt).map numD)) (.tuple ((j :: jt).map numD)) = .ok (.tuple ((j :: jt).map numD ++ (j :: jt).map numD)) := add_t (by rw [List.length_map]; exact sj)
    have ad2 : add (.tuple (ks.map numD)) (.tuple [numD j]) = .ok (.tuple (ks.map numD ++ [numD j])) := add_t (by rw [List.length_map, List.length_singleton]; omega)
    have ad3 : add (.tuple (jt.map numD)) (.tuple [numD j]) = .ok (.tuple (jt.map numD ++ [numD j])) := add_t (by rw [List.length_map, List.length_singleton]; have : jt.length + 1 ≤ 12 := lj2; omega)
    have f1' : m_worth (baseD M ds) (.tuple [lotD (vadd v (t1, t2)), .tuple (ks.map numD), .tuple ((j :: jt).map numD)]) = .ok (pointD ((X1, Y1), C1)) := f1
    have hx1 : sub (.int (r5 : Int)) (.int 4) = .ok (.int t1) := by rw [sub_i, ht1]
    have hx2 : sub (.int (r6 : Int)) (.int 40) = .ok (.int t2) := by rw [sub_i, ht2]
    have lv := lled_rs rs v
    have lbk := lled_rs rs (back M (vsub (t1, t2) (dig ds i)))
    have tn : truth (.bool true) = .ok true := rfl
    refine bok e1 <| bok e2 <| bok e3 <| bok e4 <| bok u3 <| bok rb <| bok w1 <| bok w2 <| bokF (bok rp <| bok rp <| bokF (ne_s _) <| bok hnear <| bok tn rfl) ?_
    refine bok e5 <| bok hx1 <| bok e6 <| bok hx2 <| bok u1 <| bok u2 <| bok ladd1 <| bok f1' <| bok ad1 <| bok f5' <| bok sl1 <| bok ad2 <| bok sl2 <| bok sl1 <| bok ad3 <| bok f6' <| bok ps1 ?_
    refine bok (item0 _ _) <| bok (mul_l t1b) <| bok (add_i _ _) <| bok (item1 _ _ _) <| bok (mul_l t2b) <| bok (add_i _ _) <| bok f2 <| bok arow <| bok b0 <| bok lv <| bok b1 <| bok irow <| bok idig <| bok laddu <| bok g4 <| bok g5 <| bok (ps2 _) ?_
    refine bok b0 <| bok lxy <| bok l0 <| bok l1 <| bok g6 <| bok (ps2 _) ?_
    refine bokF (bokF (bok r4 <| bok r4 <| bok (ne_s _) rfl) (bok rb <| bok (ne_s _) rfl)) ?_
    refine bok hb' <| bok b0 <| bok (item1 _ _ _) <| bok lbk <| bok b1 <| bok (item0 _ _) <| bok idig2 <| bok laddt <| bok rt <| bok rt' <| bokF (ne_s _) rfl
  · have q1 := square_ok (v := (0, 0)) (ks := [0]) (js := [1]) 1 0 2 (by decide) (by decide) (by decide) (by decide) (by decide) (by decide) ⟨by decide, by decide⟩ (by decide)
    have q2 := square_ok (v := (-1, 0)) (ks := []) (js := [1, 0]) (-1) 0 3 (by decide) (by decide) (by decide) (by decide) (by decide) (by decide) ⟨by decide, by decide⟩ (by decide)
    have q3 := square_ok (v := (0, 0)) (ks := []) (js := [0]) 0 0 1 (by decide) (by decide) (by decide) (by decide) (by decide) (by decide) ⟨by decide, by decide⟩ (by decide)
    have sp : ∀ X Y C : Int, nv (X, Y) < 2 ^ 200 → C.natAbs < 2 ^ 200 → Small 2 604 (pointD ((X, Y), C)) := fun X Y C => small_point
    have s3 : Small 5 4000 (.list [pointD ((1, 0), 2), pointD ((-1, 0), 3), pointD ((0, 0), 1)]) := (SmallAll.list (SmallAll.cons (sp 1 0 2 (by decide) (by decide)) (SmallAll.cons (sp (-1) 0 3 (by decide) (by decide)) (SmallAll.cons (sp 0 0 1 (by decide) (by decide)) SmallAll.nil)))).mono (by decide) (by decide)
    have ps : pushM [pointD ((1, 0), 2), pointD ((-1, 0), 3)] [pointD ((0, 0), 1)] = .ok (.none, [pointD ((1, 0), 2), pointD ((-1, 0), 3), pointD ((0, 0), 1)]) := push1 _ _ (by simp)
    have fl : ∀ b : Bool, flatR (.ok (.bool b)) = .ok (.bool b) := fun _ => rfl
    refine bok q1 <| bok q2 <| bok q3 <| bok ps <| bok (a := .bool true) ?_ rfl
    have inner : ((reprD (PyData.list [pointD ((1, 0), 2), pointD ((-1, 0), 3), pointD ((0, 0), 1)])).bind fun z101 => (reprD (PyData.list [pointD ((1, 0), 2), pointD ((-1, 0), 3), pointD ((0, 0), 1)])).bind fun z102 => (eqD z101 z102).bind fun z103 => R.ok (PyData.bool z103)) = .ok (.bool true) := bok (repr_l s3) <| bok (repr_l s3) <| bok (eq_s _) rfl
    exact (congrArg flatR inner).trans rfl
end K10

open PySem PySem.W PyProof.Rows in
set_option maxRecDepth 100000 in
set_option maxHeartbeats 0 in
theorem PySem.Challenge.cw_touchingtiles_k10_worths_of_names_by_own_holds : PySem.Challenge.rw_touchingtiles_k10_worths_of_names_by_own.Holds := by
  w_on; o_law; k_head; (case hw => w_witness2)
  k_fill
  refine Z.walkG (l := PySem.Challenge.rw_touchingtiles_k10_worths_of_names_by_own) (n := 63) (k := 5) (x := "script") (sp := Z.spLaw) rfl (by decide) rfl ⟨rfl, by decide, by decide⟩ (fun w h Y => PySem.W.kIn_of Y) ?F (fun _ H a ns hl hS => ⟨a, ns, rfl, hS, hl, fun _ => rfl⟩)
  case F =>
    intro w mg fa h KX G hmg
    refine' K10.all_mk KX G hmg ?a0 ?l0 ?c0 ?k0 ?a1 ?l1 ?c1 ?k1 ?a2 ?l2 ?c2 ?k2 ?a3 ?l3 ?c3 ?k3 ?a4 ?l4 ?c4 ?k4 ?a5 ?l5 ?c5 ?k5 ?a6 ?l6 ?c6 ?k6 ?a7 ?l7 ?c7 ?k7 ?a8 ?l8 ?c8 ?k8 ?a9 ?l9 ?c9 ?k9 ?a10 ?l10 ?c10 ?k10 ?a11 ?l11 ?c11 ?k11 ?a12 ?l12 ?c12 ?k12 ?a13 ?l13 ?c13 ?k13 ?a14 ?l14 ?c14 ?k14 ?a15 ?l15 ?c15 ?k15 ?a16 ?l16 ?c16 ?k16 ?a17 ?l17 ?c17 ?k17 ?a18 ?l18 ?c18 ?k18 ?a19 ?l19 ?c19 ?k19 ?a20 ?l20 ?c20 ?k20 ?a21 ?l21 ?c21 ?k21 ?a22 ?l22 ?c22 ?k22 ?a23 ?l23 ?c23 ?k23 ?a24 ?l24 ?c24 ?k24 ?a25 ?l25 ?c25 ?k25 ?a26 ?l26 ?c26 ?k26 ?a27 ?l27 ?c27 ?k27 ?a28 ?l28 ?c28 ?k28 ?a29 ?l29 ?c29 ?k29 ?a30 ?l30 ?c30 ?k30 ?a31 ?l31 ?c31 ?k31 ?a32 ?l32 ?c32 ?k32 ?a33 ?l33 ?c33 ?k33 ?a34 ?l34 ?c34 ?k34 ?z_enumerate ?z_int ?z_abs ?z_len ?z_max ?z_list ?z_range ?z_tuple ?z_repr ?m_gcd K10.holds
    (case a0 => k_is)
    (case l0 => k_is)
    (case c0 => k_is)
    (case k0 => k_is)
    (case a1 => k_is)
    (case l1 => k_is)
    (case c1 => k_is)
    (case k1 => k_is)
    (case a2 => k_is)
    (case l2 => k_is)
    (case c2 => k_is)
    (case k2 => k_is)
    (case a3 => k_is)
    (case l3 => k_is)
    (case c3 => k_is)
    (case k3 => k_is)
    (case a4 => k_is)
    (case l4 => k_is)
    (case c4 => k_is)
    (case k4 => k_is)
    (case a5 => k_is)
    (case l5 => k_is)
    (case c5 => k_is)
    (case k5 => k_is)
    (case a6 => k_is)
    (case l6 => k_is)
    (case c6 => k_is)
    (case k6 => k_is)
    (case a7 => k_is)
    (case l7 => k_is)
    (case c7 => k_is)
    (case k7 => k_is)
    (case a8 => k_is)
    (case l8 => k_is)
    (case c8 => k_is)
    (case k8 => k_is)
    (case a9 => k_is)
    (case l9 => k_is)
    (case c9 => k_is)
    (case k9 => k_is)
    (case a10 => k_is)
    (case l10 => k_is)
    (case c10 => k_is)
    (case k10 => k_is)
    (case a11 => k_is)
    (case l11 => k_is)
    (case c11 => k_is)
    (case k11 => k_is)
    (case a12 => k_is)
    (case l12 => k_is)
    (case c12 => k_is)
    (case k12 => k_is)
    (case a13 => k_is)
    (case l13 => k_is)
    (case c13 => k_is)
    (case k13 => k_is)
    (case a14 => k_is)
    (case l14 => k_is)
    (case c14 => k_is)
    (case k14 => k_is)
    (case a15 => k_is)
    (case l15 => k_is)
    (case c15 => k_is)
    (case k15 => k_is)
    (case a16 => k_is)
    (case l16 => k_is)
    (case c16 => k_is)
    (case k16 => k_is)
    (case a17 => k_is)
    (case l17 => k_is)
    (case c17 => k_is)
    (case k17 => k_is)
    (case a18 => k_is)
    (case l18 => k_is)
    (case c18 => k_is)
    (case k18 => k_is)
    (case a19 => k_is)
    (case l19 => k_is)
    (case c19 => k_is)
    (case k19 => k_is)
    (case a20 => k_is)
    (case l20 => k_is)
    (case c20 => k_is)
    (case k20 => k_is)
    (case a21 => k_is)
    (case l21 => k_is)
    (case c21 => k_is)
    (case k21 => k_is)
    (case a22 => k_is)
    (case l22 => k_is)
    (case c22 => k_is)
    (case k22 => k_is)
    (case a23 => k_is)
    (case l23 => k_is)
    (case c23 => k_is)
    (case k23 => k_is)
    (case a24 => k_is)
    (case l24 => k_is)
    (case c24 => k_is)
    (case k24 => k_is)
    (case a25 => k_is)
    (case l25 => k_is)
    (case c25 => k_is)
    (case k25 => k_is)
    (case a26 => k_is)
    (case l26 => k_is)
    (case c26 => k_is)
    (case k26 => k_is)
    (case a27 => k_is)
    (case l27 => k_is)
    (case c27 => k_is)
    (case k27 => k_is)
    (case a28 => k_is)
    (case l28 => k_is)
    (case c28 => k_is)
    (case k28 => k_is)
    (case a29 => k_is)
    (case l29 => k_is)
    (case c29 => k_is)
    (case k29 => k_is)
    (case a30 => k_is)
    (case l30 => k_is)
    (case c30 => k_is)
    (case k30 => k_is)
    (case a31 => k_is)
    (case l31 => k_is)
    (case c31 => k_is)
    (case k31 => k_is)
    (case a32 => k_is)
    (case l32 => k_is)
    (case c32 => k_is)
    (case k32 => k_is)
    (case a33 => k_is)
    (case l33 => k_is)
    (case c33 => k_is)
    (case k33 => k_is)
    (case a34 => k_is)
    (case l34 => k_is)
    (case c34 => k_is)
    (case k34 => k_is)
    (case z_enumerate => k_is)
    (case z_int => k_is)
    (case z_abs => k_is)
    (case z_len => k_is)
    (case z_max => k_is)
    (case z_list => k_is)
    (case z_range => k_is)
    (case z_tuple => k_is)
    (case z_repr => k_is)
    (case m_gcd => k_is)

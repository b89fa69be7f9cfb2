import PyProof.Rows.All
import Wide.All
import OpenK.AllK
import Wide.FinOn
import HandS.ForMost
import HandS.Walk
import HandS.Property
import HandS.IsInst
import HandS.Deep
import HandS.Zip
import HandS.Style
import KE.SortData
import HandS.Defaults
import KE.KStateDown
import HandS.HeadHook1
import HandS.HeadHook2
import HandS.Head0
import HandS.Head1
import HandS.Head2
import HandS.HeadEnd
import HandS.TupSets
import KE.SortKeyHeap
import KE.KSortKey
import HandS.SortKw
import HandS.SetFor
import HandS.Strs
import KE.KDictPairs
import KE.KDictLaw
import KE.KDictCopyH
import HandS.Dict
import HandS.Small
import HandS.Conv
import PySem.Challenge.RW_lanekeepers_k83_whole_partings
set_option Elab.async false
set_option linter.all false
set_option maxRecDepth 100000
set_option maxHeartbeats 4000000
/-! ## M0 -/
/-! The mirrors: what each def of the text is worth, as plain functions over plain data. Core Lean alone. -/
namespace LK
/-- a tuple of three -/
structure T3 (α β γ : Type) where
  a : α
  b : β
  c : γ
  deriving DecidableEq
/-- the three kinds -/
inductive Kd where
  | clear | own | bad
  deriving DecidableEq
abbrev Lane := Nat × Nat
abbrev Bnd := T3 (Option Nat) (Option Nat) Nat
abbrev Alt := Nat × List Bnd
abbrev Book := List Alt
abbrev Load := List (T3 Nat Nat Nat)

/-! ### sorting of numbers and of lanes, so that it can be reckoned -/
def ins {α : Type} (le : α → α → Bool) (x : α) : List α → List α
  | [] => [x]
  | y :: ys => if le x y then x :: y :: ys else y :: ins le x ys
def isort {α : Type} (le : α → α → Bool) : List α → List α
  | [] => []
  | x :: xs => ins le x (isort le xs)
def nle (a b : Nat) : Bool := decide (a ≤ b)
def lle (a b : Lane) : Bool := decide (a.1 < b.1 ∨ (a.1 = b.1 ∧ a.2 ≤ b.2))
def nsort : List Nat → List Nat := isort nle
def lsort : List Lane → List Lane := isort lle

/-! ### countries -/
def laneIn (l : Lane) : Lane := (min l.1 l.2, max l.1 l.2)
def tieStep (t : List (List Nat)) (l : Lane) : List (List Nat) :=
  let t1 := t.set l.1 (t.getD l.1 [] ++ [l.2])
  t1.set l.2 (t1.getD l.2 [] ++ [l.1])
def tiesRaw (ls : List Lane) : List (List Nat) := ls.foldl tieStep (List.replicate (ls.length + 1) [])
def tiesOf (ls : List Lane) : List (List Nat) := (tiesRaw ls).map nsort
/-- one place that is looked at: met, waiting -/
def meet (s : List Nat × List Nat) (p : Nat) : List Nat × List Nat := if p ∈ s.1 then s else (s.1 ++ [p], s.2 ++ [p])
def wholeStep (ties : List (List Nat)) (s : List Nat × List Nat) : List Nat × List Nat := (ties.getD (s.2.getLast?.getD 0) []).foldl meet (s.1, s.2.dropLast)
/-- the loop ends within the fuel, all indices in bounds -/
def wholeLoop (ties : List (List Nat)) : Nat → List Nat × List Nat → Option (List Nat)
  | _, (met, []) => some met
  | 0, _ => none
  | n + 1, (met, x :: xs) => if ((x :: xs).getLast?.getD 0) < ties.length then wholeLoop ties n (wholeStep ties (met, x :: xs)) else none
def isWhole (ties : List (List Nat)) : Bool := match wholeLoop ties 50 ([0], [0]) with
  | some met => met.length == ties.length
  | none => false
/-- found, waiting; here -/
def aheadPut (here : Nat) (s : List (Option Nat) × List Nat) (p : Nat) : List (Option Nat) × List Nat := if (s.1.getD p none).isNone then (s.1.set p (some here), s.2 ++ [p]) else s
def aheadStep (ties : List (List Nat)) (s : List (Option Nat) × List Nat) : List (Option Nat) × List Nat :=
  (ties.getD (s.2.getLast?.getD 0) []).foldl (aheadPut (s.2.getLast?.getD 0)) (s.1, s.2.dropLast)
def aheadLoop (ties : List (List Nat)) : Nat → List (Option Nat) × List Nat → Option (List (Option Nat))
  | _, (f, []) => some f
  | 0, _ => none
  | n + 1, (f, x :: xs) => if ((x :: xs).getLast?.getD 0) < ties.length then aheadLoop ties n (aheadStep ties (f, x :: xs)) else none
def aheadRaw (ties : List (List Nat)) (goal : Nat) : Option (List (Option Nat)) := aheadLoop ties 50 ((List.replicate ties.length none).set goal (some goal), [goal])
def aheadOf (ties : List (List Nat)) (goal : Nat) : List Nat := ((aheadRaw ties goal).getD []).map (·.getD 0)
def aheadOk (ties : List (List Nat)) (goal : Nat) : Bool := match aheadRaw ties goal with
  | some f => f.all (·.isSome)
  | none => false
/-- all that a country asks of its lanes, and that its making ends -/
def tiesOk (ls : List Lane) : Bool := ls.all fun l => decide (l.1 ≠ l.2) && decide (l.1 ≤ ls.length) && decide (l.2 ≤ ls.length)
def yardRows (ties : List (List Nat)) : List (List Nat) := ties.filter fun r => decide (1 < r.length)
def lanesOk (ls : List Lane) : Bool :=
  let f := ls.map laneIn
  decide (ls.length ≤ 28) && (ls.all fun l => decide (l.1 ≠ l.2)) && tiesOk f && decide f.Nodup && (decide (1 ≤ (yardRows (tiesOf f)).length) && decide ((yardRows (tiesOf f)).length ≤ 7)) &&
    (tiesOf f).all (fun r => decide (r.length ≤ 4)) && isWhole (tiesOf f)
def cLanes (ls : List Lane) : List Lane := lsort (ls.map laneIn)
def cTies (ls : List Lane) : List (List Nat) := tiesOf (cLanes ls)
def cAhead (ls : List Lane) : List (List Nat) := (List.range (ls.length + 1)).map (aheadOf (cTies ls))
def ctyOk (ls : List Lane) : Bool := lanesOk ls && tiesOk (cLanes ls) && (cTies ls).all (fun r => decide (r.length ≤ 4) && r.all fun p => decide (p < (cTies ls).length)) && (List.range (ls.length + 1)).all (fun g => aheadOk (cTies ls) g)

/-! ### yards behind -/
def meetT (target : Nat) (s : List Nat × List Nat) (p : Nat) : List Nat × List Nat := if (!decide (p ∈ s.1) && !decide (p = target)) = true then (s.1 ++ [p], s.2 ++ [p]) else s
def behindStep (ties : List (List Nat)) (target : Nat) (s : List Nat × List Nat) : List Nat × List Nat := (ties.getD (s.2.getLast?.getD 0) []).foldl (meetT target) (s.1, s.2.dropLast)
def behindLoop (ties : List (List Nat)) (target : Nat) : Nat → List Nat × List Nat → Option (List Nat)
  | _, (met, []) => some met
  | 0, _ => none
  | n + 1, (met, x :: xs) => if ((x :: xs).getLast?.getD 0) < ties.length then behindLoop ties target n (behindStep ties target (met, x :: xs)) else none
def behindMet (ties : List (List Nat)) (yard target : Nat) : Option (List Nat) := behindLoop ties target 50 ([yard], [yard])
def behindOk (ties : List (List Nat)) (yard target : Nat) : Bool := match behindMet ties yard target with
  | some met => met.all fun p => decide (p < ties.length)
  | none => false
def yardsBehind (ties : List (List Nat)) (yard target : Nat) : List Nat := nsort (((behindMet ties yard target).getD []).filter fun p => decide (1 < (ties.getD p []).length))

/-! ### of a country's ties -/
def yardsIn (ties : List (List Nat)) : List Nat := ((ties.zipIdx.map fun z => (z.2, z.1)).filter fun z => decide (1 < z.2.length)).map fun z => z.1
def rowAt (ties : List (List Nat)) (p : Nat) : List Nat := ties.getD p []
def pairsAt (near : List Nat) : List (Nat × Nat) := near.flatMap fun o => (near.filter fun t => !decide (t = o)).map fun t => (o, t)

/-! ### books and loads -/
def hits (o t : Option Nat) (r : T3 Nat Nat Nat) : Bool := decide (o ∈ [none, some r.a]) && decide (t ∈ [none, some r.b])
def manyOf (o t : Option Nat) (l : Load) : Nat := l.foldl (fun n r => if hits o t r then n + r.c else n) 0
def keeps (b : Bnd) (l : Load) : Bool := decide (manyOf b.a b.b l ≤ b.c)
def weight (l : Load) : Nat := (l.map fun r => r.c).sum
def standsOne (x : Alt) (l : Load) : Bool := !decide (x.1 < weight l) && (x.2.map fun b => keeps b l).all id
def standsBy (book : Book) (l : Load) : Bool := book.any fun x => standsOne x l
/-- one cart more, not sorted -/
def isPair (o t : Nat) (r : T3 Nat Nat Nat) : Bool := decide ((r.a, r.b) = (o, t))
def plusRaw (l : Load) (o t : Nat) : Load := (l.filter fun r => !isPair o t r) ++ [⟨o, t, l.foldl (fun n r => if isPair o t r then n + r.c else n) 1⟩]
def endOk (near : List Nat) (x : Option Nat) : Bool := match x with
  | none => true
  | some n => decide (n ∈ near)
def bndOk (near : List Nat) (b : Bnd) : Bool := decide (b.c ≤ 6) && endOk near b.a && endOk near b.b && decide (b.a ≠ b.b)
def altOk (near : List Nat) (x : Alt) : Bool := decide (1 ≤ x.1) && decide (x.1 ≤ 6) && decide (x.2.length ≤ 6) && x.2.all (bndOk near)
def bookOk (near : List Nat) (b : Book) : Bool := decide (1 ≤ b.length) && decide (b.length ≤ 4) && b.all (altOk near) && (pairsAt near).all fun q => standsBy b [⟨q.1, q.2, 1⟩]
/-! ### loads towards a neighbour; S: what sorting makes of a load -/
def nextOne (S : Load → Load) (book : Book) (pairs : List (Nat × Nat)) (l : Load) (k : Nat) : Option (Load × Nat) :=
  if standsBy book (S (plusRaw l (pairs.getD k (0, 0)).1 (pairs.getD k (0, 0)).2)) then some (S (plusRaw l (pairs.getD k (0, 0)).1 (pairs.getD k (0, 0)).2), k) else none
def nextOf (S : Load → Load) (book : Book) (pairs : List (Nat × Nat)) (z : Load × Nat) : List (Load × Nat) := ((List.range (pairs.length - z.2)).map (z.2 + ·)).filterMap (nextOne S book pairs z.1)
def nextAll (S : Load → Load) (book : Book) (pairs : List (Nat × Nat)) (last : List (Load × Nat)) : List (Load × Nat) := last.flatMap (nextOf S book pairs)
def standLoop (S : Load → Load) (book : Book) (pairs : List (Nat × Nat)) : Nat → List Load → List (Load × Nat) → Option (List Load)
  | _, found, [] => some found
  | 0, _, _ => none
  | n + 1, found, x :: last => standLoop S book pairs n (found ++ (nextAll S book pairs (x :: last)).map (·.1)) (nextAll S book pairs (x :: last))
def standing (S : Load → Load) (book : Book) (pairs : List (Nat × Nat)) : Option (List Load) := standLoop S book pairs 8 [[]] [([], 0)]
def pairsTo (near : List Nat) (t : Nat) : List (Nat × Nat) := (pairsAt near).filter fun q => decide (q.2 = t)
def isYard (ties : List (List Nat)) (p : Nat) : Bool := decide (p < ties.length) && decide (1 < (rowAt ties p).length)
def yardSides (ties : List (List Nat)) : List (Nat × Nat) := (yardsIn ties).flatMap fun y => ((rowAt ties y).filter fun p => isYard ties p).map fun p => (y, p)
/-! ### webs -/
def bookAt (ties : List (List Nat)) (books : List Book) (y : Nat) : Book := books.getD ((yardsIn ties).idxOf y) []
def booksOk (ties : List (List Nat)) (books : List Book) : Bool := decide (books.length = (yardsIn ties).length) && ((yardsIn ties).zip books).all fun z => decide (z.1 < ties.length) && decide ((rowAt ties z.1).length ≤ 100) && bookOk (rowAt ties z.1) z.2
end LK
/-! ## L0 -/
namespace LK
open PySem PySem.Spec PyProof.Rows L2

/-! ### the text -/
def topS (i : Nat) : Stmt := PySem.Challenge.pw_lanekeepers_k83_whole_partings.main.body.getD i (.Pass ⟨0, 0, 0, 0⟩)

/-! ### two heaps: B what is known and never changes, H what stands -/
structure Nw (B H B' H' : Hp) : Prop where
  bb : Same B B'
  bh : Same B' H'
  hh : Same H H'
  hid : ∀ b, H b ≠ none → B b = none → B' b = none
theorem Nw.refl {B H : Hp} (s : Same B H) : Nw B H B H := ⟨Same.refl _, s, Same.refl _, fun _ _ h => h⟩
theorem Nw.trans {B H B' H' B2 H2 : Hp} (a : Nw B H B' H') (b : Nw B' H' B2 H2) : Nw B H B2 H2 :=
  ⟨a.bb.trans b.bb, b.bh, a.hh.trans b.hh, fun c h1 h2 => b.hid c (fun e => by
    cases q : H c with
    | none => exact h1 q
    | some o => rw [a.hh c o q] at e; cases e) (a.hid c h1 h2)⟩
theorem Nw.bH {B H B' H' : Hp} (a : Nw B H B' H') : Same B H' := a.bb.trans a.bh
/-- what stands grows, nothing is told -/
theorem Nw.grow {B H H' : Hp} (s : Same B H) (h : Same H H') : Nw B H B H' := ⟨Same.refl _, s.trans h, h, fun _ _ h => h⟩
theorem same_new {H : Hp} {p : Addr} {o : HO} (h : H p = none) : Same H (upd H p o) := fun b x e => by
  rw [upd_ne (ne_of_none e h)]
  exact e
theorem same_upd2 {B H : Hp} {p : Addr} {o : HO} (s : Same B H) (h : B p = none) : Same B (upd H p o) := fun b x e => by
  rw [upd_ne (ne_of_none e h)]
  exact s b x e
theorem same_both {B H : Hp} {p : Addr} {o : HO} (s : Same B H) : Same (upd B p o) (upd H p o) := fun b x e => by
  by_cases q : b = p
  · subst q; rw [upd_same] at e ⊢; exact e
  · rw [upd_ne q] at e ⊢; exact s b x e
/-- a thing that stands is told -/
theorem same_tell {B H : Hp} {p : Addr} {o : HO} (s : Same B H) (h : H p = some o) : Same (upd B p o) H := fun b x e => by
  by_cases q : b = p
  · subst q; rw [upd_same] at e; cases e; exact h
  · rw [upd_ne q] at e; exact s b x e
/-- a new thing is told at once -/
theorem Nw.new {B H : Hp} {p : Addr} {o : HO} (s : Same B H) (h : H p = none) : Nw B H (upd B p o) (upd H p o) :=
  ⟨same_new (s.free h), same_both s, same_new h, fun b h1 h2 => by
    rw [upd_ne (fun e => h1 (by rw [e]; exact h))]; exact h2⟩
/-- a thing that is new since H stands in H', and is told -/
theorem Nw.tell {B H B' H' : Hp} {p : Addr} {o : HO} (n : Nw B H B' H') (h0 : H p = none) (hb : B' p = none) (h : H' p = some o) : Nw B H (upd B' p o) H' :=
  ⟨n.bb.trans (same_new hb), same_tell n.bh h, n.hh, fun b h1 h2 => by
    rw [upd_ne (fun e => h1 (by rw [e]; exact h0))]; exact n.hid b h1 h2⟩
/-- a thing that is new since H, not told, changes -/
theorem Nw.mut {B H B' H' : Hp} {p : Addr} {o : HO} (n : Nw B H B' H') (h0 : H p = none) (hb : B' p = none) : Nw B H B' (upd H' p o) :=
  ⟨n.bb, same_upd2 n.bh hb, fun b x e => by rw [upd_ne (ne_of_none e h0)]; exact n.hh b x e, n.hid⟩
/-- more is known ahead -/
def join (B B' : Hp) : Hp := fun b => match B' b with
  | some o => some o
  | none => B b
theorem Nw.base {B B1 H B' H' : Hp} (s : Same B B1) (s1 : Same B1 H) (n : Nw B H B' H') : ∃ B2, Nw B1 H B2 H' ∧ Same B' B2 := by
  refine ⟨join B1 B', ⟨fun b o e => ?_, fun b o e => ?_, n.hh, fun b h1 h2 => ?_⟩, fun b o e => ?_⟩
  · unfold join
    cases q : B' b with
    | none => exact e
    | some u =>
      have h1 := n.bh b u q
      have h2 := n.hh b o (s1 b o e)
      rw [h1] at h2
      exact h2
  · unfold join at e
    cases q : B' b with
    | none => rw [q] at e; exact n.hh b o (s1 b o e)
    | some u => rw [q] at e; cases e; exact n.bh b _ q
  · have h3 : B b = none := s.free h2
    unfold join
    rw [n.hid b h1 h3]
    exact h2
  · unfold join
    rw [e]

/-! ### how data of a type stands -/
class Rp (α : Type) where
  R : Hp → α → V → Prop
  mono : ∀ {B B' : Hp} {a : α} {v : V}, Same B B' → R B a v → R B' a v
open Rp (R)
instance : Rp Nat := ⟨fun _ n v => v = .int (n : Int), fun _ h => h⟩
instance : Rp Int := ⟨fun _ n v => v = .int n, fun _ h => h⟩
instance : Rp Bool := ⟨fun _ b v => v = .bl b, fun _ h => h⟩
instance : Rp Str := ⟨fun _ b v => v = .str b, fun _ h => h⟩
/-- items of a list or tuple, one by one -/
def LR {α : Type} [Rp α] (B : Hp) (xs : List α) (vs : List V) : Prop := vs.length = xs.length ∧ ∀ (i : Nat) (a : α), xs[i]? = some a → ∃ v, vs[i]? = some v ∧ R B a v
section
variable {α β γ : Type} [Rp α] [Rp β] [Rp γ] {B B' : Hp}
theorem LR.mono {xs : List α} {vs : List V} (s : Same B B') (h : LR B xs vs) : LR B' xs vs := ⟨h.1, fun i a e => by
  obtain ⟨v, h1, h2⟩ := h.2 i a e
  exact ⟨v, h1, Rp.mono s h2⟩⟩
theorem LR.nil : LR B ([] : List α) [] := ⟨rfl, fun i a e => by cases e⟩
theorem LR.snoc {xs : List α} {vs : List V} {a : α} {v : V} (h : LR B xs vs) (r : R B a v) : LR B (xs ++ [a]) (vs ++ [v]) := by
  refine ⟨by rw [List.length_append, List.length_append, h.1]; rfl, fun i b e => ?_⟩
  by_cases hi : i < xs.length
  · rw [List.getElem?_append_left hi] at e
    obtain ⟨u, h1, h2⟩ := h.2 i b e
    exact ⟨u, by rw [List.getElem?_append_left (by rw [h.1]; exact hi)]; exact h1, h2⟩
  · rw [List.getElem?_append_right (by omega)] at e
    rw [List.getElem?_append_right (by rw [h.1]; omega), h.1]
    cases q : i - xs.length with
    | zero => rw [q] at e; cases e; exact ⟨v, rfl, r⟩
    | succ n => rw [q] at e; cases e
theorem LR.cons {xs : List α} {vs : List V} {a : α} {v : V} (r : R B a v) (h : LR B xs vs) : LR B (a :: xs) (v :: vs) := by
  refine ⟨by rw [List.length_cons, List.length_cons, h.1], fun i b e => ?_⟩
  cases i with
  | zero => cases e; exact ⟨v, rfl, r⟩
  | succ n => exact h.2 n b e
theorem LR.append {xs ys : List α} {vs ws : List V} (h : LR B xs vs) (g : LR B ys ws) : LR B (xs ++ ys) (vs ++ ws) := by
  refine ⟨by rw [List.length_append, List.length_append, h.1, g.1], fun i b e => ?_⟩
  by_cases hi : i < xs.length
  · rw [List.getElem?_append_left hi] at e
    obtain ⟨u, h1, h2⟩ := h.2 i b e
    exact ⟨u, by rw [List.getElem?_append_left (by rw [h.1]; exact hi)]; exact h1, h2⟩
  · rw [List.getElem?_append_right (by omega)] at e
    rw [List.getElem?_append_right (by rw [h.1]; omega), h.1]
    exact g.2 _ b e
theorem LR.tail {xs : List α} {vs : List V} {a : α} {v : V} (h : LR B (a :: xs) (v :: vs)) : R B a v ∧ LR B xs vs := by
  refine ⟨?_, by have := h.1; simpa using this, fun i b e => h.2 (i + 1) b e⟩
  obtain ⟨u, h1, h2⟩ := h.2 0 a rfl
  cases h1; exact h2
theorem LR.get {xs : List α} {vs : List V} {i : Nat} {v : V} (h : LR B xs vs) (e : vs[i]? = some v) : ∃ a, xs[i]? = some a ∧ R B a v := by
  have hi : i < xs.length := by rw [← h.1]; exact (List.getElem?_eq_some_iff.mp e).1
  obtain ⟨u, h1, h2⟩ := h.2 i xs[i] (List.getElem?_eq_getElem hi)
  rw [e] at h1; cases h1
  exact ⟨_, List.getElem?_eq_getElem hi, h2⟩
instance : Rp (List α) := ⟨fun B xs v => ∃ p vs, v = .ref p ∧ B p = some (.lst vs) ∧ LR B xs vs, fun s ⟨p, vs, e, h, l⟩ => ⟨p, vs, e, s p _ h, l.mono s⟩⟩
instance : Rp (α × β) := ⟨fun B x v => ∃ p v1 v2, v = .ref p ∧ B p = some (.tup [v1, v2]) ∧ R B x.1 v1 ∧ R B x.2 v2, fun s ⟨p, v1, v2, e, h, r1, r2⟩ => ⟨p, v1, v2, e, s p _ h, Rp.mono s r1, Rp.mono s r2⟩⟩
end
section
variable {α β γ : Type} [Rp α] [Rp β] [Rp γ] {B B' : Hp}
instance : Rp (T3 α β γ) := ⟨fun B x v => ∃ p v1 v2 v3, v = .ref p ∧ B p = some (.tup [v1, v2, v3]) ∧ R B x.a v1 ∧ R B x.b v2 ∧ R B x.c v3,
  fun s ⟨p, v1, v2, v3, e, h, r1, r2, r3⟩ => ⟨p, v1, v2, v3, e, s p _ h, Rp.mono s r1, Rp.mono s r2, Rp.mono s r3⟩⟩
instance : Rp (Option α) := ⟨fun B x v => match x with | none => v = .non | some a => R B a v, fun {B B' x v} s h => by
  cases x with
  | none => exact h
  | some a => exact Rp.mono (α := α) s h⟩
end

/-! ### fused readings: what a piece of syntax does, with no term beside it -/
def HLen (H : Hp) : Prop := ∀ p xs, H p = some (.lst xs) → xs.length ≤ sizeLine
theorem hlen_of {X : Cx} {pins : List (Addr × Obj)} {σ : L2.St} {H : Hp} {s : Shared} (I : L2.Inv X pins σ H s) : HLen H := fun p xs e => by
  obtain ⟨h, _⟩ := I.hok p _ e
  exact h
def rd (X : Cx) (e : Expr) : TE := fun σ H Q => HLen H → ∃ (te : TE) (Q0 : VK), PE X e te ∧ te σ H Q0 ∧ ∀ v H', HLen H' → Q0 v H' → Q v H'
def rdT (X : Cx) (e : Expr) : TT := fun σ H Q => HLen H → ∃ (te : TT) (Q0 : Bool → Hp → Prop), PT X e te ∧ te σ H Q0 ∧ ∀ v H', HLen H' → Q0 v H' → Q v H'
def rdW (X : Cx) (e : Expr) : TT := fun σ H Q => HLen H → ∃ (te : TT) (Q0 : Bool → Hp → Prop), PW X e te ∧ te σ H Q0 ∧ ∀ v H', HLen H' → Q0 v H' → Q v H'
def rdA (X : Cx) (e : List Expr) : TA := fun σ H Q => HLen H → ∃ (te : TA) (Q0 : List V → Hp → Prop), PA X e te ∧ te σ H Q0 ∧ ∀ v H', HLen H' → Q0 v H' → Q v H'
def rdG (X : Cx) (e : Expr) : TG := fun v σ H Q => HLen H → ∃ te : TG, PG X e te ∧ te v σ H Q
def rdS (X : Cx) (e : Stmt) : TS := fun D σ H => HLen H → ∃ te : TS, PS X e te ∧ te D σ H
def rdB (X : Cx) (e : List Stmt) : TS := fun D σ H => HLen H → ∃ te : TS, PSs X e te ∧ te D σ H
def rdI (X : Cx) (tg iter : Expr) : TI := fun σ H Q => HLen H → ∃ (te : TI) (Q0 : It → Hp → Prop), PI X tg iter te ∧ te σ H Q0 ∧ ∀ v H', HLen H' → Q0 v H' → Q v H'
section
variable {X : Cx} {e : Expr} {st : Stmt} {b : List Stmt} {σ : L2.St} {H : Hp}
theorem pe_rd : PE X e (rd X e) := ⟨fun pins s σ H Q I h => by
  obtain ⟨te, Q0, p, q, m⟩ := h (hlen_of I)
  exact L2.thn (p.run pins s σ H Q0 I q) fun u s' ⟨v, H', I', r, z⟩ => ⟨v, H', I', r, m v H' (hlen_of I') z⟩⟩
theorem pt_rd : PT X e (rdT X e) := ⟨fun pins s σ H Q I h => by
  obtain ⟨te, Q0, p, q, m⟩ := h (hlen_of I)
  exact L2.thn (p.run pins s σ H Q0 I q) fun u s' ⟨H', I', z⟩ => ⟨H', I', m u H' (hlen_of I') z⟩⟩
theorem pw_rd : PW X e (rdW X e) := ⟨fun wh pins s σ H Q I h => by
  obtain ⟨te, Q0, p, q, m⟩ := h (hlen_of I)
  exact L2.thn (p.run wh pins s σ H Q0 I q) fun u s' ⟨H', I', z⟩ => ⟨H', I', m u H' (hlen_of I') z⟩⟩
theorem pa_rd {es : List Expr} : PA X es (rdA X es) := ⟨fun pos pins s σ H Q I h => by
  obtain ⟨te, Q0, p, q, m⟩ := h (hlen_of I)
  exact L2.thn (p.run pos pins s σ H Q0 I q) fun u s' ⟨v, H', I', r, z⟩ => ⟨v, H', I', r, m v H' (hlen_of I') z⟩⟩
theorem pg_rd : PG X e (rdG X e) := ⟨fun pins s σ H v u Q I r h => by
  obtain ⟨te, p, q⟩ := h (hlen_of I)
  exact p.run pins s σ H v u Q I r q⟩
theorem ps_rd : PS X st (rdS X st) := ⟨fun pins s σ H D I h => by
  obtain ⟨te, p, q⟩ := h (hlen_of I)
  exact p.run pins s σ H D I q⟩
theorem pss_rd : PSs X b (rdB X b) := ⟨fun pins s σ H D I h => by
  obtain ⟨te, p, q⟩ := h (hlen_of I)
  exact p.run pins s σ H D I q⟩
theorem pi_rd {tg iter : Expr} : PI X tg iter (rdI X tg iter) := ⟨fun pins s σ H Q I h => by
  obtain ⟨te, Q0, p, q, m⟩ := h (hlen_of I)
  refine L2.thn (p.run pins s σ H Q0 I q) fun v s1 h1 => L2.thn h1 fun itv s2 h2 => ?_
  obtain ⟨it, fp, tn, J, H', e1, I', T, st, f, r⟩ := h2
  exact ⟨it, fp, tn, J, H', e1, I', T, st, f, m J H' (hlen_of I') r⟩⟩
theorem rd_mk {te : TE} {Q : VK} (p : PE X e te) (h : te σ H Q) : rd X e σ H Q := fun _ => ⟨te, Q, p, h, fun _ _ _ q => q⟩
theorem rd_mkL {te : TE} {Q : VK} (p : PE X e te) (h : te σ H fun v H' => HLen H' → Q v H') : rd X e σ H Q := fun _ => ⟨te, _, p, h, fun _ _ l q => q l⟩
theorem rdA_mkL {es : List Expr} {te : TA} {Q : List V → Hp → Prop} (p : PA X es te) (h : te σ H fun v H' => HLen H' → Q v H') : rdA X es σ H Q := fun _ => ⟨te, _, p, h, fun _ _ l q => q l⟩
theorem rdI_mkL {tg iter : Expr} {te : TI} {Q : It → Hp → Prop} (p : PI X tg iter te) (h : te σ H fun v H' => HLen H' → Q v H') : rdI X tg iter σ H Q := fun _ => ⟨te, _, p, h, fun _ _ l q => q l⟩
theorem rdT_mk {te : TT} {Q : Bool → Hp → Prop} (p : PT X e te) (h : te σ H Q) : rdT X e σ H Q := fun _ => ⟨te, Q, p, h, fun _ _ _ q => q⟩
theorem rdA_mk {es : List Expr} {te : TA} {Q : List V → Hp → Prop} (p : PA X es te) (h : te σ H Q) : rdA X es σ H Q := fun _ => ⟨te, Q, p, h, fun _ _ _ q => q⟩
theorem rdG_mk {te : TG} {v : V} {Q : L2.St → Hp → Prop} (p : PG X e te) (h : te v σ H Q) : rdG X e v σ H Q := fun _ => ⟨te, p, h⟩
theorem rdS_mk {te : TS} {D : Ends} (p : PS X st te) (h : te D σ H) : rdS X st D σ H := fun _ => ⟨te, p, h⟩
theorem rdB_mk {te : TS} {D : Ends} (p : PSs X b te) (h : te D σ H) : rdB X b D σ H := fun _ => ⟨te, p, h⟩
theorem rdI_mk {tg iter : Expr} {te : TI} {Q : It → Hp → Prop} (p : PI X tg iter te) (h : te σ H Q) : rdI X tg iter σ H Q := fun _ => ⟨te, Q, p, h, fun _ _ _ q => q⟩
theorem rd_imp {Q Q' : VK} (h : rd X e σ H Q) (k : ∀ v H', HLen H' → Q v H' → Q' v H') : rd X e σ H Q' := fun hl => by
  obtain ⟨te, Q0, p, q, m⟩ := h hl
  exact ⟨te, Q0, p, q, fun v H' l z => k v H' l (m v H' l z)⟩
theorem rdT_imp {Q Q' : Bool → Hp → Prop} (h : rdT X e σ H Q) (k : ∀ v H', HLen H' → Q v H' → Q' v H') : rdT X e σ H Q' := fun hl => by
  obtain ⟨te, Q0, p, q, m⟩ := h hl
  exact ⟨te, Q0, p, q, fun v H' l z => k v H' l (m v H' l z)⟩
theorem rd_len {Q : VK} (h : HLen H → rd X e σ H Q) : rd X e σ H Q := fun hl => h hl hl
theorem rdB_len {D : Ends} (h : HLen H → rdB X b D σ H) : rdB X b D σ H := fun hl => h hl hl
theorem rdS_len {D : Ends} (h : HLen H → rdS X st D σ H) : rdS X st D σ H := fun hl => h hl hl
end

/-! ### an expression is worth a datum -/
section
variable {α β γ δ : Type} [Rp α] [Rp β] [Rp γ] [Rp δ]
def Ev (X : Cx) (e : Expr) (σ : L2.St) (B : Hp) (a : α) : Prop := ∀ H, Same B H → ∀ Q : VK, (∀ v B' H', HLen H' → Nw B H B' H' → R B' a v → Q v H') → rd X e σ H Q
/-- a new list, not told yet -/
def EvF (X : Cx) (e : Expr) (σ : L2.St) (B : Hp) (xs : List α) : Prop := ∀ H, Same B H → ∀ Q : VK, (∀ p vs B' H', HLen H' → Nw B H B' H' → H p = none → B' p = none → H' p = some (.lst vs) → LR B' xs vs → Q (.ref p) H') → rd X e σ H Q
def EvT (X : Cx) (e : Expr) (σ : L2.St) (B : Hp) (b : Bool) : Prop := ∀ H, Same B H → ∀ Q : Bool → Hp → Prop, (∀ H', Same H H' → Q b H') → rdT X e σ H Q
def EvW (X : Cx) (e : Expr) (σ : L2.St) (B : Hp) (b : Bool) : Prop := ∀ H, Same B H → ∀ Q : Bool → Hp → Prop, (∀ H', Same H H' → Q b H') → rdW X e σ H Q
variable {X : Cx} {e a b c : Expr} {σ : L2.St} {B B' H : Hp} {x : α} {y : β} {z : γ} {pos : Pos}
theorem Ev.mono (s : Same B B') (h : Ev X e σ B x) : Ev X e σ B' x := fun H s1 Q q => h H (s.trans s1) Q fun v B2 H2 hl n r => by
  obtain ⟨B3, n3, s3⟩ := n.base s s1
  exact q v B3 H2 hl n3 (Rp.mono s3 r)
theorem EvF.mono {xs : List α} (s : Same B B') (h : EvF X e σ B xs) : EvF X e σ B' xs := fun H s1 Q q => h H (s.trans s1) Q fun p vs B2 H2 hl n h0 hb hp r => by
  obtain ⟨B3, n3, s3⟩ := n.base s s1
  refine q p vs (fun b => if b = p then none else B3 b) H2 hl ⟨fun b o e => ?_, fun b o e => ?_, n.hh, fun b h1 h2 => ?_⟩ h0 (if_pos rfl) hp (r.mono fun b o e => ?_)
  · show (if b = p then none else B3 b) = some o
    rw [if_neg (fun q => by subst q; rw [s1 b o e] at h0; cases h0)]
    exact n3.bb b o e
  · have e' : (if b = p then none else B3 b) = some o := e
    by_cases q : b = p
    · rw [if_pos q] at e'; cases e'
    · rw [if_neg q] at e'; exact n3.bh b o e'
  · show (if b = p then none else B3 b) = none
    by_cases q : b = p
    · rw [if_pos q]
    · rw [if_neg q]; exact n3.hid b h1 h2
  · show (if b = p then none else B3 b) = some o
    rw [if_neg (fun q => by subst q; rw [hb] at e; cases e)]
    exact s3 b o e
theorem EvT.mono {k : Bool} (s : Same B B') (h : EvT X e σ B k) : EvT X e σ B' k := fun H s1 Q q => h H (s.trans s1) Q q
theorem EvW.mono {k : Bool} (s : Same B B') (h : EvW X e σ B k) : EvW X e σ B' k := fun H s1 Q q => h H (s.trans s1) Q q
theorem EvF.ev {xs : List α} (h : EvF X e σ B xs) : Ev X e σ B xs := fun H s Q q => h H s Q fun p vs B' H' hl n h0 hb hp r =>
  q (.ref p) (upd B' p (.lst vs)) H' hl (n.tell h0 hb hp) ⟨p, vs, rfl, upd_same, r.mono (same_new hb)⟩
theorem Ev.to {x' : α} (h : Ev X e σ B x) (w : x = x') : Ev X e σ B x' := by
  rw [← w]
  exact h
theorem EvT.to {k k' : Bool} (h : EvT X e σ B k) (w : k = k') : EvT X e σ B k' := by
  rw [← w]
  exact h
theorem EvF.to {xs ys : List α} (h : EvF X e σ B xs) (w : xs = ys) : EvF X e σ B ys := by
  rw [← w]
  exact h

/-! names, constants -/
theorem ev_var (i : Nat) {v : V} {n : Str} (hs : σ[i]? = some (some v)) (r : R B x v) (hN : X.N[i]? = some n := by rfl) (hv : Vis X.env.scope n := by first | exact Or.inl rfl | exact Or.inr (Or.inl rfl) | exact Or.inr (Or.inr rfl))
    (hd : (n == ("__debug__" : Str)) = false := by decide) (hcd : (n == ("__classdict__" : Str)) = false := by decide) : Ev X (.Name n pos) σ B x := fun H s Q q =>
  rd_len fun hl => rd_mk (pe_var hN hv hd hcd) ⟨v, hs, q v B H hl (Nw.refl s) r⟩
theorem ev_nat {i : Int} {j} (n : Nat) (h : i = (n : Int) := by rfl) : Ev X (.Constant (.int i) j pos) σ B n := fun H s Q q =>
  rd_len fun hl => rd_mk pe_int (q _ B H hl (Nw.refl s) (by show V.int i = V.int (n : Int); rw [h]))
theorem ev_int {i : Int} {j} : Ev X (.Constant (.int i) j pos) σ B i := fun H s Q q => rd_len fun hl => rd_mk pe_int (q _ B H hl (Nw.refl s) rfl)
theorem ev_bl {k : Bool} {j} : Ev X (.Constant (.bool k) j pos) σ B k := fun H s Q q => rd_len fun hl => rd_mk pe_bl (q _ B H hl (Nw.refl s) rfl)
theorem ev_non {j} : Ev X (.Constant .none j pos) σ B (none : Option α) := fun H s Q q => rd_len fun hl => rd_mk pe_non (q _ B H hl (Nw.refl s) rfl)
theorem ev_str {w : Str} {j} : Ev X (.Constant (.str w) j pos) σ B w := fun H s Q q => rd_len fun hl => rd_mk pe_str (q _ B H hl (Nw.refl s) rfl)
theorem ev_some (h : Ev X e σ B x) : Ev X e σ B (some x) := fun H s Q q => h H s Q fun v B' H' hl n r => q v B' H' hl n r

/-! two in a row -/
theorem ev_two {W : VK → V → V → Hp → Prop} {a b : Expr} {w : γ} {f : TE → TE → TE} {g : Expr} (ha : Ev X a σ B x) (hb : Ev X b σ B y)
    (mk : ∀ (H : Hp) (Q : VK), (rd X a σ H fun u H1 => rd X b σ H1 fun v H2 => W Q u v H2) → rd X g σ H Q)
    (hr : ∀ B1 H1, HLen H1 → Same B1 H1 → Same B B1 → ∀ u v, R B1 x u → R B1 y v → ∀ Q : VK, (∀ v' B' H', HLen H' → Nw B1 H1 B' H' → R B' w v' → Q v' H') → W Q u v H1) : Ev X g σ B w := fun H s Q q =>
  mk H Q (ha H s _ fun u B1 H1 _ n1 r1 => (hb.mono n1.bb) H1 n1.bh _ fun v B2 H2 hl2 n2 r2 =>
    hr B2 H2 hl2 n2.bh (n1.bb.trans n2.bb) u v (Rp.mono n2.bb r1) r2 Q fun v' B' H' hl n r => q v' B' H' hl ((n1.trans n2).trans n) r)
theorem rd_op {op : Operator} {r : R2} {Q : VK} (ho : OpR X (binaryOp op) r) (h : rd X a σ H fun u H1 => rd X b σ H1 fun v H2 => r u v H2 Q) : rd X (.BinOp a op b pos) σ H Q := rd_mk (pe_op ho pe_rd pe_rd) h
theorem rd_cmp {op : CmpOp} {r : R2} {Q : VK} (ho : OpR X (compareOp op) r) (hm : behindInMarks op b = false) (h : rd X a σ H fun u H1 => rd X b σ H1 fun v H2 => r u v H2 Q) : rd X (.Compare a [op] [b] pos) σ H Q := rd_mk (pe_cmpR ho pe_rd pe_rd hm) h
theorem rd_ix {r : R2} {Q : VK} (ho : IxR X r) (hs : PlainIx b) (h : rd X a σ H fun u H1 => rd X b σ H1 fun v H2 => r u v H2 Q) : rd X (.Subscript a b pos) σ H Q := rd_mk (pe_ix ho pe_rd pe_rd hs) h
end

/-- a comparison, as a value and as a test -/
structure Cm (X : Cx) (e : Expr) (σ : L2.St) (B : Hp) (t : Bool) : Prop where
  ev : Ev X e σ B t
  et : EvT X e σ B t
theorem Cm.to {X : Cx} {e : Expr} {σ : L2.St} {B : Hp} {t t' : Bool} (h : Cm X e σ B t) (w : t = t') : Cm X e σ B t' := by
  rw [← w]
  exact h
section
variable {α β γ δ : Type} [Rp α] [Rp β] [Rp γ] [Rp δ]
variable {X : Cx} {e a b c : Expr} {σ : L2.St} {B B' H : Hp} {x : α} {y : β} {z : γ} {pos : Pos} {t : Bool}
theorem cm_two {op : CmpOp} {r : R2} (ho : OpR X (compareOp op) r) (hm : behindInMarks op b = false) (ha : Ev X a σ B x) (hb : Ev X b σ B y) (hr : ∀ B1 H1, Same B1 H1 → ∀ u v, R B1 x u → R B1 y v → ∀ Q : VK, Q (.bl t) H1 → r u v H1 Q) : Cm X (.Compare a [op] [b] pos) σ B t where
  ev := fun H s Q q => rd_mkL (pe_cmpR ho pe_rd pe_rd hm) (ha H s _ fun u B1 H1 _ n1 r1 => (hb.mono n1.bb) H1 n1.bh _ fun v B2 H2 _ n2 r2 =>
    hr B2 H2 n2.bh u v (Rp.mono n2.bb r1) r2 _ fun hl => q _ B2 H2 hl (n1.trans n2) rfl)
  et := fun H s Q q => rdT_mk (pt_cmpR ho pe_rd pe_rd hm) (ha H s _ fun u B1 H1 _ n1 r1 => (hb.mono n1.bb) H1 n1.bh _ fun v B2 H2 _ n2 r2 =>
    hr B2 H2 n2.bh u v (Rp.mono n2.bb r1) r2 _ ⟨t, rfl, q H2 (n1.hh.trans n2.hh)⟩)
end
/-! numbers -/
section
variable {X : Cx} {e a b c : Expr} {σ : L2.St} {B B' H : Hp} {pos : Pos} {m n : Nat} {i j : Int}
theorem ev_add (ha : Ev X a σ B m) (hb : Ev X b σ B n) : Ev X (.BinOp a .Add b pos) σ B (m + n) :=
  ev_two (f := fun t _ => t) ha hb (fun H Q h => rd_op op_add h) fun B1 H1 hl s _ u v ru rv Q q => ⟨m, n, ru, rv, q _ B1 H1 hl (Nw.refl s) (by show V.int _ = V.int _; rw [Int.natCast_add])⟩
theorem ev_sub (ha : Ev X a σ B m) (hb : Ev X b σ B n) (h : n ≤ m) : Ev X (.BinOp a .Sub b pos) σ B (m - n) :=
  ev_two (f := fun t _ => t) ha hb (fun H Q h => rd_op op_sub h) fun B1 H1 hl s _ u v ru rv Q q => ⟨m, n, ru, rv, q _ B1 H1 hl (Nw.refl s) (by show V.int _ = V.int _; rw [Int.ofNat_sub h])⟩
theorem ev_mul (ha : Ev X a σ B m) (hb : Ev X b σ B n) (h : m < 2 ^ 64) : Ev X (.BinOp a .Mult b pos) σ B (m * n) :=
  ev_two (f := fun t _ => t) ha hb (fun H Q h => rd_op op_mul h) fun B1 H1 hl s _ u v ru rv Q q => ⟨m, n, ru, rv, .inl ⟨by omega, by omega⟩, q _ B1 H1 hl (Nw.refl s) (by show V.int _ = V.int _; rw [Int.natCast_mul])⟩
theorem dec_nat {m n : Nat} : decide (V.int (m : Int) = V.int (n : Int)) = decide (m = n) := by
  rw [decide_eq_decide]; exact ⟨fun h => by have := V.int.inj h; omega, fun h => by rw [h]⟩
theorem cm_eq (ha : Ev X a σ B m) (hb : Ev X b σ B n) : Cm X (.Compare a [.Eq] [b] pos) σ B (decide (m = n)) :=
  cm_two op_eq (nomark _) ha hb fun B1 H1 s u v ru rv Q q => by cases ru; cases rv; exact ⟨rfl, by rw [dec_nat]; exact q⟩
theorem cm_ne (ha : Ev X a σ B m) (hb : Ev X b σ B n) : Cm X (.Compare a [.NotEq] [b] pos) σ B (!decide (m = n)) :=
  cm_two op_ne (nomark _) ha hb fun B1 H1 s u v ru rv Q q => by cases ru; cases rv; exact ⟨rfl, by rw [dec_nat]; exact q⟩
theorem cm_lt (ha : Ev X a σ B m) (hb : Ev X b σ B n) : Cm X (.Compare a [.Lt] [b] pos) σ B (decide (m < n)) :=
  cm_two op_lt (nomark _) ha hb fun B1 H1 s u v ru rv Q q => ⟨m, n, ru, rv, by show Q (V.bl (decide ((m : Int) < n))) H1; rw [show decide ((m : Int) < n) = decide (m < n) by rw [decide_eq_decide]; omega]; exact q⟩
theorem cm_le (ha : Ev X a σ B m) (hb : Ev X b σ B n) : Cm X (.Compare a [.LtE] [b] pos) σ B (decide (m ≤ n)) :=
  cm_two op_le (nomark _) ha hb fun B1 H1 s u v ru rv Q q => ⟨m, n, ru, rv, by show Q (V.bl (decide ((m : Int) ≤ n))) H1; rw [show decide ((m : Int) ≤ n) = decide (m ≤ n) by rw [decide_eq_decide]; omega]; exact q⟩
theorem cm_gt (ha : Ev X a σ B m) (hb : Ev X b σ B n) : Cm X (.Compare a [.Gt] [b] pos) σ B (decide (n < m)) :=
  cm_two op_gt (nomark _) ha hb fun B1 H1 s u v ru rv Q q => ⟨m, n, ru, rv, by show Q (V.bl (decide ((n : Int) < m))) H1; rw [show decide ((n : Int) < m) = decide (n < m) by rw [decide_eq_decide]; omega]; exact q⟩
theorem cm_ge (ha : Ev X a σ B m) (hb : Ev X b σ B n) : Cm X (.Compare a [.GtE] [b] pos) σ B (decide (n ≤ m)) :=
  cm_two op_ge (nomark _) ha hb fun B1 H1 s u v ru rv Q q => ⟨m, n, ru, rv, by show Q (V.bl (decide ((n : Int) ≤ m))) H1; rw [show decide ((n : Int) ≤ m) = decide (n ≤ m) by rw [decide_eq_decide]; omega]; exact q⟩
theorem cm_eqB {k l : Bool} (ha : Ev X a σ B k) (hb : Ev X b σ B l) : Cm X (.Compare a [.Eq] [b] pos) σ B (decide (k = l)) :=
  cm_two op_eq (nomark _) ha hb fun B1 H1 s u v ru rv Q q => by cases ru; cases rv; exact ⟨rfl, by rw [show decide (V.bl k = V.bl l) = decide (k = l) by rw [decide_eq_decide]; exact ⟨fun h => V.bl.inj h, fun h => by rw [h]⟩]; exact q⟩
theorem cm_neB {k l : Bool} (ha : Ev X a σ B k) (hb : Ev X b σ B l) : Cm X (.Compare a [.NotEq] [b] pos) σ B (!decide (k = l)) :=
  cm_two op_ne (nomark _) ha hb fun B1 H1 s u v ru rv Q q => by cases ru; cases rv; exact ⟨rfl, by rw [show decide (V.bl k = V.bl l) = decide (k = l) by rw [decide_eq_decide]; exact ⟨fun h => V.bl.inj h, fun h => by rw [h]⟩]; exact q⟩
theorem cm_eqS {k l : Str} (ha : Ev X a σ B k) (hb : Ev X b σ B l) : Cm X (.Compare a [.Eq] [b] pos) σ B (decide (k = l)) :=
  cm_two op_eq (nomark _) ha hb fun B1 H1 s u v ru rv Q q => by cases ru; cases rv; exact ⟨rfl, by rw [show decide (V.str k = V.str l) = decide (k = l) by rw [decide_eq_decide]; exact ⟨fun h => V.str.inj h, fun h => by rw [h]⟩]; exact q⟩
theorem cm_neS {k l : Str} (ha : Ev X a σ B k) (hb : Ev X b σ B l) : Cm X (.Compare a [.NotEq] [b] pos) σ B (!decide (k = l)) :=
  cm_two op_ne (nomark _) ha hb fun B1 H1 s u v ru rv Q q => by cases ru; cases rv; exact ⟨rfl, by rw [show decide (V.str k = V.str l) = decide (k = l) by rw [decide_eq_decide]; exact ⟨fun h => V.str.inj h, fun h => by rw [h]⟩]; exact q⟩
end
end LK
/-! ## L1 -/
namespace LK
open PySem PySem.Spec PyProof.Rows L2
open Rp (R)

/-! ### argument lists, displays -/
structure Dt where
  {α : Type}
  [i : Rp α]
  a : α
def Dt.R (B : Hp) (d : Dt) (v : V) : Prop := @Rp.R d.α d.i B d.a v
inductive AR (B : Hp) : List Dt → List V → Prop where
  | nil : AR B [] []
  | cons {d : Dt} {v : V} {ds : List Dt} {vs : List V} : d.R B v → AR B ds vs → AR B (d :: ds) (v :: vs)
theorem AR.mono {B B' : Hp} (s : Same B B') : ∀ {ds : List Dt} {vs : List V}, AR B ds vs → AR B' ds vs
  | _, _, .nil => .nil
  | _, _, .cons (d := d) r t => .cons (@Rp.mono d.α d.i B B' d.a _ s r) (t.mono s)
section
variable {α β γ δ : Type} [Rp α] [Rp β] [Rp γ] [Rp δ]
variable {X : Cx} {e a b c : Expr} {es : List Expr} {σ : L2.St} {B B' H : Hp} {x : α} {y : β} {z : γ} {pos : Pos}
def NS (X : Cx) (e : Expr) (es : List Expr) : Prop := starEach (e :: es) X.env = (false, eval e X.env) :: starEach es X.env
def EvA (X : Cx) (es : List Expr) (σ : L2.St) (B : Hp) (ds : List Dt) : Prop := ∀ H, Same B H → ∀ Q : List V → Hp → Prop, (∀ vs B' H', HLen H' → Nw B H B' H' → AR B' ds vs → Q vs H') → rdA X es σ H Q
theorem eva_nil : EvA X [] σ B [] := fun H s Q q => fun hl => ⟨_, _, pa_nil, q [] B H hl (Nw.refl s) .nil, fun _ _ _ q => q⟩
theorem EvA.mono {ds : List Dt} (s : Same B B') (h : EvA X es σ B ds) : EvA X es σ B' ds := fun H s1 Q q => h H (s.trans s1) Q fun v B2 H2 hl n r => by
  obtain ⟨B3, n3, s3⟩ := n.base s s1
  exact q v B3 H2 hl n3 (r.mono s3)
theorem eva_cons {ds : List Dt} (h : Ev X e σ B x) (t : EvA X es σ B ds) (hs : NS X e es := by rfl) : EvA X (e :: es) σ B (⟨x⟩ :: ds) := fun H s Q q =>
  rdA_mk (pa_cons pe_rd pa_rd hs) (h H s _ fun v B1 H1 _ n1 r1 => t.mono n1.bb H1 n1.bh _ fun vs B2 H2 hl2 n2 r2 =>
    q (v :: vs) B2 H2 hl2 (n1.trans n2) (.cons (Rp.mono (a := x) n2.bb r1) r2))
theorem eva1 (h : Ev X e σ B x) (h1 : NS X e [] := by rfl) : EvA X [e] σ B [⟨x⟩] := eva_cons h eva_nil h1
theorem eva2 (ha : Ev X a σ B x) (hb : Ev X b σ B y) (h1 : NS X a [b] := by rfl) (h2 : NS X b [] := by rfl) : EvA X [a, b] σ B [⟨x⟩, ⟨y⟩] := eva_cons ha (eva1 hb h2) h1
theorem eva3 (ha : Ev X a σ B x) (hb : Ev X b σ B y) (hc : Ev X c σ B z) (h1 : NS X a [b, c] := by rfl) (h2 : NS X b [c] := by rfl) (h3 : NS X c [] := by rfl) : EvA X [a, b, c] σ B [⟨x⟩, ⟨y⟩, ⟨z⟩] := eva_cons ha (eva2 hb hc h2 h3) h1
theorem eva4 {d : Expr} {w : δ} (ha : Ev X a σ B x) (hb : Ev X b σ B y) (hc : Ev X c σ B z) (hd : Ev X d σ B w) (h1 : NS X a [b, c, d] := by rfl) (h2 : NS X b [c, d] := by rfl) (h3 : NS X c [d] := by rfl) (h4 : NS X d [] := by rfl) :
    EvA X [a, b, c, d] σ B [⟨x⟩, ⟨y⟩, ⟨z⟩, ⟨w⟩] := eva_cons ha (eva3 hb hc hd h2 h3 h4) h1
theorem sz_small {n : Nat} (h : n ≤ 1000) : n ≤ sizeLine := Nat.le_trans h (by decide)
theorem ev_tup2 {k} (h : EvA X [a, b] σ B [⟨x⟩, ⟨y⟩]) : Ev X (.Tuple [a, b] k pos) σ B (x, y) := fun H s Q q =>
  rd_mkL (pe_tup pa_rd) (h H s _ fun vs B1 H1 _ n1 r1 => by
    cases r1 with
    | @cons d1 v1 ds1 vs1 r1 t => cases t with
      | @cons d2 v2 ds2 vs2 r2 t => cases t with
        | nil =>
          refine ⟨by show 2 ≤ sizeLine; decide, fun p hp hl => ?_⟩
          have n2 := Nw.new (o := .tup [v1, v2]) n1.bh hp
          exact q _ _ _ hl (n1.trans n2) ⟨p, v1, v2, rfl, upd_same, Rp.mono (a := x) n2.bb r1, Rp.mono (a := y) n2.bb r2⟩)
theorem ev_tup3 {k} (h : EvA X [a, b, c] σ B [⟨x⟩, ⟨y⟩, ⟨z⟩]) : Ev X (.Tuple [a, b, c] k pos) σ B (T3.mk x y z) := fun H s Q q =>
  rd_mkL (pe_tup pa_rd) (h H s _ fun vs B1 H1 _ n1 r1 => by
    cases r1 with
    | @cons d1 v1 ds1 vs1 r1 t => cases t with
      | @cons d2 v2 ds2 vs2 r2 t => cases t with
        | @cons d3 v3 ds3 vs3 r3 t => cases t with
          | nil =>
            refine ⟨by show 3 ≤ sizeLine; decide, fun p hp hl => ?_⟩
            have n2 := Nw.new (o := .tup [v1, v2, v3]) n1.bh hp
            exact q _ _ _ hl (n1.trans n2) ⟨p, v1, v2, v3, rfl, upd_same, Rp.mono (a := x) n2.bb r1, Rp.mono (a := y) n2.bb r2, Rp.mono (a := z) n2.bb r3⟩)
/-- a list written out -/
def sameDt (xs : List α) : List Dt := xs.map fun x => ⟨x⟩
theorem ar_lr : ∀ {xs : List α} {vs : List V}, AR B (sameDt xs) vs → LR B xs vs
  | [], _, .nil => LR.nil
  | x :: xs, _, .cons r t => LR.cons (a := x) r (ar_lr t)
theorem ev_lst {xs : List α} (h : EvA X es σ B (sameDt xs)) (hz : xs.length ≤ 1000 := by exact Nat.le_of_ble_eq_true rfl) : EvF X (.List es pos) σ B xs := fun H s Q q =>
  rd_mkL (pe_lst pa_rd) (h H s _ fun vs B1 H1 _ n1 r1 => by
    have l := ar_lr r1
    refine ⟨by rw [l.1]; exact sz_small hz, fun p hp hl => ?_⟩
    exact q p vs B1 _ hl (n1.trans (Nw.grow n1.bh (same_new hp))) (n1.hh.free hp) (n1.bh.free hp) upd_same l)
theorem ev_lst0 : EvF X (.List [] pos) σ B ([] : List α) := ev_lst (xs := ([] : List α)) eva_nil (Nat.zero_le _)

/-! ### calls of defs of the text -/
/-- the def x keeps the promise sp, from level k on -/
def Fk (P : Program) (w : World) (K : PySem.W.Frag) (mg : Str → Option Value) (base : Heap) (n : Str) (k : Nat) (ps : List Str) (sp : Sp) : Prop :=
  ∃ f fd, FnOk P w K mg base CX0 k f fd ps sp ∧ mg n = some (.ref f) ∧ PySem.W.keepIn K (.ref f) = true ∧ Binds K fd ps []
theorem rd_call {n : Str} {k : Nat} {ps : List Str} {sp : Sp} {p : Pos} {Q : VK} (F : Fk X.prog X.w X.K X.mg X.base n k ps sp) (hr : Room k X.A) (h : rdA X (e :: es) σ H fun vs H1 => sp vs H1 (fun v H' => HLen H' → Q v H') E0)
    (hg : Gl X n := by rfl) (hdb : (n == ("__debug__" : Str)) = false := by decide) (he : NS X e es := by rfl) (hpl : (backTo pos (starEach es X.env)).any (·.1) = false := by rfl) : rd X (.Call (.Name n p) (e :: es) [] pos) σ H Q := by
  obtain ⟨f, fd, G, hm, hk, hb⟩ := F
  refine rd_mkL (pe_call (dvs := []) (ds := []) G hr hg hm hk hb .nil pass0 pa_rd hdb he hpl) ?_
  show rdA X (e :: es) σ H fun vs H1 => sp (vs ++ []) H1 (fun v H' => HLen H' → Q v H') E0
  have w : (fun (vs : List V) H1 => sp (vs ++ []) H1 (fun v H' => HLen H' → Q v H') E0) = fun vs H1 => sp vs H1 (fun v H' => HLen H' → Q v H') E0 := by
    funext vs H1
    rw [List.append_nil]
  rw [w]
  exact h
def Sp1 (pre : α → Prop) (F : α → β) : Sp := fun vs H Q _ => ∃ (B : Hp) (a : α) (v : V), vs = [v] ∧ Same B H ∧ R B a v ∧ pre a ∧ ∀ v' B' H', Nw B H B' H' → R B' (F a) v' → Q v' H'
def Sp2 (pre : α → β → Prop) (F : α → β → γ) : Sp := fun vs H Q _ => ∃ (B : Hp) (a : α) (b : β) (v w : V), vs = [v, w] ∧ Same B H ∧ R B a v ∧ R B b w ∧ pre a b ∧ ∀ v' B' H', Nw B H B' H' → R B' (F a b) v' → Q v' H'
def Sp3 (pre : α → β → γ → Prop) (F : α → β → γ → δ) : Sp := fun vs H Q _ => ∃ (B : Hp) (a : α) (b : β) (c : γ) (v w u : V), vs = [v, w, u] ∧ Same B H ∧ R B a v ∧ R B b w ∧ R B c u ∧ pre a b c ∧ ∀ v' B' H', Nw B H B' H' → R B' (F a b c) v' → Q v' H'
def Sp4 {ε : Type} [Rp ε] (pre : α → β → γ → δ → Prop) (F : α → β → γ → δ → ε) : Sp := fun vs H Q _ => ∃ (B : Hp) (a : α) (b : β) (c : γ) (d : δ) (v w u t : V), vs = [v, w, u, t] ∧ Same B H ∧ R B a v ∧ R B b w ∧ R B c u ∧ R B d t ∧ pre a b c d ∧
  ∀ v' B' H', Nw B H B' H' → R B' (F a b c d) v' → Q v' H'
section
variable {n : Str} {k : Nat} {ps : List Str} {p : Pos}
theorem ev_call1 {pre : α → Prop} {F : α → β} (G : Fk X.prog X.w X.K X.mg X.base n k ps (Sp1 pre F)) (hr : Room k X.A) (h : EvA X (e :: es) σ B [⟨x⟩]) (hp : pre x)
    (hg : Gl X n := by rfl) (hdb : (n == ("__debug__" : Str)) = false := by decide) (he : NS X e es := by rfl) (hpl : (backTo pos (starEach es X.env)).any (·.1) = false := by rfl) : Ev X (.Call (.Name n p) (e :: es) [] pos) σ B (F x) := fun H s Q q =>
  rd_call G hr (h H s _ fun vs B1 H1 _ n1 r => by
    cases r with
    | @cons d1 v1 ds1 vs1 r1 t => cases t with
      | nil => exact ⟨B1, x, v1, rfl, n1.bh, r1, hp, fun v' B' H' n2 r2 hl => q v' B' H' hl (n1.trans n2) r2⟩) hg hdb he hpl
theorem ev_call2 {pre : α → β → Prop} {F : α → β → γ} (G : Fk X.prog X.w X.K X.mg X.base n k ps (Sp2 pre F)) (hr : Room k X.A) (h : EvA X (e :: es) σ B [⟨x⟩, ⟨y⟩]) (hp : pre x y)
    (hg : Gl X n := by rfl) (hdb : (n == ("__debug__" : Str)) = false := by decide) (he : NS X e es := by rfl) (hpl : (backTo pos (starEach es X.env)).any (·.1) = false := by rfl) : Ev X (.Call (.Name n p) (e :: es) [] pos) σ B (F x y) := fun H s Q q =>
  rd_call G hr (h H s _ fun vs B1 H1 _ n1 r => by
    cases r with
    | @cons d1 v1 ds1 vs1 r1 t => cases t with
      | @cons d2 v2 ds2 vs2 r2 t => cases t with
        | nil => exact ⟨B1, x, y, v1, v2, rfl, n1.bh, r1, r2, hp, fun v' B' H' n2 r2 hl => q v' B' H' hl (n1.trans n2) r2⟩) hg hdb he hpl
theorem ev_call3 {pre : α → β → γ → Prop} {F : α → β → γ → δ} (G : Fk X.prog X.w X.K X.mg X.base n k ps (Sp3 pre F)) (hr : Room k X.A) (h : EvA X (e :: es) σ B [⟨x⟩, ⟨y⟩, ⟨z⟩]) (hp : pre x y z)
    (hg : Gl X n := by rfl) (hdb : (n == ("__debug__" : Str)) = false := by decide) (he : NS X e es := by rfl) (hpl : (backTo pos (starEach es X.env)).any (·.1) = false := by rfl) : Ev X (.Call (.Name n p) (e :: es) [] pos) σ B (F x y z) := fun H s Q q =>
  rd_call G hr (h H s _ fun vs B1 H1 _ n1 r => by
    cases r with
    | @cons d1 v1 ds1 vs1 r1 t => cases t with
      | @cons d2 v2 ds2 vs2 r2 t => cases t with
        | @cons d3 v3 ds3 vs3 r3 t => cases t with
          | nil => exact ⟨B1, x, y, z, v1, v2, v3, rfl, n1.bh, r1, r2, r3, hp, fun v' B' H' n2 r2 hl => q v' B' H' hl (n1.trans n2) r2⟩) hg hdb he hpl
theorem ev_call4 {ε : Type} [Rp ε] {w : δ} {pre : α → β → γ → δ → Prop} {F : α → β → γ → δ → ε} (G : Fk X.prog X.w X.K X.mg X.base n k ps (Sp4 pre F)) (hr : Room k X.A) (h : EvA X (e :: es) σ B [⟨x⟩, ⟨y⟩, ⟨z⟩, ⟨w⟩]) (hp : pre x y z w)
    (hg : Gl X n := by rfl) (hdb : (n == ("__debug__" : Str)) = false := by decide) (he : NS X e es := by rfl) (hpl : (backTo pos (starEach es X.env)).any (·.1) = false := by rfl) : Ev X (.Call (.Name n p) (e :: es) [] pos) σ B (F x y z w) := fun H s Q q =>
  rd_call G hr (h H s _ fun vs B1 H1 _ n1 r => by
    cases r with
    | @cons d1 v1 ds1 vs1 r1 t => cases t with
      | @cons d2 v2 ds2 vs2 r2 t => cases t with
        | @cons d3 v3 ds3 vs3 r3 t => cases t with
          | @cons d4 v4 ds4 vs4 r4 t => cases t with
            | nil => exact ⟨B1, x, y, z, w, v1, v2, v3, v4, rfl, n1.bh, r1, r2, r3, r4, hp, fun v' B' H' n2 r2 hl => q v' B' H' hl (n1.trans n2) r2⟩) hg hdb he hpl
end
end

/-! ### a def -/
/-- a def of the text stands behind the top under its name -/
def Dn (K : PySem.W.Frag) (mg : Str → Option Value) (n : Str) (st : Stmt) (ps : List Str) : Prop := ∃ f fd, Fun K n n st f fd ∧ mg n = some (.ref f) ∧ Binds K fd ps []
section
variable {α β γ δ ε : Type} [Rp α] [Rp β] [Rp γ] [Rp δ] [Rp ε]
variable {P : Program} {w : World} {K : PySem.W.Frag} {mg : Str → Option Value} {base : Heap} {n : Str} {st : Stmt} {N ps : List Str} {k : Nat}
/-- the context of a def's body -/
abbrev cxD (P : Program) (w : World) (K : PySem.W.Frag) (mg : Str → Option Value) (base : Heap) (N : List Str) (qual : Str) (scope : Scope) (f : Addr) (cd : Value) (A : Around) (outer : List Env) (s : Shared) (H : Hp) (E : XK) : Cx :=
  (cxOf CX0 P w K mg base N qual scope f cd A outer s H E).nox
theorem fk_mk {sp : Sp} (D : Dn K mg n st ps) (S : FnScope N ps (defScope st)) (len : ∀ vs H Q E, sp vs H Q E → vs.length = ps.length)
    (body : ∀ f cdv A outer s H vs Q E, Room k (cxD P w K mg base N n (defScope st) f cdv A outer s H E).A → sp vs H Q E → rdB (cxD P w K mg base N n (defScope st) f cdv A outer s H E) (defBody st) { nx := fun _ H' => Q .non H', rt := Q } (start N vs) H) :
    Fk P w K mg base n (k + 1) ps sp := by
  obtain ⟨f, fd, F, hm, hb⟩ := D
  refine ⟨f, fd, F.ok S len fun cdv A outer s H vs Q E hr h => ⟨_, pss_rd, body f cdv A outer s H vs Q E hr h⟩, hm, F.kp, hb⟩
/-- the same, and the def itself -/
theorem fk_mkF {sp : Sp} (D : Dn K mg n st ps) (S : FnScope N ps (defScope st)) (len : ∀ vs H Q E, sp vs H Q E → vs.length = ps.length)
    (body : ∀ f cdv A outer s H vs Q E, Room k (cxD P w K mg base N n (defScope st) f cdv A outer s H E).A → sp vs H Q E → rdB (cxD P w K mg base N n (defScope st) f cdv A outer s H E) (defBody st) { nx := fun _ H' => Q .non H', rt := Q } (start N vs) H) :
    ∃ f fd, Fun K n n st f fd ∧ FnOk P w K mg base CX0 (k + 1) f fd ps sp ∧ mg n = some (.ref f) ∧ Binds K fd ps [] := by
  obtain ⟨f, fd, F, hm, hb⟩ := D
  exact ⟨f, fd, F, F.ok S len fun cdv A outer s H vs Q E hr h => ⟨_, pss_rd, body f cdv A outer s H vs Q E hr h⟩, hm, hb⟩
theorem fk1 {pre : α → Prop} {F : α → β} {p1 : Str} (D : Dn K mg n st [p1]) (S : FnScope N [p1] (defScope st))
    (body : ∀ f cdv A outer s H E v B a Q, Room k (cxD P w K mg base N n (defScope st) f cdv A outer s H E).A → Same B H → R B a v → pre a → (∀ v' B' H', Nw B H B' H' → R B' (F a) v' → Q v' H') →
      rdB (cxD P w K mg base N n (defScope st) f cdv A outer s H E) (defBody st) { nx := fun _ H' => Q .non H', rt := Q } (start N [v]) H) : Fk P w K mg base n (k + 1) [p1] (Sp1 pre F) :=
  fk_mk D S (fun vs H Q E ⟨_, _, _, e, _⟩ => by rw [e]; rfl) fun f cdv A outer s H vs Q E hr ⟨B, a, v, e, sb, r, hp, q⟩ => by
    subst e
    exact body f cdv A outer s H E v B a Q hr sb r hp q
theorem fk2 {pre : α → β → Prop} {F : α → β → γ} {p1 p2 : Str} (D : Dn K mg n st [p1, p2]) (S : FnScope N [p1, p2] (defScope st))
    (body : ∀ f cdv A outer s H E v1 v2 B a b Q, Room k (cxD P w K mg base N n (defScope st) f cdv A outer s H E).A → Same B H → R B a v1 → R B b v2 → pre a b → (∀ v' B' H', Nw B H B' H' → R B' (F a b) v' → Q v' H') →
      rdB (cxD P w K mg base N n (defScope st) f cdv A outer s H E) (defBody st) { nx := fun _ H' => Q .non H', rt := Q } (start N [v1, v2]) H) : Fk P w K mg base n (k + 1) [p1, p2] (Sp2 pre F) :=
  fk_mk D S (fun vs H Q E ⟨_, _, _, _, _, e, _⟩ => by rw [e]; rfl) fun f cdv A outer s H vs Q E hr ⟨B, a, b, v1, v2, e, sb, r1, r2, hp, q⟩ => by
    subst e
    exact body f cdv A outer s H E v1 v2 B a b Q hr sb r1 r2 hp q
theorem fk3 {pre : α → β → γ → Prop} {F : α → β → γ → δ} {p1 p2 p3 : Str} (D : Dn K mg n st [p1, p2, p3]) (S : FnScope N [p1, p2, p3] (defScope st))
    (body : ∀ f cdv A outer s H E v1 v2 v3 B a b c Q, Room k (cxD P w K mg base N n (defScope st) f cdv A outer s H E).A → Same B H → R B a v1 → R B b v2 → R B c v3 → pre a b c → (∀ v' B' H', Nw B H B' H' → R B' (F a b c) v' → Q v' H') →
      rdB (cxD P w K mg base N n (defScope st) f cdv A outer s H E) (defBody st) { nx := fun _ H' => Q .non H', rt := Q } (start N [v1, v2, v3]) H) : Fk P w K mg base n (k + 1) [p1, p2, p3] (Sp3 pre F) :=
  fk_mk D S (fun vs H Q E ⟨_, _, _, _, _, _, _, e, _⟩ => by rw [e]; rfl) fun f cdv A outer s H vs Q E hr ⟨B, a, b, c, v1, v2, v3, e, sb, r1, r2, r3, hp, q⟩ => by
    subst e
    exact body f cdv A outer s H E v1 v2 v3 B a b c Q hr sb r1 r2 r3 hp q
theorem fk4 {pre : α → β → γ → δ → Prop} {F : α → β → γ → δ → ε} {p1 p2 p3 p4 : Str} (D : Dn K mg n st [p1, p2, p3, p4]) (S : FnScope N [p1, p2, p3, p4] (defScope st))
    (body : ∀ f cdv A outer s H E v1 v2 v3 v4 B a b c d Q, Room k (cxD P w K mg base N n (defScope st) f cdv A outer s H E).A → Same B H → R B a v1 → R B b v2 → R B c v3 → R B d v4 → pre a b c d → (∀ v' B' H', Nw B H B' H' → R B' (F a b c d) v' → Q v' H') →
      rdB (cxD P w K mg base N n (defScope st) f cdv A outer s H E) (defBody st) { nx := fun _ H' => Q .non H', rt := Q } (start N [v1, v2, v3, v4]) H) : Fk P w K mg base n (k + 1) [p1, p2, p3, p4] (Sp4 pre F) :=
  fk_mk D S (fun vs H Q E ⟨_, _, _, _, _, _, _, _, _, e, _⟩ => by rw [e]; rfl) fun f cdv A outer s H vs Q E hr ⟨B, a, b, c, d, v1, v2, v3, v4, e, sb, r1, r2, r3, r4, hp, q⟩ => by
    subst e
    exact body f cdv A outer s H E v1 v2 v3 v4 B a b c d Q hr sb r1 r2 r3 r4 hp q
end

/-! ### statements -/
section
variable {α β γ δ : Type} [Rp α] [Rp β] [Rp γ] [Rp δ]
variable {X : Cx} {e a b c : Expr} {es : List Expr} {σ : L2.St} {B B' H : Hp} {x : α} {y : β} {z : γ} {pos : Pos} {D : Ends} {rest body els : List Stmt} {st : Stmt}
theorem rb_nil (h : D.nx σ H) : rdB X [] D σ H := rdB_mk pss_nil h
theorem rb_cons (h : rdS X st { D with nx := rdB X rest D } σ H) : rdB X (st :: rest) D σ H := rdB_mk (pss_cons ps_rd pss_rd) h
theorem rb_ret (h : Ev X e σ B x) (s : Same B H) (k : ∀ v B' H', Nw B H B' H' → R B' x v → D.rt v H') : rdB X (.Return (some e) pos :: rest) D σ H :=
  rdB_mk (pss_cons (ps_ret pe_rd) pss_rd) (h H s _ fun v B' H' _ n r => k v B' H' n r)
/-- return of something that is told as a value of another look: False of the text as a bool .. -/
theorem rb_retR (h : rd X e σ H D.rt) : rdB X (.Return (some e) pos :: rest) D σ H := rdB_mk (pss_cons (ps_ret pe_rd) pss_rd) h
theorem rb_set (i : Nat) {n : Str} {p : Pos} (h : Ev X e σ B x) (s : Same B H) (k : ∀ v B' H', HLen H' → Nw B H B' H' → R B' x v → rdB X rest D (σ.set i (some v)) H')
    (hN : X.N.Nodup) (hi : X.N[i]? = some n := by rfl) (hx : Loc X.env.scope n := by first | exact Or.inl rfl | exact Or.inr rfl) (hs : swapsWith e (some (.Name n p)) pos.line X.env = pure false := by rfl)
    (hf : X.fn n = true ∨ X.env.scope.names.lookup n = some .local := by first | exact .inl rfl | exact .inr rfl) : rdB X (.Assign [.Name n p] e pos :: rest) D σ H :=
  rdB_mk (pss_cons (ps_set hN hi hx pe_rd hs hf) pss_rd) (h H s _ fun v B' H' hl n r => k v B' H' hl n r)
/-- a new list, to be changed -/
theorem rb_setF (i : Nat) {n : Str} {p : Pos} {xs : List α} (h : EvF X e σ B xs) (s : Same B H) (k : ∀ q vs B' H', HLen H' → Nw B H B' H' → H q = none → B' q = none → H' q = some (.lst vs) → LR B' xs vs → rdB X rest D (σ.set i (some (.ref q))) H')
    (hN : X.N.Nodup) (hi : X.N[i]? = some n := by rfl) (hx : Loc X.env.scope n := by first | exact Or.inl rfl | exact Or.inr rfl) (hs : swapsWith e (some (.Name n p)) pos.line X.env = pure false := by rfl)
    (hf : X.fn n = true ∨ X.env.scope.names.lookup n = some .local := by first | exact .inl rfl | exact .inr rfl) : rdB X (.Assign [.Name n p] e pos :: rest) D σ H :=
  rdB_mk (pss_cons (ps_set hN hi hx pe_rd hs hf) pss_rd) (h H s _ fun v vs B' H' hl n h1 h2 h3 r => k v vs B' H' hl n h1 h2 h3 r)
theorem rb_if (t : Bool) (h : EvT X c σ B t) (s : Same B H) (h1 : t = true → ∀ H', Same H H' → rdB X body { D with nx := rdB X rest D } σ H') (h2 : t = false → ∀ H', Same H H' → rdB X els { D with nx := rdB X rest D } σ H') : rdB X (.If c body els pos :: rest) D σ H :=
  rdB_mk (pss_cons (ps_if pt_rd pss_rd pss_rd) pss_rd) (h H s _ fun H' n => by
    cases t with
    | true => exact h1 rfl H' n
    | false => exact h2 rfl H' n)
/-- an if that is not gone into: what it says isn't looked at -/
theorem rb_no (h : EvT X c σ B false) (s : Same B H) (k : ∀ H', Same H H' → rdB X rest D σ H') : rdB X (.If c body [] pos :: rest) D σ H :=
  rdB_mk (pss_cons (ps_if pt_rd pss_never pss_nil) pss_rd) (h H s _ fun H' n => k H' n)
theorem rb_yes (h : EvT X c σ B true) (s : Same B H) (k : ∀ H', Same H H' → rdB X body { D with nx := rdB X rest D } σ H') : rdB X (.If c body [] pos :: rest) D σ H :=
  rdB_mk (pss_cons (ps_if pt_rd pss_rd pss_nil) pss_rd) (h H s _ fun H' n => k H' n)
theorem rb_expr (h : rd X e σ H fun _ H' => rdB X rest D σ H') (hs : swapsWith e none pos.line X.env = pure false := by rfl) : rdB X (.Expr e pos :: rest) D σ H :=
  rdB_mk (pss_cons (ps_expr pe_rd hs) pss_rd) h
/-- a value that is dropped -/
theorem rb_drop (h : Ev X e σ B x) (s : Same B H) (k : ∀ B' H', HLen H' → Nw B H B' H' → rdB X rest D σ H') (hs : swapsWith e none pos.line X.env = pure false := by rfl) : rdB X (.Expr e pos :: rest) D σ H :=
  rdB_mk (pss_cons (ps_expr pe_rd hs) pss_rd) (h H s _ fun v B' H' hl n r => k B' H' hl n)

/-! ### tests -/
theorem et_val {t : Bool} (h : Ev X e σ B t) (he : ∀ whole, isTrue e X.env whole = (do let v ← whole; standAt e.pos; holding [v] (truthy v)) := by intro _; rfl) : EvT X e σ B t := fun H s Q q =>
  rdT_mk (pt_val pe_rd he) (h H s _ fun v B' H' _ n r => ⟨t, r, q H' n.hh⟩)
theorem et_not {t : Bool} (h : EvT X e σ B t) : EvT X (.UnaryOp .Not e pos) σ B (!t) := fun H s Q q => rdT_mk (pt_not pt_rd) (h H s _ fun H' n => q H' n)
theorem et_w {t : Bool} (h : EvW X e σ B t) : EvT X e σ B t := fun H s Q q => rdT_mk pw_rd.pt (h H s Q q)
theorem rdW_mk {te : TT} {Q : Bool → Hp → Prop} (p : PW X e te) (h : te σ H Q) : rdW X e σ H Q := fun _ => ⟨te, Q, p, h, fun _ _ _ q => q⟩
theorem ew_and1 {t : Bool} (h : EvT X a σ B t) : EvW X (.BoolOp .And [a] pos) σ B t := fun H s Q q => rdW_mk (pw_and1 pt_rd) (h H s Q q)
theorem ew_or1 {t : Bool} (h : EvT X a σ B t) : EvW X (.BoolOp .Or [a] pos) σ B t := fun H s Q q => rdW_mk (pw_or1 pt_rd) (h H s Q q)
theorem ew_and {t u : Bool} (h : EvT X a σ B t) (k : t = true → EvW X (.BoolOp .And (b :: es) pos) σ B u) : EvW X (.BoolOp .And (a :: b :: es) pos) σ B (t && u) := fun H s Q q =>
  rdW_mk (pw_and pt_rd pw_rd) (h H s _ fun H' n => by
    cases t with
    | true => exact iteT (k rfl H' (s.trans n) _ fun H2 n2 => q H2 (n.trans n2))
    | false => exact iteF (q H' n))
theorem ew_or {t u : Bool} (h : EvT X a σ B t) (k : t = false → EvW X (.BoolOp .Or (b :: es) pos) σ B u) : EvW X (.BoolOp .Or (a :: b :: es) pos) σ B (t || u) := fun H s Q q =>
  rdW_mk (pw_or pt_rd pw_rd) (h H s _ fun H' n => by
    cases t with
    | true => exact iteT (q H' n)
    | false => exact iteF (k rfl H' (s.trans n) _ fun H2 n2 => q H2 (n.trans n2)))
theorem et_and2 {t u : Bool} (h : EvT X a σ B t) (k : t = true → EvT X b σ B u) : EvT X (.BoolOp .And [a, b] pos) σ B (t && u) := et_w (ew_and h fun e => ew_and1 (k e))
theorem et_or2 {t u : Bool} (h : EvT X a σ B t) (k : t = false → EvT X b σ B u) : EvT X (.BoolOp .Or [a, b] pos) σ B (t || u) := et_w (ew_or h fun e => ew_or1 (k e))
theorem et_or3 {t u r : Bool} (h : EvT X a σ B t) (k : t = false → EvT X b σ B u) (l : u = false → EvT X c σ B r) : EvT X (.BoolOp .Or [a, b, c] pos) σ B (t || (u || r)) := et_w (ew_or h fun e => ew_or (k e) fun e' => ew_or1 (l e'))
/-- values -/
theorem ev_and1 {t : Bool} (h : Ev X a σ B t) : Ev X (.BoolOp .And [a] pos) σ B t := fun H s Q q => rd_mk (pe_one pe_rd) (h H s Q q)
theorem ev_or1 {t : Bool} (h : Ev X a σ B t) : Ev X (.BoolOp .Or [a] pos) σ B t := fun H s Q q => rd_mk (pe_one pe_rd) (h H s Q q)
theorem ev_and {t u : Bool} (h : Ev X a σ B t) (k : t = true → Ev X (.BoolOp .And (b :: es) pos) σ B u) : Ev X (.BoolOp .And (a :: b :: es) pos) σ B (t && u) := fun H s Q q =>
  rd_mkL (pe_and pe_rd pe_rd) (h H s _ fun v B' H' _ n r => ⟨t, r, by
    cases t with
    | true => exact iteT ((k rfl).mono n.bb H' n.bh _ fun v2 B2 H2 hl n2 r2 _ => q v2 B2 H2 hl (n.trans n2) r2)
    | false => exact iteF fun hl => q _ B' H' hl n rfl⟩)
theorem ev_or {t u : Bool} (h : Ev X a σ B t) (k : t = false → Ev X (.BoolOp .Or (b :: es) pos) σ B u) : Ev X (.BoolOp .Or (a :: b :: es) pos) σ B (t || u) := fun H s Q q =>
  rd_mkL (pe_or pe_rd pe_rd) (h H s _ fun v B' H' _ n r => ⟨t, r, by
    cases t with
    | true => exact iteT fun hl => q _ B' H' hl n rfl
    | false => exact iteF ((k rfl).mono n.bb H' n.bh _ fun v2 B2 H2 hl n2 r2 _ => q v2 B2 H2 hl (n.trans n2) r2)⟩)
theorem ev_and2 {t u : Bool} (h : Ev X a σ B t) (k : t = true → Ev X b σ B u) : Ev X (.BoolOp .And [a, b] pos) σ B (t && u) := ev_and h fun e => ev_and1 (k e)
theorem ev_or2 {t u : Bool} (h : Ev X a σ B t) (k : t = false → Ev X b σ B u) : Ev X (.BoolOp .Or [a, b] pos) σ B (t || u) := ev_or h fun e => ev_or1 (k e)
theorem ev_not {t : Bool} (h : Ev X e σ B t) : Ev X (.UnaryOp .Not e pos) σ B (!t) := fun H s Q q => rd_mkL (pe_not pe_rd) (h H s _ fun v B' H' _ n r => ⟨t, r, fun hl => q _ B' H' hl n rfl⟩)
theorem ev_ifExp (t : Bool) (h : EvT X c σ B t) (h1 : t = true → Ev X a σ B x) (h2 : t = false → Ev X b σ B x) : Ev X (.IfExp c a b pos) σ B x := fun H s Q q =>
  rd_mk (pe_ifExp pt_rd pe_rd pe_rd) (h H s _ fun H' n => by
    cases t with
    | true => exact iteT (h1 rfl H' (s.trans n) Q fun v B2 H2 hl n2 r => q v B2 H2 hl ((Nw.grow s n).trans n2) r)
    | false => exact iteF (h2 rfl H' (s.trans n) Q fun v B2 H2 hl n2 r => q v B2 H2 hl ((Nw.grow s n).trans n2) r))
/-- is None, is not None, of what is never None | of an option -/
theorem cm_isN {x' : Option α} (h : Ev X a σ B x') (nn : ∀ B y v, R B (y : α) v → v ≠ .non) {j p2} : Cm X (.Compare a [.Is] [.Constant .none j p2] pos) σ B (x'.isNone) :=
  cm_two (y := (none : Option Nat)) op_isN (nomark _) h ev_non fun B1 H1 s u v ru rv Q q => by
    cases (show v = .non from rv)
    refine ⟨rfl, ?_⟩
    cases x' with
    | none => cases (show u = .non from ru); exact q
    | some y =>
      rw [decide_eq_false (nn B1 y u ru)]
      exact q
theorem cm_notN {x' : Option α} (h : Ev X a σ B x') (nn : ∀ B y v, R B (y : α) v → v ≠ .non) {j p2} : Cm X (.Compare a [.IsNot] [.Constant .none j p2] pos) σ B (x'.isSome) :=
  cm_two (y := (none : Option Nat)) op_notN (nomark _) h ev_non fun B1 H1 s u v ru rv Q q => by
    cases (show v = .non from rv)
    refine ⟨rfl, ?_⟩
    cases x' with
    | none => cases (show u = .non from ru); exact q
    | some y =>
      rw [decide_eq_false (nn B1 y u ru)]
      exact q
end
theorem nn_nat : ∀ (B : Hp) (y : Nat) v, R B y v → v ≠ .non := fun B y v r => by cases (show v = _ from r); intro h; cases h
theorem nn_list {α : Type} [Rp α] : ∀ (B : Hp) (y : List α) v, R B y v → v ≠ .non := fun B y v ⟨p, vs, e, _⟩ => by cases e; intro h; cases h
theorem nn_pair {α β : Type} [Rp α] [Rp β] : ∀ (B : Hp) (y : α × β) v, R B y v → v ≠ .non := fun B y v ⟨p, _, _, e, _⟩ => by cases e; intro h; cases h
end LK
/-! ## L3 -/
namespace LK
open PySem PySem.Spec PyProof.Rows L2
open Rp (R)

/-! ### targets -/
section
variable {α β γ δ : Type} [Rp α] [Rp β] [Rp γ] [Rp δ]
variable {X : Cx} {σ : L2.St} {B H : Hp} {v : V} {Q : L2.St → Hp → Prop}
theorem rg_name (i : Nat) {n : Str} {p : Pos} (k : Q (σ.set i (some v)) H) (hN : X.N.Nodup) (hi : X.N[i]? = some n := by rfl) (hx : Loc X.env.scope n := by first | exact Or.inl rfl | exact Or.inr rfl)
    (hf : X.fn n = true ∨ X.env.scope.names.lookup n = some .local := by first | exact .inl rfl | exact .inr rfl) : rdG X (.Name n p) v σ H Q := rdG_mk (pg_name hN hi hx hf) k
theorem rg_pair (i j : Nat) {n m : Str} {p p2 pt : Pos} {k2 : Nat} {a : α} {b : β} (r : R B (a, b) v) (s : Same B H) (k : ∀ va vb, R B a va → R B b vb → Q ((σ.set i (some va)).set j (some vb)) H) (hN : X.N.Nodup) (hc : X.calm = true := by rfl)
    (hi : X.N[i]? = some n := by rfl) (hx : Loc X.env.scope n := by first | exact Or.inl rfl | exact Or.inr rfl) (hf : X.fn n = true ∨ X.env.scope.names.lookup n = some .local := by first | exact .inl rfl | exact .inr rfl)
    (hj : X.N[j]? = some m := by rfl) (hy : Loc X.env.scope m := by first | exact Or.inl rfl | exact Or.inr rfl) (hg : X.fn m = true ∨ X.env.scope.names.lookup m = some .local := by first | exact .inl rfl | exact .inr rfl)
    : rdG X (.Tuple [.Name n p, .Name m p2] k2 pt) v σ H Q := by
  obtain ⟨q, va, vb, rfl, hq, ra, rb⟩ := r
  refine rdG_mk (pg_tup (n := 2) hc (pgs_cons (pg_name hN hi hx hf) (pgs_cons (pg_name hN hj hy hg) pgs_nil))) ?_
  exact ⟨q, [va, vb], rfl, .inl (.inl (s q _ hq)), rfl, va, [vb], rfl, vb, [], rfl, rfl, k va vb ra rb⟩
theorem rg_tri (i j l : Nat) {n m o : Str} {p p2 p3 pt : Pos} {k2 : Nat} {a : T3 α β γ} (r : R B a v) (s : Same B H) (k : ∀ va vb vc, R B a.a va → R B a.b vb → R B a.c vc → Q (((σ.set i (some va)).set j (some vb)).set l (some vc)) H) (hN : X.N.Nodup) (hc : X.calm = true := by rfl)
    (hi : X.N[i]? = some n := by rfl) (hx : Loc X.env.scope n := by first | exact Or.inl rfl | exact Or.inr rfl) (hf : X.fn n = true ∨ X.env.scope.names.lookup n = some .local := by first | exact .inl rfl | exact .inr rfl)
    (hj : X.N[j]? = some m := by rfl) (hy : Loc X.env.scope m := by first | exact Or.inl rfl | exact Or.inr rfl) (hg : X.fn m = true ∨ X.env.scope.names.lookup m = some .local := by first | exact .inl rfl | exact .inr rfl)
    (hl : X.N[l]? = some o := by rfl) (hz : Loc X.env.scope o := by first | exact Or.inl rfl | exact Or.inr rfl) (hh : X.fn o = true ∨ X.env.scope.names.lookup o = some .local := by first | exact .inl rfl | exact .inr rfl)
    : rdG X (.Tuple [.Name n p, .Name m p2, .Name o p3] k2 pt) v σ H Q := by
  obtain ⟨q, va, vb, vc, rfl, hq, ra, rb, rc⟩ := r
  refine rdG_mk (pg_tup (n := 3) hc (pgs_cons (pg_name hN hi hx hf) (pgs_cons (pg_name hN hj hy hg) (pgs_cons (pg_name hN hl hz hh) pgs_nil)))) ?_
  exact ⟨q, [va, vb, vc], rfl, .inl (.inl (s q _ hq)), rfl, va, [vb, vc], rfl, vb, [vc], rfl, vc, [], rfl, rfl, k va vb vc ra rb rc⟩
end

/-! ### what is walked -/
section
variable {α β γ δ : Type} [Rp α] [Rp β] [Rp γ] [Rp δ]
variable {X : Cx} {e tg iter : Expr} {σ : L2.St} {B B' H : Hp} {x : α}
/-- J walks over xs as long as B' stands -/
def ItOk (J : It) (B' : Hp) (xs : List α) : Prop := xs.length ≤ sizeLine ∧ ∃ G Y, Walk J xs.length G Y ∧ (∀ H2, Same B' H2 → G H2) ∧
    (∀ i H2 v H3, Same B' H2 → Y i H2 v H3 → ∃ B3 a, xs[i]? = some a ∧ Nw B' H2 B3 H3 ∧ R B3 a v)
/-- iter is walked: its items are xs -/
def EvI (X : Cx) (tg iter : Expr) (σ : L2.St) (B : Hp) (xs : List α) : Prop := ∀ H, Same B H → ∀ Rc : It → Hp → Prop, (∀ J B' H', HLen H' → Nw B H B' H' → ItOk J B' xs → Rc J H') → rdI X tg iter σ H Rc
theorem itOk_list {K : PySem.W.Frag} {xs : List α} {vs : List V} {p : Addr} (hp : B p = some (.lst vs)) (l : LR B xs vs) (hz : vs.length ≤ sizeLine) : ItOk (Itl K p) B xs :=
  ⟨by rw [← l.1]; exact hz, fun H => SqL K H p vs, YAt vs, by rw [← l.1]; exact walk_list, fun H2 s2 => .inl (.inl (s2 p _ hp)), fun i H2 v H3 s2 y => by
    obtain ⟨rfl, hv⟩ := y
    obtain ⟨a, ha, ra⟩ := l.get hv
    exact ⟨B, a, ha, Nw.refl s2, ra⟩⟩
theorem ei_list {xs : List α} (h : Ev X iter σ B xs) : EvI X tg iter σ B xs := fun H s Rc k =>
  rdI_mkL (pi_list pe_rd) (h H s _ fun v B' H' _ n r => by
    obtain ⟨p, vs, rfl, hp, l⟩ := r
    exact ⟨p, rfl, ⟨vs, .inl (.inl (n.bh p _ hp))⟩, fun hl => k (Itl X.K p) B' H' hl n (itOk_list hp l (hl p vs (n.bh p _ hp)))⟩)
theorem ei_pair {x y : α} (h : Ev X iter σ B (x, y)) : EvI X tg iter σ B [x, y] := fun H s Rc k =>
  rdI_mkL (pi_tup pe_rd) (h H s _ fun v B' H' _ n r => by
    obtain ⟨p, v1, v2, rfl, hp, r1, r2⟩ := r
    refine ⟨p, rfl, ⟨_, .inl (.inl (n.bh p _ hp))⟩, fun hl => ?_⟩
    refine k (Itt X.K p) B' H' hl n ⟨by show 2 ≤ sizeLine; decide, fun H => SqT X.K H p [v1, v2], YAt [v1, v2], walk_tup (K := X.K) (a := p) (xs := [v1, v2]), fun H2 s2 => .inl (.inl (s2 p _ hp)), fun i H2 v H3 s2 y => ?_⟩
    obtain ⟨rfl, hv⟩ := y
    match i, hv with
    | 0, hv => cases hv; exact ⟨B', x, rfl, Nw.refl s2, r1⟩
    | 1, hv => cases hv; exact ⟨B', y, rfl, Nw.refl s2, r2⟩
    | i + 2, hv => cases hv)
theorem ei_enum {xs : List α} {elts : List Expr} {kk : Nat} {tpos p pos : Pos} (h : Ev X e σ B xs) (hm : X.mg "enumerate" = none) (hg : Gl X "enumerate" := by rfl) (hs : starEach [e] X.env = [(false, eval e X.env)] := by rfl) (h1 : NS X e [] := by rfl) :
    EvI X (.Tuple elts kk tpos) (.Call (.Name "enumerate" p) [e] [] pos) σ B (xs.zipIdx.map fun z => (z.2, z.1)) := fun H s Rc k =>
  rdI_mkL (pi_enum hg hm (pa_cons pe_rd pa_nil h1) hs) (h H s _ fun v B' H' _ n r => by
    obtain ⟨p, vs, rfl, hp, l⟩ := r
    refine ⟨p, vs, rfl, .inl (.inl (n.bh p _ hp)), fun hl => ?_⟩
    have e : (xs.zipIdx.map fun z => (z.2, z.1)).length = vs.length := by rw [List.length_map, List.length_zipIdx]; exact l.1.symm
    refine k (Ite X.K p) B' H' hl n ⟨by rw [e]; exact hl p vs (n.bh p _ hp), fun H => SqL X.K H p vs, _, by rw [e]; exact walk_enum, fun H2 s2 => .inl (.inl (s2 p _ hp)), fun i H2 v H3 s2 y => ?_⟩
    obtain ⟨T, x, y2, rfl, hT, rfl, hx, hv⟩ := y
    cases hx
    obtain ⟨a, ha, ra⟩ := l.get hv
    have n2 := Nw.new (o := .tup [.int (i : Nat), y2]) s2 hT
    refine ⟨_, (i, a), ?_, n2, T, _, _, rfl, upd_same, rfl, Rp.mono n2.bb ra⟩
    rw [List.getElem?_map, List.getElem?_zipIdx, ha]
    simp)
theorem ei_zip {xs : List α} {ys : List β} {e2 : Expr} {elts : List Expr} {kk : Nat} {tpos p pos : Pos} (h : Ev X e σ B xs) (h2 : Ev X e2 σ B ys) (hm : X.mg "zip" = none) (hg : Gl X "zip" := by rfl) (hn1 : NS X e [e2] := by rfl) (hn2 : NS X e2 [] := by rfl)
    (hpl : ((backTo pos (starEach [e2] X.env)).any fun x => x.fst) = false := by rfl) :
    EvI X (.Tuple elts kk tpos) (.Call (.Name "zip" p) [e, e2] [] pos) σ B (xs.zip ys) := fun H s Rc k =>
  rdI_mkL (pi_zip hg hm (pa_cons pe_rd (pa_cons pe_rd pa_nil hn2) hn1) hn1 hpl) (h H s _ fun v B1 H1 _ n1 r1 => (h2.mono n1.bb) H1 n1.bh _ fun w B' H' _ n2 r2 => by
    obtain ⟨p, vs, rfl, hp, l⟩ := r1
    obtain ⟨q, ws, rfl, hq, l2⟩ := r2
    have hp' := n2.bb p _ hp
    refine ⟨p, q, vs, ws, rfl, .inl (.inl (n2.bh p _ hp')), .inl (.inl (n2.bh q _ hq)), fun hl => ?_⟩
    have e : (xs.zip ys).length = min vs.length ws.length := by rw [List.length_zip, l.1, l2.1]
    refine k (Itz X.K p q) B' H' hl (n1.trans n2) ⟨by rw [e]; exact Nat.le_trans (Nat.min_le_left _ _) (hl p vs (n2.bh p _ hp')), fun H => SqL X.K H p vs ∧ SqL X.K H q ws, _, walk_zip e, fun H2 s2 => ⟨.inl (.inl (s2 p _ hp')), .inl (.inl (s2 q _ hq))⟩, fun i H2 v H3 s2 y => ?_⟩
    obtain ⟨T, x, y2, rfl, hT, rfl, hx, hv⟩ := y
    obtain ⟨a, ha, ra⟩ := l.get hx
    obtain ⟨b, hb, rb⟩ := l2.get hv
    have n3 := Nw.new (o := .tup [x, y2]) s2 hT
    refine ⟨_, (a, b), ?_, n3, T, _, _, rfl, upd_same, Rp.mono (n2.bb.trans n3.bb) ra, Rp.mono n3.bb rb⟩
    rw [List.getElem?_zip_eq_some]
    exact ⟨ha, hb⟩)
theorem ei_range1 {n : Nat} {p pos : Pos} (h : Ev X e σ B n) (hz : n ≤ 1000000) (hm : X.mg "range" = none) (hg : Gl X "range" := by rfl) (hn1 : NS X e [] := by rfl) (hs : starEach [e] X.env = [(false, eval e X.env)] := by rfl) :
    EvI X tg (.Call (.Name "range" p) [e] [] pos) σ B (List.range n) := fun H s Rc k =>
  rdI_mkL (pi_range1 hg hm (pa_cons pe_rd pa_nil hn1) hs) (h H s _ fun v B' H' _ n1 r => by
    refine ⟨n, by cases (show v = _ from r); rfl, by omega, by omega, fun hl => ?_⟩
    have e : (List.range n).length = ((n : Nat) : Int).toNat := by rw [List.length_range]; simp
    refine k _ B' H' hl n1 ⟨by rw [List.length_range, sizeLine_eq]; omega, fun _ => True, fun i H2 v H3 => i < n ∧ H3 = H2 ∧ v = .int ((0 : Int) + (i : Nat)), (by
      rw [e]
      exact walk_range.mono (fun _ h => h) fun i H2 v H3 hi _ y => ⟨by simpa using hi, y.1, y.2⟩), fun _ _ => trivial, fun i H2 v H3 s2 y => ?_⟩
    obtain ⟨hi, rfl, rfl⟩ := y
    exact ⟨B', i, by rw [List.getElem?_range hi], Nw.refl s2, by show V.int _ = V.int _; rw [Int.zero_add]⟩)
theorem ei_range2 {m n : Nat} {e2 : Expr} {p pos : Pos} (h : Ev X e σ B m) (h2 : Ev X e2 σ B n) (hz : n ≤ 1000000) (hy : m ≤ 1000000) (hm : X.mg "range" = none) (hg : Gl X "range" := by rfl) (hn1 : NS X e [e2] := by rfl) (hn2 : NS X e2 [] := by rfl)
    (hs : starEach [e, e2] X.env = [(false, eval e X.env), (false, eval e2 X.env)] := by rfl) (hs2 : starEach [e2] X.env = [(false, eval e2 X.env)] := by rfl) :
    EvI X tg (.Call (.Name "range" p) [e, e2] [] pos) σ B ((List.range (n - m)).map (m + ·)) := fun H s Rc k =>
  rdI_mkL (pi_range2 hg hm (pa_cons pe_rd (pa_cons pe_rd pa_nil hn2) hn1) hs hs2) (h H s _ fun v B1 H1 _ n1 r1 => (h2.mono n1.bb) H1 n1.bh _ fun w B' H' _ n2 r2 => by
    cases (show v = _ from r1)
    cases (show w = _ from r2)
    refine ⟨m, n, rfl, ⟨by omega, by omega, by omega, by omega⟩, fun hl => ?_⟩
    have e : ((List.range (n - m)).map (m + ·)).length = ((n : Int) - (m : Int)).toNat := by rw [List.length_map, List.length_range]; omega
    refine k _ B' H' hl (n1.trans n2) ⟨by rw [List.length_map, List.length_range, sizeLine_eq]; omega, fun _ => True, fun i H2 v H3 => i < n - m ∧ H3 = H2 ∧ v = .int ((m : Int) + (i : Nat)), (by
      rw [e]
      exact walk_range.mono (fun _ h => h) fun i H2 v H3 hi _ y => ⟨by omega, y.1, y.2⟩), fun _ _ => trivial, fun i H2 v H3 s2 y => ?_⟩
    obtain ⟨hi, rfl, rfl⟩ := y
    exact ⟨B', m + i, by rw [List.getElem?_map, List.getElem?_range hi]; rfl, Nw.refl s2, by show V.int _ = V.int _; rw [Int.natCast_add]⟩)
end

/-! ### for -/
section
variable {α β γ δ : Type} [Rp α] [Rp β] [Rp γ] [Rp δ]
variable {X : Cx} {e tg iter : Expr} {σ : L2.St} {B B' H : Hp} {x : α} {D : Ends} {body rest : List Stmt} {pos : Pos}
/-- between two turns: σ, what is told, what stands -/
abbrev Tu := L2.St → Hp → Hp → Prop
/-- the loop itself, once its iterator J stands -/
def Loop (X : Cx) (tg : Expr) (body rest : List Stmt) (D : Ends) (σ : L2.St) (H : Hp) (B' : Hp) (xs : List α) : Prop :=
  ∃ Pv : Nat → Tu, Pv 0 σ B' H ∧ (∀ i σ' B2 H2, Pv i σ' B2 H2 → Same B' B2 ∧ Same B2 H2) ∧
      (∀ (i : Nat) (a : α) (v : V) σ' B2 H2 B4 H3, xs[i]? = some a → Pv i σ' B2 H2 → Nw B2 H2 B4 H3 → R B4 a v →
        rdG X tg v σ' H3 fun σ2 H4 => rdB X body { D with nx := fun σ H => ∃ B, Pv (i + 1) σ B H, ct := fun σ H => ∃ B, Pv (i + 1) σ B H, bk := rdB X rest D } σ2 H4) ∧
      ∀ σ' B2 H2, Pv xs.length σ' B2 H2 → rdB X rest D σ' H2
theorem rb_forI (h : rdI X tg iter σ H fun J H' => ∃ (B' : Hp) (xs : List α), ItOk J B' xs ∧ Loop X tg body rest D σ H' B' xs) (hp : PassesOwn (model X.prog X.w) X.A X.env X.xe) (hc : X.calm = true)
    (hs : ∀ x, foldedSetIterable iter X.env x = pure x := by intro _; rfl) : rdB X (.For tg iter body [] pos :: rest) D σ H :=
  rdB_mk (pss_cons (ps_for (wi := fun σ H R => rdI X tg iter σ H fun J H' => ∃ (B' : Hp) (xs : List α), ItOk J B' xs ∧ Loop X tg body rest D σ H' B' xs ∧ (Loop X tg body rest D σ H' B' xs → R J H')) hp hc ⟨fun pins s σ H Q I h => by
      refine pi_rd.run pins s σ H Q I fun hl => ?_
      obtain ⟨te, Q0, p, q, m⟩ := h hl
      exact ⟨te, Q0, p, q, fun J H' hl' q0 => by
        obtain ⟨B', xs, _, lp, k⟩ := m J H' hl' q0
        exact k lp⟩⟩ pg_rd pss_rd hs) pss_rd) (fun hl => by
    obtain ⟨te, Q0, p, q, m⟩ := h hl
    refine ⟨te, Q0, p, q, fun J H' hl' q0 => ?_⟩
    obtain ⟨B', xs, ok, lp⟩ := m J H' hl' q0
    refine ⟨B', xs, ok, lp, fun lp => ?_⟩
    obtain ⟨hz, G, Y, wk, hG, hY⟩ := ok
    obtain ⟨Pv, h0, hst, ht, hd⟩ := lp
    exact for_it wk (fun i σ H => ∃ B, Pv i σ B H) ⟨B', h0⟩ (fun i σ' H2 _ ⟨B2, p⟩ => hG H2 ((hst i σ' B2 H2 p).1.trans (hst i σ' B2 H2 p).2)) (fun i v σ' H2 H3 hi ⟨B2, p⟩ y => by
      obtain ⟨s1, s2⟩ := hst i σ' B2 H2 p
      obtain ⟨B3, a, ha, n3, ra⟩ := hY i H2 v H3 (s1.trans s2) y
      obtain ⟨B4, n4, s34⟩ := n3.base s1 s2
      exact ht i a v σ' B2 H2 B4 H3 ha p n4 (Rp.mono s34 ra)) fun σ' H2 ⟨B2, p⟩ => hd σ' B2 H2 p)
theorem rb_for {xs : List α} (h : EvI X tg iter σ B xs) (s : Same B H) (hp : PassesOwn (model X.prog X.w) X.A X.env X.xe) (hc : X.calm = true)
    (k : ∀ B' H', HLen H' → Nw B H B' H' → xs.length ≤ sizeLine → Loop X tg body rest D σ H' B' xs) (hs : ∀ x, foldedSetIterable iter X.env x = pure x := by intro _; rfl) : rdB X (.For tg iter body [] pos :: rest) D σ H :=
  rb_forI (h H s _ fun J B' H' hl n ok => ⟨B', xs, ok, k B' H' hl n ok.1⟩) hp hc hs
/-- while: Pv with a measure; the test may be asked of more than is told for good -/
theorem rb_while {c : Expr} (Pv : Nat → Tu) (h0 : ∃ m, Pv m σ B H) (hp : PassesOwn (model X.prog X.w) X.A X.env X.xe)
    (turn : ∀ m σ' B2 H2, Pv m σ' B2 H2 → ∃ Bt t, Same Bt H2 ∧ EvT X c σ' Bt t ∧
      (t = true → ∀ H3, Same H2 H3 → rdB X body { D with nx := fun σ H => ∃ m', m' < m ∧ ∃ B, Pv m' σ B H, ct := fun σ H => ∃ m', m' < m ∧ ∃ B, Pv m' σ B H, bk := rdB X rest D } σ' H3) ∧ (t = false → ∀ H3, Same H2 H3 → rdB X rest D σ' H3)) :
    rdB X (.While c body [] pos :: rest) D σ H :=
  rdB_mk (pss_cons (ps_while hp pt_rd pss_rd) pss_rd) (by
    obtain ⟨m0, h0⟩ := h0
    refine ⟨fun m σ H => ∃ B, Pv m σ B H, ⟨m0, B, h0⟩, fun m σ' H2 ⟨B2, p⟩ => ?_⟩
    obtain ⟨Bt, t, st, et, h1, h2⟩ := turn m σ' B2 H2 p
    refine et H2 st _ fun H3 s3 => ?_
    cases t with
    | true => exact iteT ⟨_, fun σ'' H'' z => z, h1 rfl H3 s3⟩
    | false => exact iteF (h2 rfl H3 s3))

/-! ### comprehensions -/
def rdTs (X : Cx) (e : List Expr) : TT := fun σ H Q => HLen H → ∃ (te : TT) (Q0 : Bool → Hp → Prop), PTs X e te ∧ te σ H Q0 ∧ ∀ v H', HLen H' → Q0 v H' → Q v H'
theorem pts_rd {es : List Expr} : PTs X es (rdTs X es) := ⟨fun pins s σ H Q I h => by
  obtain ⟨te, Q0, p, q, m⟩ := h (hlen_of I)
  exact L2.thn (p.run pins s σ H Q0 I q) fun u s' ⟨H', I', z⟩ => ⟨H', I', m u H' (hlen_of I') z⟩⟩
def EvTs (X : Cx) (e : List Expr) (σ : L2.St) (B : Hp) (b : Bool) : Prop := ∀ H, Same B H → ∀ Q : Bool → Hp → Prop, (∀ H', Same H H' → Q b H') → rdTs X e σ H Q
theorem ets_nil : EvTs X [] σ B true := fun H s Q q _ => ⟨_, _, pts_nil, q H (Same.refl H), fun _ _ _ q => q⟩
theorem ets_one {c : Expr} {t : Bool} (h : EvT X c σ B t) : EvTs X [c] σ B t := fun H s Q q _ => ⟨_, _, pts_one pt_rd, h H s Q q, fun _ _ _ q => q⟩
abbrev blkX (X : Cx) (scope : Scope) (s : Shared) (H : Hp) (C : Addr) (cl : List (Str × Addr)) (fp : List Addr) : Cx := X.blk s H scope (compEnvC scope cl C X.env) fp
def gB (X : Cx) (scope : Scope) (tg : Expr) : TG := fun v σ H Q => ∀ (s : Shared) (H0 : Hp) (C : Addr) (cl : List (Str × Addr)) (fp : List Addr), rdG (blkX X scope s H0 C cl fp) tg v σ H Q
def ttB (X : Cx) (scope : Scope) (ifs : List Expr) : TT := fun σ H Q => ∀ (s : Shared) (H0 : Hp) (C : Addr) (cl : List (Str × Addr)) (fp : List Addr), rdTs (blkX X scope s H0 C cl fp) ifs σ H Q
def teB (X : Cx) (scope : Scope) (elt : Expr) : TE := fun σ H Q => ∀ (s : Shared) (H0 : Hp) (C : Addr) (cl : List (Str × Addr)) (fp : List Addr), rd (blkX X scope s H0 C cl fp) elt σ H Q
theorem pg_gB {scope : Scope} {s : Shared} {H : Hp} {C : Addr} {cl : List (Str × Addr)} {fp : List Addr} : PG (blkX X scope s H C cl fp) tg (gB X scope tg) := ⟨fun pins s0 σ0 H0 v u Q I r h => pg_rd.run pins s0 σ0 H0 v u Q I r (h s H C cl fp)⟩
theorem pts_ttB {ifs : List Expr} {scope : Scope} {s : Shared} {H : Hp} {C : Addr} {cl : List (Str × Addr)} {fp : List Addr} : PTs (blkX X scope s H C cl fp) ifs (ttB X scope ifs) := ⟨fun pins s0 σ0 H0 Q I h => pts_rd.run pins s0 σ0 H0 Q I (h s H C cl fp)⟩
theorem pe_teB {elt : Expr} {scope : Scope} {s : Shared} {H : Hp} {C : Addr} {cl : List (Str × Addr)} {fp : List Addr} : PE (blkX X scope s H C cl fp) elt (teB X scope elt) := ⟨fun pins s0 σ0 H0 Q I h => pe_rd.run pins s0 σ0 H0 Q I (h s H C cl fp)⟩
theorem take_filter {xs : List α} {p : α → Bool} {g : α → β} {i : Nat} {a : α} (h : xs[i]? = some a) : ((xs.take (i + 1)).filter p).map g = ((xs.take i).filter p).map g ++ (if p a = true then [g a] else []) := by
  rw [List.take_add_one, h, List.filter_append, List.map_append]
  cases q : p a <;> simp [q]
theorem lc_reading {xs : List α} {p : α → Bool} {g : α → β} {elt : Expr} {ifs : List Expr} {scope : Scope} {vs : List Nat} (hi : EvI X tg iter σ B xs)
    (turn : ∀ B1, Same B B1 → ∀ (i : Nat) (a : α) (v : V), xs[i]? = some a → R B1 a v → ∃ σ2, wipe σ2 vs = wipe σ vs ∧ ∀ (s : Shared) (H0 : Hp) (C : Addr) (cl : List (Str × Addr)) (fp : List Addr),
      (∀ H, Same B1 H → ∀ Q : L2.St → Hp → Prop, Q σ2 H → rdG (blkX X scope s H0 C cl fp) tg v (wipe σ vs) H Q) ∧ EvTs (blkX X scope s H0 C cl fp) ifs σ2 B1 (p a) ∧ (p a = true → Ev (blkX X scope s H0 C cl fp) elt σ2 B1 (g a)))
    (s : Same B H) (Q : VK) (q : ∀ q ws B' H', HLen H' → Nw B H B' H' → H q = none → B' q = none → H' q = some (.lst ws) → LR B' ((xs.filter p).map g) ws → Q (.ref q) H') :
    tLc (rdI X tg iter) (gB X scope tg) (ttB X scope ifs) (teB X scope elt) vs σ H (fun v H' => HLen H' → Q v H') := by
  refine hi H s _ fun J B' H' hl n ok => fun L hL => ?_
  obtain ⟨hz, G, Y, wk, hG, hY⟩ := ok
  refine lc_it (Qd := fun H2 => HLen H2 → Q (.ref L) H2) (g := gB X scope tg) (tt := ttB X scope ifs) (te := teB X scope elt) (vs := vs) (σ := σ) wk (fun i H2 => ∃ Bi ws, Nw B' H' Bi H2 ∧ Bi L = none ∧ H2 L = some (.lst ws) ∧ LR Bi (((xs.take i).filter p).map g) ws)
    ⟨B', [], Nw.grow n.bh (same_new hL), n.bh.free hL, upd_same, LR.nil⟩ (fun i H2 _ ⟨Bi, ws, ni, _⟩ => hG H2 ni.bH) (fun i v H2 H3 hi ⟨Bi, ws, ni, hbL, hL2, lr⟩ y => ?_) fun H2 ⟨Bi, ws, ni, hbL, hL2, lr⟩ hl2 => ?_
  · obtain ⟨B3, a, ha, n3, ra⟩ := hY i H2 v H3 ni.bH y
    obtain ⟨B2, n2, s32⟩ := n3.base ni.bb ni.bh
    have rb : R B2 a v := Rp.mono s32 ra
    obtain ⟨σ2, hw, tr⟩ := turn B2 (n.bb.trans (ni.bb.trans n2.bb)) i a v ha rb
    intro s0 H0 C cl fp
    refine (tr s0 H0 C cl fp).1 H3 n2.bh _ ⟨hw, ?_⟩
    have hL3 : H3 L = some (.lst ws) := n2.hh L _ hL2
    have hb2 : B2 L = none := n2.hid L (by rw [hL2]; intro z; cases z) hbL
    have tf := take_filter (p := p) (g := g) ha
    -- the tests
    intro s1 H1 C1 cl1 fp1
    refine (tr s1 H1 C1 cl1 fp1).2.1 H3 n2.bh _ fun H4 n4 => ?_
    cases hp : p a with
    | false =>
      refine iteF ⟨B2, ws, ⟨ni.bb.trans n2.bb, n2.bh.trans n4, ni.hh.trans (n2.hh.trans n4), fun b h1 h2 => n2.hid b (fun z => ?_) (ni.hid b h1 h2)⟩, hb2, n4 L _ hL3, ?_⟩
      · cases w : H' b with
        | none => exact h1 w
        | some o => rw [ni.hh b o w] at z; cases z
      · rw [tf, hp, if_neg Bool.false_ne_true, List.append_nil]
        exact lr.mono n2.bb
    | true =>
      refine iteT ?_
      intro s2 H02 C2 cl2 fp2
      refine (tr s2 H02 C2 cl2 fp2).2.2 hp H4 (n2.bh.trans n4) _ fun u B5 H5 hl5 n5 r5 => ?_
      have hL5 : H5 L = some (.lst ws) := n5.hh L _ (n4 L _ hL3)
      have hb5 : B5 L = none := n5.hid L (by rw [n4 L _ hL3]; intro z; cases z) hb2
      have lr2 : LR B5 (((xs.take (i + 1)).filter p).map g) (ws ++ [u]) := by
        rw [tf, hp, if_pos rfl]
        exact (lr.mono (n2.bb.trans n5.bb)).snoc r5
      refine ⟨ws, hL5, ?_, B5, ws ++ [u], ?_, hb5, upd_same, lr2⟩
      · have h1 := lr.1
        have h2 : (((xs.take i).filter p).map g).length ≤ i := by
          rw [List.length_map]
          exact Nat.le_trans (List.length_filter_le _ _) (by rw [List.length_take]; exact Nat.min_le_left _ _)
        omega
      · have n6 : Nw B' H' B5 H5 := ⟨ni.bb.trans (n2.bb.trans n5.bb), n5.bh, ni.hh.trans (n2.hh.trans (n4.trans n5.hh)), fun b h1 h2 => by
          have k0 : H2 b ≠ none := fun z => by
            cases w : H' b with
            | none => exact h1 w
            | some o => rw [ni.hh b o w] at z; cases z
          have k1 := n2.hid b k0 (ni.hid b h1 h2)
          refine n5.hid b (fun z => ?_) k1
          cases w : H2 b with
          | none => exact k0 w
          | some o => rw [n4 b o (n2.hh b o w)] at z; cases z⟩
        exact n6.mut hL hb5
  · have e : xs.take xs.length = xs := List.take_length
    rw [e] at lr
    exact q L ws Bi H2 hl2 (n.trans ni) (n.hh.free hL) hbL hL2 lr

/-- what a turn of a comprehension is worth -/
def Turn (X : Cx) (scope : Scope) (tg : Expr) (ifs : List Expr) (elt : Expr) (σ : L2.St) (vs : List Nat) (B : Hp) (xs : List α) (p : α → Bool) (g : α → β) : Prop :=
  ∀ B1, Same B B1 → ∀ (i : Nat) (a : α) (v : V), xs[i]? = some a → R B1 a v → ∃ σ2, wipe σ2 vs = wipe σ vs ∧ ∀ (s : Shared) (H0 : Hp) (C : Addr) (cl : List (Str × Addr)) (fp : List Addr),
      (∀ H, Same B1 H → ∀ Q : L2.St → Hp → Prop, Q σ2 H → rdG (blkX X scope s H0 C cl fp) tg v (wipe σ vs) H Q) ∧ EvTs (blkX X scope s H0 C cl fp) ifs σ2 B1 (p a) ∧ (p a = true → Ev (blkX X scope s H0 C cl fp) elt σ2 B1 (g a))
theorem evf_lc {xs : List α} {p : α → Bool} {g : α → β} {elt : Expr} {ifs : List Expr} {scope : Scope} (own : List (Str × Nat)) (hi : EvI X tg iter σ B xs) (turn : Turn X scope tg ifs elt σ (own.map (·.2)) B xs p g)
    (hN : X.N.Nodup) (hc : X.calm = true := by rfl) (ok : blkC X.N X.env.scope scope own = true := by kernel_rfl) (hs : ∀ x, foldedSetIterable iter X.env x = pure x := by intro _; rfl) :
    EvF X (.ListComp elt [⟨tg, iter, ifs, 0⟩] scope pos) σ B ((xs.filter p).map g) := fun H s Q q =>
  rd_mkL (pe_lc hc hN pi_rd (blkOk_by ok) (fun s H C cl fp => pg_gB) (fun s H C cl fp => pts_ttB) (fun s H C cl fp => pe_teB) hs) (lc_reading hi turn s Q q)
/-- name = [..] -/
theorem rb_setLc {xs : List α} {p : α → Bool} {g : α → β} {elt : Expr} {ifs : List Expr} {scope : Scope} (j : Nat) {y : Str} {py spos : Pos} (own : List (Str × Nat)) (hi : EvI X tg iter σ B xs) (turn : Turn X scope tg ifs elt σ (own.map (·.2)) B xs p g) (s : Same B H)
    (k : ∀ q vs B' H', HLen H' → Nw B H B' H' → H q = none → B' q = none → H' q = some (.lst vs) → LR B' ((xs.filter p).map g) vs → rdB X rest D (σ.set j (some (.ref q))) H')
    (hN : X.N.Nodup) (hy : X.N[j]? = some y := by rfl) (hyl : X.env.scope.names.lookup y = some .local := by rfl)
    (hsw : swapsWith (.ListComp elt [⟨tg, iter, ifs, 0⟩] scope pos) (some (.Name y py)) spos.line X.env = pure true := by exact sw_true rfl rfl rfl (by kernel_rfl))
    (hc : X.calm = true := by rfl) (ok : blkC X.N X.env.scope scope own = true := by kernel_rfl) (hs : ∀ x, foldedSetIterable iter X.env x = pure x := by intro _; rfl) :
    rdB X (.Assign [.Name y py] (.ListComp elt [⟨tg, iter, ifs, 0⟩] scope pos) spos :: rest) D σ H :=
  rdB_mk (pss_cons (ps_setLc hc hN hy hyl hsw pi_rd (blkOk_by ok) (fun s H C cl fp => pg_gB) (fun s H C cl fp => pts_ttB) (fun s H C cl fp => pe_teB) hs) pss_rd)
    (by
      have h := lc_reading hi turn s (fun v H' => rdB X rest D (σ.set j (some v)) H') fun q ws B' H' hl n h0 hb hp l => k q ws B' H' hl n h0 hb hp l
      show tLc (rdI X tg iter) (gB X scope tg) (ttB X scope ifs) (teB X scope elt) (own.map (·.2)) σ H fun v H' => rdB X rest D (σ.set j (some v)) H'
      have w : (fun (v : V) (H' : Hp) => HLen H' → rdB X rest D (σ.set j (some v)) H') = fun v H' => rdB X rest D (σ.set j (some v)) H' := by
        funext v H'
        exact propext ⟨fun h => rdB_len h, fun h _ => h⟩
      rw [w] at h
      exact h)
/-- a turn whose target is a name, a pair, three -/
theorem turnN {xs : List α} {p : α → Bool} {g : α → β} {elt : Expr} {ifs : List Expr} {scope : Scope} {vs : List Nat} (i : Nat) {n : Str} {pn : Pos} (hw : ∀ u, wipe ((wipe σ vs).set i u) vs = wipe σ vs)
    (k : ∀ B1 a v, Same B B1 → a ∈ xs → R B1 a v → ∀ (s : Shared) (H0 : Hp) (C : Addr) (cl : List (Str × Addr)) (fp : List Addr), EvTs (blkX X scope s H0 C cl fp) ifs ((wipe σ vs).set i (some v)) B1 (p a) ∧ (p a = true → Ev (blkX X scope s H0 C cl fp) elt ((wipe σ vs).set i (some v)) B1 (g a)))
    (hN : X.N.Nodup) (hi : X.N[i]? = some n := by rfl) (hx : Loc (relabel scope X.env) n := by first | exact Or.inl rfl | exact Or.inr rfl) (hf1 : (scope.names.lookup n == some .cell) = true ∨ (relabel scope X.env).names.lookup n = some .local := by first | exact Or.inr rfl | exact Or.inl rfl) : Turn X scope (.Name n pn) ifs elt σ vs B xs p g := fun B1 sb ix a v ha ra => by
  refine ⟨(wipe σ vs).set i (some v), hw _, fun s H0 C cl fp => ⟨fun H sH Q q => ?_, k B1 a v sb (List.mem_of_getElem? ha) ra s H0 C cl fp⟩⟩
  exact rg_name (X := blkX X scope s H0 C cl fp) i q hN hi hx hf1
theorem turnP {α1 α2 : Type} [Rp α1] [Rp α2] {xs : List (α1 × α2)} {p : α1 × α2 → Bool} {g : α1 × α2 → β} {elt : Expr} {ifs : List Expr} {scope : Scope} {vs : List Nat} (i j : Nat) {n m : Str} {pn pm pt : Pos} {k2 : Nat} (hw : ∀ u w, wipe (((wipe σ vs).set i u).set j w) vs = wipe σ vs)
    (k : ∀ B1 a va vb, Same B B1 → a ∈ xs → R B1 a.1 va → R B1 a.2 vb → ∀ (s : Shared) (H0 : Hp) (C : Addr) (cl : List (Str × Addr)) (fp : List Addr), EvTs (blkX X scope s H0 C cl fp) ifs (((wipe σ vs).set i (some va)).set j (some vb)) B1 (p a) ∧ (p a = true → Ev (blkX X scope s H0 C cl fp) elt (((wipe σ vs).set i (some va)).set j (some vb)) B1 (g a)))
    (hN : X.N.Nodup) (hc : X.calm = true := by rfl) (hi : X.N[i]? = some n := by rfl) (hx : Loc (relabel scope X.env) n := by first | exact Or.inl rfl | exact Or.inr rfl) (hf1 : (scope.names.lookup n == some .cell) = true ∨ (relabel scope X.env).names.lookup n = some .local := by first | exact Or.inr rfl | exact Or.inl rfl) (hj : X.N[j]? = some m := by rfl) (hy : Loc (relabel scope X.env) m := by first | exact Or.inl rfl | exact Or.inr rfl) (hf2 : (scope.names.lookup m == some .cell) = true ∨ (relabel scope X.env).names.lookup m = some .local := by first | exact Or.inr rfl | exact Or.inl rfl) :
    Turn X scope (.Tuple [.Name n pn, .Name m pm] k2 pt) ifs elt σ vs B xs p g := fun B1 sb ix a v ha ra => by
  obtain ⟨q, va, vb, rfl, hq, r1, r2⟩ := id ra
  refine ⟨((wipe σ vs).set i (some va)).set j (some vb), hw _ _, fun s H0 C cl fp => ⟨fun H sH Q k0 => ?_, k B1 a va vb sb (List.mem_of_getElem? ha) r1 r2 s H0 C cl fp⟩⟩
  refine rdG_mk (pg_tup (X := blkX X scope s H0 C cl fp) (n := 2) hc (pgs_cons (pg_name hN hi hx hf1) (pgs_cons (pg_name hN hj hy hf2) pgs_nil))) ?_
  exact ⟨q, [va, vb], rfl, .inl (.inl (sH q _ hq)), rfl, va, [vb], rfl, vb, [], rfl, rfl, k0⟩
theorem turnT {α1 α2 α3 : Type} [Rp α1] [Rp α2] [Rp α3] {xs : List (T3 α1 α2 α3)} {p : T3 α1 α2 α3 → Bool} {g : T3 α1 α2 α3 → β} {elt : Expr} {ifs : List Expr} {scope : Scope} {vs : List Nat} (i j l : Nat) {n m o : Str} {pn pm po pt : Pos} {k2 : Nat}
    (hw : ∀ u w z, wipe ((((wipe σ vs).set i u).set j w).set l z) vs = wipe σ vs)
    (k : ∀ B1 a va vb vc, Same B B1 → a ∈ xs → R B1 a.a va → R B1 a.b vb → R B1 a.c vc → ∀ (s : Shared) (H0 : Hp) (C : Addr) (cl : List (Str × Addr)) (fp : List Addr),
      EvTs (blkX X scope s H0 C cl fp) ifs ((((wipe σ vs).set i (some va)).set j (some vb)).set l (some vc)) B1 (p a) ∧ (p a = true → Ev (blkX X scope s H0 C cl fp) elt ((((wipe σ vs).set i (some va)).set j (some vb)).set l (some vc)) B1 (g a)))
    (hN : X.N.Nodup) (hc : X.calm = true := by rfl) (hi : X.N[i]? = some n := by rfl) (hx : Loc (relabel scope X.env) n := by first | exact Or.inl rfl | exact Or.inr rfl) (hf1 : (scope.names.lookup n == some .cell) = true ∨ (relabel scope X.env).names.lookup n = some .local := by first | exact Or.inr rfl | exact Or.inl rfl) (hj : X.N[j]? = some m := by rfl) (hy : Loc (relabel scope X.env) m := by first | exact Or.inl rfl | exact Or.inr rfl) (hf2 : (scope.names.lookup m == some .cell) = true ∨ (relabel scope X.env).names.lookup m = some .local := by first | exact Or.inr rfl | exact Or.inl rfl)
    (hl : X.N[l]? = some o := by rfl) (hz : Loc (relabel scope X.env) o := by first | exact Or.inl rfl | exact Or.inr rfl) (hf3 : (scope.names.lookup o == some .cell) = true ∨ (relabel scope X.env).names.lookup o = some .local := by first | exact Or.inr rfl | exact Or.inl rfl) :
    Turn X scope (.Tuple [.Name n pn, .Name m pm, .Name o po] k2 pt) ifs elt σ vs B xs p g := fun B1 sb ix a v ha ra => by
  obtain ⟨q, va, vb, vc, rfl, hq, r1, r2, r3⟩ := id ra
  refine ⟨(((wipe σ vs).set i (some va)).set j (some vb)).set l (some vc), hw _ _ _, fun s H0 C cl fp => ⟨fun H sH Q k0 => ?_, k B1 a va vb vc sb (List.mem_of_getElem? ha) r1 r2 r3 s H0 C cl fp⟩⟩
  refine rdG_mk (pg_tup (X := blkX X scope s H0 C cl fp) (n := 3) hc (pgs_cons (pg_name hN hi hx hf1) (pgs_cons (pg_name hN hj hy hf2) (pgs_cons (pg_name hN hl hz hf3) pgs_nil)))) ?_
  exact ⟨q, [va, vb, vc], rfl, .inl (.inl (sH q _ hq)), rfl, va, [vb, vc], rfl, vb, [vc], rfl, vc, [], rfl, rfl, k0⟩
end
end LK
/-! ## L4 -/
namespace LK
open PySem PySem.Spec PyProof.Rows L2
open Rp (R)

/-! ### items -/
section
variable {α β γ δ : Type} [Rp α] [Rp β] [Rp γ] [Rp δ]
variable {X : Cx} {e a b c : Expr} {es : List Expr} {σ : L2.St} {B B' H : Hp} {x : α} {y : β} {z : γ} {pos p : Pos}
theorem ev_ix {xs : List α} {i : Nat} (ha : Ev X a σ B xs) (hb : Ev X b σ B i) (h : xs[i]? = some x) (hs : PlainIx b := by exact fun _ _ => rfl) : Ev X (.Subscript a b pos) σ B x :=
  ev_two (f := fun t _ => t) ha hb (fun H Q h => rd_ix ix_list hs h) fun B1 H1 hl s _ u v ru rv Q q => by
    obtain ⟨p, vs, rfl, hp, l⟩ := ru
    cases (show v = _ from rv)
    obtain ⟨w, hw, rw'⟩ := l.2 i x h
    exact ⟨p, vs, i, w, rfl, rfl, .inl (.inl (s p _ hp)), atI_nat hw, q w B1 H1 hl (Nw.refl s) rw'⟩
/-- the last one: xs[-1] -/
theorem ev_ixLast {xs : List α} (ha : Ev X a σ B xs) (h : xs.getLast? = some x) {p2 p3 : Pos} {j} (hs : PlainIx (.UnaryOp .USub (.Constant (.int 1) j p2) p3) := by exact fun _ _ => rfl) : Ev X (.Subscript a (.UnaryOp .USub (.Constant (.int 1) j p2) p3) pos) σ B x := fun H s Q q =>
  rd_mkL (pe_ix ix_list pe_rd (pe_un un_neg pe_int) hs) (ha H s _ fun u B1 H1 _ n r => by
    obtain ⟨p, vs, rfl, hp, l⟩ := r
    rw [List.getLast?_eq_getElem?] at h
    obtain ⟨w, hw, rw'⟩ := l.2 _ x h
    have hlt := (List.getElem?_eq_some_iff.mp hw).1
    refine ⟨1, rfl, p, vs, -1, w, rfl, rfl, .inl (.inl (n.bh p _ hp)), ?_, fun hl => q w B1 H1 hl n rw'⟩
    have hk : (0 : Nat) < xs.length := by rw [← l.1]; omega
    have e2 : ixN vs.length (-1) = some (xs.length - 1) := by
      have hvl := l.1
      unfold ixN
      rw [if_neg (by decide), if_pos (by omega)]
      congr 1
      omega
    show (ixN vs.length (-1)).bind (fun j => vs[j]?) = some w
    rw [e2]
    exact hw)
theorem ev_fst {u : α × β} {j} (ha : Ev X a σ B u) (hs : PlainIx (.Constant (.int 0) j p) := by exact fun _ _ => rfl) : Ev X (.Subscript a (.Constant (.int 0) j p) pos) σ B u.1 := fun H s Q q =>
  rd_mkL (pe_ix ix_tup pe_rd pe_int hs) (ha H s _ fun v B1 H1 _ n r => by
    obtain ⟨p, v1, v2, rfl, hp, r1, r2⟩ := r
    exact ⟨p, _, ((0 : Nat) : Int), v1, rfl, rfl, .inl (.inl (n.bh p _ hp)), atI_nat rfl, fun hl => q v1 B1 H1 hl n r1⟩)
theorem ev_snd {u : α × β} {j} (ha : Ev X a σ B u) (hs : PlainIx (.Constant (.int 1) j p) := by exact fun _ _ => rfl) : Ev X (.Subscript a (.Constant (.int 1) j p) pos) σ B u.2 := fun H s Q q =>
  rd_mkL (pe_ix ix_tup pe_rd pe_int hs) (ha H s _ fun v B1 H1 _ n r => by
    obtain ⟨p, v1, v2, rfl, hp, r1, r2⟩ := r
    exact ⟨p, _, ((1 : Nat) : Int), v2, rfl, rfl, .inl (.inl (n.bh p _ hp)), atI_nat rfl, fun hl => q v2 B1 H1 hl n r2⟩)
theorem ev_t0 {u : T3 α β γ} {j} (ha : Ev X a σ B u) (hs : PlainIx (.Constant (.int 0) j p) := by exact fun _ _ => rfl) : Ev X (.Subscript a (.Constant (.int 0) j p) pos) σ B u.a := fun H s Q q =>
  rd_mkL (pe_ix ix_tup pe_rd pe_int hs) (ha H s _ fun v B1 H1 _ n r => by
    obtain ⟨p, v1, v2, v3, rfl, hp, r1, r2, r3⟩ := r
    exact ⟨p, _, ((0 : Nat) : Int), v1, rfl, rfl, .inl (.inl (n.bh p _ hp)), atI_nat rfl, fun hl => q v1 B1 H1 hl n r1⟩)
theorem ev_t1 {u : T3 α β γ} {j} (ha : Ev X a σ B u) (hs : PlainIx (.Constant (.int 1) j p) := by exact fun _ _ => rfl) : Ev X (.Subscript a (.Constant (.int 1) j p) pos) σ B u.b := fun H s Q q =>
  rd_mkL (pe_ix ix_tup pe_rd pe_int hs) (ha H s _ fun v B1 H1 _ n r => by
    obtain ⟨p, v1, v2, v3, rfl, hp, r1, r2, r3⟩ := r
    exact ⟨p, _, ((1 : Nat) : Int), v2, rfl, rfl, .inl (.inl (n.bh p _ hp)), atI_nat rfl, fun hl => q v2 B1 H1 hl n r2⟩)
theorem ev_t2 {u : T3 α β γ} {j} (ha : Ev X a σ B u) (hs : PlainIx (.Constant (.int 2) j p) := by exact fun _ _ => rfl) : Ev X (.Subscript a (.Constant (.int 2) j p) pos) σ B u.c := fun H s Q q =>
  rd_mkL (pe_ix ix_tup pe_rd pe_int hs) (ha H s _ fun v B1 H1 _ n r => by
    obtain ⟨p, v1, v2, v3, rfl, hp, r1, r2, r3⟩ := r
    exact ⟨p, _, ((2 : Nat) : Int), v3, rfl, rfl, .inl (.inl (n.bh p _ hp)), atI_nat rfl, fun hl => q v3 B1 H1 hl n r3⟩)
/-- one[:2] of three -/
theorem ev_slT2 {u : T3 α β γ} {p2 : Pos} {j} (ha : Ev X a σ B u) : Ev X (.Subscript a (.Slice none (some (.Constant (.int 2) j p)) none p2) pos) σ B (u.a, u.b) := fun H s Q q =>
  rd_mkL (pe_slice sl_tup pe_rd po_none (po_some pe_int)) (ha H s _ fun v B1 H1 _ n r => by
    obtain ⟨p, v1, v2, v3, rfl, hp, r1, r2, r3⟩ := r
    refine ⟨2, rfl, p, [v1, v2, v3], rfl, .inl (.inl (n.bh p _ hp)), (fun h => absurd h.2 (by rw [show HT.sIx [v1, v2, v3].length [v1, v2, v3].length (some (2 : Int)) = min 2 3 from HT.sIx_nat 3 3 2]; exact (by decide : ¬ (min 2 3 = 3)))), fun t ht hl => ?_⟩
    have n2 := Nw.new (o := .tup [v1, v2]) n.bh ht
    exact q _ _ _ hl (n.trans n2) ⟨t, v1, v2, rfl, upd_same, Rp.mono n2.bb r1, Rp.mono n2.bb r2⟩)
/-- xs[1:] -/
theorem evf_sl1 {xs : List α} {p2 : Pos} {j} (ha : Ev X a σ B xs) : EvF X (.Subscript a (.Slice (some (.Constant (.int 1) j p)) none none p2) pos) σ B (xs.drop 1) := fun H s Q q =>
  rd_mkL (pe_slice sl_list pe_rd (po_some pe_int) po_none) (ha H s _ fun v B1 H1 _ n r => by
    obtain ⟨p, vs, rfl, hp, l⟩ := r
    refine ⟨1, rfl, p, vs, rfl, .inl (.inl (n.bh p _ hp)), fun t ht hl => ?_⟩
    refine q t _ B1 _ hl (n.trans (Nw.grow n.bh (same_new ht))) (n.hh.free ht) (n.bh.free ht) upd_same ?_
    have e : cutV vs (some 1) none = vs.drop 1 := by
      unfold cutV
      rw [show HT.sIx vs.length 0 (some 1) = min 1 vs.length from HT.sIx_nat vs.length 0 1, HT.sIx_none]
      cases vs with
      | nil => rfl
      | cons x r =>
        rw [show min 1 (x :: r).length = 1 by rw [List.length_cons]; omega]
        show (List.take ((x :: r).length - 1) r) = r
        rw [List.length_cons, Nat.add_sub_cancel]
        exact List.take_length
    rw [e]
    refine ⟨by rw [List.length_drop, List.length_drop, l.1], fun i c hc => ?_⟩
    rw [List.getElem?_drop] at hc ⊢
    exact l.2 _ c hc)

/-! ### built-ins -/
theorem rd_blt {n : Str} {id : String} {r : List V → Hp → VK → Prop} {Q : VK} (hc : CallR X (.builtin id) r) (hm : X.mg n = none) (hv : bootBuiltins n = some (.builtin id)) (h : rdA X (e :: es) σ H fun vs H1 => r vs H1 fun v H' => HLen H' → Q v H') (hg : Gl X n := by rfl)
    (hn : n ≠ "__name__" := by decide) (hdb : (n == ("__debug__" : Str)) = false := by decide) (he : NS X e es := by rfl) (hpl : (backTo pos (starEach es X.env)).any (·.1) = false := by rfl) : rd X (.Call (.Name n p) (e :: es) [] pos) σ H Q :=
  rd_mkL (pe_callB hc hg hm hv pa_rd hn hdb he hpl) h
theorem rd_ty {n : Str} {T : String} {r : List V → Hp → VK → Prop} {Q : VK} (hc : CallR X (.type T) r) (hm : X.mg n = none) (hv : bootBuiltins n = some (.type T)) (h : rdA X (e :: es) σ H fun vs H1 => r vs H1 fun v H' => HLen H' → Q v H') (hg : Gl X n := by rfl)
    (hn : n ≠ "__name__" := by decide) (hdb : (n == ("__debug__" : Str)) = false := by decide) (he : NS X e es := by rfl) (hpl : (backTo pos (starEach es X.env)).any (·.1) = false := by rfl) : rd X (.Call (.Name n p) (e :: es) [] pos) σ H Q :=
  rd_mkL (pe_callTy hc hg hm hv pa_rd hn hdb he hpl) h
/-- one argument, told -/
theorem rdA1 {Q : List V → Hp → Prop} (h : Ev X e σ B x) (s : Same B H) (k : ∀ v B' H', HLen H' → Nw B H B' H' → R B' x v → Q [v] H') (h1 : NS X e [] := by rfl) : rdA X [e] σ H Q :=
  rdA_mk (pa_cons pe_rd pa_nil h1) (h H s _ fun v B' H' hl n r => k v B' H' hl n r)
theorem rdA2 {Q : List V → Hp → Prop} (h : Ev X a σ B x) (h' : Ev X b σ B y) (s : Same B H) (k : ∀ v w B' H', HLen H' → Nw B H B' H' → R B' x v → R B' y w → Q [v, w] H') (h1 : NS X a [b] := by rfl) (h2 : NS X b [] := by rfl) : rdA X [a, b] σ H Q :=
  rdA_mk (pa_cons pe_rd (pa_cons pe_rd pa_nil h2) h1) (h H s _ fun v B1 H1 hl n r => h'.mono n.bb H1 n.bh _ fun w B' H' hl n2 r2 => k v w B' H' hl (n.trans n2) (Rp.mono n2.bb r) r2)
theorem ev_len {xs : List α} (h : Ev X e σ B xs) (hm : X.mg "len" = none) (hg : Gl X "len" := by rfl) (h1 : NS X e [] := by rfl) : Ev X (.Call (.Name "len" p) [e] [] pos) σ B xs.length := fun H s Q q =>
  rd_blt call_len_seq hm PySem.boot_len (rdA1 h s (fun v B' H' _ n r => by
    obtain ⟨p, vs, rfl, hp, l⟩ := r
    exact ⟨p, vs, rfl, .inl (.inl (.inl (n.bh p _ hp))), fun hl => q _ B' H' hl n (by show V.int _ = V.int _; rw [l.1])⟩) h1) hg (by decide) (by decide) h1
theorem ev_lenP {u : α × β} (h : Ev X e σ B u) (hm : X.mg "len" = none) (hg : Gl X "len" := by rfl) (h1 : NS X e [] := by rfl) : Ev X (.Call (.Name "len" p) [e] [] pos) σ B (2 : Nat) := fun H s Q q =>
  rd_blt call_len_seq hm PySem.boot_len (rdA1 h s (fun v B' H' _ n r => by
    obtain ⟨p, v1, v2, rfl, hp, l⟩ := r
    exact ⟨p, _, rfl, .inr (.inl (.inl (n.bh p _ hp))), fun hl => q _ B' H' hl n rfl⟩) h1) hg (by decide) (by decide) h1
theorem ev_lenT {u : T3 α β γ} (h : Ev X e σ B u) (hm : X.mg "len" = none) (hg : Gl X "len" := by rfl) (h1 : NS X e [] := by rfl) : Ev X (.Call (.Name "len" p) [e] [] pos) σ B (3 : Nat) := fun H s Q q =>
  rd_blt call_len_seq hm PySem.boot_len (rdA1 h s (fun v B' H' _ n r => by
    obtain ⟨p, v1, v2, v3, rfl, hp, l⟩ := r
    exact ⟨p, _, rfl, .inr (.inl (.inl (n.bh p _ hp))), fun hl => q _ B' H' hl n rfl⟩) h1) hg (by decide) (by decide) h1
theorem evf_list {xs : List α} (h : Ev X e σ B xs) (hm : X.mg "list" = none) (hg : Gl X "list" := by rfl) (h1 : NS X e [] := by rfl) : EvF X (.Call (.Name "list" p) [e] [] pos) σ B xs := fun H s Q q =>
  rd_ty call_list_of hm boot_list (rdA1 h s (fun v B' H' _ n r => by
    obtain ⟨p, vs, rfl, hp, l⟩ := r
    exact ⟨p, vs, rfl, .inl (.inl (.inl (n.bh p _ hp))), fun t ht hl => q t vs B' _ hl (n.trans (Nw.grow n.bh (same_new ht))) (n.hh.free ht) (n.bh.free ht) upd_same l⟩) h1) hg (by decide) (by decide) h1
theorem ev_min2 {m n : Nat} (ha : Ev X a σ B m) (hb : Ev X b σ B n) (hm : X.mg "min" = none) (hc : X.calm = true := by rfl) (hg : Gl X "min" := by rfl) (h1 : NS X a [b] := by rfl) (h2 : NS X b [] := by rfl) (hpl : (backTo pos (starEach [b] X.env)).any (·.1) = false := by rfl) : Ev X (.Call (.Name "min" p) [a, b] [] pos) σ B (min m n) := fun H s Q q =>
  rd_blt (call_min2 hc) hm boot_min (rdA2 ha hb s (fun v w B' H' _ k r r2 => ⟨m, n, by cases (show v = _ from r); cases (show w = _ from r2); rfl, fun hl => q _ B' H' hl k (by
    show V.int _ = V.int _
    congr 1
    by_cases h : (n : Int) < m
    · rw [if_pos h]; omega
    · rw [if_neg h]; omega)⟩) h1 h2) hg (by decide) (by decide) h1 hpl
theorem ev_max2 {m n : Nat} (ha : Ev X a σ B m) (hb : Ev X b σ B n) (hm : X.mg "max" = none) (hc : X.calm = true := by rfl) (hg : Gl X "max" := by rfl) (h1 : NS X a [b] := by rfl) (h2 : NS X b [] := by rfl) (hpl : (backTo pos (starEach [b] X.env)).any (·.1) = false := by rfl) : Ev X (.Call (.Name "max" p) [a, b] [] pos) σ B (max m n) := fun H s Q q =>
  rd_blt (call_max2 hc) hm boot_max (rdA2 ha hb s (fun v w B' H' _ k r r2 => ⟨m, n, by cases (show v = _ from r); cases (show w = _ from r2); rfl, fun hl => q _ B' H' hl k (by
    show V.int _ = V.int _
    congr 1
    by_cases h : (n : Int) > m
    · rw [if_pos h]; omega
    · rw [if_neg h]; omega)⟩) h1 h2) hg (by decide) (by decide) h1 hpl
theorem lr_bl {bs : List Bool} {vs : List V} (l : LR B bs vs) : vs = bs.map V.bl := by
  refine List.ext_getElem? fun i => ?_
  rw [List.getElem?_map]
  cases h : bs[i]? with
  | none =>
    have : vs.length ≤ i := by rw [l.1]; exact List.getElem?_eq_none_iff.mp h
    exact List.getElem?_eq_none_iff.mpr this
  | some b =>
    obtain ⟨v, hv, r⟩ := l.2 i b h
    rw [hv]; exact congrArg some r
theorem lr_nat {ns : List Nat} {vs : List V} (l : LR B ns vs) : vs = (ns.map fun (n : Nat) => (n : Int)).map V.int := by
  refine List.ext_getElem? fun i => ?_
  rw [List.getElem?_map, List.getElem?_map]
  cases h : ns[i]? with
  | none =>
    have : vs.length ≤ i := by rw [l.1]; exact List.getElem?_eq_none_iff.mp h
    exact List.getElem?_eq_none_iff.mpr this
  | some b =>
    obtain ⟨v, hv, r⟩ := l.2 i b h
    rw [hv]; exact congrArg some r
theorem ev_all {bs : List Bool} (h : Ev X e σ B bs) (hm : X.mg "all" = none) (hc : X.calm = true := by rfl) (hg : Gl X "all" := by rfl) (h1 : NS X e [] := by rfl) : Ev X (.Call (.Name "all" p) [e] [] pos) σ B (bs.all id) := fun H s Q q =>
  rd_blt (cr_all hc) hm PyProof.Rows.boot_all (rdA1 h s (fun v B' H' _ n r => by
    obtain ⟨p, vs, rfl, hp, l⟩ := r
    exact ⟨p, bs, rfl, .inl (.inl (by rw [n.bh p _ hp, lr_bl l])), fun hl => q _ B' H' hl n rfl⟩) h1) hg (by decide) (by decide) h1
theorem ev_any {bs : List Bool} (h : Ev X e σ B bs) (hm : X.mg "any" = none) (hc : X.calm = true := by rfl) (hg : Gl X "any" := by rfl) (h1 : NS X e [] := by rfl) : Ev X (.Call (.Name "any" p) [e] [] pos) σ B (bs.any id) := fun H s Q q =>
  rd_blt (cr_any hc) hm PyProof.Rows.boot_any (rdA1 h s (fun v B' H' _ n r => by
    obtain ⟨p, vs, rfl, hp, l⟩ := r
    exact ⟨p, bs, rfl, .inl (.inl (by rw [n.bh p _ hp, lr_bl l])), fun hl => q _ B' H' hl n rfl⟩) h1) hg (by decide) (by decide) h1
theorem sum_cast : ∀ ns : List Nat, (ns.map fun (n : Nat) => (n : Int)).sum = ((ns.sum : Nat) : Int)
  | [] => rfl
  | n :: ns => by rw [List.map_cons, List.sum_cons, List.sum_cons, sum_cast ns, Int.natCast_add]
theorem ev_sum {ns : List Nat} (h : Ev X e σ B ns) (hm : X.mg "sum" = none) (hc : X.calm = true := by rfl) (hg : Gl X "sum" := by rfl) (h1 : NS X e [] := by rfl) : Ev X (.Call (.Name "sum" p) [e] [] pos) σ B ns.sum := fun H s Q q =>
  rd_blt (cr_sum hc) hm boot_sum (rdA1 h s (fun v B' H' _ n r => by
    obtain ⟨p, vs, rfl, hp, l⟩ := r
    exact ⟨p, ns.map fun (n : Nat) => (n : Int), rfl, .inl (.inl (by rw [n.bh p _ hp, lr_nat l])), fun hl => q _ B' H' hl n (by show V.int _ = V.int _; rw [sum_cast])⟩) h1) hg (by decide) (by decide) h1
theorem evf_cat {xs ys : List α} (ha : Ev X a σ B xs) (hb : Ev X b σ B ys) (hz : xs.length + ys.length ≤ 100000) : EvF X (.BinOp a .Add b pos) σ B (xs ++ ys) := fun H s Q q =>
  rd_mkL (pe_op op_cat pe_rd pe_rd) (ha H s _ fun u B1 H1 _ n1 r1 => (hb.mono n1.bb) H1 n1.bh _ fun v B2 H2 _ n2 r2 => by
    obtain ⟨p, vs, rfl, hp, l⟩ := r1
    obtain ⟨p2, ws, rfl, hp2, l2⟩ := r2
    refine ⟨p, p2, vs, ws, rfl, rfl, n2.hh p _ (n1.bh p _ hp), n2.bh p2 _ hp2, by rw [l.1, l2.1]; exact Nat.le_trans hz (by decide), fun t ht hl => ?_⟩
    exact q t _ B2 _ hl ((n1.trans n2).trans (Nw.grow n2.bh (same_new ht))) (n1.hh.free (n2.hh.free ht)) (n2.bh.free ht) upd_same ((l.mono n2.bb).append l2))
/-- [None] * n -/
theorem evf_rep {xs : List α} {n : Nat} (ha : Ev X a σ B xs) (hb : Ev X b σ B n) (hz : xs.length * n ≤ 100000) (hn : n ≤ 100000) : EvF X (.BinOp a .Mult b pos) σ B (List.replicate n xs).flatten := fun H s Q q =>
  rd_mkL (pe_op op_rep pe_rd pe_rd) (ha H s _ fun u B1 H1 _ n1 r1 => (hb.mono n1.bb) H1 n1.bh _ fun v B2 H2 _ n2 r2 => by
    obtain ⟨p, vs, rfl, hp, l⟩ := r1
    cases (show v = _ from r2)
    refine ⟨p, n, vs, rfl, rfl, n2.hh p _ (n1.bh p _ hp), by omega, by omega, by rw [l.1]; exact Nat.le_trans hz (by decide), fun t ht hl => ?_⟩
    refine q t _ B2 _ hl ((n1.trans n2).trans (Nw.grow n2.bh (same_new ht))) (n1.hh.free (n2.hh.free ht)) (n2.bh.free ht) upd_same ?_
    show LR B2 (List.replicate n xs).flatten (List.replicate n vs).flatten
    have l2 := l.mono n2.bb
    induction n with
    | zero => exact LR.nil
    | succ m ih =>
      rw [List.replicate_succ, List.replicate_succ, List.flatten_cons, List.flatten_cons]
      have : ∀ k, LR B2 (List.replicate k xs).flatten (List.replicate k vs).flatten := fun k => by
        induction k with
        | zero => exact LR.nil
        | succ j ih => rw [List.replicate_succ, List.replicate_succ, List.flatten_cons, List.flatten_cons]; exact l2.append ih
      exact l2.append (this m))
end

/-! ### flat data: in, not in -/
class Fl (α : Type) [Rp α] where
  tv : α → V
  eq : ∀ {B : Hp} {a : α} {v : V}, R B a v → v = tv a
  fl : ∀ a, flatV (tv a) = true
  inj : ∀ a b, eqV (tv a) (tv b) = true ↔ a = b
instance : Fl Nat := ⟨fun n => .int n, fun h => h, fun _ => rfl, fun a b => by simp [eqV]; omega⟩
instance : Fl Str := ⟨fun n => .str n, fun h => h, fun _ => rfl, fun a b => by simp [eqV]⟩
instance : Fl (Option Nat) := ⟨fun o => match o with | none => .non | some n => .int n, fun {B a v} h => by cases a <;> exact h, fun a => by cases a <;> rfl, fun a b => by cases a <;> cases b <;> simp [eqV]; omega⟩
section
variable {α β γ δ : Type} [Rp α] [Fl α] [DecidableEq α]
variable {X : Cx} {e a b c : Expr} {es : List Expr} {σ : L2.St} {B B' H : Hp} {x y z : α} {pos p : Pos}
theorem lr_fl {xs : List α} {vs : List V} (l : LR B xs vs) : vs = xs.map Fl.tv := by
  refine List.ext_getElem? fun i => ?_
  rw [List.getElem?_map]
  cases h : xs[i]? with
  | none =>
    have : vs.length ≤ i := by rw [l.1]; exact List.getElem?_eq_none_iff.mp h
    exact List.getElem?_eq_none_iff.mpr this
  | some b =>
    obtain ⟨v, hv, r⟩ := l.2 i b h
    rw [hv]; exact congrArg some (Fl.eq r)
theorem fl_in {xs : List α} : inV (Fl.tv x) (xs.map Fl.tv) = decide (x ∈ xs) := by
  unfold inV
  rw [List.any_map, Bool.eq_iff_iff, decide_eq_true_iff, List.any_eq_true]
  constructor
  · rintro ⟨y, hy, h⟩
    rw [← (Fl.inj y x).mp h]; exact hy
  · exact fun h => ⟨x, h, (Fl.inj x x).mpr rfl⟩
theorem fl_all (xs : List α) : (xs.map Fl.tv).all flatV = true := by
  rw [List.all_map, List.all_eq_true]
  exact fun y _ => Fl.fl y
theorem cm_in {xs : List α} (ha : Ev X a σ B x) (hb : Ev X b σ B xs) (hm : behindInMarks .In b = false := by rfl) : Cm X (.Compare a [.In] [b] pos) σ B (decide (x ∈ xs)) :=
  cm_two op_in_seq hm ha hb fun B1 H1 s u v ru rv Q q => by
    obtain ⟨p, vs, rfl, hp, l⟩ := rv
    have e1 := Fl.eq ru
    have e2 := lr_fl l
    subst e1 e2
    refine ⟨p, _, rfl, .inl (.inl (.inl (s p _ hp))), Fl.fl x, fl_all xs, ?_⟩
    rw [if_neg Bool.false_ne_true, fl_in]
    exact q
theorem cm_nin {xs : List α} (ha : Ev X a σ B x) (hb : Ev X b σ B xs) (hm : behindInMarks .NotIn b = false := by rfl) : Cm X (.Compare a [.NotIn] [b] pos) σ B (!decide (x ∈ xs)) :=
  cm_two op_notIn_seq hm ha hb fun B1 H1 s u v ru rv Q q => by
    obtain ⟨p, vs, rfl, hp, l⟩ := rv
    have e1 := Fl.eq ru
    have e2 := lr_fl l
    subst e1 e2
    refine ⟨p, _, rfl, .inl (.inl (.inl (s p _ hp))), Fl.fl x, fl_all xs, ?_⟩
    rw [if_pos rfl, fl_in]
    exact q
theorem cm_inP (ha : Ev X a σ B x) (hb : Ev X b σ B (y, z)) (hm : behindInMarks .In b = false := by rfl) : Cm X (.Compare a [.In] [b] pos) σ B (decide (x ∈ [y, z])) :=
  cm_two op_in_seq hm ha hb fun B1 H1 s u v ru rv Q q => by
    obtain ⟨p, v1, v2, rfl, hp, r1, r2⟩ := rv
    have e1 := Fl.eq ru
    have e2 := Fl.eq r1
    have e3 := Fl.eq r2
    subst e1 e2 e3
    refine ⟨p, [y, z].map Fl.tv, rfl, .inr (.inl (.inl (s p _ hp))), Fl.fl x, fl_all [y, z], ?_⟩
    rw [if_neg Bool.false_ne_true, fl_in]
    exact q
theorem cm_ninP (ha : Ev X a σ B x) (hb : Ev X b σ B (y, z)) (hm : behindInMarks .NotIn b = false := by rfl) : Cm X (.Compare a [.NotIn] [b] pos) σ B (!decide (x ∈ [y, z])) :=
  cm_two op_notIn_seq hm ha hb fun B1 H1 s u v ru rv Q q => by
    obtain ⟨p, v1, v2, rfl, hp, r1, r2⟩ := rv
    have e1 := Fl.eq ru
    have e2 := Fl.eq r1
    have e3 := Fl.eq r2
    subst e1 e2 e3
    refine ⟨p, [y, z].map Fl.tv, rfl, .inr (.inl (.inl (s p _ hp))), Fl.fl x, fl_all [y, z], ?_⟩
    rw [if_pos rfl, fl_in]
    exact q
end

/-! ### the three kinds -/
def Kd.str : Kd → Str
  | .clear => "clear"
  | .own => "own"
  | .bad => "bad"
instance : Rp Kd := ⟨fun _ k v => v = .str k.str, fun _ h => h⟩
instance : Fl Kd := ⟨fun n => .str n.str, fun h => h, fun _ => rfl, fun a b => by cases a <;> cases b <;> simp [eqV, Kd.str] <;> decide +kernel⟩
/-! ### data as a whole: ==, sorted -/
class Dd (α : Type) [Rp α] where
  enc : α → PyData
  dp : ∀ {K : PySem.W.Frag} {B : Hp} {a : α} {v : V}, R B a v → Dp K B v (enc a)
  lay : ∀ a, (enc a).canLay0 = true
  dep : Nat
  hdep : ∀ a, (enc a).depth ≤ dep
instance : Dd Nat := ⟨fun n => .int n, fun {K B a v} r => by cases (show v = _ from r); exact .int _, fun a => by simp [PyData.canLay0], 0, fun a => by simp [PyData.depth]⟩
instance : Dd Bool := ⟨fun n => .bool n, fun {K B a v} r => by cases (show v = _ from r); exact .bl _, fun a => by simp [PyData.canLay0], 0, fun a => by simp [PyData.depth]⟩
instance : Dd Kd := ⟨fun n => .str n.str, fun {K B a v} r => by cases (show v = _ from r); exact .str _, fun a => by cases a <;> decide +kernel, 0, fun a => by simp [PyData.depth]⟩
section
variable {α β γ : Type} [Rp α] [Rp β] [Rp γ] [Dd α] [Dd β] [Dd γ]
theorem dp_all {K : PySem.W.Frag} {B : Hp} : ∀ {xs : List α} {vs : List V}, LR B xs vs → DpAll K B vs (xs.map Dd.enc)
  | [], vs, l => by
    have : vs = [] := List.eq_nil_of_length_eq_zero l.1
    subst this; exact .nil
  | x :: xs, [], l => by have := l.1; cases this
  | x :: xs, v :: vs, l => .cons (Dd.dp l.tail.1) (dp_all l.tail.2)
theorem lay_all : ∀ xs : List α, PyData.canLayAll0 (xs.map Dd.enc) = true
  | [] => by simp [PyData.canLayAll0]
  | x :: xs => by simp [PyData.canLayAll0, Dd.lay x, lay_all xs]
theorem dep_all : ∀ xs : List α, PyData.depthAll (xs.map Dd.enc) ≤ Dd.dep (α := α)
  | [] => by simp [PyData.depthAll]
  | x :: xs => by
    have h1 := Dd.hdep x
    have h2 := dep_all xs
    simp only [List.map_cons, PyData.depthAll]
    omega
instance : Dd (List α) := ⟨fun xs => .list (xs.map Dd.enc), fun {K B a v} ⟨p, vs, e, h, l⟩ => by cases e; exact .lst (.inl (.inl h)) (dp_all l), fun a => by simp only [PyData.canLay0]; exact lay_all a, Dd.dep (α := α) + 1, fun a => by
  simp only [PyData.depth]
  have := dep_all a
  omega⟩
instance : Dd (α × β) := ⟨fun x => .tuple [Dd.enc x.1, Dd.enc x.2], fun {K B a v} ⟨p, v1, v2, e, h, r1, r2⟩ => by cases e; exact .tup (.inl (.inl h)) (.cons (Dd.dp r1) (.cons (Dd.dp r2) .nil)),
  fun a => by simp [PyData.canLay0, PyData.canLayAll0, Dd.lay], max (Dd.dep (α := α)) (Dd.dep (α := β)) + 1, fun a => by
  have h1 := Dd.hdep a.1
  have h2 := Dd.hdep a.2
  simp only [PyData.depth, PyData.depthAll]
  omega⟩
instance : Dd (T3 α β γ) := ⟨fun x => .tuple [Dd.enc x.a, Dd.enc x.b, Dd.enc x.c], fun {K B a v} ⟨p, v1, v2, v3, e, h, r1, r2, r3⟩ => by cases e; exact .tup (.inl (.inl h)) (.cons (Dd.dp r1) (.cons (Dd.dp r2) (.cons (Dd.dp r3) .nil))),
  fun a => by simp [PyData.canLay0, PyData.canLayAll0, Dd.lay], max (Dd.dep (α := α)) (max (Dd.dep (α := β)) (Dd.dep (α := γ))) + 1, fun a => by
  have h1 := Dd.hdep a.a
  have h2 := Dd.hdep a.b
  have h3 := Dd.hdep a.c
  simp only [PyData.depth, PyData.depthAll]
  omega⟩
instance : Dd (Option α) := ⟨fun x => match x with | none => .none | some a => Dd.enc a, fun {K B a v} r => by
  cases a with
  | none => cases (show v = _ from r); exact .non
  | some a => exact Dd.dp (show R B a v from r), fun a => by cases a <;> simp [PyData.canLay0, Dd.lay], Dd.dep (α := α), fun a => by
  cases a with
  | none => simp [PyData.depth]
  | some a => exact Dd.hdep a⟩
theorem shaped_enc (a : α) (h : Dd.dep (α := α) ≤ 60) : SeqAt.shaped (Dd.enc a) = true := by
  show ((Dd.enc a).canLay0 && decide ((Dd.enc a).depth ≤ 64)) = true
  have := Dd.hdep a
  rw [Bool.and_eq_true]
  exact ⟨Dd.lay a, decide_eq_true (by omega)⟩
end
section
variable {α β γ : Type} [Rp α] [Rp β] [Rp γ] [Dd α] [Dd β] [Dd γ]
variable {X : Cx} {e a b c : Expr} {es : List Expr} {σ : L2.St} {B B' H : Hp} {x y : α} {pos p : Pos}
theorem cm_eqD (ha : Ev X a σ B x) (hb : Ev X b σ B y) (hu : X.A.units + 64 < cLine) (hd : Dd.dep (α := α) ≤ 60 := by decide) : Cm X (.Compare a [.Eq] [b] pos) σ B (PyData.eqv (Dd.enc x) (Dd.enc y)) :=
  cm_two (op_eqD hu) (nomark _) ha hb fun B1 H1 s u v ru rv Q q => ⟨_, _, Dd.dp (Rp.mono s ru), Dd.dp (Rp.mono s rv), shaped_enc x hd, shaped_enc y hd, q⟩
theorem cm_neD (ha : Ev X a σ B x) (hb : Ev X b σ B y) (hu : X.A.units + 64 < cLine) (hd : Dd.dep (α := α) ≤ 60 := by decide) : Cm X (.Compare a [.NotEq] [b] pos) σ B (!PyData.eqv (Dd.enc x) (Dd.enc y)) :=
  cm_two (op_neD hu) (nomark _) ha hb fun B1 H1 s u v ru rv Q q => ⟨_, _, Dd.dp (Rp.mono s ru), Dd.dp (Rp.mono s rv), shaped_enc x hd, shaped_enc y hd, q⟩
theorem eqv_nil (xs : List α) : PyData.eqv (Dd.enc xs) (Dd.enc ([] : List α)) = xs.isEmpty := by
  cases xs with
  | nil => simp [Dd.enc, PyData.eqv, PyData.eqvAll]
  | cons x xs => simp [Dd.enc, PyData.eqv, PyData.eqvAll]
/-- xs == [], xs != [] -/
theorem cm_eqNil {xs : List α} (ha : Ev X a σ B xs) (hu : X.A.units + 64 < cLine) {p2 : Pos} (hd : Dd.dep (α := List α) ≤ 60 := by decide) : Cm X (.Compare a [.Eq] [.List [] p2] pos) σ B xs.isEmpty :=
  (cm_eqD ha (ev_lst0 (α := α)).ev hu hd).to (eqv_nil xs)
theorem cm_neNil {xs : List α} (ha : Ev X a σ B xs) (hu : X.A.units + 64 < cLine) {p2 : Pos} (hd : Dd.dep (α := List α) ≤ 60 := by decide) : Cm X (.Compare a [.NotEq] [.List [] p2] pos) σ B (!xs.isEmpty) :=
  (cm_neD ha (ev_lst0 (α := α)).ev hu hd).to (by rw [eqv_nil])
/-- x in xs, items of any depth -/
theorem cm_inD {xs : List α} (ha : Ev X a σ B x) (hb : Ev X b σ B xs) (hu : X.A.units + 65 < cLine) (hm : behindInMarks .In b = false := by rfl) (hd : Dd.dep (α := List α) ≤ 60 := by decide) : Cm X (.Compare a [.In] [b] pos) σ B ((xs.map Dd.enc).any fun z => PyData.eqv z (Dd.enc x)) :=
  cm_two (op_inD hu) hm ha hb fun B1 H1 s u v ru rv Q q => ⟨_, _, Dd.dp (Rp.mono s ru), Dd.dp (Rp.mono s rv), shaped_enc x (Nat.le_trans (Nat.le_succ _) hd), shaped_enc xs hd, q⟩
end
/-- data that can be sorted -/
class Sd (α : Type) [Rp α] [Dd α] where
  al : ∀ a b : α, PySem.W.alike (Dd.enc a) (Dd.enc b) = true
  so : ∀ bs : List α, PySem.W.Sortable (bs.map Dd.enc)
instance : Sd Nat := ⟨fun a b => by simp [Dd.enc, PySem.W.alike], fun bs => PySem.W.Sortable.others fun b => ⟨by simp [Dd.enc], by simp [Dd.enc]⟩⟩
section
variable {α β γ : Type} [Rp α] [Rp β] [Rp γ] [Dd α] [Dd β] [Dd γ] [Sd α] [Sd β] [Sd γ]
theorem al_all : ∀ xs ys : List α, PySem.W.alikeAll (xs.map Dd.enc) (ys.map Dd.enc) = true
  | [], _ => by simp [PySem.W.alikeAll]
  | _ :: _, [] => by simp [PySem.W.alikeAll]
  | x :: xs, y :: ys => by simp [PySem.W.alikeAll, Sd.al x y, al_all xs ys]
instance : Sd (List α) := ⟨fun a b => by simp only [Dd.enc, PySem.W.alike]; exact al_all a b, fun bs => PySem.W.Sortable.others fun b => ⟨by simp [Dd.enc], by simp [Dd.enc]⟩⟩
instance : Sd (α × β) := ⟨fun a b => by simp [Dd.enc, PySem.W.alike, PySem.W.alikeAll, Sd.al], fun bs => PySem.W.Sortable.tuples fun b => ⟨Dd.enc b.1, [Dd.enc b.2], rfl⟩⟩
instance : Sd (T3 α β γ) := ⟨fun a b => by simp [Dd.enc, PySem.W.alike, PySem.W.alikeAll, Sd.al], fun bs => PySem.W.Sortable.tuples fun b => ⟨Dd.enc b.a, [Dd.enc b.b, Dd.enc b.c], rfl⟩⟩
/-- the order of data -/
def dle (a b : α) : Bool := PySem.W.dataLe false Dd.enc a b
def srt (xs : List α) : List α := xs.mergeSort dle
theorem srt_perm (xs : List α) : (srt xs).Perm xs := List.mergeSort_perm _ _
theorem each_of {B : Hp} : ∀ {xs : List α} {vs : List V} {us : List Value}, LR B xs vs → Vals vs us → PySem.W.EachIs (fun u x => ∃ v, RelV v u ∧ R B x v) us xs
  | [], vs, us, l, r => by
    have : vs = [] := List.eq_nil_of_length_eq_zero l.1
    subst this; cases r; exact .nil
  | x :: xs, [], us, l, r => by have := l.1; cases this
  | x :: xs, v :: vs, us, l, r => by
    cases r with
    | cons r1 r2 => exact .cons ⟨v, r1, l.tail.1⟩ (each_of l.tail.2 r2)
theorem of_each {B : Hp} : ∀ {xs : List α} {us : List Value}, PySem.W.EachIs (fun u x => ∃ v, RelV v u ∧ R B x v) us xs → ∃ vs, Vals vs us ∧ LR B xs vs
  | _, _, .nil => ⟨[], .nil, LR.nil⟩
  | _, _, .cons ⟨v, r, h⟩ t => by
    obtain ⟨vs, h1, h2⟩ := of_each t
    exact ⟨v :: vs, .cons r h1, LR.cons h h2⟩
theorem cr_sortedD {X : Cx} (hu : X.A.units + 64 < cLine) (hd : Dd.dep (α := α) ≤ 60) : CallR X (.builtin "sorted") (fun vs H Q => ∃ (B : Hp) (p : Addr) (ws : List V) (xs : List α), vs = [.ref p] ∧ Same B H ∧ H p = some (.lst ws) ∧ LR B xs ws ∧
    ∀ q out, LR B (srt xs) out → H q = none → Q (.ref q) (upd H q (.lst out))) := by
  intro pins s σ H vs us Q I r h
  obtain ⟨B, p, ws, xs, rfl, sb, hp, l, q⟩ := h
  obtain ⟨its, rv, hl, hz⟩ := I.list (SqL.of hp)
  rw [Vals.ref1 r]
  have l2 := l.mono sb
  have e1 := each_of l rv
  have e2 : PySem.W.EachIs (fun u x => ∃ as, Reads s.heap u (Dd.enc x) as) its xs := (each_of l2 rv).mono fun u x ⟨v, hr, hx⟩ => Dp.reads I (Dd.enc x) v u (Dd.dp hx) hr
  refine PySem.W.sorted_data hl.isList e1 e2 (PySem.W.AllAlike.of fun a b => Sd.al a b) (Sd.so xs) (by rw [← l.1]; exact hz) (fun b _ => by have := Dd.hdep b; omega) fun out hlen ho => ?_
  obtain ⟨ov, h1, h2⟩ := of_each ho
  obtain ⟨ep, he'⟩ := PyProof.Rows.sortedAll_at s.heap its out.toArray
  have hlo : ov.length ≤ sizeLine := by rw [h1.length, hlen, ← l.1]; exact hz
  exact ⟨.ref _, upd H (s.heap.objs.size + 1) (.lst ov), I.laid (t' := s.toks) (fun _ _ => PyProof.Rows.sortedAll_old) (Nat.le_succ _) ⟨hlo, out, ep, h1, he'⟩, rfl, q _ ov h2 (I.hok.fresh (Nat.le_succ _))⟩
theorem evf_sorted {X : Cx} {e : Expr} {σ : L2.St} {B : Hp} {xs : List α} {pos p : Pos} (h : Ev X e σ B xs) (hu : X.A.units + 64 < cLine) (hm : X.mg "sorted" = none) (hd : Dd.dep (α := α) ≤ 60 := by decide) (hg : Gl X "sorted" := by rfl) (h1 : NS X e [] := by rfl) :
    EvF X (.Call (.Name "sorted" p) [e] [] pos) σ B (srt xs) := fun H s Q q =>
  rd_blt (cr_sortedD (α := α) hu hd) hm boot_sorted (rdA1 h s (fun v B' H' _ n r => by
    obtain ⟨p, vs, rfl, hp, l⟩ := r
    exact ⟨B', p, vs, xs, rfl, n.bh, n.bh p _ hp, l, fun t out lo ht hl => q t out B' _ hl (n.trans (Nw.grow n.bh (same_new ht))) (n.hh.free ht) (n.bh.free ht) upd_same lo⟩) h1) hg (by decide) (by decide) h1
end
/-! ### sorted numbers, sorted lanes can be reckoned -/
theorem ins_perm {α : Type} (le : α → α → Bool) (x : α) : ∀ xs : List α, (ins le x xs).Perm (x :: xs)
  | [] => .refl _
  | y :: ys => by
    unfold ins
    split
    · exact .refl _
    · exact (List.Perm.cons y (ins_perm le x ys)).trans (List.Perm.swap x y ys)
theorem isort_perm {α : Type} (le : α → α → Bool) : ∀ xs : List α, (isort le xs).Perm xs
  | [] => .refl _
  | x :: xs => (ins_perm le x _).trans (List.Perm.cons x (isort_perm le xs))
theorem ins_sorted {α : Type} {le : α → α → Bool} (tr : ∀ a b c, le a b = true → le b c = true → le a c = true) (tot : ∀ a b, (le a b || le b a) = true) (x : α) : ∀ {xs : List α}, xs.Pairwise (fun a b => le a b = true) → (ins le x xs).Pairwise (fun a b => le a b = true)
  | [], _ => by unfold ins; exact List.pairwise_singleton _ _
  | y :: ys, h => by
    have h1 := List.pairwise_cons.mp h
    unfold ins
    split
    · rename_i hxy
      exact List.pairwise_cons.mpr ⟨fun z hz => by
        rcases List.mem_cons.mp hz with e | e
        · rw [e]; exact hxy
        · exact tr x y z hxy (h1.1 z e), h⟩
    · rename_i hxy
      have hyx : le y x = true := by
        have := tot x y
        cases q : le x y with
        | true => exact absurd q hxy
        | false => rw [q, Bool.false_or] at this; exact this
      refine List.pairwise_cons.mpr ⟨fun z hz => ?_, ins_sorted tr tot x h1.2⟩
      rcases List.mem_cons.mp ((ins_perm le x ys).mem_iff.mp hz) with e | e
      · rw [e]; exact hyx
      · exact h1.1 z e
theorem isort_sorted {α : Type} {le : α → α → Bool} (tr : ∀ a b c, le a b = true → le b c = true → le a c = true) (tot : ∀ a b, (le a b || le b a) = true) : ∀ xs : List α, (isort le xs).Pairwise (fun a b => le a b = true)
  | [] => List.Pairwise.nil
  | x :: xs => ins_sorted tr tot x (isort_sorted tr tot xs)
theorem isort_of {α : Type} {le le' : α → α → Bool} (e : le' = le) (tr : ∀ a b c, le a b = true → le b c = true → le a c = true) (tot : ∀ a b, (le a b || le b a) = true) (anti : ∀ a b, le a b = true → le b a = true → a = b) (xs : List α) : xs.mergeSort le' = isort le xs := by
  subst e
  refine List.Perm.eq_of_pairwise (le := fun a b => le' a b = true) (fun a b _ _ h1 h2 => anti a b h1 h2) (List.pairwise_mergeSort tr tot xs) (isort_sorted tr tot xs) ((List.mergeSort_perm xs le').trans (isort_perm le' xs).symm)
theorem srt_nat (xs : List Nat) : srt xs = nsort xs := by
  refine isort_of ?_ (fun a b c h1 h2 => ?_) (fun a b => ?_) (fun a b h1 h2 => ?_) xs
  · show PySem.W.dataLe false (fun n : Nat => PyData.int ((n : Nat) : Int)) = nle
    rw [PySem.W.dataLe_int]
    funext a b
    unfold nle
    rw [decide_eq_decide]; omega
  · unfold nle at *; simp only [decide_eq_true_eq] at *; omega
  · unfold nle; simp only [Bool.or_eq_true, decide_eq_true_eq]; omega
  · unfold nle at *; simp only [decide_eq_true_eq] at *; omega
theorem srt_lane (xs : List Lane) : srt xs = lsort xs := by
  refine isort_of ?_ (fun a b c h1 h2 => ?_) (fun a b => ?_) (fun a b h1 h2 => ?_) xs
  · show PySem.W.dataLe false (fun n : Lane => PyData.tuple [.int ((n.1 : Nat) : Int), .int ((n.2 : Nat) : Int)]) = lle
    rw [PySem.W.dataLe_ii]
    funext a b
    unfold lle
    rw [decide_eq_decide]; omega
  · unfold lle at *; simp only [decide_eq_true_eq] at *; omega
  · unfold lle; simp only [Bool.or_eq_true, decide_eq_true_eq]; omega
  · unfold lle at *; simp only [decide_eq_true_eq] at *; exact Prod.ext (by omega) (by omega)
/-! ### isinstance -/
section
variable {α β γ δ : Type} [Rp α] [Rp β] [Rp γ] [Rp δ]
variable {X : Cx} {e a b c : Expr} {es : List Expr} {σ : L2.St} {B B' H : Hp} {x : α} {pos p p2 : Pos}
/-- what kind of thing stands for a datum -/
class Ty (α : Type) [Rp α] where
  ty : String
  is : ∀ {K : PySem.W.Frag} {B : Hp} {a : α} {v : V}, R B a v → TyX K B v (.type ty)
instance : Ty Nat := ⟨"int", fun {K B a v} r => by cases (show v = _ from r); exact .base (.int _)⟩
instance : Ty Str := ⟨"str", fun {K B a v} r => by cases (show v = _ from r); exact .base (.str _)⟩
instance : Ty Kd := ⟨"str", fun {K B a v} r => by cases (show v = _ from r); exact .base (.str _)⟩
instance : Ty (List α) := ⟨"list", fun {K B a v} ⟨p, vs, e, h, l⟩ => by cases e; exact .base (.lst h)⟩
instance : Ty (α × β) := ⟨"tuple", fun {K B a v} ⟨p, v1, v2, e, h, l⟩ => by cases e; exact .base (.tup h)⟩
instance : Ty (T3 α β γ) := ⟨"tuple", fun {K B a v} ⟨p, v1, v2, v3, e, h, l⟩ => by cases e; exact .base (.tup h)⟩
theorem ev_isi [Ty α] (k : Bool) {T : String} {n : Str} (ha : Ev X a σ B x) (hm : X.mg "isinstance" = none) (hT : X.mg n = none) (hv : bootBuiltins n = some (.type T)) (hk : kitB (Ty.ty α) T = some k := by decide +kernel) (hg : Gl X "isinstance" := by rfl) (hg2 : Gl X n := by rfl)
    (h1 : NS X a [.Name n p2] := by rfl) (h2 : NS X (.Name n p2) [] := by rfl) (hpl : (backTo pos (starEach [.Name n p2] X.env)).any (·.1) = false := by rfl) (hn : n ≠ "__name__" := by decide) (hdb : (n == ("__debug__" : Str)) = false := by decide) :
    Ev X (.Call (.Name "isinstance" p) [a, .Name n p2] [] pos) σ B k := fun H s Q q =>
  rd_blt call_isi hm boot_isinstance (rdA_mk (pa_cons pe_rd (pa_cons (pe_bltn (v := .ty T) hg2 hT hv rfl hn hdb) pa_nil h2) h1) (ha H s _ fun v B' H' _ n r =>
    ⟨v, .ty T, _, _, k, rfl, .ty T, Ty.is (Rp.mono n.bh r), kit_ty hk, fun hl => q _ B' H' hl n rfl⟩)) hg (by decide) (by decide) h1 hpl
/-- isinstance(x, (S, T)) -/
theorem ev_isi2 [Ty α] (k : Bool) {T S : String} {n m : Str} {p3 p4 : Pos} {k2} (ha : Ev X a σ B x) (hm : X.mg "isinstance" = none) (hT : X.mg n = none) (hv : bootBuiltins n = some (.type T)) (hT2 : X.mg m = none) (hv2 : bootBuiltins m = some (.type S))
    (hk : ((kitB (Ty.ty α) T).bind fun b => (kitB (Ty.ty α) S).bind fun c => some (b || c)) = some k := by decide +kernel) (hg : Gl X "isinstance" := by rfl) (hg2 : Gl X n := by rfl) (hg3 : Gl X m := by rfl)
    (h1 : NS X a [.Tuple [.Name n p2, .Name m p3] k2 p4] := by rfl) (h2 : NS X (.Tuple [.Name n p2, .Name m p3] k2 p4) [] := by rfl) (h3 : NS X (.Name n p2) [.Name m p3] := by rfl) (h4 : NS X (.Name m p3) [] := by rfl) (hpl : (backTo pos (starEach [.Tuple [.Name n p2, .Name m p3] k2 p4] X.env)).any (·.1) = false := by rfl)
    (hn : n ≠ "__name__" := by decide) (hdb : (n == ("__debug__" : Str)) = false := by decide) (hn2 : m ≠ "__name__" := by decide) (hdb2 : (m == ("__debug__" : Str)) = false := by decide) :
    Ev X (.Call (.Name "isinstance" p) [a, .Tuple [.Name n p2, .Name m p3] k2 p4] [] pos) σ B k := fun H s Q q =>
  rd_blt call_isiT hm boot_isinstance (rdA_mk (pa_cons pe_rd (pa_cons (pe_tup (pa_cons (pe_bltn (v := .ty T) hg2 hT hv rfl hn hdb) (pa_cons (pe_bltn (v := .ty S) hg3 hT2 hv2 rfl hn2 hdb2) pa_nil h4) h3)) pa_nil h2) h1) (ha H s _ fun v B' H' _ n r => by
    refine ⟨by show 2 ≤ sizeLine; decide, fun t ht => ?_⟩
    have nn := Nw.grow n.bh (same_new (o := .tup [.ty T, .ty S]) ht)
    refine ⟨v, t, [.ty T, .ty S], _, _, k, rfl, upd_same, .cons (.ty T) (.cons (.ty S) .nil), Ty.is (Rp.mono nn.bh r), ?_, fun hl => q _ B' _ hl (n.trans nn) rfl⟩
    cases h5 : kitB (Ty.ty α) T with
    | none => rw [h5] at hk; cases hk
    | some b =>
      cases h6 : kitB (Ty.ty α) S with
      | none => rw [h5, h6] at hk; cases hk
      | some c =>
        rw [h5, h6] at hk
        have hk' : (b || c) = k := Option.some.inj hk
        refine kitAny_cons (kit_ty h5) (fun hb => ?_) (fun hb => by rw [← hk', hb]; rfl)
        refine kitAny_cons (kit_ty h6) (fun hc => ?_) (fun hc => by rw [← hk', hb, hc]; rfl)
        rw [← hk', hb, hc]; rfl)) hg (by decide) (by decide) h1 hpl
end
end LK
/-! ## L5 -/
namespace LK
open PySem PySem.Spec PyProof.Rows L2
open Rp (R)

/-! ### countries and webs as data -/
/-- a country whose class stands at C -/
structure Cty (C : Addr) where
  lanes : List Lane
  ties : List (List Nat)
  ahead : List (List Nat)
structure Wb (C W : Addr) where
  cty : Cty C
  books : List Book
instance {C : Addr} : Rp (Cty C) := ⟨fun B c v => ∃ a dx l t h, v = .ref a ∧ B a = some (.ins C dx [("own_lanes", l), ("own_ties", t), ("own_ahead", h)]) ∧ R B c.lanes l ∧ R B c.ties t ∧ R B c.ahead h,
  fun s ⟨a, dx, l, t, h, e, ha, r1, r2, r3⟩ => ⟨a, dx, l, t, h, e, s a _ ha, Rp.mono s r1, Rp.mono s r2, Rp.mono s r3⟩⟩
instance {C W : Addr} : Rp (Wb C W) := ⟨fun B c v => ∃ a dx l t, v = .ref a ∧ B a = some (.ins W dx [("own_country", l), ("own_books", t)]) ∧ R B c.cty l ∧ R B c.books t,
  fun s ⟨a, dx, l, t, e, ha, r1, r2⟩ => ⟨a, dx, l, t, e, s a _ ha, Rp.mono s r1, Rp.mono s r2⟩⟩
/-- what isinstance asks of an own class -/
structure Own (K : PySem.W.Frag) (C : Addr) : Prop where
  cl : Cls K C
  ha : PySem.W.findIn K (.ref C) "__class__" = some (some (.builtin "object.__class__"))
  hn : PySem.W.specialIn K (.builtin "object.__class__") "__get__" = some (some (.builtin "getset_descriptor.__get__"))
  htk : PySem.W.takesIn K (.builtin "object.__class__") = some true
  hm : PySem.W.mroIn K C (.type "object") = some true
  self : PySem.W.kitOne K (.ref C) (.ref C) = some true
structure CtyOk (K : PySem.W.Frag) (mg : Str → Option Value) (C : Addr) : Prop where
  own : Own K C
  mgC : mg "Country" = some (.ref C)
  n1 : NoAttr K C "own_lanes"
  n2 : NoAttr K C "own_ties"
  n3 : NoAttr K C "own_ahead"
structure WbOk (K : PySem.W.Frag) (mg : Str → Option Value) (W : Addr) : Prop where
  own : Own K W
  mgW : mg "Web" = some (.ref W)
  n1 : NoAttr K W "own_country"
  n2 : NoAttr K W "own_books"
section
variable {X : Cx} {e a b : Expr} {σ : L2.St} {B H : Hp} {C W : Addr} {c : Cty C} {w : Wb C W} {pos p p2 : Pos}
theorem ev_cLanes (T : CtyOk X.K X.mg C) (h : Ev X e σ B c) (hb : attributeBase e "own_lanes" X.env (eval e X.env) = eval e X.env := by rfl) : Ev X (.Attribute e "own_lanes" pos) σ B c.lanes := fun H s Q q =>
  rd_mkL (pe_fld pe_rd hb) (h H s _ fun v B' H' _ n r => by
    obtain ⟨a, dx, l, t, hh, rfl, ha, r1, r2, r3⟩ := r
    exact ⟨a, C, dx, _, l, rfl, n.bh a _ ha, T.own.cl, T.n1, by rfl, fun hl => q l B' H' hl n r1⟩)
theorem ev_cTies (T : CtyOk X.K X.mg C) (h : Ev X e σ B c) (hb : attributeBase e "own_ties" X.env (eval e X.env) = eval e X.env := by rfl) : Ev X (.Attribute e "own_ties" pos) σ B c.ties := fun H s Q q =>
  rd_mkL (pe_fld pe_rd hb) (h H s _ fun v B' H' _ n r => by
    obtain ⟨a, dx, l, t, hh, rfl, ha, r1, r2, r3⟩ := r
    exact ⟨a, C, dx, _, t, rfl, n.bh a _ ha, T.own.cl, T.n2, by rfl, fun hl => q t B' H' hl n r2⟩)
theorem ev_cAhead (T : CtyOk X.K X.mg C) (h : Ev X e σ B c) (hb : attributeBase e "own_ahead" X.env (eval e X.env) = eval e X.env := by rfl) : Ev X (.Attribute e "own_ahead" pos) σ B c.ahead := fun H s Q q =>
  rd_mkL (pe_fld pe_rd hb) (h H s _ fun v B' H' _ n r => by
    obtain ⟨a, dx, l, t, hh, rfl, ha, r1, r2, r3⟩ := r
    exact ⟨a, C, dx, _, hh, rfl, n.bh a _ ha, T.own.cl, T.n3, by rfl, fun hl => q hh B' H' hl n r3⟩)
theorem ev_wCty (T : WbOk X.K X.mg W) (h : Ev X e σ B w) (hb : attributeBase e "own_country" X.env (eval e X.env) = eval e X.env := by rfl) : Ev X (.Attribute e "own_country" pos) σ B w.cty := fun H s Q q =>
  rd_mkL (pe_fld pe_rd hb) (h H s _ fun v B' H' _ n r => by
    obtain ⟨a, dx, l, t, rfl, ha, r1, r2⟩ := r
    exact ⟨a, W, dx, _, l, rfl, n.bh a _ ha, T.own.cl, T.n1, by rfl, fun hl => q l B' H' hl n r1⟩)
theorem ev_wBooks (T : WbOk X.K X.mg W) (h : Ev X e σ B w) (hb : attributeBase e "own_books" X.env (eval e X.env) = eval e X.env := by rfl) : Ev X (.Attribute e "own_books" pos) σ B w.books := fun H s Q q =>
  rd_mkL (pe_fld pe_rd hb) (h H s _ fun v B' H' _ n r => by
    obtain ⟨a, dx, l, t, rfl, ha, r1, r2⟩ := r
    exact ⟨a, W, dx, _, t, rfl, n.bh a _ ha, T.own.cl, T.n2, by rfl, fun hl => q t B' H' hl n r2⟩)
theorem ev_isC {n : Str} {α : Type} [Rp α] {x : α} (hx : ∀ B v, R B x v → ∃ a dx fs, v = .ref a ∧ B a = some (.ins C dx fs)) (T : Own X.K C) (ha : Ev X a σ B x) (hm : X.mg "isinstance" = none) (hC : X.mg n = some (.ref C)) (hg : Gl X "isinstance" := by rfl) (hg2 : Gl X n := by rfl)
    (h1 : NS X a [.Name n p2] := by rfl) (h2 : NS X (.Name n p2) [] := by rfl) (hpl : (backTo pos (starEach [.Name n p2] X.env)).any (·.1) = false := by rfl) (hdb : (n == ("__debug__" : Str)) = false := by decide) :
    Ev X (.Call (.Name "isinstance" p) [a, .Name n p2] [] pos) σ B true := fun H s Q q =>
  rd_blt call_isi hm boot_isinstance (rdA_mk (pa_cons pe_rd (pa_cons (pe_glob (v := .ref C) hg2 hC rfl hdb) pa_nil h2) h1) (ha H s _ fun v B' H' _ n r => by
    obtain ⟨a, dx, fs, rfl, hA⟩ := hx B' v r
    exact ⟨.ref a, .ref C, _, _, true, rfl, .own C, .base (.ins (n.bh a _ hA) T.cl T.ha T.hn T.htk T.hm), T.self, fun hl => q _ B' H' hl n rfl⟩)) hg (by decide) (by decide) h1 hpl
theorem ev_isCty (T : CtyOk X.K X.mg C) (ha : Ev X a σ B c) (hm : X.mg "isinstance" = none) (hg : Gl X "isinstance" := by rfl) (hg2 : Gl X "Country" := by rfl)
    (h1 : NS X a [.Name "Country" p2] := by rfl) (h2 : NS X (.Name "Country" p2) [] := by rfl) (hpl : (backTo pos (starEach [.Name "Country" p2] X.env)).any (·.1) = false := by rfl) : Ev X (.Call (.Name "isinstance" p) [a, .Name "Country" p2] [] pos) σ B true :=
  ev_isC (α := Cty C) (fun B v r => by obtain ⟨a, dx, l, t, h, e, hA, _⟩ := r; exact ⟨a, dx, _, e, hA⟩) T.own ha hm T.mgC hg hg2 h1 h2 hpl (by decide)
theorem ev_isWb (T : WbOk X.K X.mg W) (ha : Ev X a σ B w) (hm : X.mg "isinstance" = none) (hg : Gl X "isinstance" := by rfl) (hg2 : Gl X "Web" := by rfl)
    (h1 : NS X a [.Name "Web" p2] := by rfl) (h2 : NS X (.Name "Web" p2) [] := by rfl) (hpl : (backTo pos (starEach [.Name "Web" p2] X.env)).any (·.1) = false := by rfl) : Ev X (.Call (.Name "isinstance" p) [a, .Name "Web" p2] [] pos) σ B true :=
  ev_isC (α := Wb C W) (fun B v r => by obtain ⟨a, dx, l, t, e, hA, _⟩ := r; exact ⟨a, dx, _, e, hA⟩) T.own ha hm T.mgW hg hg2 h1 h2 hpl (by decide)
end
/-! ### the built-ins that the text uses -/
structure Bt (mg : Str → Option Value) : Prop where
  len : mg "len" = none
  list : mg "list" = none
  min : mg "min" = none
  max : mg "max" = none
  all : mg "all" = none
  any : mg "any" = none
  sum : mg "sum" = none
  sorted : mg "sorted" = none
  set : mg "set" = none
  range : mg "range" = none
  enumerate : mg "enumerate" = none
  zip : mg "zip" = none
  isinstance : mg "isinstance" = none
  int : mg "int" = none
  bool : mg "bool" = none
  str : mg "str" = none
  tuple : mg "tuple" = none
  dict : mg "dict" = none
  repr : mg "repr" = none
  abs : mg "abs" = none
  divmod : mg "divmod" = none
/-! ### all that the top has left -/
/-- a class's __init__ | a property's getter -/
def MkD (K : PySem.W.Frag) (C : Addr) (qual : Str) (st : Stmt) (ps : List Str) : Prop := ∃ f fd, Mk K C f ∧ Fun K "__init__" qual st f fd ∧ Binds K fd ps []
def PrD (K : PySem.W.Frag) (C : Addr) (n qual : Str) (st : Stmt) : Prop := ∃ p g fd, PropOf K C n p g ∧ Fun K n qual st g fd ∧ Binds K fd ["self"] []
/-- a number of the text's top -/
def KnD (mg : Str → Option Value) (n : Str) (k : Nat) : Prop := ∃ t, mg n = some (.int (k : Int) t)
/-- a def whose last parameters have defaults -/
def DnD (K : PySem.W.Frag) (mg : Str → Option Value) (n : Str) (st : Stmt) (ps : List Str) (dvs : List V) : Prop :=
  ∃ f fd ds, FunD K n n (defArgs st) (defBody st) (defScope st) dvs [] f fd ∧ mg n = some (.ref f) ∧ Vals dvs ds ∧ Binds K fd ps ds
/-- KINDS -/
def KiD (K : PySem.W.Frag) (mg : Str → Option Value) : Prop := ∃ a, mg "KINDS" = some (.ref a) ∧ ∀ H : Hp, SqT K H a [.str "clear", .str "own", .str "bad"]
structure Tops (K : PySem.W.Frag) (mg : Str → Option Value) (cC cW : Addr) : Prop where
  bt : Bt mg
  cty : CtyOk K mg cC
  wb : WbOk K mg cW
  k20 : KnD mg "MOST_YARDS" 7
  k21 : KnD mg "MOST_LANES" 4
  k38 : KnD mg "MOST_PLACES" 6
  k39 : KnD mg "MOST_BOUNDS" 6
  k40 : KnD mg "MOST_ALTERNATIVES" 4
  k77 : KiD K mg
  mkC : MkD K cC "Country.__init__" (inClass (topS 27) 0) ["self", "lanes"]
  prL : PrD K cC "lanes" "Country.lanes" (inClass (topS 27) 1)
  prY : PrD K cC "yards" "Country.yards" (inClass (topS 27) 2)
  mkW : MkD K cW "Web.__init__" (inClass (topS 56) 0) ["self", "country", "books"]
  prC : PrD K cW "country" "Web.country" (inClass (topS 56) 1)
  prB : PrD K cW "books" "Web.books" (inClass (topS 56) 2)
  d15 : Dn K mg "is_integer" (topS 15) ["value"]
  d16 : Dn K mg "is_count" (topS 16) ["value"]
  d17 : Dn K mg "is_list" (topS 17) ["value"]
  d18 : Dn K mg "want_at_most" (topS 18) ["what", "limit", "number"]
  d22 : Dn K mg "lane_in" (topS 22) ["value"]
  d23 : Dn K mg "ties_of" (topS 23) ["lanes"]
  d24 : Dn K mg "is_whole" (topS 24) ["ties"]
  d25 : Dn K mg "ahead_of" (topS 25) ["ties", "goal"]
  d26 : Dn K mg "lanes_in" (topS 26) ["value"]
  d28 : Dn K mg "place_count" (topS 28) ["country"]
  d29 : Dn K mg "beside" (topS 29) ["country", "place"]
  d30 : Dn K mg "yards_in" (topS 30) ["country"]
  d31 : Dn K mg "is_place" (topS 31) ["country", "value"]
  d32 : Dn K mg "is_yard" (topS 32) ["country", "value"]
  d33 : Dn K mg "is_gate" (topS 33) ["country", "value"]
  d34 : Dn K mg "want_country" (topS 34) ["value"]
  d35 : Dn K mg "want_yard" (topS 35) ["country", "value"]
  d36 : Dn K mg "want_gate" (topS 36) ["country", "value"]
  d41 : Dn K mg "pairs_at" (topS 41) ["country", "yard"]
  d42 : Dn K mg "plus_cart" (topS 42) ["load", "origin", "target"]
  d43 : Dn K mg "is_end_for" (topS 43) ["near", "value"]
  d44 : Dn K mg "is_bound_for" (topS 44) ["near", "value"]
  d45 : Dn K mg "alternative_in" (topS 45) ["near", "value"]
  d46 : Dn K mg "keeps" (topS 46) ["bound", "load"]
  d47 : Dn K mg "stands_by_one" (topS 47) ["alternative", "load"]
  d48 : Dn K mg "stands_by" (topS 48) ["book", "load"]
  d49 : Dn K mg "book_in" (topS 49) ["country", "yard", "value"]
  d50 : Dn K mg "want_book" (topS 50) ["country", "yard", "value"]
  d51 : Dn K mg "told_book" (topS 51) ["book"]
  d53 : Dn K mg "step_towards" (topS 53) ["country", "place", "goal"]
  d54 : Dn K mg "yards_behind" (topS 54) ["country", "yard", "target"]
  d57 : Dn K mg "book_at" (topS 57) ["web", "yard"]
  d58 : Dn K mg "country_of" (topS 58) ["web"]
  d59 : Dn K mg "bare_web" (topS 59) ["country", "books"]
  d60 : Dn K mg "want_web" (topS 60) ["value"]
  d62 : DnD K mg "standing_by" (topS 62) ["book", "pairs", "most"] [.non]
  d63 : Dn K mg "pairs_towards" (topS 63) ["country", "yard", "target"]
  d64 : Dn K mg "towards" (topS 64) ["web", "yard", "target"]
  d66 : Dn K mg "yard_sides" (topS 66) ["country"]
  d67 : Dn K mg "is_shut" (topS 67) ["book", "target", "load", "place"]
  d68 : Dn K mg "witness_of" (topS 68) ["web", "yard", "target"]
  d69 : Dn K mg "has_plug" (topS 69) ["web", "side"]
  d70 : Dn K mg "load_weight" (topS 70) ["load"]
  d71 : Dn K mg "sides_plugged" (topS 71) ["web"]
  d73 : Dn K mg "common_yards" (topS 73) ["country", "sides"]
  d74 : Dn K mg "posts_of" (topS 74) ["web"]
  d75 : Dn K mg "posts" (topS 75) ["web"]
  d78 : Dn K mg "is_clear_to" (topS 78) ["web", "gate"]
  d79 : Dn K mg "kind_by" (topS 79) ["web", "gate"]
  d80 : Dn K mg "door_yard" (topS 80) ["country", "gate"]
  d81 : Dn K mg "door_numbers" (topS 81) ["country", "gate", "first", "behind"]
  d82 : Dn K mg "numbers_of_both" (topS 82) ["country", "gate", "other", "door"]
  d83 : Dn K mg "led_end" (topS 83) ["numbers", "place"]
  d84 : Dn K mg "led_book" (topS 84) ["book", "numbers"]
  d85 : Dn K mg "joined_web" (topS 85) ["web", "gate", "other", "door"]
  d86 : Dn K mg "lone_web" (topS 86) ["bounds"]
  d87 : Dn K mg "kind" (topS 87) ["web", "gate"]
  d88 : Dn K mg "joined" (topS 88) ["web", "gate", "other", "door"]
  d89 : Dn K mg "want_kind" (topS 89) ["value"]
  d90 : Dn K mg "are_never_stuck" (topS 90) ["near", "far"]
  d91 : Dn K mg "parting" (topS 91) ["near", "far"]
  d93 : Dn K mg "_law_pot" (topS 93) ["_law_script", "_law_k"]
  d94 : Dn K mg "_law_draw" (topS 94) ["_law_pot_here", "_law_size"]
  d95 : Dn K mg "_law_pick" (topS 95) ["_law_pot_here", "_law_some"]
  d96 : Dn K mg "_law_beside" (topS 96) ["_law_lanes", "_law_place"]
  d97 : Dn K mg "_law_yards" (topS 97) ["_law_lanes"]
  d98 : Dn K mg "_law_gates" (topS 98) ["_law_lanes"]
  d99 : Dn K mg "_law_way" (topS 99) ["_law_lanes", "_law_start", "_law_end"]
  d100 : Dn K mg "_law_lets" (topS 100) ["_law_book_here", "_law_load"]
  d101 : Dn K mg "_law_lots" (topS 101) ["_law_things", "_law_many"]
  d102 : Dn K mg "_law_plugged" (topS 102) ["_law_lanes", "_law_book_here", "_law_yard", "_law_target"]
  d103 : Dn K mg "_law_posts" (topS 103) ["_law_lanes", "_law_books_here"]
  d104 : Dn K mg "_law_is_clear" (topS 104) ["_law_lanes", "_law_books_here", "_law_gate"]
  d105 : Dn K mg "_law_kind" (topS 105) ["_law_lanes", "_law_books_here", "_law_gate"]
  d106 : Dn K mg "_law_bound" (topS 106) ["_law_pot_here", "_law_near"]
  d107 : Dn K mg "_law_book" (topS 107) ["_law_pot_here", "_law_near"]
  d108 : Dn K mg "_law_small" (topS 108) ["_law_pot_here"]
  d109 : Dn K mg "_law_books" (topS 109) ["_law_pot_here", "_law_lanes"]
  d110 : Dn K mg "_law_joined" (topS 110) ["_law_lanes", "_law_books_here", "_law_gate", "_law_others", "_law_more", "_law_door"]
  d111 : Dn K mg "_law_by_kinds" (topS 111) ["_law_pot_here"]
  d112 : Dn K mg "_law_right" (topS 112) ["_law_pot_here"]
  d113 : Dn K mg "law" (topS 113) ["_law_script"]
/-- anything that is a list or a tuple -/
def SpSeq : Sp := fun vs H Q _ => ∃ p, vs = [.ref p] ∧ ((∃ xs, H p = some (.lst xs)) ∨ ∃ xs, H p = some (.tup xs)) ∧ ∀ H', Same H H' → Q (.bl true) H'
class Sq (α : Type) [Rp α] where
  sq : ∀ {B : Hp} {a : α} {v : V}, R B a v → ∃ p, v = .ref p ∧ ((∃ xs, B p = some (.lst xs)) ∨ ∃ xs, B p = some (.tup xs))
section
variable {α β γ δ : Type} [Rp α] [Rp β] [Rp γ] [Rp δ]
instance : Sq (List α) := ⟨fun ⟨p, vs, e, h, _⟩ => ⟨p, e, .inl ⟨vs, h⟩⟩⟩
instance : Sq (α × β) := ⟨fun ⟨p, v1, v2, e, h, _⟩ => ⟨p, e, .inr ⟨_, h⟩⟩⟩
instance : Sq (T3 α β γ) := ⟨fun ⟨p, v1, v2, v3, e, h, _⟩ => ⟨p, e, .inr ⟨_, h⟩⟩⟩
variable {X : Cx} {e a b : Expr} {es : List Expr} {σ : L2.St} {B H : Hp} {x : α} {pos p p2 : Pos} {n : Str} {k : Nat} {ps : List Str}
theorem ev_isSeq [Sq α] (G : Fk X.prog X.w X.K X.mg X.base n k ps SpSeq) (hr : Room k X.A) (h : EvA X (e :: es) σ B [⟨x⟩])
    (hg : Gl X n := by rfl) (hdb : (n == ("__debug__" : Str)) = false := by decide) (he : NS X e es := by rfl) (hpl : (backTo pos (starEach es X.env)).any (·.1) = false := by rfl) : Ev X (.Call (.Name n p) (e :: es) [] pos) σ B true := fun H s Q q =>
  rd_call G hr (h H s _ fun vs B1 H1 _ n1 r => by
    cases r with
    | @cons d1 v1 ds1 vs1 r1 t => cases t with
      | nil =>
        obtain ⟨p, rfl, h2⟩ := Sq.sq (α := α) (a := x) r1
        refine ⟨p, rfl, ?_, fun H' sH hl => q _ B1 H' hl (n1.trans (Nw.grow n1.bh sH)) rfl⟩
        rcases h2 with ⟨xs, h⟩ | ⟨xs, h⟩
        · exact .inl ⟨xs, n1.bh p _ h⟩
        · exact .inr ⟨xs, n1.bh p _ h⟩) hg hdb he hpl
end
end LK
set_option maxHeartbeats 0
/-! ## E0 -/
namespace LK
open PySem PySem.Spec PyProof.Rows L2
/-! ### the head: what is looked at behind the top; g: the heap's objects -/
def glE (g : Addr → Option Obj) : List DictEntry := match g mainGlobals with
  | some ⟨_, _, .dict es _, _⟩ => es.toList
  | _ => []
def keyS (e : DictEntry) : Option Str := match e.key with
  | .str x _ => some x
  | _ => none
abbrev FnV : Type := Str × Str × Arguments × FuncBody × Scope × Addr × List (Str × Addr) × Addr
/-- a value of the top: a def (its object, its code's name, its defaults: 0 none, 1 the one None), a number, else -/
inductive Dsc where
  | fn (v : FnV) (code : Option Str) (dfl : Nat)
  | int (i : Int)
  | oth
def codeNm (g : Addr → Option Obj) : Value → Option Str
  | .ref c => (match g c with
    | some ⟨_, _, .fields vs, _⟩ => (match vs.toList with
      | _ :: .str n _ :: _ => some n
      | _ => none)
    | _ => none)
  | _ => none
def dflN (g : Addr → Option Obj) : Value → Nat
  | .none => 0
  | .ref T => (match g T with
    | some ⟨_, _, .seq its _, _⟩ => (match its.toList with
      | [.none] => 1
      | _ => 2)
    | _ => 2)
  | _ => 2
def dscV (g : Addr → Option Obj) : Value → Dsc
  | .ref a => (match g a with
    | some ⟨_, _, .func fd, _⟩ => .fn (fd.name, fd.qualname, fd.params, fd.body, fd.scope, fd.globals, fd.closure, fd.builtins) (codeNm g fd.code) (dflN g fd.defaults)
    | _ => .oth)
  | .int i _ => .int i
  | _ => .oth
def adrV : Value → List Addr
  | .ref a => [a]
  | _ => []
def codV (g : Addr → Option Obj) : Value → List Addr
  | .ref a => (match g a with
    | some ⟨_, _, .func fd, _⟩ => adrV fd.code ++ adrV fd.defaults
    | _ => [])
  | _ => []
def vlE (g : Addr → Option Obj) (i : Nat) : Value := match (glE g)[i]? with
  | some e => e.val
  | none => .none
def rfE (g : Addr → Option Obj) (i : Nat) : Addr := match vlE g i with
  | .ref a => a
  | _ => 0
def nsOf (g : Addr → Option Obj) (C : Addr) : Addr := match g C with
  | some ⟨_, _, .cls cd, _⟩ => cd.ns
  | _ => 0
/-- a class's own member, by its dict -/
def mbE (g : Addr → Option Obj) (C : Addr) (m : Str) : Addr := match PySem.W.nsIn (He.frG g [nsOf g C]) (nsOf g C) m with
  | some (some (.ref a)) => a
  | _ => 0
/-- a property's getter -/
def gtE (g : Addr → Option Obj) (p : Addr) : Addr := match g p with
  | some ⟨_, _, .fields vs, _⟩ => (match vs.toList with
    | .ref a :: _ => a
    | _ => 0)
  | _ => 0
def aC (g : Addr → Option Obj) : Addr := rfE g 33
def aW (g : Addr → Option Obj) : Addr := rfE g 59
def aK (g : Addr → Option Obj) : Addr := rfE g 76
/-- the methods, the getters -/
def mtE (g : Addr → Option Obj) : List Addr := [mbE g (aC g) "__init__", mbE g (aW g) "__init__", gtE g (mbE g (aC g) "lanes"), gtE g (mbE g (aC g) "yards"), gtE g (mbE g (aW g) "country"), gtE g (mbE g (aW g) "books")]
def asE (g : Addr → Option Obj) : List Addr := [aC g, nsOf g (aC g), aW g, nsOf g (aW g), mbE g (aC g) "lanes", mbE g (aC g) "yards", mbE g (aW g) "country", mbE g (aW g) "books"] ++ mtE g ++ [mainGlobals, aK g] ++ (mtE g).flatMap (fun a => codV g (.ref a)) ++ (glE g).flatMap (fun e => adrV e.val) ++ (glE g).flatMap (fun e => codV g e.val)
def kE (g : Addr → Option Obj) : PySem.W.Frag := He.frG g (asE g)
/-! the classes -/
def propB (K : PySem.W.Frag) (C p a : Addr) (n : Str) : Bool := He.eqO (PySem.W.findIn K (.ref C) n) (some (some (.ref p))) && (He.eqO (PySem.W.specialIn K (.ref p) "__get__") (some (some (.builtin "property.__get__"))) && (decide (PySem.W.takesIn K (.ref p) = some true) &&
  (match PySem.W.recIn K p "property" with
  | some (.ref b :: _) => decide (b = a)
  | _ => false)))
theorem propB_ok {K : PySem.W.Frag} {C p a : Addr} {n : Str} (h : propB K C p a n = true) : PropOf K C n p a := by
  obtain ⟨h1, h2⟩ := He.ba h
  obtain ⟨h2, h3⟩ := He.ba h2
  obtain ⟨h3, h4⟩ := He.ba h3
  refine ⟨He.eqO_ok h1, He.eqO_ok h2, of_decide_eq_true h3, ?_⟩
  cases e : PySem.W.recIn K p "property" with
  | none => rw [e] at h4; cases h4
  | some l =>
    rw [e] at h4
    match l, h4 with
    | .ref b :: rest, h4 => exact ⟨rest, by rw [of_decide_eq_true h4]⟩
def clsB (K : PySem.W.Frag) (C : Addr) : Bool := PySem.W.plainGet K C Str.empty && (PySem.W.hasDictIn K C && (PySem.W.plainOver K C && He.eqO (PySem.W.findIn K (.ref C) "__setattr__") (some (some (.builtin "object.__setattr__")))))
theorem clsB_ok {K : PySem.W.Frag} {C : Addr} (h : clsB K C = true) : Cls K C := by
  obtain ⟨c1, c⟩ := He.ba h
  obtain ⟨c2, c⟩ := He.ba c
  obtain ⟨c3, c4⟩ := He.ba c
  exact ⟨c1, c2, c3, He.eqO_ok c4⟩
def mkB (K : PySem.W.Frag) (C f : Addr) : Bool := PySem.W.makesIn K C && (He.eqO (PySem.W.findIn K (.ref C) "__init__") (some (some (.ref f))) && (PySem.W.isFn K (.ref f) && PySem.W.keepIn K (.ref C)))
theorem mkB_ok {K : PySem.W.Frag} {C f : Addr} (h : mkB K C f = true) : Mk K C f := by
  obtain ⟨c1, c⟩ := He.ba h
  obtain ⟨c2, c⟩ := He.ba c
  obtain ⟨c3, c4⟩ := He.ba c
  exact ⟨c1, He.eqO_ok c2, c3, c4⟩
def noB (K : PySem.W.Frag) (C : Addr) (f : Str) : Bool := He.eqO (PySem.W.findIn K (.ref C) f) (some none)
def ownB (K : PySem.W.Frag) (C : Addr) : Bool := He.eqO (PySem.W.findIn K (.ref C) "__class__") (some (some (.builtin "object.__class__"))) && (He.eqO (PySem.W.specialIn K (.builtin "object.__class__") "__get__") (some (some (.builtin "getset_descriptor.__get__"))) &&
  (decide (PySem.W.takesIn K (.builtin "object.__class__") = some true) && (decide (PySem.W.mroIn K C (.type "object") = some true) && decide (PySem.W.kitOne K (.ref C) (.ref C) = some true))))
theorem ownB_ok {K : PySem.W.Frag} {C : Addr} (c : Cls K C) (h : ownB K C = true) : Own K C := by
  obtain ⟨h1, h2⟩ := He.ba h
  obtain ⟨h2, h3⟩ := He.ba h2
  obtain ⟨h3, h4⟩ := He.ba h3
  obtain ⟨h4, h5⟩ := He.ba h4
  exact ⟨c, He.eqO_ok h1, He.eqO_ok h2, of_decide_eq_true h3, of_decide_eq_true h4, of_decide_eq_true h5⟩
def tupE (K : PySem.W.Frag) (a : Addr) (vs : List V) : Bool := match K.lookup a with
  | some ⟨.type c, _, .seq its _, _⟩ => decide (c = "tuple") && (decide (its.size ≤ sizeLine) && He.relAll vs its.toList)
  | _ => false
theorem tupE_ok {K : PySem.W.Frag} {a : Addr} {vs : List V} (h : tupE K a vs = true) (H : Hp) : SqT K H a vs := by
  unfold tupE at h
  cases q : K.lookup a with
  | none => rw [q] at h; cases h
  | some o =>
    obtain ⟨oc, od, dt, osl⟩ := o
    rw [q] at h
    cases oc with
    | type c =>
      cases dt with
      | seq its n =>
        obtain ⟨h1, h2⟩ := He.ba (show (decide (c = "tuple") && (decide (its.size ≤ sizeLine) && He.relAll vs its.toList)) = true from h)
        obtain ⟨h3, h4⟩ := He.ba h2
        exact .inr ⟨_, its, n, q, congrArg Value.type (of_decide_eq_true h1), rfl, of_decide_eq_true h3, He.relAll_ok h4⟩
      | _ => cases h
    | _ => cases dt <;> cases h
def refB : Value → Bool
  | .ref _ => true
  | _ => false
def clsAll (g : Addr → Option Obj) (K : PySem.W.Frag) : Bool :=
  (refB (vlE g 33) && (refB (vlE g 59) && refB (vlE g 76))) &&
  (((clsB K (aC g) && clsB K (aW g)) && (ownB K (aC g) && ownB K (aW g))) &&
  ((mkB K (aC g) (mbE g (aC g) "__init__") && mkB K (aW g) (mbE g (aW g) "__init__")) &&
  (((noB K (aC g) "own_lanes" && noB K (aC g) "own_ties") && (noB K (aC g) "own_ahead" && (noB K (aW g) "own_country" && noB K (aW g) "own_books"))) &&
  (((propB K (aC g) (mbE g (aC g) "lanes") (gtE g (mbE g (aC g) "lanes")) "lanes" && propB K (aC g) (mbE g (aC g) "yards") (gtE g (mbE g (aC g) "yards")) "yards") &&
  (propB K (aW g) (mbE g (aW g) "country") (gtE g (mbE g (aW g) "country")) "country" && propB K (aW g) (mbE g (aW g) "books") (gtE g (mbE g (aW g) "books")) "books")) && tupE K (aK g) [.str "clear", .str "own", .str "bad"]))))
/-! what is expected -/
def dscF (x qual : Str) (st : Stmt) (d : Nat) : Dsc := .fn (x, qual, defArgs st, .stmts (defBody st), defScope st, mainGlobals, [], builtinsNs) (some qual) d
def nmE0 : List Str := ["__name__", "__doc__", "__package__", "__loader__", "__spec__", "__annotations__", "__builtins__", "__file__", "__cached__", "LaneError", "LimitError", "InvalidCountry", "InvalidGate", "InvalidPlace", "InvalidWeb", "InvalidYard", "InvalidBook", "InvalidBooks", "InvalidDoor", "InvalidKind", "InvalidLanes", "TooMany", "is_integer", "is_count", "is_list", "want_at_most", "MOST_YARDS", "MOST_LANES", "lane_in", "ties_of"]
def nmE1 : List Str := ["is_whole", "ahead_of", "lanes_in", "Country", "place_count", "beside", "yards_in", "is_place", "is_yard", "is_gate", "want_country", "want_yard", "want_gate", "MOST_PLACES", "MOST_BOUNDS", "MOST_ALTERNATIVES", "pairs_at", "plus_cart", "is_end_for", "is_bound_for", "alternative_in", "keeps", "stands_by_one", "stands_by", "book_in", "want_book", "told_book", "step_towards", "yards_behind", "Web"]
def nmE2 : List Str := ["book_at", "country_of", "bare_web", "want_web", "standing_by", "pairs_towards", "towards", "yard_sides", "is_shut", "witness_of", "has_plug", "load_weight", "sides_plugged", "common_yards", "posts_of", "posts", "KINDS", "is_clear_to", "kind_by", "door_yard", "door_numbers", "numbers_of_both", "led_end", "led_book", "joined_web", "lone_web", "kind", "joined", "want_kind", "are_never_stuck"]
def nmE3 : List Str := ["parting", "_law_pot", "_law_draw", "_law_pick", "_law_beside", "_law_yards", "_law_gates", "_law_way", "_law_lets", "_law_lots", "_law_plugged", "_law_posts", "_law_is_clear", "_law_kind", "_law_bound", "_law_book", "_law_small", "_law_books", "_law_joined", "_law_by_kinds", "_law_right", "law"]
def nmE : List Str := nmE0 ++ nmE1 ++ nmE2 ++ nmE3
def dsE0 : List Dsc := [.oth,
  .oth,
  .oth,
  .oth,
  .oth,
  .oth,
  .oth,
  .oth,
  .oth,
  .oth,
  .oth,
  .oth,
  .oth,
  .oth,
  .oth,
  .oth,
  .oth,
  .oth,
  .oth,
  .oth,
  .oth,
  .oth,
  dscF "is_integer" "is_integer" (topS 15) 0,
  dscF "is_count" "is_count" (topS 16) 0,
  dscF "is_list" "is_list" (topS 17) 0,
  dscF "want_at_most" "want_at_most" (topS 18) 0,
  .int 7,
  .int 4,
  dscF "lane_in" "lane_in" (topS 22) 0,
  dscF "ties_of" "ties_of" (topS 23) 0]
def dsE1 : List Dsc := [dscF "is_whole" "is_whole" (topS 24) 0,
  dscF "ahead_of" "ahead_of" (topS 25) 0,
  dscF "lanes_in" "lanes_in" (topS 26) 0,
  .oth,
  dscF "place_count" "place_count" (topS 28) 0,
  dscF "beside" "beside" (topS 29) 0,
  dscF "yards_in" "yards_in" (topS 30) 0,
  dscF "is_place" "is_place" (topS 31) 0,
  dscF "is_yard" "is_yard" (topS 32) 0,
  dscF "is_gate" "is_gate" (topS 33) 0,
  dscF "want_country" "want_country" (topS 34) 0,
  dscF "want_yard" "want_yard" (topS 35) 0,
  dscF "want_gate" "want_gate" (topS 36) 0,
  .int 6,
  .int 6,
  .int 4,
  dscF "pairs_at" "pairs_at" (topS 41) 0,
  dscF "plus_cart" "plus_cart" (topS 42) 0,
  dscF "is_end_for" "is_end_for" (topS 43) 0,
  dscF "is_bound_for" "is_bound_for" (topS 44) 0,
  dscF "alternative_in" "alternative_in" (topS 45) 0,
  dscF "keeps" "keeps" (topS 46) 0,
  dscF "stands_by_one" "stands_by_one" (topS 47) 0,
  dscF "stands_by" "stands_by" (topS 48) 0,
  dscF "book_in" "book_in" (topS 49) 0,
  dscF "want_book" "want_book" (topS 50) 0,
  dscF "told_book" "told_book" (topS 51) 0,
  dscF "step_towards" "step_towards" (topS 53) 0,
  dscF "yards_behind" "yards_behind" (topS 54) 0,
  .oth]
def dsE2 : List Dsc := [dscF "book_at" "book_at" (topS 57) 0,
  dscF "country_of" "country_of" (topS 58) 0,
  dscF "bare_web" "bare_web" (topS 59) 0,
  dscF "want_web" "want_web" (topS 60) 0,
  dscF "standing_by" "standing_by" (topS 62) 1,
  dscF "pairs_towards" "pairs_towards" (topS 63) 0,
  dscF "towards" "towards" (topS 64) 0,
  dscF "yard_sides" "yard_sides" (topS 66) 0,
  dscF "is_shut" "is_shut" (topS 67) 0,
  dscF "witness_of" "witness_of" (topS 68) 0,
  dscF "has_plug" "has_plug" (topS 69) 0,
  dscF "load_weight" "load_weight" (topS 70) 0,
  dscF "sides_plugged" "sides_plugged" (topS 71) 0,
  dscF "common_yards" "common_yards" (topS 73) 0,
  dscF "posts_of" "posts_of" (topS 74) 0,
  dscF "posts" "posts" (topS 75) 0,
  .oth,
  dscF "is_clear_to" "is_clear_to" (topS 78) 0,
  dscF "kind_by" "kind_by" (topS 79) 0,
  dscF "door_yard" "door_yard" (topS 80) 0,
  dscF "door_numbers" "door_numbers" (topS 81) 0,
  dscF "numbers_of_both" "numbers_of_both" (topS 82) 0,
  dscF "led_end" "led_end" (topS 83) 0,
  dscF "led_book" "led_book" (topS 84) 0,
  dscF "joined_web" "joined_web" (topS 85) 0,
  dscF "lone_web" "lone_web" (topS 86) 0,
  dscF "kind" "kind" (topS 87) 0,
  dscF "joined" "joined" (topS 88) 0,
  dscF "want_kind" "want_kind" (topS 89) 0,
  dscF "are_never_stuck" "are_never_stuck" (topS 90) 0]
def dsE3 : List Dsc := [dscF "parting" "parting" (topS 91) 0,
  dscF "_law_pot" "_law_pot" (topS 93) 0,
  dscF "_law_draw" "_law_draw" (topS 94) 0,
  dscF "_law_pick" "_law_pick" (topS 95) 0,
  dscF "_law_beside" "_law_beside" (topS 96) 0,
  dscF "_law_yards" "_law_yards" (topS 97) 0,
  dscF "_law_gates" "_law_gates" (topS 98) 0,
  dscF "_law_way" "_law_way" (topS 99) 0,
  dscF "_law_lets" "_law_lets" (topS 100) 0,
  dscF "_law_lots" "_law_lots" (topS 101) 0,
  dscF "_law_plugged" "_law_plugged" (topS 102) 0,
  dscF "_law_posts" "_law_posts" (topS 103) 0,
  dscF "_law_is_clear" "_law_is_clear" (topS 104) 0,
  dscF "_law_kind" "_law_kind" (topS 105) 0,
  dscF "_law_bound" "_law_bound" (topS 106) 0,
  dscF "_law_book" "_law_book" (topS 107) 0,
  dscF "_law_small" "_law_small" (topS 108) 0,
  dscF "_law_books" "_law_books" (topS 109) 0,
  dscF "_law_joined" "_law_joined" (topS 110) 0,
  dscF "_law_by_kinds" "_law_by_kinds" (topS 111) 0,
  dscF "_law_right" "_law_right" (topS 112) 0,
  dscF "law" "law" (topS 113) 0]
def dsE : List Dsc := dsE0 ++ dsE1 ++ dsE2 ++ dsE3
def mtV : List Dsc := [dscF "__init__" "Country.__init__" (inClass (topS 27) 0) 0, dscF "__init__" "Web.__init__" (inClass (topS 56) 0) 0, dscF "lanes" "Country.lanes" (inClass (topS 27) 1) 0, dscF "yards" "Country.yards" (inClass (topS 27) 2) 0, dscF "country" "Web.country" (inClass (topS 56) 1) 0, dscF "books" "Web.books" (inClass (topS 56) 2) 0]
abbrev AlE : Type := (List (Option Str) × List Dsc) × (List Dsc × Bool)
def obsE (g : Addr → Option Obj) : AlE := (((glE g).map keyS, (glE g).map fun e => dscV g e.val), ((mtE g).map fun a => dscV g (.ref a), clsAll g (kE g)))
def valE : AlE := ((nmE.map some, dsE), (mtV, true))
def hkE : PySem.W.Hook where
  α := AlE
  obs := fun s => obsE s.heap.get?
  val := fun _ => valE
  says := fun _ h => ∃ g : Addr → Option Obj, (∀ a o, g a = some o → h.get? a = some o) ∧ obsE g = valE
  of := fun _ s e => ⟨s.heap.get?, fun _ _ h => h, e⟩
  keeps := fun _ _ _ ⟨g, hg, c⟩ k => ⟨g, fun a o e => k a o (hg a o e), c⟩
def obE (s : PySem.W.SharedT) : AlE := obsE (HandSHeadRun.getT s)
theorem obE_eq (s : PySem.W.SharedT) : obE s = hkE.obs s.abs := by
  have e : HandSHeadRun.getT s = s.abs.heap.get? := funext (HandSHeadRun.getT_eq s)
  unfold obE
  rw [e] <;> rfl
def looseN0 : List Str := ["LaneError", "LimitError", "InvalidCountry", "InvalidGate", "InvalidPlace", "InvalidWeb", "InvalidYard", "InvalidBook", "InvalidBooks", "InvalidDoor", "InvalidKind", "InvalidLanes", "TooMany", "is_integer", "is_count", "is_list", "want_at_most", "MOST_YARDS", "MOST_LANES", "lane_in", "ties_of", "is_whole", "ahead_of", "lanes_in", "Country", "place_count", "beside", "yards_in", "is_place", "is_yard"]
def looseN1 : List Str := ["is_gate", "want_country", "want_yard", "want_gate", "MOST_PLACES", "MOST_BOUNDS", "MOST_ALTERNATIVES", "pairs_at", "plus_cart", "is_end_for", "is_bound_for", "alternative_in", "keeps", "stands_by_one", "stands_by", "book_in", "want_book", "told_book", "step_towards", "yards_behind", "Web", "book_at", "country_of", "bare_web", "want_web", "standing_by", "pairs_towards", "towards", "yard_sides", "is_shut"]
def looseN2 : List Str := ["witness_of", "has_plug", "load_weight", "sides_plugged", "common_yards", "posts_of", "posts", "KINDS", "is_clear_to", "kind_by", "door_yard", "door_numbers", "numbers_of_both", "led_end", "led_book", "joined_web", "lone_web", "kind", "joined", "want_kind", "are_never_stuck", "parting", "_law_pot", "_law_draw", "_law_pick", "_law_beside", "_law_yards", "_law_gates", "_law_way", "_law_lets"]
def looseN3 : List Str := ["_law_lots", "_law_plugged", "_law_posts", "_law_is_clear", "_law_kind", "_law_bound", "_law_book", "_law_small", "_law_books", "_law_joined", "_law_by_kinds", "_law_right"]
def looseN : List Str := looseN0 ++ looseN1 ++ looseN2 ++ looseN3
end LK
/-! ## ER -/
namespace LK
open PySem PySem.Spec PyProof.Rows L2
abbrev rowE : PySem.W.OpenRow := PySem.W.OpenLaw.row PySem.Challenge.rw_lanekeepers_k83_whole_partings
theorem runE (w : World) : HandSHeadRun.RunEq rowE (PySem.W.view rowE.prog [113]) hkE obE 20000 looseN w := by
  intro os
  kernel_rfl
end LK
/-! ## E1 -/
namespace LK
open PySem PySem.Spec PyProof.Rows L2
/-! ### Tops, out of what is looked at -/
theorem frG_get {g : Addr → Option Obj} : ∀ {as : List Addr} {a : Addr} {o : Obj}, a ∈ as → g a = some o → (He.frG g as).lookup a = some o
  | [], a, o, h, _ => by cases h
  | b :: r, a, o, h, e => by
    unfold He.frG
    rw [List.filterMap_cons]
    cases hb : g b with
    | none =>
      have hne : a ≠ b := fun z => by rw [z, hb] at e; cases e
      rcases List.mem_cons.mp h with z | z
      · exact absurd z hne
      · exact frG_get (as := r) z e
    | some ob =>
      show List.lookup a ((b, ob) :: He.frG g r) = some o
      rw [List.lookup_cons]
      by_cases z : a = b
      · subst z
        rw [hb] at e
        cases e
        rw [beq_self_eq_true]
      · rw [beq_false_of_ne z]
        rcases List.mem_cons.mp h with y | y
        · exact absurd y z
        · exact frG_get (as := r) y e
theorem key_str {e : DictEntry} {k : Str} (h : keyS e = some k) : ∃ t, e.key = .str k t := by
  unfold keyS at h
  split at h
  · rename_i x t q
    exact ⟨t, by rw [q, Option.some.inj h]⟩
  · cases h
theorem is_str {e : DictEntry} {k : Str} (h : keyS e = some k) (nm : Str) : e.key.isStr nm = (k == nm) := by
  obtain ⟨t, q⟩ := key_str h
  rw [q]
  rfl
theorem find_key : ∀ {l : List DictEntry} {ks : List Str} {i : Nat} {e : DictEntry} {nm : Str}, l.map keyS = ks.map some → ks.Nodup → l[i]? = some e → ks[i]? = some nm → l.find? (fun e => e.key.isStr nm) = some e
  | [], ks, i, e, nm, _, _, h, _ => by simp at h
  | e0 :: l, [], i, e, nm, _, _, _, h => by simp at h
  | e0 :: l, k0 :: ks, i, e, nm, hm, hn, he, hk => by
    rw [List.map_cons, List.map_cons] at hm
    obtain ⟨h1, h2⟩ := List.cons.inj hm
    rw [List.find?_cons, is_str h1]
    cases i with
    | zero =>
      cases hk
      cases he
      rw [beq_self_eq_true]
    | succ i =>
      have hk' : ks[i]? = some nm := hk
      have hne : k0 ≠ nm := fun z => (List.nodup_cons.mp hn).1 (by rw [z]; exact List.mem_of_getElem? hk')
      rw [beq_false_of_ne hne]
      exact find_key h2 (List.nodup_cons.mp hn).2 he hk'
theorem no_key : ∀ {l : List DictEntry} {ks : List Str} {nm : Str}, l.map keyS = ks.map some → nm ∉ ks → l.find? (fun e => e.key.isStr nm) = none ∧ l.any (·.refKey) = false
  | [], ks, nm, _, _ => ⟨rfl, rfl⟩
  | e0 :: l, [], nm, h, _ => by simp at h
  | e0 :: l, k0 :: ks, nm, hm, hn => by
    rw [List.map_cons, List.map_cons] at hm
    obtain ⟨h1, h2⟩ := List.cons.inj hm
    obtain ⟨t, ht⟩ := key_str h1
    have hne : k0 ≠ nm := fun z => hn (by rw [z]; exact List.mem_cons_self ..)
    obtain ⟨r1, r2⟩ := no_key h2 fun z => hn (List.mem_cons_of_mem _ z)
    refine ⟨?_, ?_⟩
    · rw [List.find?_cons, is_str h1, beq_false_of_ne hne]
      exact r1
    · rw [List.any_cons, r2, Bool.or_false]
      unfold DictEntry.refKey
      rw [ht]
theorem nmE_nodup : nmE.Nodup := by decide +kernel
section
variable {g : Addr → Option Obj} {h : Heap} {mg : Str → Option Value}
theorem keysE (c : obsE g = valE) : (glE g).map keyS = nmE.map some := congrArg (fun z : AlE => z.1.1) c
theorem dscE (c : obsE g = valE) : (glE g).map (fun e => dscV g e.val) = dsE := congrArg (fun z : AlE => z.1.2) c
theorem mtsE (c : obsE g = valE) : (mtE g).map (fun a => dscV g (.ref a)) = mtV := congrArg (fun z : AlE => z.2.1) c
theorem clsE (c : obsE g = valE) : clsAll g (kE g) = true := congrArg (fun z : AlE => z.2.2) c
theorem kE_in (hg : ∀ a o, g a = some o → h.get? a = some o) : (kE g).In h := fun a o e => hg a o (He.frG_at _ e)
theorem kE_get {a : Addr} {o : Obj} (m : a ∈ asE g) (e : g a = some o) : (kE g).lookup a = some o := frG_get m e
theorem as_glo {e : DictEntry} (he : e ∈ glE g) : (∀ b ∈ adrV e.val, b ∈ asE g) ∧ ∀ b ∈ codV g e.val, b ∈ asE g := by
  unfold asE
  refine ⟨fun b hb => ?_, fun b hb => ?_⟩
  · exact List.mem_append_left _ (List.mem_append_right _ (List.mem_flatMap.mpr ⟨e, he, hb⟩))
  · exact List.mem_append_right _ (List.mem_flatMap.mpr ⟨e, he, hb⟩)
theorem as_mt {a : Addr} (ha : a ∈ mtE g) : a ∈ asE g ∧ ∀ b ∈ codV g (.ref a), b ∈ asE g := by
  unfold asE
  refine ⟨?_, fun b hb => ?_⟩
  · exact List.mem_append_left _ (List.mem_append_left _ (List.mem_append_left _ (List.mem_append_left _ (List.mem_append_right _ ha))))
  · exact List.mem_append_left _ (List.mem_append_left _ (List.mem_append_right _ (List.mem_flatMap.mpr ⟨a, ha, hb⟩)))
theorem as_glob : mainGlobals ∈ asE g := by
  unfold asE
  exact List.mem_append_left _ (List.mem_append_left _ (List.mem_append_left _ (List.mem_append_right _ (List.mem_cons_self ..))))
theorem glE_some (c : obsE g = valE) : ∃ oc od es n sl, g mainGlobals = some ⟨oc, od, .dict es n, sl⟩ ∧ es.toList = glE g := by
  have hk := keysE c
  have bad : ¬ glE g = [] := fun z => by
    rw [z] at hk
    exact absurd (congrArg List.length hk) (by rw [List.length_map]; decide +kernel)
  cases q : g mainGlobals with
  | none => exact absurd (by unfold glE; rw [q]) bad
  | some o =>
    obtain ⟨oc, od, dt, sl⟩ := o
    cases dt with
    | dict es n => exact ⟨oc, od, es, n, sl, rfl, by unfold glE; rw [q]⟩
    | _ => exact absurd (by unfold glE; rw [q]) bad
theorem ns_at (c : obsE g = valE) {i : Nat} {e : DictEntry} {nm : Str} (he : (glE g)[i]? = some e) (hn : nmE[i]? = some nm) : PySem.W.nsIn (kE g) mainGlobals nm = some (some e.val) := by
  obtain ⟨oc, od, es, n, sl, q, el⟩ := glE_some c
  have hf := find_key (keysE c) nmE_nodup he hn
  rw [← el] at hf
  unfold PySem.W.nsIn
  rw [kE_get as_glob q]
  simp only
  rw [hf]
theorem mg_free (c : obsE g = valE) (X : (kE g).In h) (G : h.Ns mainGlobals mg) {nm : Str} (hn : nm ∉ nmE) : mg nm = none := by
  refine PySem.W.mg_none_of X G ?_
  obtain ⟨oc, od, es, n, sl, q, el⟩ := glE_some c
  obtain ⟨h1, h2⟩ := no_key (keysE c) hn
  rw [← el] at h1 h2
  unfold PySem.W.nsIn
  rw [kE_get as_glob q]
  simp only
  rw [h1]
  simp only
  rw [h2]
  rfl
theorem mg_at (c : obsE g = valE) (X : (kE g).In h) (G : h.Ns mainGlobals mg) (i : Nat) {nm : Str} {d : Dsc} (hn : nmE[i]? = some nm) (hd : dsE[i]? = some d) : ∃ v, mg nm = some v ∧ vlE g i = v ∧ dscV g v = d ∧ (∀ b ∈ adrV v, b ∈ asE g) ∧ ∀ b ∈ codV g v, b ∈ asE g := by
  have h1 : ((glE g).map fun e => dscV g e.val)[i]? = some d := by rw [dscE c]; exact hd
  rw [List.getElem?_map] at h1
  cases he : (glE g)[i]? with
  | none => rw [he] at h1; cases h1
  | some e =>
    rw [he] at h1
    obtain ⟨m1, m2⟩ := as_glo (List.mem_of_getElem? he)
    exact ⟨e.val, PySem.W.mg_of X G (ns_at c he hn), by unfold vlE; rw [he], Option.some.inj h1, m1, m2⟩
theorem dsc_fn {v : Value} {u : FnV} {code : Option Str} {n : Nat} (e : dscV g v = .fn u code n) : ∃ a oc od fd osl, v = .ref a ∧ g a = some ⟨oc, od, .func fd, osl⟩ ∧ (fd.name, fd.qualname, fd.params, fd.body, fd.scope, fd.globals, fd.closure, fd.builtins) = u ∧ codeNm g fd.code = code ∧ dflN g fd.defaults = n := by
  unfold dscV at e
  split at e
  · rename_i a
    split at e
    · rename_i oc od fd osl q
      cases e
      exact ⟨a, oc, od, fd, osl, rfl, q, rfl, rfl, rfl⟩
    · cases e
  · cases e
  · cases e
theorem code_ok {v : Value} {qual : Str} (e : codeNm g v = some qual) (m : ∀ b ∈ adrV v, b ∈ asE g) : PySem.W.codeIn (kE g) v qual = true := by
  unfold codeNm at e
  split at e
  · rename_i cc
    split at e
    · rename_i oc od vs sl q
      split at e
      · rename_i y n t r hv
        cases e
        unfold PySem.W.codeIn
        simp only
        rw [kE_get (m cc (List.mem_cons_self ..)) q]
        simp only
        rw [hv]
        exact beq_self_eq_true _
      · cases e
    · cases e
  · cases e
theorem keep_fn {a : Addr} {oc : Value} {od : Option Addr} {fd : FuncData} {osl : Array (Option Value)} (l : (kE g).lookup a = some ⟨oc, od, .func fd, osl⟩) : PySem.W.keepIn (kE g) (.ref a) = true := by
  unfold PySem.W.keepIn
  simp only
  rw [l]
theorem dfl0 {v : Value} (h : dflN g v = 0) : v = .none := by
  unfold dflN at h
  split at h
  · rfl
  · split at h
    · split at h <;> cases h
    · cases h
  · cases h
theorem dfl1 {v : Value} (h : dflN g v = 1) (m : ∀ b ∈ adrV v, b ∈ asE g) : DflV (kE g) v [V.non] := by
  unfold dflN at h
  split at h
  · cases h
  · rename_i T
    split at h
    · rename_i tc td its tn tsl qT
      split at h
      · rename_i hi
        exact .inr ⟨by simp, T, _, [.none], tn, rfl, kE_get (m T (List.mem_cons_self ..)) qT, by rw [← hi], .cons rfl .nil⟩
      · cases h
    · cases h
  · cases h
theorem fun_of {v : Value} {x qual : Str} {st : Stmt} (e : dscV g v = dscF x qual st 0) (m : ∀ b ∈ adrV v, b ∈ asE g) (mc : ∀ b ∈ codV g v, b ∈ asE g) : ∃ a fd, v = .ref a ∧ Fun (kE g) x qual st a fd := by
  obtain ⟨a, oc, od, fd, osl, rfl, q, hu, hc, hd⟩ := dsc_fn e
  have l := kE_get (m a (List.mem_cons_self ..)) q
  have mc' : ∀ b ∈ adrV fd.code, b ∈ asE g := fun b hb => mc b (by
    unfold codV
    simp only
    rw [q]
    exact List.mem_append_left _ hb)
  have hcode := code_ok hc mc'
  have e8 := dfl0 hd
  obtain ⟨n1, n2, n3, n4, n5, n6, n7, n8, n9, n10, n11, n12, n13, n14, n15⟩ := fd
  simp only [Prod.mk.injEq] at hu
  obtain ⟨h1, h2, h3, h4, h5, h6, h7, h8⟩ := hu
  subst h1 h2 h3 h4 h5 h6 h7 h8
  simp only at e8
  subst e8
  exact ⟨a, _, rfl, ⟨⟨oc, od, n9, n10, n11, n12, n13, n14, osl, rfl, l, hcode⟩, keep_fn l⟩⟩
theorem fund_of {v : Value} {x qual : Str} {st : Stmt} (e : dscV g v = dscF x qual st 1) (m : ∀ b ∈ adrV v, b ∈ asE g) (mc : ∀ b ∈ codV g v, b ∈ asE g) : ∃ a fd, v = .ref a ∧ FunD (kE g) x qual (defArgs st) (defBody st) (defScope st) [V.non] [] a fd := by
  obtain ⟨a, oc, od, fd, osl, rfl, q, hu, hc, hd⟩ := dsc_fn e
  have l := kE_get (m a (List.mem_cons_self ..)) q
  have mc' : ∀ b ∈ adrV fd.code, b ∈ asE g := fun b hb => mc b (by
    unfold codV
    simp only
    rw [q]
    exact List.mem_append_left _ hb)
  have md' : ∀ b ∈ adrV fd.defaults, b ∈ asE g := fun b hb => mc b (by
    unfold codV
    simp only
    rw [q]
    exact List.mem_append_right _ hb)
  have hcode := code_ok hc mc'
  have e8 := dfl1 hd md'
  obtain ⟨n1, n2, n3, n4, n5, n6, n7, n8, n9, n10, n11, n12, n13, n14, n15⟩ := fd
  simp only [Prod.mk.injEq] at hu
  obtain ⟨h1, h2, h3, h4, h5, h6, h7, h8⟩ := hu
  subst h1 h2 h3 h4 h5 h6 h7 h8
  exact ⟨a, _, rfl, ⟨⟨oc, od, n8, n9, n10, n11, n12, n13, n14, osl, rfl, l, hcode, e8, .inl rfl⟩, keep_fn l⟩⟩
theorem dn_of (c : obsE g = valE) (X : (kE g).In h) (G : h.Ns mainGlobals mg) (i : Nat) {nm : Str} {st : Stmt} {ps : List Str} (hn : nmE[i]? = some nm) (hd : dsE[i]? = some (dscF nm nm st 0))
    (hb : ∀ (kV doc pm : Value) (an : Option Addr) (cdv ct : Value) (us : List Value), us.length = ps.length → bindArgs (PySem.W.fnOf nm nm (defArgs st) (defBody st) (defScope st) .none kV doc pm an cdv ct) ⟨us, []⟩ = pure (ps.zip us)) : Dn (kE g) mg nm st ps := by
  obtain ⟨v, hm, _, hv, m1, m2⟩ := mg_at c X G i hn hd
  obtain ⟨a, fd, rfl, F⟩ := fun_of hv m1 m2
  exact ⟨a, fd, F, hm, F.binds hb⟩
theorem kn_of (c : obsE g = valE) (X : (kE g).In h) (G : h.Ns mainGlobals mg) (i : Nat) {nm : Str} {k : Nat} {j : Int} (hn : nmE[i]? = some nm) (hd : dsE[i]? = some (.int j)) (hj : j = (k : Int)) : KnD mg nm k := by
  obtain ⟨v, hm, _, hv, _⟩ := mg_at c X G i hn hd
  unfold dscV at hv
  split at hv
  · split at hv <;> cases hv
  · cases hv
    exact ⟨_, by rw [← hj]; exact hm⟩
  · cases hv
theorem rf_of (c : obsE g = valE) (X : (kE g).In h) (G : h.Ns mainGlobals mg) (i : Nat) {nm : Str} {d : Dsc} (hn : nmE[i]? = some nm) (hd : dsE[i]? = some d) (hr : refB (vlE g i) = true) : mg nm = some (.ref (rfE g i)) := by
  obtain ⟨v, hm, hv, _⟩ := mg_at c X G i hn hd
  rw [hm]
  unfold rfE
  rw [hv] at hr ⊢
  cases v with
  | ref a => rfl
  | _ => cases hr
theorem mt_of (c : obsE g = valE) (i : Nat) {a : Addr} {x qual : Str} {st : Stmt} (ha : (mtE g)[i]? = some a) (hd : mtV[i]? = some (dscF x qual st 0)) : ∃ fd, Fun (kE g) x qual st a fd := by
  have h1 : ((mtE g).map fun a => dscV g (.ref a))[i]? = some (dscF x qual st 0) := by rw [mtsE c]; exact hd
  rw [List.getElem?_map, ha] at h1
  obtain ⟨m1, m2⟩ := as_mt (List.mem_of_getElem? ha)
  obtain ⟨b, fd, e, F⟩ := fun_of (Option.some.inj h1) (fun b hb => by
    cases List.mem_singleton.mp hb
    exact m1) m2
  cases e
  exact ⟨fd, F⟩
theorem bt_of (c : obsE g = valE) (X : (kE g).In h) (G : h.Ns mainGlobals mg) : Bt mg :=
  ⟨mg_free c X G (by decide +kernel), mg_free c X G (by decide +kernel), mg_free c X G (by decide +kernel), mg_free c X G (by decide +kernel), mg_free c X G (by decide +kernel), mg_free c X G (by decide +kernel), mg_free c X G (by decide +kernel), mg_free c X G (by decide +kernel), mg_free c X G (by decide +kernel), mg_free c X G (by decide +kernel), mg_free c X G (by decide +kernel), mg_free c X G (by decide +kernel), mg_free c X G (by decide +kernel), mg_free c X G (by decide +kernel), mg_free c X G (by decide +kernel), mg_free c X G (by decide +kernel), mg_free c X G (by decide +kernel), mg_free c X G (by decide +kernel), mg_free c X G (by decide +kernel), mg_free c X G (by decide +kernel), mg_free c X G (by decide +kernel)⟩
theorem t_d15 (c : obsE g = valE) (X : (kE g).In h) (G : h.Ns mainGlobals mg) : Dn (kE g) mg "is_integer" (topS 15) ["value"] := dn_of c X G 22 rfl rfl fun _ _ _ _ _ _ us hl => match us, hl with | [_], _ => rfl
theorem t_d16 (c : obsE g = valE) (X : (kE g).In h) (G : h.Ns mainGlobals mg) : Dn (kE g) mg "is_count" (topS 16) ["value"] := dn_of c X G 23 rfl rfl fun _ _ _ _ _ _ us hl => match us, hl with | [_], _ => rfl
theorem t_d17 (c : obsE g = valE) (X : (kE g).In h) (G : h.Ns mainGlobals mg) : Dn (kE g) mg "is_list" (topS 17) ["value"] := dn_of c X G 24 rfl rfl fun _ _ _ _ _ _ us hl => match us, hl with | [_], _ => rfl
theorem t_d18 (c : obsE g = valE) (X : (kE g).In h) (G : h.Ns mainGlobals mg) : Dn (kE g) mg "want_at_most" (topS 18) ["what", "limit", "number"] := dn_of c X G 25 rfl rfl fun _ _ _ _ _ _ us hl => match us, hl with | [_, _, _], _ => rfl
theorem t_d22 (c : obsE g = valE) (X : (kE g).In h) (G : h.Ns mainGlobals mg) : Dn (kE g) mg "lane_in" (topS 22) ["value"] := dn_of c X G 28 rfl rfl fun _ _ _ _ _ _ us hl => match us, hl with | [_], _ => rfl
theorem t_d23 (c : obsE g = valE) (X : (kE g).In h) (G : h.Ns mainGlobals mg) : Dn (kE g) mg "ties_of" (topS 23) ["lanes"] := dn_of c X G 29 rfl rfl fun _ _ _ _ _ _ us hl => match us, hl with | [_], _ => rfl
theorem t_d24 (c : obsE g = valE) (X : (kE g).In h) (G : h.Ns mainGlobals mg) : Dn (kE g) mg "is_whole" (topS 24) ["ties"] := dn_of c X G 30 rfl rfl fun _ _ _ _ _ _ us hl => match us, hl with | [_], _ => rfl
theorem t_d25 (c : obsE g = valE) (X : (kE g).In h) (G : h.Ns mainGlobals mg) : Dn (kE g) mg "ahead_of" (topS 25) ["ties", "goal"] := dn_of c X G 31 rfl rfl fun _ _ _ _ _ _ us hl => match us, hl with | [_, _], _ => rfl
theorem t_d26 (c : obsE g = valE) (X : (kE g).In h) (G : h.Ns mainGlobals mg) : Dn (kE g) mg "lanes_in" (topS 26) ["value"] := dn_of c X G 32 rfl rfl fun _ _ _ _ _ _ us hl => match us, hl with | [_], _ => rfl
theorem t_d28 (c : obsE g = valE) (X : (kE g).In h) (G : h.Ns mainGlobals mg) : Dn (kE g) mg "place_count" (topS 28) ["country"] := dn_of c X G 34 rfl rfl fun _ _ _ _ _ _ us hl => match us, hl with | [_], _ => rfl
theorem t_d29 (c : obsE g = valE) (X : (kE g).In h) (G : h.Ns mainGlobals mg) : Dn (kE g) mg "beside" (topS 29) ["country", "place"] := dn_of c X G 35 rfl rfl fun _ _ _ _ _ _ us hl => match us, hl with | [_, _], _ => rfl
theorem t_d30 (c : obsE g = valE) (X : (kE g).In h) (G : h.Ns mainGlobals mg) : Dn (kE g) mg "yards_in" (topS 30) ["country"] := dn_of c X G 36 rfl rfl fun _ _ _ _ _ _ us hl => match us, hl with | [_], _ => rfl
theorem t_d31 (c : obsE g = valE) (X : (kE g).In h) (G : h.Ns mainGlobals mg) : Dn (kE g) mg "is_place" (topS 31) ["country", "value"] := dn_of c X G 37 rfl rfl fun _ _ _ _ _ _ us hl => match us, hl with | [_, _], _ => rfl
theorem t_d32 (c : obsE g = valE) (X : (kE g).In h) (G : h.Ns mainGlobals mg) : Dn (kE g) mg "is_yard" (topS 32) ["country", "value"] := dn_of c X G 38 rfl rfl fun _ _ _ _ _ _ us hl => match us, hl with | [_, _], _ => rfl
theorem t_d33 (c : obsE g = valE) (X : (kE g).In h) (G : h.Ns mainGlobals mg) : Dn (kE g) mg "is_gate" (topS 33) ["country", "value"] := dn_of c X G 39 rfl rfl fun _ _ _ _ _ _ us hl => match us, hl with | [_, _], _ => rfl
theorem t_d34 (c : obsE g = valE) (X : (kE g).In h) (G : h.Ns mainGlobals mg) : Dn (kE g) mg "want_country" (topS 34) ["value"] := dn_of c X G 40 rfl rfl fun _ _ _ _ _ _ us hl => match us, hl with | [_], _ => rfl
theorem t_d35 (c : obsE g = valE) (X : (kE g).In h) (G : h.Ns mainGlobals mg) : Dn (kE g) mg "want_yard" (topS 35) ["country", "value"] := dn_of c X G 41 rfl rfl fun _ _ _ _ _ _ us hl => match us, hl with | [_, _], _ => rfl
theorem t_d36 (c : obsE g = valE) (X : (kE g).In h) (G : h.Ns mainGlobals mg) : Dn (kE g) mg "want_gate" (topS 36) ["country", "value"] := dn_of c X G 42 rfl rfl fun _ _ _ _ _ _ us hl => match us, hl with | [_, _], _ => rfl
theorem t_d41 (c : obsE g = valE) (X : (kE g).In h) (G : h.Ns mainGlobals mg) : Dn (kE g) mg "pairs_at" (topS 41) ["country", "yard"] := dn_of c X G 46 rfl rfl fun _ _ _ _ _ _ us hl => match us, hl with | [_, _], _ => rfl
theorem t_d42 (c : obsE g = valE) (X : (kE g).In h) (G : h.Ns mainGlobals mg) : Dn (kE g) mg "plus_cart" (topS 42) ["load", "origin", "target"] := dn_of c X G 47 rfl rfl fun _ _ _ _ _ _ us hl => match us, hl with | [_, _, _], _ => rfl
theorem t_d43 (c : obsE g = valE) (X : (kE g).In h) (G : h.Ns mainGlobals mg) : Dn (kE g) mg "is_end_for" (topS 43) ["near", "value"] := dn_of c X G 48 rfl rfl fun _ _ _ _ _ _ us hl => match us, hl with | [_, _], _ => rfl
theorem t_d44 (c : obsE g = valE) (X : (kE g).In h) (G : h.Ns mainGlobals mg) : Dn (kE g) mg "is_bound_for" (topS 44) ["near", "value"] := dn_of c X G 49 rfl rfl fun _ _ _ _ _ _ us hl => match us, hl with | [_, _], _ => rfl
theorem t_d45 (c : obsE g = valE) (X : (kE g).In h) (G : h.Ns mainGlobals mg) : Dn (kE g) mg "alternative_in" (topS 45) ["near", "value"] := dn_of c X G 50 rfl rfl fun _ _ _ _ _ _ us hl => match us, hl with | [_, _], _ => rfl
theorem t_d46 (c : obsE g = valE) (X : (kE g).In h) (G : h.Ns mainGlobals mg) : Dn (kE g) mg "keeps" (topS 46) ["bound", "load"] := dn_of c X G 51 rfl rfl fun _ _ _ _ _ _ us hl => match us, hl with | [_, _], _ => rfl
theorem t_d47 (c : obsE g = valE) (X : (kE g).In h) (G : h.Ns mainGlobals mg) : Dn (kE g) mg "stands_by_one" (topS 47) ["alternative", "load"] := dn_of c X G 52 rfl rfl fun _ _ _ _ _ _ us hl => match us, hl with | [_, _], _ => rfl
theorem t_d48 (c : obsE g = valE) (X : (kE g).In h) (G : h.Ns mainGlobals mg) : Dn (kE g) mg "stands_by" (topS 48) ["book", "load"] := dn_of c X G 53 rfl rfl fun _ _ _ _ _ _ us hl => match us, hl with | [_, _], _ => rfl
theorem t_d49 (c : obsE g = valE) (X : (kE g).In h) (G : h.Ns mainGlobals mg) : Dn (kE g) mg "book_in" (topS 49) ["country", "yard", "value"] := dn_of c X G 54 rfl rfl fun _ _ _ _ _ _ us hl => match us, hl with | [_, _, _], _ => rfl
theorem t_d50 (c : obsE g = valE) (X : (kE g).In h) (G : h.Ns mainGlobals mg) : Dn (kE g) mg "want_book" (topS 50) ["country", "yard", "value"] := dn_of c X G 55 rfl rfl fun _ _ _ _ _ _ us hl => match us, hl with | [_, _, _], _ => rfl
theorem t_d51 (c : obsE g = valE) (X : (kE g).In h) (G : h.Ns mainGlobals mg) : Dn (kE g) mg "told_book" (topS 51) ["book"] := dn_of c X G 56 rfl rfl fun _ _ _ _ _ _ us hl => match us, hl with | [_], _ => rfl
theorem t_d53 (c : obsE g = valE) (X : (kE g).In h) (G : h.Ns mainGlobals mg) : Dn (kE g) mg "step_towards" (topS 53) ["country", "place", "goal"] := dn_of c X G 57 rfl rfl fun _ _ _ _ _ _ us hl => match us, hl with | [_, _, _], _ => rfl
theorem t_d54 (c : obsE g = valE) (X : (kE g).In h) (G : h.Ns mainGlobals mg) : Dn (kE g) mg "yards_behind" (topS 54) ["country", "yard", "target"] := dn_of c X G 58 rfl rfl fun _ _ _ _ _ _ us hl => match us, hl with | [_, _, _], _ => rfl
theorem t_d57 (c : obsE g = valE) (X : (kE g).In h) (G : h.Ns mainGlobals mg) : Dn (kE g) mg "book_at" (topS 57) ["web", "yard"] := dn_of c X G 60 rfl rfl fun _ _ _ _ _ _ us hl => match us, hl with | [_, _], _ => rfl
theorem t_d58 (c : obsE g = valE) (X : (kE g).In h) (G : h.Ns mainGlobals mg) : Dn (kE g) mg "country_of" (topS 58) ["web"] := dn_of c X G 61 rfl rfl fun _ _ _ _ _ _ us hl => match us, hl with | [_], _ => rfl
theorem t_d59 (c : obsE g = valE) (X : (kE g).In h) (G : h.Ns mainGlobals mg) : Dn (kE g) mg "bare_web" (topS 59) ["country", "books"] := dn_of c X G 62 rfl rfl fun _ _ _ _ _ _ us hl => match us, hl with | [_, _], _ => rfl
theorem t_d60 (c : obsE g = valE) (X : (kE g).In h) (G : h.Ns mainGlobals mg) : Dn (kE g) mg "want_web" (topS 60) ["value"] := dn_of c X G 63 rfl rfl fun _ _ _ _ _ _ us hl => match us, hl with | [_], _ => rfl
theorem t_d62 (c : obsE g = valE) (X : (kE g).In h) (G : h.Ns mainGlobals mg) : DnD (kE g) mg "standing_by" (topS 62) ["book", "pairs", "most"] [.non] := by
  obtain ⟨v, hm, _, hv, m1, m2⟩ := mg_at (nm := "standing_by") (d := dscF "standing_by" "standing_by" (topS 62) 1) c X G 64 rfl rfl
  obtain ⟨a, fd, rfl, F⟩ := fund_of hv m1 m2
  obtain ⟨ds, hds, hb⟩ := F.binds1 (ps := ["book", "pairs", "most"]) 2 0 (by simp) rfl fun T kV doc pm an cdv ct us its hu hi => match us, its, hu, hi with | [_, _], [_], _, _ => ⟨_, rfl, rfl⟩
  exact ⟨a, fd, ds, F, hm, hds, hb⟩
theorem t_d63 (c : obsE g = valE) (X : (kE g).In h) (G : h.Ns mainGlobals mg) : Dn (kE g) mg "pairs_towards" (topS 63) ["country", "yard", "target"] := dn_of c X G 65 rfl rfl fun _ _ _ _ _ _ us hl => match us, hl with | [_, _, _], _ => rfl
theorem t_d64 (c : obsE g = valE) (X : (kE g).In h) (G : h.Ns mainGlobals mg) : Dn (kE g) mg "towards" (topS 64) ["web", "yard", "target"] := dn_of c X G 66 rfl rfl fun _ _ _ _ _ _ us hl => match us, hl with | [_, _, _], _ => rfl
theorem t_d66 (c : obsE g = valE) (X : (kE g).In h) (G : h.Ns mainGlobals mg) : Dn (kE g) mg "yard_sides" (topS 66) ["country"] := dn_of c X G 67 rfl rfl fun _ _ _ _ _ _ us hl => match us, hl with | [_], _ => rfl
theorem t_d67 (c : obsE g = valE) (X : (kE g).In h) (G : h.Ns mainGlobals mg) : Dn (kE g) mg "is_shut" (topS 67) ["book", "target", "load", "place"] := dn_of c X G 68 rfl rfl fun _ _ _ _ _ _ us hl => match us, hl with | [_, _, _, _], _ => rfl
theorem t_d68 (c : obsE g = valE) (X : (kE g).In h) (G : h.Ns mainGlobals mg) : Dn (kE g) mg "witness_of" (topS 68) ["web", "yard", "target"] := dn_of c X G 69 rfl rfl fun _ _ _ _ _ _ us hl => match us, hl with | [_, _, _], _ => rfl
theorem t_d69 (c : obsE g = valE) (X : (kE g).In h) (G : h.Ns mainGlobals mg) : Dn (kE g) mg "has_plug" (topS 69) ["web", "side"] := dn_of c X G 70 rfl rfl fun _ _ _ _ _ _ us hl => match us, hl with | [_, _], _ => rfl
theorem t_d70 (c : obsE g = valE) (X : (kE g).In h) (G : h.Ns mainGlobals mg) : Dn (kE g) mg "load_weight" (topS 70) ["load"] := dn_of c X G 71 rfl rfl fun _ _ _ _ _ _ us hl => match us, hl with | [_], _ => rfl
theorem t_d71 (c : obsE g = valE) (X : (kE g).In h) (G : h.Ns mainGlobals mg) : Dn (kE g) mg "sides_plugged" (topS 71) ["web"] := dn_of c X G 72 rfl rfl fun _ _ _ _ _ _ us hl => match us, hl with | [_], _ => rfl
theorem t_d73 (c : obsE g = valE) (X : (kE g).In h) (G : h.Ns mainGlobals mg) : Dn (kE g) mg "common_yards" (topS 73) ["country", "sides"] := dn_of c X G 73 rfl rfl fun _ _ _ _ _ _ us hl => match us, hl with | [_, _], _ => rfl
theorem t_d74 (c : obsE g = valE) (X : (kE g).In h) (G : h.Ns mainGlobals mg) : Dn (kE g) mg "posts_of" (topS 74) ["web"] := dn_of c X G 74 rfl rfl fun _ _ _ _ _ _ us hl => match us, hl with | [_], _ => rfl
theorem t_d75 (c : obsE g = valE) (X : (kE g).In h) (G : h.Ns mainGlobals mg) : Dn (kE g) mg "posts" (topS 75) ["web"] := dn_of c X G 75 rfl rfl fun _ _ _ _ _ _ us hl => match us, hl with | [_], _ => rfl
theorem t_d78 (c : obsE g = valE) (X : (kE g).In h) (G : h.Ns mainGlobals mg) : Dn (kE g) mg "is_clear_to" (topS 78) ["web", "gate"] := dn_of c X G 77 rfl rfl fun _ _ _ _ _ _ us hl => match us, hl with | [_, _], _ => rfl
theorem t_d79 (c : obsE g = valE) (X : (kE g).In h) (G : h.Ns mainGlobals mg) : Dn (kE g) mg "kind_by" (topS 79) ["web", "gate"] := dn_of c X G 78 rfl rfl fun _ _ _ _ _ _ us hl => match us, hl with | [_, _], _ => rfl
theorem t_d80 (c : obsE g = valE) (X : (kE g).In h) (G : h.Ns mainGlobals mg) : Dn (kE g) mg "door_yard" (topS 80) ["country", "gate"] := dn_of c X G 79 rfl rfl fun _ _ _ _ _ _ us hl => match us, hl with | [_, _], _ => rfl
theorem t_d81 (c : obsE g = valE) (X : (kE g).In h) (G : h.Ns mainGlobals mg) : Dn (kE g) mg "door_numbers" (topS 81) ["country", "gate", "first", "behind"] := dn_of c X G 80 rfl rfl fun _ _ _ _ _ _ us hl => match us, hl with | [_, _, _, _], _ => rfl
theorem t_d82 (c : obsE g = valE) (X : (kE g).In h) (G : h.Ns mainGlobals mg) : Dn (kE g) mg "numbers_of_both" (topS 82) ["country", "gate", "other", "door"] := dn_of c X G 81 rfl rfl fun _ _ _ _ _ _ us hl => match us, hl with | [_, _, _, _], _ => rfl
theorem t_d83 (c : obsE g = valE) (X : (kE g).In h) (G : h.Ns mainGlobals mg) : Dn (kE g) mg "led_end" (topS 83) ["numbers", "place"] := dn_of c X G 82 rfl rfl fun _ _ _ _ _ _ us hl => match us, hl with | [_, _], _ => rfl
theorem t_d84 (c : obsE g = valE) (X : (kE g).In h) (G : h.Ns mainGlobals mg) : Dn (kE g) mg "led_book" (topS 84) ["book", "numbers"] := dn_of c X G 83 rfl rfl fun _ _ _ _ _ _ us hl => match us, hl with | [_, _], _ => rfl
theorem t_d85 (c : obsE g = valE) (X : (kE g).In h) (G : h.Ns mainGlobals mg) : Dn (kE g) mg "joined_web" (topS 85) ["web", "gate", "other", "door"] := dn_of c X G 84 rfl rfl fun _ _ _ _ _ _ us hl => match us, hl with | [_, _, _, _], _ => rfl
theorem t_d86 (c : obsE g = valE) (X : (kE g).In h) (G : h.Ns mainGlobals mg) : Dn (kE g) mg "lone_web" (topS 86) ["bounds"] := dn_of c X G 85 rfl rfl fun _ _ _ _ _ _ us hl => match us, hl with | [_], _ => rfl
theorem t_d87 (c : obsE g = valE) (X : (kE g).In h) (G : h.Ns mainGlobals mg) : Dn (kE g) mg "kind" (topS 87) ["web", "gate"] := dn_of c X G 86 rfl rfl fun _ _ _ _ _ _ us hl => match us, hl with | [_, _], _ => rfl
theorem t_d88 (c : obsE g = valE) (X : (kE g).In h) (G : h.Ns mainGlobals mg) : Dn (kE g) mg "joined" (topS 88) ["web", "gate", "other", "door"] := dn_of c X G 87 rfl rfl fun _ _ _ _ _ _ us hl => match us, hl with | [_, _, _, _], _ => rfl
theorem t_d89 (c : obsE g = valE) (X : (kE g).In h) (G : h.Ns mainGlobals mg) : Dn (kE g) mg "want_kind" (topS 89) ["value"] := dn_of c X G 88 rfl rfl fun _ _ _ _ _ _ us hl => match us, hl with | [_], _ => rfl
theorem t_d90 (c : obsE g = valE) (X : (kE g).In h) (G : h.Ns mainGlobals mg) : Dn (kE g) mg "are_never_stuck" (topS 90) ["near", "far"] := dn_of c X G 89 rfl rfl fun _ _ _ _ _ _ us hl => match us, hl with | [_, _], _ => rfl
theorem t_d91 (c : obsE g = valE) (X : (kE g).In h) (G : h.Ns mainGlobals mg) : Dn (kE g) mg "parting" (topS 91) ["near", "far"] := dn_of c X G 90 rfl rfl fun _ _ _ _ _ _ us hl => match us, hl with | [_, _], _ => rfl
theorem t_d93 (c : obsE g = valE) (X : (kE g).In h) (G : h.Ns mainGlobals mg) : Dn (kE g) mg "_law_pot" (topS 93) ["_law_script", "_law_k"] := dn_of c X G 91 rfl rfl fun _ _ _ _ _ _ us hl => match us, hl with | [_, _], _ => rfl
theorem t_d94 (c : obsE g = valE) (X : (kE g).In h) (G : h.Ns mainGlobals mg) : Dn (kE g) mg "_law_draw" (topS 94) ["_law_pot_here", "_law_size"] := dn_of c X G 92 rfl rfl fun _ _ _ _ _ _ us hl => match us, hl with | [_, _], _ => rfl
theorem t_d95 (c : obsE g = valE) (X : (kE g).In h) (G : h.Ns mainGlobals mg) : Dn (kE g) mg "_law_pick" (topS 95) ["_law_pot_here", "_law_some"] := dn_of c X G 93 rfl rfl fun _ _ _ _ _ _ us hl => match us, hl with | [_, _], _ => rfl
theorem t_d96 (c : obsE g = valE) (X : (kE g).In h) (G : h.Ns mainGlobals mg) : Dn (kE g) mg "_law_beside" (topS 96) ["_law_lanes", "_law_place"] := dn_of c X G 94 rfl rfl fun _ _ _ _ _ _ us hl => match us, hl with | [_, _], _ => rfl
theorem t_d97 (c : obsE g = valE) (X : (kE g).In h) (G : h.Ns mainGlobals mg) : Dn (kE g) mg "_law_yards" (topS 97) ["_law_lanes"] := dn_of c X G 95 rfl rfl fun _ _ _ _ _ _ us hl => match us, hl with | [_], _ => rfl
theorem t_d98 (c : obsE g = valE) (X : (kE g).In h) (G : h.Ns mainGlobals mg) : Dn (kE g) mg "_law_gates" (topS 98) ["_law_lanes"] := dn_of c X G 96 rfl rfl fun _ _ _ _ _ _ us hl => match us, hl with | [_], _ => rfl
theorem t_d99 (c : obsE g = valE) (X : (kE g).In h) (G : h.Ns mainGlobals mg) : Dn (kE g) mg "_law_way" (topS 99) ["_law_lanes", "_law_start", "_law_end"] := dn_of c X G 97 rfl rfl fun _ _ _ _ _ _ us hl => match us, hl with | [_, _, _], _ => rfl
theorem t_d100 (c : obsE g = valE) (X : (kE g).In h) (G : h.Ns mainGlobals mg) : Dn (kE g) mg "_law_lets" (topS 100) ["_law_book_here", "_law_load"] := dn_of c X G 98 rfl rfl fun _ _ _ _ _ _ us hl => match us, hl with | [_, _], _ => rfl
theorem t_d101 (c : obsE g = valE) (X : (kE g).In h) (G : h.Ns mainGlobals mg) : Dn (kE g) mg "_law_lots" (topS 101) ["_law_things", "_law_many"] := dn_of c X G 99 rfl rfl fun _ _ _ _ _ _ us hl => match us, hl with | [_, _], _ => rfl
theorem t_d102 (c : obsE g = valE) (X : (kE g).In h) (G : h.Ns mainGlobals mg) : Dn (kE g) mg "_law_plugged" (topS 102) ["_law_lanes", "_law_book_here", "_law_yard", "_law_target"] := dn_of c X G 100 rfl rfl fun _ _ _ _ _ _ us hl => match us, hl with | [_, _, _, _], _ => rfl
theorem t_d103 (c : obsE g = valE) (X : (kE g).In h) (G : h.Ns mainGlobals mg) : Dn (kE g) mg "_law_posts" (topS 103) ["_law_lanes", "_law_books_here"] := dn_of c X G 101 rfl rfl fun _ _ _ _ _ _ us hl => match us, hl with | [_, _], _ => rfl
theorem t_d104 (c : obsE g = valE) (X : (kE g).In h) (G : h.Ns mainGlobals mg) : Dn (kE g) mg "_law_is_clear" (topS 104) ["_law_lanes", "_law_books_here", "_law_gate"] := dn_of c X G 102 rfl rfl fun _ _ _ _ _ _ us hl => match us, hl with | [_, _, _], _ => rfl
theorem t_d105 (c : obsE g = valE) (X : (kE g).In h) (G : h.Ns mainGlobals mg) : Dn (kE g) mg "_law_kind" (topS 105) ["_law_lanes", "_law_books_here", "_law_gate"] := dn_of c X G 103 rfl rfl fun _ _ _ _ _ _ us hl => match us, hl with | [_, _, _], _ => rfl
theorem t_d106 (c : obsE g = valE) (X : (kE g).In h) (G : h.Ns mainGlobals mg) : Dn (kE g) mg "_law_bound" (topS 106) ["_law_pot_here", "_law_near"] := dn_of c X G 104 rfl rfl fun _ _ _ _ _ _ us hl => match us, hl with | [_, _], _ => rfl
theorem t_d107 (c : obsE g = valE) (X : (kE g).In h) (G : h.Ns mainGlobals mg) : Dn (kE g) mg "_law_book" (topS 107) ["_law_pot_here", "_law_near"] := dn_of c X G 105 rfl rfl fun _ _ _ _ _ _ us hl => match us, hl with | [_, _], _ => rfl
theorem t_d108 (c : obsE g = valE) (X : (kE g).In h) (G : h.Ns mainGlobals mg) : Dn (kE g) mg "_law_small" (topS 108) ["_law_pot_here"] := dn_of c X G 106 rfl rfl fun _ _ _ _ _ _ us hl => match us, hl with | [_], _ => rfl
theorem t_d109 (c : obsE g = valE) (X : (kE g).In h) (G : h.Ns mainGlobals mg) : Dn (kE g) mg "_law_books" (topS 109) ["_law_pot_here", "_law_lanes"] := dn_of c X G 107 rfl rfl fun _ _ _ _ _ _ us hl => match us, hl with | [_, _], _ => rfl
theorem t_d110 (c : obsE g = valE) (X : (kE g).In h) (G : h.Ns mainGlobals mg) : Dn (kE g) mg "_law_joined" (topS 110) ["_law_lanes", "_law_books_here", "_law_gate", "_law_others", "_law_more", "_law_door"] := dn_of c X G 108 rfl rfl fun _ _ _ _ _ _ us hl => match us, hl with | [_, _, _, _, _, _], _ => rfl
theorem t_d111 (c : obsE g = valE) (X : (kE g).In h) (G : h.Ns mainGlobals mg) : Dn (kE g) mg "_law_by_kinds" (topS 111) ["_law_pot_here"] := dn_of c X G 109 rfl rfl fun _ _ _ _ _ _ us hl => match us, hl with | [_], _ => rfl
theorem t_d112 (c : obsE g = valE) (X : (kE g).In h) (G : h.Ns mainGlobals mg) : Dn (kE g) mg "_law_right" (topS 112) ["_law_pot_here"] := dn_of c X G 110 rfl rfl fun _ _ _ _ _ _ us hl => match us, hl with | [_], _ => rfl
theorem t_d113 (c : obsE g = valE) (X : (kE g).In h) (G : h.Ns mainGlobals mg) : Dn (kE g) mg "law" (topS 113) ["_law_script"] := dn_of c X G 111 rfl rfl fun _ _ _ _ _ _ us hl => match us, hl with | [_], _ => rfl
theorem tops_of (c : obsE g = valE) (X : (kE g).In h) (G : h.Ns mainGlobals mg) : Tops (kE g) mg (aC g) (aW g) := by
  have b := clsE c
  unfold clsAll at b
  simp only [Bool.and_eq_true] at b
  obtain ⟨⟨r1, r2, r3⟩, ⟨⟨c1, c2⟩, o1, o2⟩, ⟨k1, k2⟩, ⟨⟨n1, n2⟩, n3, n4, n5⟩, ⟨⟨p1, p2⟩, p3, p4⟩, tk⟩ := b
  have C1 := clsB_ok c1
  have C2 := clsB_ok c2
  obtain ⟨f1, F1⟩ := mt_of (x := "__init__") (qual := "Country.__init__") (st := inClass (topS 27) 0) c 0 rfl rfl
  obtain ⟨f2, F2⟩ := mt_of (x := "__init__") (qual := "Web.__init__") (st := inClass (topS 56) 0) c 1 rfl rfl
  obtain ⟨f3, F3⟩ := mt_of (x := "lanes") (qual := "Country.lanes") (st := inClass (topS 27) 1) c 2 rfl rfl
  obtain ⟨f4, F4⟩ := mt_of (x := "yards") (qual := "Country.yards") (st := inClass (topS 27) 2) c 3 rfl rfl
  obtain ⟨f5, F5⟩ := mt_of (x := "country") (qual := "Web.country") (st := inClass (topS 56) 1) c 4 rfl rfl
  obtain ⟨f6, F6⟩ := mt_of (x := "books") (qual := "Web.books") (st := inClass (topS 56) 2) c 5 rfl rfl
  exact {
    bt := bt_of c X G
    cty := ⟨ownB_ok C1 o1, rf_of (nm := "Country") (d := .oth) c X G 33 rfl rfl r1, He.eqO_ok n1, He.eqO_ok n2, He.eqO_ok n3⟩
    wb := ⟨ownB_ok C2 o2, rf_of (nm := "Web") (d := .oth) c X G 59 rfl rfl r2, He.eqO_ok n4, He.eqO_ok n5⟩
    k20 := kn_of (j := 7) c X G 26 rfl rfl rfl
    k21 := kn_of (j := 4) c X G 27 rfl rfl rfl
    k38 := kn_of (j := 6) c X G 43 rfl rfl rfl
    k39 := kn_of (j := 6) c X G 44 rfl rfl rfl
    k40 := kn_of (j := 4) c X G 45 rfl rfl rfl
    k77 := ⟨aK g, rf_of (nm := "KINDS") (d := .oth) c X G 76 rfl rfl r3, fun H => tupE_ok tk H⟩
    mkC := ⟨_, f1, mkB_ok k1, F1, F1.binds fun _ _ _ _ _ _ us hl => match us, hl with | [_, _], _ => rfl⟩
    prL := ⟨_, _, f3, propB_ok p1, F3, F3.binds fun _ _ _ _ _ _ us hl => match us, hl with | [_], _ => rfl⟩
    prY := ⟨_, _, f4, propB_ok p2, F4, F4.binds fun _ _ _ _ _ _ us hl => match us, hl with | [_], _ => rfl⟩
    mkW := ⟨_, f2, mkB_ok k2, F2, F2.binds fun _ _ _ _ _ _ us hl => match us, hl with | [_, _, _], _ => rfl⟩
    prC := ⟨_, _, f5, propB_ok p3, F5, F5.binds fun _ _ _ _ _ _ us hl => match us, hl with | [_], _ => rfl⟩
    prB := ⟨_, _, f6, propB_ok p4, F6, F6.binds fun _ _ _ _ _ _ us hl => match us, hl with | [_], _ => rfl⟩
    d15 := t_d15 c X G
    d16 := t_d16 c X G
    d17 := t_d17 c X G
    d18 := t_d18 c X G
    d22 := t_d22 c X G
    d23 := t_d23 c X G
    d24 := t_d24 c X G
    d25 := t_d25 c X G
    d26 := t_d26 c X G
    d28 := t_d28 c X G
    d29 := t_d29 c X G
    d30 := t_d30 c X G
    d31 := t_d31 c X G
    d32 := t_d32 c X G
    d33 := t_d33 c X G
    d34 := t_d34 c X G
    d35 := t_d35 c X G
    d36 := t_d36 c X G
    d41 := t_d41 c X G
    d42 := t_d42 c X G
    d43 := t_d43 c X G
    d44 := t_d44 c X G
    d45 := t_d45 c X G
    d46 := t_d46 c X G
    d47 := t_d47 c X G
    d48 := t_d48 c X G
    d49 := t_d49 c X G
    d50 := t_d50 c X G
    d51 := t_d51 c X G
    d53 := t_d53 c X G
    d54 := t_d54 c X G
    d57 := t_d57 c X G
    d58 := t_d58 c X G
    d59 := t_d59 c X G
    d60 := t_d60 c X G
    d62 := t_d62 c X G
    d63 := t_d63 c X G
    d64 := t_d64 c X G
    d66 := t_d66 c X G
    d67 := t_d67 c X G
    d68 := t_d68 c X G
    d69 := t_d69 c X G
    d70 := t_d70 c X G
    d71 := t_d71 c X G
    d73 := t_d73 c X G
    d74 := t_d74 c X G
    d75 := t_d75 c X G
    d78 := t_d78 c X G
    d79 := t_d79 c X G
    d80 := t_d80 c X G
    d81 := t_d81 c X G
    d82 := t_d82 c X G
    d83 := t_d83 c X G
    d84 := t_d84 c X G
    d85 := t_d85 c X G
    d86 := t_d86 c X G
    d87 := t_d87 c X G
    d88 := t_d88 c X G
    d89 := t_d89 c X G
    d90 := t_d90 c X G
    d91 := t_d91 c X G
    d93 := t_d93 c X G
    d94 := t_d94 c X G
    d95 := t_d95 c X G
    d96 := t_d96 c X G
    d97 := t_d97 c X G
    d98 := t_d98 c X G
    d99 := t_d99 c X G
    d100 := t_d100 c X G
    d101 := t_d101 c X G
    d102 := t_d102 c X G
    d103 := t_d103 c X G
    d104 := t_d104 c X G
    d105 := t_d105 c X G
    d106 := t_d106 c X G
    d107 := t_d107 c X G
    d108 := t_d108 c X G
    d109 := t_d109 c X G
    d110 := t_d110 c X G
    d111 := t_d111 c X G
    d112 := t_d112 c X G
    d113 := t_d113 c X G
  }
end
end LK
set_option maxHeartbeats 4000000
/-! ## L6 -/
namespace LK
open PySem PySem.Spec PyProof.Rows L2
open Rp (R)
section
variable {α β γ δ : Type} [Rp α] [Rp β] [Rp γ] [Rp δ]
variable {X : Cx} {e a b c : Expr} {es : List Expr} {σ : L2.St} {B B' H : Hp} {x : α} {y : β} {z : γ} {pos p p2 p3 p4 : Pos} {D : Ends} {rest body els : List Stmt} {st : Stmt}

/-! ### two arguments, some of them new lists -/
theorem rdA_EF {ys : List β} {Q : List V → Hp → Prop} (h : Ev X a σ B x) (h' : EvF X b σ B ys) (s : Same B H) (k : ∀ v q ws B' H', HLen H' → Nw B H B' H' → R B' x v → H q = none → B' q = none → H' q = some (.lst ws) → LR B' ys ws → Q [v, .ref q] H') (h1 : NS X a [b] := by rfl) (h2 : NS X b [] := by rfl) : rdA X [a, b] σ H Q :=
  rdA_mk (pa_cons pe_rd (pa_cons pe_rd pa_nil h2) h1) (h H s _ fun v B1 H1 hl n r => h'.mono n.bb H1 n.bh _ fun q ws B' H' hl n2 h0 hb hq l => k v q ws B' H' hl (n.trans n2) (Rp.mono n2.bb r) (n.hh.free h0) hb hq l)
theorem rdA_FE {xs : List α} {Q : List V → Hp → Prop} (h : EvF X a σ B xs) (h' : Ev X b σ B y) (s : Same B H) (k : ∀ q ws v B' H', HLen H' → Nw B H B' H' → H q = none → B' q = none → H' q = some (.lst ws) → LR B' xs ws → R B' y v → Q [.ref q, v] H') (h1 : NS X a [b] := by rfl) (h2 : NS X b [] := by rfl) : rdA X [a, b] σ H Q :=
  rdA_mk (pa_cons pe_rd (pa_cons pe_rd pa_nil h2) h1) (h H s _ fun q ws B1 H1 hl n h0 hb hq l => h'.mono n.bb H1 n.bh _ fun v B' H' hl n2 r => k q ws v B' H' hl (n.trans n2) h0 (n2.hid q (by rw [hq]; intro z; cases z) hb) (n2.hh q _ hq) (l.mono n2.bb) r)
theorem rdA_FF {xs : List α} {ys : List β} {Q : List V → Hp → Prop} (h : EvF X a σ B xs) (h' : EvF X b σ B ys) (s : Same B H)
    (k : ∀ q ws q2 ws2 B' H', HLen H' → Nw B H B' H' → q ≠ q2 → H q = none → H q2 = none → B' q = none → B' q2 = none → H' q = some (.lst ws) → H' q2 = some (.lst ws2) → LR B' xs ws → LR B' ys ws2 → Q [.ref q, .ref q2] H') (h1 : NS X a [b] := by rfl) (h2 : NS X b [] := by rfl) : rdA X [a, b] σ H Q :=
  rdA_mk (pa_cons pe_rd (pa_cons pe_rd pa_nil h2) h1) (h H s _ fun q ws B1 H1 hl n h0 hb hq l => h'.mono n.bb H1 n.bh _ fun q2 ws2 B' H' hl n2 h02 hb2 hq2 l2 =>
    k q ws q2 ws2 B' H' hl (n.trans n2) (ne_of_none hq h02) h0 (n.hh.free h02) (n2.hid q (by rw [hq]; intro z; cases z) hb) hb2 (n2.hh q _ hq) hq2 (l.mono n2.bb) l2)
/-- a, b = x, y -/
theorem rb_par (i j : Nat) {n m : Str} {kt k2 : Nat} {px py pt pt2 : Pos} (h : rdA X [a, b] σ H fun vs H1 => ∃ v w, vs = [v, w] ∧ rdB X rest D ((σ.set i (some v)).set j (some w)) H1) (hN : X.N.Nodup) (hc : X.calm = true := by rfl) (hi : X.N[i]? = some n := by rfl) (hj : X.N[j]? = some m := by rfl) (hij : i ≠ j := by decide)
    (hx : X.env.scope.names.lookup n = some .local := by rfl) (hy : X.env.scope.names.lookup m = some .local := by rfl)
    (hw : swappedStores [.Tuple [.Name n px, .Name m py] kt pt] (.Tuple [a, b] k2 pt2) X.env = pure (some [n, m]) := by rfl) (hs : swapsWithSole [.Tuple [.Name n px, .Name m py] kt pt] (.Tuple [a, b] k2 pt2) pos.line X.env = pure false := by rfl) :
    rdB X (.Assign [.Tuple [.Name n px, .Name m py] kt pt] (.Tuple [a, b] k2 pt2) pos :: rest) D σ H :=
  rdB_mk (pss_cons (ps_par hc hN hi hj hij hx hy pa_rd hw hs) pss_rd) h
/-- a, b = a pair that is worth (x, y) -/
theorem rb_unpack (i j : Nat) {n m : Str} {kt : Nat} {px py pt : Pos} {u : α × β} (h : Ev X e σ B u) (s : Same B H) (k : ∀ v w B' H', HLen H' → Nw B H B' H' → R B' u.1 v → R B' u.2 w → rdB X rest D ((σ.set i (some v)).set j (some w)) H') (hN : X.N.Nodup) (hc : X.calm = true := by rfl)
    (hi : X.N[i]? = some n := by rfl) (hx : Loc X.env.scope n := by first | exact Or.inl rfl | exact Or.inr rfl) (hf : X.fn n = true ∨ X.env.scope.names.lookup n = some .local := by first | exact .inl rfl | exact .inr rfl)
    (hj : X.N[j]? = some m := by rfl) (hy : Loc X.env.scope m := by first | exact Or.inl rfl | exact Or.inr rfl) (hg : X.fn m = true ∨ X.env.scope.names.lookup m = some .local := by first | exact .inl rfl | exact .inr rfl)
    (hs : swapsWithSole [.Tuple [.Name n px, .Name m py] kt pt] e pos.line X.env = pure false := by rfl) (hw : swappedStores [.Tuple [.Name n px, .Name m py] kt pt] e X.env = pure none := by rfl) (h1 : (assignEach [.Tuple [.Name n px, .Name m py] kt pt] X.env).map (·.2) = [assign (.Tuple [.Name n px, .Name m py] kt pt) X.env] := by rfl) :
    rdB X (.Assign [.Tuple [.Name n px, .Name m py] kt pt] e pos :: rest) D σ H :=
  rdB_mk (pss_cons (ps_asg pe_rd (pg_tup (n := 2) hc (pgs_cons (pg_name hN hi hx hf) (pgs_cons (pg_name hN hj hy hg) pgs_nil))) hs hw h1) pss_rd) (h H s _ fun v B' H' hl n r => by
    obtain ⟨q, v1, v2, rfl, hq, r1, r2⟩ := r
    exact ⟨q, [v1, v2], rfl, .inl (.inl (n.bh q _ hq)), rfl, v1, [v2], rfl, v2, [], rfl, rfl, k v1 v2 B' H' hl n r1 r2⟩)
theorem rb_unpack3 (i j l : Nat) {n m o : Str} {kt : Nat} {px py pz pt : Pos} {u : T3 α β γ} (h : Ev X e σ B u) (s : Same B H) (k : ∀ v w t B' H', HLen H' → Nw B H B' H' → R B' u.a v → R B' u.b w → R B' u.c t → rdB X rest D (((σ.set i (some v)).set j (some w)).set l (some t)) H') (hN : X.N.Nodup) (hc : X.calm = true := by rfl)
    (hi : X.N[i]? = some n := by rfl) (hx : Loc X.env.scope n := by first | exact Or.inl rfl | exact Or.inr rfl) (hf : X.fn n = true ∨ X.env.scope.names.lookup n = some .local := by first | exact .inl rfl | exact .inr rfl)
    (hj : X.N[j]? = some m := by rfl) (hy : Loc X.env.scope m := by first | exact Or.inl rfl | exact Or.inr rfl) (hg : X.fn m = true ∨ X.env.scope.names.lookup m = some .local := by first | exact .inl rfl | exact .inr rfl)
    (hl : X.N[l]? = some o := by rfl) (hz : Loc X.env.scope o := by first | exact Or.inl rfl | exact Or.inr rfl) (hh : X.fn o = true ∨ X.env.scope.names.lookup o = some .local := by first | exact .inl rfl | exact .inr rfl)
    (hs : swapsWithSole [.Tuple [.Name n px, .Name m py, .Name o pz] kt pt] e pos.line X.env = pure false := by rfl) (hw : swappedStores [.Tuple [.Name n px, .Name m py, .Name o pz] kt pt] e X.env = pure none := by rfl) (h1 : (assignEach [.Tuple [.Name n px, .Name m py, .Name o pz] kt pt] X.env).map (·.2) = [assign (.Tuple [.Name n px, .Name m py, .Name o pz] kt pt) X.env] := by rfl) :
    rdB X (.Assign [.Tuple [.Name n px, .Name m py, .Name o pz] kt pt] e pos :: rest) D σ H :=
  rdB_mk (pss_cons (ps_asg pe_rd (pg_tup (n := 3) hc (pgs_cons (pg_name hN hi hx hf) (pgs_cons (pg_name hN hj hy hg) (pgs_cons (pg_name hN hl hz hh) pgs_nil)))) hs hw h1) pss_rd) (h H s _ fun v B' H' hl n r => by
    obtain ⟨q, v1, v2, v3, rfl, hq, r1, r2, r3⟩ := r
    exact ⟨q, [v1, v2, v3], rfl, .inl (.inl (n.bh q _ hq)), rfl, v1, [v2, v3], rfl, v2, [v3], rfl, v3, [], rfl, rfl, k v1 v2 v3 B' H' hl n r1 r2 r3⟩)

/-! ### lists that change -/
theorem tyL {K : PySem.W.Frag} {l : Addr} {vs : List V} (h : H l = some (.lst vs)) : tyV K "list" (.ref l) H := Or.inl ⟨rfl, _, Or.inl (Or.inl h)⟩
theorem rb_append (i : Nat) {l : Addr} {vs : List V} {n : Str} (h : Ev X e σ B x) (s : Same B H) (hσ : σ[i]? = some (some (.ref l))) (hl : H l = some (.lst vs)) (hz : vs.length < sizeLine) (k : ∀ v B' H', Nw B H B' H' → R B' x v → rdB X rest D σ (upd H' l (.lst (vs ++ [v]))))
    (hN : X.N[i]? = some n := by rfl) (hv : Vis X.env.scope n := by first | exact Or.inl rfl | exact Or.inr (Or.inl rfl)) (hd : (n == ("__debug__" : Str)) = false := by decide) (hcd : (n == ("__classdict__" : Str)) = false := by decide)
    (hb : attributeBase (.Name n p) "append" X.env (eval (.Name n p) X.env) = eval (.Name n p) X.env := by rfl) (hfew : ((backTo p3 (starEach [e] X.env)).all (fun x => !x.1) && (backToKw p3 (keywordEach [] X.env)).all (fun x => x.1.isSome)
      && decide ([e].length + ([] : List Keyword).length + (if ([] : List Keyword).isEmpty then 0 else 1) < 30)) = true := by rfl)
    (hline : (p2.endLine == p3.line) = true := by rfl) (hs : NS X e [] := by rfl) (hsw : swapsWith (.Call (.Attribute (.Name n p) "append" p2) [e] [] p3) none pos.line X.env = pure false := by rfl) :
    rdB X (.Expr (.Call (.Attribute (.Name n p) "append" p2) [e] [] p3) pos :: rest) D σ H :=
  rdB_mk (pss_cons (ps_expr (pe_bm PySem.F.plainAttrs_list PySem.F.slot_list_append PySem.F.type_list_append mt_append (pe_var hN hv hd hcd) (pa_cons pe_rd pa_nil hs) hb hfew hline hs rfl) hsw) pss_rd)
    ⟨.ref l, hσ, tyL hl, h H s _ fun v B' H' _ n r => ⟨l, vs, v, rfl, rfl, n.hh l _ hl, hz, k v B' H' n r⟩⟩
theorem rb_extend (i : Nat) {l : Addr} {vs : List V} {n : Str} {ys : List β} (h : EvF X e σ B ys) (s : Same B H) (hσ : σ[i]? = some (some (.ref l))) (hl : H l = some (.lst vs)) (hz : vs.length + ys.length ≤ 100000) (k : ∀ ws B' H', Nw B H B' H' → LR B' ys ws → rdB X rest D σ (upd H' l (.lst (vs ++ ws))))
    (hN : X.N[i]? = some n := by rfl) (hv : Vis X.env.scope n := by first | exact Or.inl rfl | exact Or.inr (Or.inl rfl)) (hd : (n == ("__debug__" : Str)) = false := by decide) (hcd : (n == ("__classdict__" : Str)) = false := by decide)
    (hb : attributeBase (.Name n p) "extend" X.env (eval (.Name n p) X.env) = eval (.Name n p) X.env := by rfl) (hfew : ((backTo p3 (starEach [e] X.env)).all (fun x => !x.1) && (backToKw p3 (keywordEach [] X.env)).all (fun x => x.1.isSome)
      && decide ([e].length + ([] : List Keyword).length + (if ([] : List Keyword).isEmpty then 0 else 1) < 30)) = true := by rfl)
    (hline : (p2.endLine == p3.line) = true := by rfl) (hs : NS X e [] := by rfl) (hsw : swapsWith (.Call (.Attribute (.Name n p) "extend" p2) [e] [] p3) none pos.line X.env = pure false := by rfl) :
    rdB X (.Expr (.Call (.Attribute (.Name n p) "extend" p2) [e] [] p3) pos :: rest) D σ H :=
  rdB_mk (pss_cons (ps_expr (pe_bm PySem.F.plainAttrs_list PySem.F.slot_list_extend PySem.F.type_list_extend mt_extend (pe_var hN hv hd hcd) (pa_cons pe_rd pa_nil hs) hb hfew hline hs rfl) hsw) pss_rd)
    ⟨.ref l, hσ, tyL hl, h H s _ fun q ws B' H' _ n h0 hb hq lr => ⟨l, q, vs, ws, rfl, rfl, n.hh l _ hl, hq, by rw [lr.1]; exact Nat.le_trans hz (by decide), k ws B' H' n lr⟩⟩
theorem rd_pop (i : Nat) {l : Addr} {vs : List V} {y : V} {n : Str} {Q : VK} (hσ : σ[i]? = some (some (.ref l))) (hl : H l = some (.lst vs)) (hy : vs.getLast? = some y) (k : HLen (upd H l (.lst vs.dropLast)) → Q y (upd H l (.lst vs.dropLast)))
    (hN : X.N[i]? = some n := by rfl) (hv : Vis X.env.scope n := by first | exact Or.inl rfl | exact Or.inr (Or.inl rfl)) (hd : (n == ("__debug__" : Str)) = false := by decide) (hcd : (n == ("__classdict__" : Str)) = false := by decide)
    (hb : attributeBase (.Name n p) "pop" X.env (eval (.Name n p) X.env) = eval (.Name n p) X.env := by rfl) (hline : (p2.endLine == p3.line) = true := by rfl) : rd X (.Call (.Attribute (.Name n p) "pop" p2) [] [] p3) σ H Q :=
  rd_mkL (pe_bm0 PySem.F.plainAttrs_list PySem.F.slot_list_pop PySem.F.type_list_pop mt_pop (pe_var hN hv hd hcd) hb hline) ⟨.ref l, hσ, tyL hl, l, vs, y, rfl, rfl, hl, by rw [← List.getLast?_eq_getElem?]; exact hy, k⟩
theorem rb_setR (i : Nat) {n : Str} {p : Pos} (h : rd X e σ H fun v H' => rdB X rest D (σ.set i (some v)) H') (hN : X.N.Nodup) (hi : X.N[i]? = some n := by rfl) (hx : Loc X.env.scope n := by first | exact Or.inl rfl | exact Or.inr rfl) (hs : swapsWith e (some (.Name n p)) pos.line X.env = pure false := by rfl)
    (hf : X.fn n = true ∨ X.env.scope.names.lookup n = some .local := by first | exact .inl rfl | exact .inr rfl) : rdB X (.Assign [.Name n p] e pos :: rest) D σ H := rdB_mk (pss_cons (ps_set hN hi hx pe_rd hs hf) pss_rd) h
/-- xs[i] = x -/
theorem rb_setItem (i : Nat) {l : Addr} {vs : List V} {n : Str} {j : Nat} {pt : Pos} (h : Ev X e σ B x) (hj : Ev X b σ B j) (s : Same B H) (hσ : σ[i]? = some (some (.ref l))) (hl : H l = some (.lst vs)) (hz : j < vs.length) (k : ∀ v B' H', Nw B H B' H' → R B' x v → rdB X rest D σ (upd H' l (.lst (vs.set j v))))
    (hN : X.N[i]? = some n := by rfl) (hv : Vis X.env.scope n := by first | exact Or.inl rfl | exact Or.inr (Or.inl rfl)) (hd : (n == ("__debug__" : Str)) = false := by decide) (hcd : (n == ("__classdict__" : Str)) = false := by decide)
    (ha : ∀ v, assign (.Subscript (.Name n p) b pt) X.env v = (do
      let ov ← holding [v] (eval (.Name n p) X.env)
      let iv ← holding [v, ov] (eval b X.env)
      standAt pt
      holding [v, ov, iv] (setItem ov iv v)
      release [v, ov, iv] []) := by intro _; rfl)
    (hs : swapsWithSole [.Subscript (.Name n p) b pt] e pos.line X.env = pure false := by rfl) (hw : swappedStores [.Subscript (.Name n p) b pt] e X.env = pure none := by rfl) (h1 : (assignEach [.Subscript (.Name n p) b pt] X.env).map (·.2) = [assign (.Subscript (.Name n p) b pt) X.env] := by rfl) :
    rdB X (.Assign [.Subscript (.Name n p) b pt] e pos :: rest) D σ H :=
  rdB_mk (pss_cons (ps_asg pe_rd (pg_sub (pe_var hN hv hd hcd) pe_rd set_list ha) hs hw h1) pss_rd) (h H s _ fun v B1 H1 _ n1 r1 => ⟨.ref l, hσ, hj.mono n1.bb H1 n1.bh _ fun w B' H' _ n2 r2 => by
    cases (show w = _ from r2)
    refine ⟨l, vs, j, j, rfl, rfl, n2.hh l _ (n1.hh l _ hl), ?_, k v B' H' (n1.trans n2) (Rp.mono n2.bb r1)⟩
    unfold ixN
    rw [if_pos (by omega), if_pos (by omega)]
    simp⟩)
end
/-- B and all that is new since H -/
def told (B H H' : Hp) : Hp := fun b => match H b with
  | none => H' b
  | some _ => B b
theorem told_new {B H H' : Hp} {b : Addr} (h : H b = none) : told B H H' b = H' b := by unfold told; rw [h]
theorem Nw.all {B H H' : Hp} (sb : Same B H) (sh : Same H H') : Nw B H (told B H H') H' where
  bb := fun b o e => by unfold told; rw [sb b o e]; exact e
  bh := fun b o e => by
    unfold told at e
    cases q : H b with
    | none => rw [q] at e; exact e
    | some u => rw [q] at e; exact sh b o (sb b o e)
  hh := sh
  hid := fun b h1 h2 => by
    unfold told
    cases q : H b with
    | none => exact absurd q h1
    | some u => exact h2
/-- numbers as they stand in a list -/
def nV (ns : List Nat) : List V := ns.map fun (n : Nat) => V.int (n : Int)
theorem nV_lr {B : Hp} (ns : List Nat) : LR B ns (nV ns) := ⟨by unfold nV; rw [List.length_map], fun i a e => ⟨V.int (a : Int), by unfold nV; rw [List.getElem?_map, e]; rfl, rfl⟩⟩
theorem lr_nV {B : Hp} {ns : List Nat} {vs : List V} (l : LR B ns vs) : vs = nV ns := by
  refine List.ext_getElem? fun i => ?_
  unfold nV
  rw [List.getElem?_map]
  cases h : ns[i]? with
  | none =>
    have : vs.length ≤ i := by rw [l.1]; exact List.getElem?_eq_none_iff.mp h
    exact List.getElem?_eq_none_iff.mpr this
  | some b =>
    obtain ⟨v, hv, r⟩ := l.2 i b h
    rw [hv]; exact congrArg some r
theorem nV_snoc (ns : List Nat) (n : Nat) : nV ns ++ [V.int (n : Int)] = nV (ns ++ [n]) := by unfold nV; rw [List.map_append]; rfl
theorem nV_len (ns : List Nat) : (nV ns).length = ns.length := by unfold nV; rw [List.length_map]
theorem nV_dropLast (ns : List Nat) : (nV ns).dropLast = nV ns.dropLast := by unfold nV; rw [List.map_dropLast]
theorem nV_last {ns : List Nat} (h : ns ≠ []) : (nV ns).getLast? = some (V.int ((ns.getLast?.getD 0 : Nat) : Int)) := by
  unfold nV
  rw [List.getLast?_map, List.getLast?_eq_some_getLast h]
  rfl
theorem R_nats {B : Hp} {l : Addr} {ns : List Nat} (h : B l = some (.lst (nV ns))) : R B ns (.ref l) := ⟨l, _, rfl, h, nV_lr ns⟩
/-- numbers or None as they stand in a list -/
def oV (ns : List (Option Nat)) : List V := ns.map Fl.tv
theorem oV_lr {B : Hp} (ns : List (Option Nat)) : LR B ns (oV ns) := ⟨by unfold oV; rw [List.length_map], fun i a e => ⟨Fl.tv a, by unfold oV; rw [List.getElem?_map, e]; rfl, by cases a <;> rfl⟩⟩
theorem oV_len (ns : List (Option Nat)) : (oV ns).length = ns.length := by unfold oV; rw [List.length_map]
theorem oV_set (ns : List (Option Nat)) (i n : Nat) : (oV ns).set i (V.int (n : Int)) = oV (ns.set i (some n)) := by
  unfold oV; rw [List.map_set]; rfl
theorem lr_oV {B : Hp} {ns : List (Option Nat)} {vs : List V} (l : LR B ns vs) : vs = oV ns := lr_fl l
theorem oV_nV {ns : List (Option Nat)} (h : ns.all (·.isSome) = true) : oV ns = nV (ns.map (·.getD 0)) := by
  unfold oV nV
  rw [List.map_map]
  refine List.map_congr_left fun a ha => ?_
  have := List.all_eq_true.mp h a ha
  cases a with
  | none => cases this
  | some n => rfl
theorem R_opts {B : Hp} {l : Addr} {ns : List (Option Nat)} (h : B l = some (.lst (oV ns))) : R B ns (.ref l) := ⟨l, _, rfl, h, oV_lr ns⟩
theorem take_snoc {α : Type} {xs : List α} {i : Nat} {a : α} (h : xs[i]? = some a) : xs.take (i + 1) = xs.take i ++ [a] := by
  rw [List.take_add_one, h]; rfl
theorem filt_true {α : Type} (xs : List α) : xs.filter (fun _ => true) = xs := List.filter_eq_self.mpr fun _ _ => rfl
theorem take_all {α : Type} (xs : List α) : xs.take xs.length = xs := List.take_length
theorem lt_of_at {α : Type} {xs : List α} {i : Nat} {a : α} (h : xs[i]? = some a) : i < xs.length := (List.getElem?_eq_some_iff.mp h).1
section
variable {α β γ δ : Type} [Rp α] [Rp β] [Rp γ] [Rp δ]
variable {X : Cx} {e a b c : Expr} {es : List Expr} {σ : L2.St} {B B' H B0 H0 : Hp} {x : α} {y : β} {z : γ} {pos p p2 p3 p4 : Pos} {D : Ends} {rest body els : List Stmt} {st : Stmt}
/-- the list that was grown is handed back -/
theorem rb_retL (i : Nat) {l : Addr} {vs : List V} {xs : List α} {n : Str} (hσ : σ[i]? = some (some (.ref l))) (N0 : Nw B0 H0 B H) (h0 : H0 l = none) (hb : B l = none) (hl : H l = some (.lst vs)) (lr : LR B xs vs) (k : ∀ v' B' H', Nw B0 H0 B' H' → R B' xs v' → D.rt v' H')
    (hN : X.N[i]? = some n := by rfl) (hv : Vis X.env.scope n := by first | exact Or.inl rfl | exact Or.inr (Or.inl rfl)) (hd : (n == ("__debug__" : Str)) = false := by decide) (hcd : (n == ("__classdict__" : Str)) = false := by decide) : rdB X (.Return (some (.Name n p)) pos :: rest) D σ H :=
  rb_ret (B := upd B l (.lst vs)) (ev_var (x := xs) i hσ ⟨l, vs, rfl, upd_same, lr.mono (same_new hb)⟩ hN (hv.elim Or.inl fun h => Or.inr h) hd hcd) (same_tell N0.bh hl) fun v' B' H' n r => k v' B' H' ((N0.tell h0 hb hl).trans n) r
/-- a list that was grown is told from now on -/
theorem R_tell {l : Addr} {vs : List V} {xs : List α} (hb : B l = none) (lr : LR B xs vs) : R (upd B l (.lst vs)) xs (.ref l) := ⟨l, vs, rfl, upd_same, lr.mono (same_new hb)⟩
end
section
variable {α β γ δ : Type} [Rp α] [Rp β] [Rp γ] [Rp δ]
variable {X : Cx} {e a b c tg iter : Expr} {es : List Expr} {σ : L2.St} {B B' H B0 H0 : Hp} {x : α} {y : β} {z : γ} {pos p p2 p3 p4 : Pos} {D : Ends} {rest body els : List Stmt} {st : Stmt}
/-- a number of the module -/
theorem ev_kn {n : Str} {k : Nat} (h : KnD X.mg n k) (hg : Gl X n := by rfl) (hd : (n == ("__debug__" : Str)) = false := by decide) : Ev X (.Name n pos) σ B k := fun H s Q q => by
  obtain ⟨t, ht⟩ := h
  exact rd_len fun hl => rd_mk (pe_glob (v := .int (k : Int)) hg ht ⟨t, rfl⟩ hd) (q _ B H hl (Nw.refl s) rfl)
/-- k <= m <= n, as a test -/
theorem et_chainLe {k m n : Nat} (ha : Ev X a σ B k) (hb : Ev X b σ B m) (hc : Ev X c σ B n) (hm : lastMarks [.LtE, .LtE] [b, c] = false := by with_unfolding_all rfl) : EvT X (.Compare a [.LtE, .LtE] [b, c] pos) σ B (decide (k ≤ m) && decide (m ≤ n)) := fun H s Q q =>
  rdT_mk (pt_chain op_le op_le pe_rd pe_rd pe_rd hm) (ha H s _ fun u B1 H1 _ n1 r1 => (hb.mono n1.bb) H1 n1.bh _ fun v B2 H2 _ n2 r2 => ⟨k, m, r1, r2, _, rfl, by
    rw [show decide ((k : Int) ≤ m) = decide (k ≤ m) by rw [decide_eq_decide]; omega]
    cases hk : decide (k ≤ m) with
    | false =>
      rw [hk, Bool.false_and] at q
      exact iteF ⟨false, rfl, q H2 (n1.hh.trans n2.hh)⟩
    | true =>
      rw [hk, Bool.true_and] at q
      refine iteT ((hc.mono (n1.bb.trans n2.bb)) H2 n2.bh _ fun w B3 H3 _ n3 r3 => ⟨m, n, r2, r3, decide (m ≤ n), ?_, q H3 (n1.hh.trans (n2.hh.trans n3.hh))⟩)
      show V.bl (decide ((m : Int) ≤ n)) = V.bl (decide (m ≤ n))
      rw [show decide ((m : Int) ≤ n) = decide (m ≤ n) by rw [decide_eq_decide]; omega]⟩)
/-- name = [..], told at once -/
theorem rb_setLcT {xs : List α} {p : α → Bool} {g : α → β} {elt : Expr} {ifs : List Expr} {scope : Scope} (j : Nat) {y : Str} {py spos : Pos} (own : List (Str × Nat)) (hi : EvI X tg iter σ B xs) (turn : Turn X scope tg ifs elt σ (own.map (·.2)) B xs p g) (s : Same B H)
    (k : ∀ v B' H', HLen H' → Nw B H B' H' → R B' ((xs.filter p).map g) v → rdB X rest D (σ.set j (some v)) H')
    (hN : X.N.Nodup) (hy : X.N[j]? = some y := by rfl) (hyl : X.env.scope.names.lookup y = some .local := by rfl)
    (hsw : swapsWith (.ListComp elt [⟨tg, iter, ifs, 0⟩] scope pos) (some (.Name y py)) spos.line X.env = pure true := by exact sw_true rfl rfl rfl (by kernel_rfl))
    (hc : X.calm = true := by rfl) (ok : blkC X.N X.env.scope scope own = true := by kernel_rfl) (hs : ∀ x, foldedSetIterable iter X.env x = pure x := by intro _; rfl) :
    rdB X (.Assign [.Name y py] (.ListComp elt [⟨tg, iter, ifs, 0⟩] scope pos) spos :: rest) D σ H :=
  rb_setLc j own hi turn s (fun q vs B' H' hl n h0 hb hq l => k (.ref q) _ H' hl (n.tell h0 hb hq) (R_tell hb l)) hN hy hyl hsw hc ok hs
end
theorem getD_at {α : Type} {xs : List α} {i : Nat} {d : α} (h : i < xs.length) : xs[i]? = some (xs.getD i d) := by
  rw [List.getD_eq_getElem?_getD, List.getElem?_eq_getElem h]; rfl
end LK
/-! ## F1 -/
namespace LK
open PySem PySem.Spec PyProof.Rows L2
open Rp (R)
section
variable {P : Program} {w : World} {K : PySem.W.Frag} {mg : Str → Option Value} {base : Heap} {cC cW : Addr}

theorem sc15 : FnScope ["value"] ["value"] (defScope (topS 15)) := ⟨rfl, rfl, rfl, by decide +kernel, rfl, by decide +kernel, by decide +kernel⟩
theorem fk_is_integer (E : Tops K mg cC cW) : Fk P w K mg base "is_integer" 1 ["value"] (Sp1 (fun _ : Nat => True) fun _ => true) :=
  fk1 (N := ["value"]) E.d15 sc15 fun f cd A ou s H EX v B a Q hr sb ra _ q =>
    rb_ret (ev_and2 (ev_isi true (ev_var 0 rfl ra) E.bt.isinstance E.bt.int boot_int) fun _ => ev_not (ev_isi false (ev_var 0 rfl ra) E.bt.isinstance E.bt.bool boot_bool)) sb q
theorem sc16 : FnScope ["value"] ["value"] (defScope (topS 16)) := ⟨rfl, rfl, rfl, by decide +kernel, rfl, by decide +kernel, by decide +kernel⟩
theorem fk_is_count (E : Tops K mg cC cW) : Fk P w K mg base "is_count" 2 ["value"] (Sp1 (fun _ : Nat => True) fun _ => true) :=
  fk1 (N := ["value"]) E.d16 sc16 fun f cd A ou s H EX v B a Q hr sb ra _ q =>
    rb_ret (Ev.to (ev_and2 (ev_call1 (fk_is_integer E) hr (eva1 (ev_var 0 rfl ra)) trivial) fun _ => Cm.ev (cm_ge (ev_var 0 rfl ra) (ev_nat 0))) (by simp)) sb q
/-- a list, a tuple, whatever is in it -/
structure AnyL where
  u : Unit
structure AnyT where
  u : Unit
instance : Rp AnyL := ⟨fun B _ v => ∃ p xs, v = .ref p ∧ B p = some (.lst xs), fun s ⟨p, xs, e, h⟩ => ⟨p, xs, e, s p _ h⟩⟩
instance : Rp AnyT := ⟨fun B _ v => ∃ p xs, v = .ref p ∧ B p = some (.tup xs), fun s ⟨p, xs, e, h⟩ => ⟨p, xs, e, s p _ h⟩⟩
instance : Ty AnyL := ⟨"list", fun {K B a v} ⟨p, xs, e, h⟩ => by cases e; exact .base (.lst h)⟩
instance : Ty AnyT := ⟨"tuple", fun {K B a v} ⟨p, xs, e, h⟩ => by cases e; exact .base (.tup h)⟩
theorem sc17 : FnScope ["value"] ["value"] (defScope (topS 17)) := ⟨rfl, rfl, rfl, by decide +kernel, rfl, by decide +kernel, by decide +kernel⟩
theorem fk_is_list (E : Tops K mg cC cW) : Fk P w K mg base "is_list" 1 ["value"] SpSeq :=
  fk_mk (N := ["value"]) E.d17 sc17 (fun vs H Q _ ⟨p, e, _⟩ => by rw [e]; rfl) fun f cd A ou s H vs Q EX hr ⟨p, e, hp, q⟩ => by
    subst e
    rcases hp with ⟨xs, hp⟩ | ⟨xs, hp⟩
    · exact rb_ret (B := H) (ev_isi2 true (ev_var (x := AnyL.mk ()) 0 rfl ⟨p, xs, rfl, hp⟩) E.bt.isinstance E.bt.list boot_list E.bt.tuple boot_tuple) (Same.refl H) fun v B' H' n r => by
        cases (show v = _ from r); exact q H' n.hh
    · exact rb_ret (B := H) (ev_isi2 true (ev_var (x := AnyT.mk ()) 0 rfl ⟨p, xs, rfl, hp⟩) E.bt.isinstance E.bt.list boot_list E.bt.tuple boot_tuple) (Same.refl H) fun v B' H' n r => by
        cases (show v = _ from r); exact q H' n.hh
theorem sc18 : FnScope ["what", "limit", "number"] ["what", "limit", "number"] (defScope (topS 18)) := ⟨rfl, rfl, rfl, by decide +kernel, rfl, by decide +kernel, by decide +kernel⟩
theorem fk_want_at_most (E : Tops K mg cC cW) : Fk P w K mg base "want_at_most" 1 ["what", "limit", "number"] (Sp3 (fun (_ : Str) (l n : Nat) => n ≤ l) fun _ _ _ => (none : Option Nat)) :=
  fk3 (N := ["what", "limit", "number"]) E.d18 sc18 fun f cd A ou s H EX v1 v2 v3 B a b c Q hr sb r1 r2 r3 hp q =>
    rb_no (EvT.to (Cm.et (cm_gt (ev_var 2 rfl r3) (ev_var 1 rfl r2))) (by simp; exact hp)) sb fun H1 s1 => rb_nil (q .non B H1 (Nw.grow sb s1) rfl)
theorem sc22 : FnScope ["value", "one"] ["value"] (defScope (topS 22)) := ⟨rfl, rfl, rfl, by decide +kernel, rfl, by decide +kernel, by decide +kernel⟩
theorem fk_lane_in (E : Tops K mg cC cW) : Fk P w K mg base "lane_in" 3 ["value"] (Sp1 (fun l : Lane => l.1 ≠ l.2) laneIn) :=
  fk1 (N := ["value", "one"]) E.d22 sc22 fun f cd A ou s H EX v B a Q hr sb ra hp q =>
    rb_no (EvT.to (et_w (ew_or (et_not (et_val (ev_isSeq (fk_is_list E) (hr.mono (by decide)) (eva1 (ev_var 0 rfl ra))))) fun _ => ew_or (Cm.et (cm_ne (ev_lenP (ev_var 0 rfl ra) E.bt.len) (ev_nat 2))) fun _ =>
        ew_or (et_not (et_val (ev_all (EvF.ev (evf_lc (p := fun _ => true) (g := fun _ => true) [("one", 1)] (ei_pair (ev_var 0 rfl ra)) (turnN 1 (fun u => rfl) (fun B1 a v s1 _ r s H0 C cl fp => ⟨ets_nil, fun _ => ev_call1 (fk_is_count E) (hr.mono (by decide)) (eva1 (ev_var 1 rfl r)) trivial⟩) sc22.nd) sc22.nd)) E.bt.all))) fun _ =>
          ew_or1 (Cm.et (cm_eq (ev_fst (ev_var 0 rfl ra)) (ev_snd (ev_var 0 rfl ra)))))) (by simp; exact hp)) sb fun H1 s1 =>
    rb_ret (ev_tup2 (eva2 (ev_min2 (ev_fst (ev_var 0 rfl ra)) (ev_snd (ev_var 0 rfl ra)) E.bt.min) (ev_max2 (ev_fst (ev_var 0 rfl ra)) (ev_snd (ev_var 0 rfl ra)) E.bt.max))) (sb.trans s1) fun v' B' H' n r => q v' B' H' ((Nw.grow sb s1).trans n) r
end
end LK
/-! ## F2 -/
namespace LK
open PySem PySem.Spec PyProof.Rows L2
open Rp (R)
section
variable {P : Program} {w : World} {K : PySem.W.Frag} {mg : Str → Option Value} {base : Heap} {cC cW : Addr}

theorem sc28 : FnScope ["country"] ["country"] (defScope (topS 28)) := ⟨rfl, rfl, rfl, by decide +kernel, rfl, by decide +kernel, by decide +kernel⟩
theorem fk_place_count (E : Tops K mg cC cW) : Fk P w K mg base "place_count" 1 ["country"] (Sp1 (fun _ : Cty cC => True) fun c => c.ties.length) :=
  fk1 (N := ["country"]) E.d28 sc28 fun f cd A ou s H EX v B a Q hr sb ra _ q => rb_ret (ev_len (ev_cTies E.cty (ev_var 0 rfl ra)) E.bt.len) sb q
theorem sc29 : FnScope ["country", "place"] ["country", "place"] (defScope (topS 29)) := ⟨rfl, rfl, rfl, by decide +kernel, rfl, by decide +kernel, by decide +kernel⟩
theorem fk_beside (E : Tops K mg cC cW) : Fk P w K mg base "beside" 1 ["country", "place"] (Sp2 (fun (c : Cty cC) p => p < c.ties.length) fun c p => rowAt c.ties p) :=
  fk2 (N := ["country", "place"]) E.d29 sc29 fun f cd A ou s H EX v1 v2 B a b Q hr sb r1 r2 hp q =>
    rb_ret (EvF.ev (evf_list (ev_ix (ev_cTies E.cty (ev_var 0 rfl r1)) (ev_var 1 rfl r2) (getD_at hp)) E.bt.list)) sb q
theorem sc30 : FnScope ["country", "place", "row"] ["country"] (defScope (topS 30)) := ⟨rfl, rfl, rfl, by decide +kernel, rfl, by decide +kernel, by decide +kernel⟩
theorem fk_yards_in (E : Tops K mg cC cW) : Fk P w K mg base "yards_in" 1 ["country"] (Sp1 (fun _ : Cty cC => True) fun c => yardsIn c.ties) :=
  fk1 (N := ["country", "place", "row"]) E.d30 sc30 fun f cd A ou s H EX v B a Q hr sb ra _ q =>
    rb_ret (EvF.ev (evf_lc (p := fun z : Nat × List Nat => decide (1 < z.2.length)) (g := fun z => z.1) [("place", 1), ("row", 2)] (ei_enum (ev_cTies E.cty (ev_var 0 rfl ra)) E.bt.enumerate)
      (turnP 1 2 (fun u w => rfl) (fun B1 a va vb s1 _ ra rb s H0 C cl fp => ⟨ets_one (Cm.et (cm_gt (ev_len (ev_var 2 rfl rb) E.bt.len) (ev_nat 1))), fun _ => ev_var 1 rfl ra⟩) sc30.nd) sc30.nd)) sb q
theorem sc31 : FnScope ["country", "value"] ["country", "value"] (defScope (topS 31)) := ⟨rfl, rfl, rfl, by decide +kernel, rfl, by decide +kernel, by decide +kernel⟩
theorem fk_is_place (E : Tops K mg cC cW) : Fk P w K mg base "is_place" 3 ["country", "value"] (Sp2 (fun (c : Cty cC) (p : Nat) => True) fun c p => decide (p < c.ties.length)) :=
  fk2 (N := ["country", "value"]) E.d31 sc31 fun f cd A ou s H EX v1 v2 B a b Q hr sb r1 r2 hp q =>
    rb_ret (Ev.to (ev_and2 (ev_call1 (fk_is_count E) hr (eva1 (ev_var 1 rfl r2)) trivial) fun _ => Cm.ev (cm_lt (ev_var 1 rfl r2) (ev_len (ev_cTies E.cty (ev_var 0 rfl r1)) E.bt.len))) (by simp)) sb q
theorem sc32 : FnScope ["country", "value"] ["country", "value"] (defScope (topS 32)) := ⟨rfl, rfl, rfl, by decide +kernel, rfl, by decide +kernel, by decide +kernel⟩
theorem fk_is_yard (E : Tops K mg cC cW) : Fk P w K mg base "is_yard" 4 ["country", "value"] (Sp2 (fun (c : Cty cC) (p : Nat) => True) fun c p => decide (p < c.ties.length) && decide (1 < (rowAt c.ties p).length)) :=
  fk2 (N := ["country", "value"]) E.d32 sc32 fun f cd A ou s H EX v1 v2 B a b Q hr sb r1 r2 hp q =>
    rb_ret (ev_and2 (ev_call2 (fk_is_place E) hr (eva2 (ev_var 0 rfl r1) (ev_var 1 rfl r2)) trivial) fun h => Cm.ev (cm_gt (ev_len (ev_ix (ev_cTies E.cty (ev_var 0 rfl r1)) (ev_var 1 rfl r2) (getD_at (of_decide_eq_true h))) E.bt.len) (ev_nat 1))) sb q
theorem sc33 : FnScope ["country", "value"] ["country", "value"] (defScope (topS 33)) := ⟨rfl, rfl, rfl, by decide +kernel, rfl, by decide +kernel, by decide +kernel⟩
theorem fk_is_gate (E : Tops K mg cC cW) : Fk P w K mg base "is_gate" 4 ["country", "value"] (Sp2 (fun (c : Cty cC) (p : Nat) => True) fun c p => decide (p < c.ties.length) && decide ((rowAt c.ties p).length = 1)) :=
  fk2 (N := ["country", "value"]) E.d33 sc33 fun f cd A ou s H EX v1 v2 B a b Q hr sb r1 r2 hp q =>
    rb_ret (ev_and2 (ev_call2 (fk_is_place E) hr (eva2 (ev_var 0 rfl r1) (ev_var 1 rfl r2)) trivial) fun h => Cm.ev (cm_eq (ev_len (ev_ix (ev_cTies E.cty (ev_var 0 rfl r1)) (ev_var 1 rfl r2) (getD_at (of_decide_eq_true h))) E.bt.len) (ev_nat 1))) sb q
theorem sc34 : FnScope ["value"] ["value"] (defScope (topS 34)) := ⟨rfl, rfl, rfl, by decide +kernel, rfl, by decide +kernel, by decide +kernel⟩
theorem fk_want_country (E : Tops K mg cC cW) : Fk P w K mg base "want_country" 1 ["value"] (Sp1 (fun _ : Cty cC => True) fun c => c) :=
  fk1 (N := ["value"]) E.d34 sc34 fun f cd A ou s H EX v B a Q hr sb ra _ q =>
    rb_no (et_not (et_val (ev_isCty E.cty (ev_var 0 rfl ra) E.bt.isinstance))) sb fun H1 s1 => rb_ret (ev_var 0 rfl ra) (sb.trans s1) fun v' B' H' n r => q v' B' H' ((Nw.grow sb s1).trans n) r
theorem sc36 : FnScope ["country", "value"] ["country", "value"] (defScope (topS 36)) := ⟨rfl, rfl, rfl, by decide +kernel, rfl, by decide +kernel, by decide +kernel⟩
theorem fk_want_gate (E : Tops K mg cC cW) : Fk P w K mg base "want_gate" 5 ["country", "value"] (Sp2 (fun (c : Cty cC) (p : Nat) => p < c.ties.length ∧ (rowAt c.ties p).length = 1) fun c p => (none : Option Nat)) :=
  fk2 (N := ["country", "value"]) E.d36 sc36 fun f cd A ou s H EX v1 v2 B a b Q hr sb r1 r2 hp q =>
    rb_no (EvT.to (et_not (et_val (ev_call2 (fk_is_gate E) hr (eva2 (ev_var 0 rfl r1) (ev_var 1 rfl r2)) trivial))) (by simp [hp.1, hp.2])) sb fun H1 s1 => rb_nil (q .non B H1 (Nw.grow sb s1) rfl)
theorem sc53 : FnScope ["country", "place", "goal"] ["country", "place", "goal"] (defScope (topS 53)) := ⟨rfl, rfl, rfl, by decide +kernel, rfl, by decide +kernel, by decide +kernel⟩
theorem fk_step_towards (E : Tops K mg cC cW) : Fk P w K mg base "step_towards" 1 ["country", "place", "goal"] (Sp3 (fun (c : Cty cC) (p g : Nat) => g < c.ahead.length ∧ p < (c.ahead.getD g []).length) fun c p g => (c.ahead.getD g []).getD p 0) :=
  fk3 (N := ["country", "place", "goal"]) E.d53 sc53 fun f cd A ou s H EX v1 v2 v3 B a b c Q hr sb r1 r2 r3 hp q =>
    rb_ret (ev_ix (ev_ix (ev_cAhead E.cty (ev_var 0 rfl r1)) (ev_var 2 rfl r3) (getD_at hp.1)) (ev_var 1 rfl r2) (getD_at hp.2)) sb q
theorem sc58 : FnScope ["web"] ["web"] (defScope (topS 58)) := ⟨rfl, rfl, rfl, by decide +kernel, rfl, by decide +kernel, by decide +kernel⟩
theorem fk_country_of (E : Tops K mg cC cW) : Fk P w K mg base "country_of" 1 ["web"] (Sp1 (fun _ : Wb cC cW => True) fun x => x.cty) :=
  fk1 (N := ["web"]) E.d58 sc58 fun f cd A ou s H EX v B a Q hr sb ra _ q => rb_ret (ev_wCty E.wb (ev_var 0 rfl ra)) sb q
theorem sc60 : FnScope ["value"] ["value"] (defScope (topS 60)) := ⟨rfl, rfl, rfl, by decide +kernel, rfl, by decide +kernel, by decide +kernel⟩
theorem fk_want_web (E : Tops K mg cC cW) : Fk P w K mg base "want_web" 1 ["value"] (Sp1 (fun _ : Wb cC cW => True) fun c => c) :=
  fk1 (N := ["value"]) E.d60 sc60 fun f cd A ou s H EX v B a Q hr sb ra _ q =>
    rb_no (et_not (et_val (ev_isWb E.wb (ev_var 0 rfl ra) E.bt.isinstance))) sb fun H1 s1 => rb_ret (ev_var 0 rfl ra) (sb.trans s1) fun v' B' H' n r => q v' B' H' ((Nw.grow sb s1).trans n) r
end
end LK
/-! ## F3 -/
namespace LK
open PySem PySem.Spec PyProof.Rows L2
open Rp (R)
section
variable {P : Program} {w : World} {K : PySem.W.Frag} {mg : Str → Option Value} {base : Heap} {cC cW : Addr}

theorem sc41 : FnScope ["country", "yard", "near", "found", "origin", "target"] ["country", "yard"] (defScope (topS 41)) := ⟨rfl, rfl, rfl, by decide +kernel, rfl, by decide +kernel, by decide +kernel⟩
theorem flat_len {α : Type} {f : α → List (Nat × Nat)} {m : Nat} (h : ∀ x, (f x).length ≤ m) : ∀ xs : List α, (xs.flatMap f).length ≤ m * xs.length
  | [] => Nat.zero_le _
  | x :: xs => by
    rw [List.flatMap_cons, List.length_append, List.length_cons]
    have h1 := h x
    have h2 := flat_len h xs
    rw [Nat.mul_add, Nat.mul_one]; omega
theorem fk_pairs_at (E : Tops K mg cC cW) : Fk P w K mg base "pairs_at" 2 ["country", "yard"] (Sp2 (fun (c : Cty cC) y => y < c.ties.length ∧ (rowAt c.ties y).length ≤ 100) fun c y => pairsAt (rowAt c.ties y)) :=
  fk2 (N := ["country", "yard", "near", "found", "origin", "target"]) E.d41 sc41 fun f cd A ou s H EX v1 v2 B c y Q hr sb r1 r2 hp q =>
    rb_par 2 3 (rdA_EF (ys := ([] : List (Nat × Nat))) (ev_call2 (fk_beside E) hr (eva2 (ev_var 0 rfl r1) (ev_var 1 rfl r2)) hp.1) ev_lst0 sb fun vn qf ws B1 H1 hl n1 rn h0 hb hq lr => ⟨_, _, rfl,
      rb_for (ei_list (ev_var 2 rfl rn)) n1.bh PassesOwn.never rfl fun B2 H2 hl2 n2 _ => by
        refine ⟨fun i σ' Bi Hi => ∃ y4 y5 ws, σ' = [some v1, some v2, some vn, some (.ref qf), y4, y5] ∧ Nw B H Bi Hi ∧ Same B2 Bi ∧ Bi qf = none ∧ Hi qf = some (.lst ws) ∧ LR Bi (((rowAt c.ties y).take i).flatMap fun o => ((rowAt c.ties y).filter fun t => !decide (t = o)).map fun t => (o, t)) ws,
          ⟨none, none, ws, rfl, n1.trans n2, Same.refl _, n2.hid qf (by rw [hq]; intro z; cases z) hb, n2.hh qf _ hq, lr.mono n2.bb⟩, fun i σ' Bi Hi ⟨_, _, _, _, N, s2, _⟩ => ⟨s2, N.bh⟩, ?_, ?_⟩
        · rintro i a v σ' Bi Hi B4 H3 ha ⟨y4, y5, ws, rfl, N, sB, hbi, hqi, lri⟩ n4 r4
          have rn4 := Rp.mono ((n2.bb.trans sB).trans n4.bb) rn
          refine rg_name 4 (rb_extend 3 (evf_lc (p := fun t => !decide (t = a)) (g := fun t => (a, t)) [("target", 5)] (ei_list (ev_var 2 rfl rn4)) (turnN 5 (fun u => rfl) (fun B5 t vt s5 _ rt s H0 C cl fp => ⟨ets_one (Cm.et (cm_ne (ev_var 5 rfl rt) (ev_var 4 rfl (Rp.mono s5 r4)))), fun _ => ev_tup2 (eva2 (ev_var 4 rfl (Rp.mono s5 r4)) (ev_var 5 rfl rt))⟩) sc41.nd) sc41.nd)
            n4.bh rfl (n4.hh qf _ hqi) ?_ fun ws' B5 H5 n5 lr5 => rb_nil ⟨B5, _, y5, _, rfl, (N.trans (n4.trans n5)).mut h0 ?_, sB.trans (n4.bb.trans n5.bb), ?_, upd_same, ?_⟩) sc41.nd
          · have h1 := lri.1
            have h2 : ∀ o, (((rowAt c.ties y).filter fun t => !decide (t = o)).map fun t => (o, t)).length ≤ 100 := fun o => by
              rw [List.length_map]; exact Nat.le_trans (List.length_filter_le _ _) hp.2
            have h3 := flat_len h2 ((rowAt c.ties y).take i)
            have h4 : ((rowAt c.ties y).take i).length ≤ 100 := by rw [List.length_take]; exact Nat.le_trans (Nat.min_le_right _ _) hp.2
            have h5 := h2 a
            have h6 : 100 * ((rowAt c.ties y).take i).length ≤ 100 * 100 := Nat.mul_le_mul_left _ h4
            omega
          · exact n5.hid qf (by rw [n4.hh qf _ hqi]; intro z; cases z) (n4.hid qf (by rw [hqi]; intro z; cases z) hbi)
          · exact n5.hid qf (by rw [n4.hh qf _ hqi]; intro z; cases z) (n4.hid qf (by rw [hqi]; intro z; cases z) hbi)
          · rw [take_snoc ha, List.flatMap_append, List.flatMap_singleton]
            exact (lri.mono (n4.bb.trans n5.bb)).append lr5
        · rintro σ' Bi Hi ⟨y4, y5, ws, rfl, N, sB, hbi, hqi, lri⟩
          rw [take_all] at lri
          exact rb_retL 3 rfl N h0 hbi hqi lri q⟩) sc41.nd
end
end LK
/-! ## F4 -/
namespace LK
open PySem PySem.Spec PyProof.Rows L2
open Rp (R)
section
variable {P : Program} {w : World} {K : PySem.W.Frag} {mg : Str → Option Value} {base : Heap} {cC cW : Addr}

/-! ### is_whole -/
theorem meet_len (r : List Nat) : ∀ s : List Nat × List Nat, (r.foldl meet s).1.length ≤ s.1.length + r.length ∧ (r.foldl meet s).2.length ≤ s.2.length + r.length := by
  induction r with
  | nil => exact fun s => ⟨Nat.le_refl _, Nat.le_refl _⟩
  | cons p r ih =>
    intro s
    have h := ih (meet s p)
    have h2 : (meet s p).1.length ≤ s.1.length + 1 ∧ (meet s p).2.length ≤ s.2.length + 1 := by
      unfold meet
      split
      · omega
      · simp
    rw [List.foldl_cons, List.length_cons]
    omega
theorem sc24 : FnScope ["ties", "met", "waiting", "place"] ["ties"] (defScope (topS 24)) := ⟨rfl, rfl, rfl, by decide +kernel, rfl, by decide +kernel, by decide +kernel⟩
theorem fk_is_whole (E : Tops K mg cC cW) : Fk P w K mg base "is_whole" 1 ["ties"] (Sp1 (fun t : List (List Nat) => isWhole t = true ∧ ∀ r ∈ t, r.length ≤ 100) fun _ => true) :=
  fk1 (N := ["ties", "met", "waiting", "place"]) E.d24 sc24 fun f cd A ou s H EX v B t Q hr sb ra ⟨hp, hrow⟩ q => by
    obtain ⟨met0, hw0, hlen⟩ : ∃ m, wholeLoop t 50 ([0], [0]) = some m ∧ m.length = t.length := by
      unfold isWhole at hp
      cases h : wholeLoop t 50 ([0], [0]) with
      | none => rw [h] at hp; cases hp
      | some m => rw [h] at hp; exact ⟨m, rfl, by simpa using hp⟩
    refine rb_par 1 2 (rdA_FF (xs := [0]) (ys := [0]) (ev_lst (xs := [0]) (eva1 (ev_nat 0))) (ev_lst (xs := [0]) (eva1 (ev_nat 0))) sb fun l1 ws l2 ws2 B1 H1 hl n1 hne h01 h02 hb1 hb2 hq1 hq2 lr1 lr2 => ⟨_, _, rfl, ?_⟩) sc24.nd
    have e1 := lr_nV lr1
    have e2 := lr_nV lr2
    subst e1 e2
    refine rb_while (B := B) (fun m σ' B2 H2 => B2 = B ∧ ∃ met wait y, σ' = [some v, some (.ref l1), some (.ref l2), y] ∧ Same H H2 ∧ H2 l1 = some (.lst (nV met)) ∧ H2 l2 = some (.lst (nV wait)) ∧ wholeLoop t m (met, wait) = some met0 ∧ met.length + 100 * m ≤ 6000 ∧ wait.length + 100 * m ≤ 6000)
      ⟨50, rfl, [0], [0], none, rfl, n1.hh, hq1, hq2, hw0, by decide, by decide⟩ PassesOwn.never ?_
    rintro m σ' B2 H2 ⟨rfl, met, wait, y, rfl, sH, h1, h2, hw, hm1, hm2⟩
    refine ⟨upd B2 l2 (.lst (nV wait)), !wait.isEmpty, same_tell (sb.trans sH) h2, Cm.et (cm_neNil (xs := wait) (ev_var 2 rfl (R_nats upd_same)) hr.units), fun ht H3 s3 => ?_, fun ht H3 s3 => ?_⟩
    · -- a turn
      obtain ⟨x, xs, rfl⟩ : ∃ x xs, wait = x :: xs := by
        cases wait with
        | nil => cases ht
        | cons x xs => exact ⟨x, xs, rfl⟩
      obtain ⟨m', rfl⟩ : ∃ m', m = m' + 1 := by
        cases m with
        | zero => unfold wholeLoop at hw; cases hw
        | succ m' => exact ⟨m', rfl⟩
      have hw' : (x :: xs).getLast?.getD 0 < t.length ∧ wholeLoop t m' (wholeStep t (met, x :: xs)) = some met0 := by
        unfold wholeLoop at hw
        split at hw
        · exact ⟨by assumption, hw⟩
        · cases hw
      generalize hz : (x :: xs).getLast?.getD 0 = z at hw'
      have h1' := s3 l1 _ h1
      have h2' := s3 l2 _ h2
      have sH3 := sH.trans s3
      have hBl1 : B2 l1 = none := sb.free h01
      have hBl2 : B2 l2 = none := sb.free h02
      have hrl : (t.getD z []).length ≤ 100 := hrow _ (List.mem_of_getElem? (getD_at hw'.1))
      -- for place in ties[waiting.pop()]
      refine rb_forI (α := Nat) (rdI_mkL (pi_list (pe_ix ix_list pe_rd pe_rd (fun _ _ => rfl))) ((ev_var (x := t) 0 rfl ra) H3 (sb.trans sH3) _ fun u B4 H4 hl4 n4 r4 => ?_)) PassesOwn.never rfl
      refine rd_pop 2 rfl (n4.hh l2 _ h2') (nV_last (List.cons_ne_nil _ _)) fun hl5 => ?_
      have b4 : B4 l2 = none := n4.hid l2 (by rw [h2']; intro z; cases z) hBl2
      obtain ⟨tp, tvs, rfl, htp, ltr⟩ := r4
      obtain ⟨rv, hrv, rp, rvs, rfl, hrp, lrp⟩ := ltr.2 z (t.getD z []) (getD_at hw'.1)
      rw [nV_dropLast] at hl5 ⊢
      rw [hz]
      have s5 : Same B4 (upd H4 l2 (.lst (nV (x :: xs).dropLast))) := same_upd2 n4.bh b4
      refine ⟨tp, tvs, z, .ref rp, rfl, rfl, .inl (.inl (s5 tp _ htp)), atI_nat hrv, rp, rfl, ⟨rvs, .inl (.inl (s5 rp _ hrp))⟩, fun _ => ⟨B4, t.getD z [], itOk_list hrp lrp (hl5 rp _ (s5 rp _ hrp)), ?_⟩⟩
      refine ⟨fun i σ' Bi Hi => Bi = B4 ∧ ∃ y, σ' = [some v, some (.ref l1), some (.ref l2), y] ∧ Same B4 Hi ∧ Same H Hi ∧ Hi l1 = some (.lst (nV (((t.getD z []).take i).foldl meet (met, (x :: xs).dropLast)).1)) ∧ Hi l2 = some (.lst (nV (((t.getD z []).take i).foldl meet (met, (x :: xs).dropLast)).2)),
        ⟨rfl, y, rfl, s5, fun b o e => by rw [upd_ne (ne_of_none e h02)]; exact n4.hh b o (sH3 b o e), by rw [upd_ne hne]; exact n4.hh l1 _ h1', upd_same⟩, fun i σ' Bi Hi ⟨e, _, _, s6, _⟩ => by subst e; exact ⟨Same.refl _, s6⟩, ?_, ?_⟩
      · rintro i a va σ' Bi Hi B6 H6 ha ⟨rfl, y', rfl, s6, sHi, g1, g2⟩ n6 r6
        cases (show va = _ from r6)
        generalize hst : ((t.getD z []).take i).foldl meet (met, (x :: xs).dropLast) = st at g1 g2
        have hsz := meet_len ((t.getD z []).take i) (met, (x :: xs).dropLast)
        rw [hst] at hsz
        have hti : ((t.getD z []).take i).length ≤ 100 := by rw [List.length_take]; exact Nat.le_trans (Nat.min_le_right _ _) hrl
        have hst' : ((t.getD z []).take (i + 1)).foldl meet (met, (x :: xs).dropLast) = meet st a := by
          rw [take_snoc ha, List.foldl_append, hst]; rfl
        have k1 := n6.hh l1 _ g1
        have k2 := n6.hh l2 _ g2
        have sH6 := sHi.trans n6.hh
        refine rg_name 3 (rb_if (!decide (a ∈ st.1)) (Cm.et (cm_nin (xs := st.1) (ev_var (B := upd Bi l1 (.lst (nV st.1))) 3 rfl (show R _ a _ from rfl)) (ev_var 1 rfl (R_nats upd_same)))) (same_tell (s6.trans n6.hh) k1) (fun ht H7 s7 => ?_) fun ht H7 s7 => ?_) sc24.nd
        · -- it is new
          have hna : ¬ a ∈ st.1 := by simpa using ht
          refine rb_append 1 (B := Bi) (ev_var (x := a) 3 rfl rfl) ((s6.trans n6.hh).trans s7) rfl (s7 l1 _ k1) ?_ fun v7 B8 H8 n8 r8 => ?_
          · rw [nV_len]; refine Nat.lt_of_lt_of_le (m := 100000) ?_ (by decide); simp only at hsz; omega
          cases (show v7 = _ from r8)
          rw [nV_snoc]
          have m2 : (upd H8 l1 (.lst (nV (st.1 ++ [a])))) l2 = some (.lst (nV st.2)) := by rw [upd_ne hne.symm]; exact n8.hh l2 _ (s7 l2 _ k2)
          have sH8 : Same H (upd H8 l1 (.lst (nV (st.1 ++ [a])))) := fun b o e => by rw [upd_ne (ne_of_none e h01)]; exact n8.hh b o (s7 b o (sH6 b o e))
          have hb1 : Bi l1 = none := n4.hid l1 (by rw [h1']; intro z; cases z) hBl1
          have sB8 : Same Bi (upd H8 l1 (.lst (nV (st.1 ++ [a])))) := same_upd2 (((s6.trans n6.hh).trans s7).trans n8.hh) hb1
          refine rb_append 2 (B := Bi) (ev_var (x := a) 3 rfl rfl) sB8 rfl m2 ?_ fun v9 B10 H10 n10 r10 => ?_
          · rw [nV_len]; refine Nat.lt_of_lt_of_le (m := 100000) ?_ (by decide); simp only [List.length_dropLast] at hsz; omega
          cases (show v9 = _ from r10)
          rw [nV_snoc]
          refine rb_nil (rb_nil ⟨Bi, rfl, _, rfl, same_upd2 (sB8.trans n10.hh) b4, fun b o e => by rw [upd_ne (ne_of_none e h02)]; exact n10.hh b o (sH8 b o e), ?_, ?_⟩)
          · rw [upd_ne hne, hst']
            have := n10.hh l1 _ (upd_same (H := H8) (a := l1) (o := .lst (nV (st.1 ++ [a]))))
            rw [this]; unfold meet; rw [if_neg hna]
          · rw [upd_same, hst']; unfold meet; rw [if_neg hna]
        · have hna : a ∈ st.1 := by simpa using ht
          refine rb_nil (rb_nil ⟨Bi, rfl, _, rfl, (s6.trans n6.hh).trans s7, sH6.trans s7, ?_, ?_⟩)
          · rw [hst']; unfold meet; rw [if_pos hna]; exact s7 l1 _ k1
          · rw [hst']; unfold meet; rw [if_pos hna]; exact s7 l2 _ k2
      · rintro σ' Bi Hi ⟨rfl, y', rfl, s6, sHi, g1, g2⟩
        rw [take_all] at g1 g2
        have hws : wholeStep t (met, x :: xs) = (t.getD z []).foldl meet (met, (x :: xs).dropLast) := by
          show (t.getD ((x :: xs).getLast?.getD 0) []).foldl meet (met, (x :: xs).dropLast) = _
          rw [hz]
        have hsz := meet_len (t.getD z []) (met, (x :: xs).dropLast)
        rw [hws] at hw'
        simp only [List.length_dropLast] at hsz
        refine rb_nil ⟨m', Nat.lt_succ_self _, B2, rfl, _, _, y', rfl, sHi, g1, g2, hw'.2, ?_, ?_⟩ <;> omega
    · obtain rfl : wait = [] := by
        cases wait with
        | nil => rfl
        | cons x xs => cases ht
      have e : met = met0 := by
        cases m <;> (unfold wholeLoop at hw; exact Option.some.inj hw)
      subst e
      have h1' := s3 l1 _ h1
      have N := Nw.all sb (sH.trans s3)
      refine rb_ret (B := told B2 H H3) (Ev.to (Cm.ev (cm_eq (ev_len (xs := met) (ev_var 1 rfl (R_nats ((told_new h01).trans h1'))) E.bt.len) (ev_len (ev_var 0 rfl (Rp.mono N.bb ra)) E.bt.len))) (by simp [hlen])) N.bh fun v' B' H' n r => q v' B' H' (N.trans n) r
end
end LK
/-! ## F5 -/
namespace LK
open PySem PySem.Spec PyProof.Rows L2
open Rp (R)
section
variable {P : Program} {w : World} {K : PySem.W.Frag} {mg : Str → Option Value} {base : Heap} {cC cW : Addr}

/-! ### ahead_of -/
theorem aheadPut_len (here : Nat) (r : List Nat) : ∀ s : List (Option Nat) × List Nat, (r.foldl (aheadPut here) s).1.length = s.1.length ∧ (r.foldl (aheadPut here) s).2.length ≤ s.2.length + r.length := by
  induction r with
  | nil => exact fun s => ⟨rfl, Nat.le_refl _⟩
  | cons p r ih =>
    intro s
    have h := ih (aheadPut here s p)
    have h2 : (aheadPut here s p).1.length = s.1.length ∧ (aheadPut here s p).2.length ≤ s.2.length + 1 := by
      unfold aheadPut
      split
      · simp
      · omega
    rw [List.foldl_cons, List.length_cons]
    omega
theorem sc25 : FnScope ["ties", "goal", "found", "waiting", "here", "place"] ["ties", "goal"] (defScope (topS 25)) := ⟨rfl, rfl, rfl, by decide +kernel, rfl, by decide +kernel, by decide +kernel⟩
theorem fk_ahead_of (E : Tops K mg cC cW) : Fk P w K mg base "ahead_of" 1 ["ties", "goal"] (Sp2 (fun (t : List (List Nat)) g => aheadOk t g = true ∧ g < t.length ∧ t.length ≤ 1000 ∧ ∀ r ∈ t, r.length ≤ 100 ∧ ∀ p ∈ r, p < t.length) fun t g => aheadOf t g) :=
  fk2 (N := ["ties", "goal", "found", "waiting", "here", "place"]) E.d25 sc25 fun f cd A ou s H EX v vg B t g Q hr sb ra rg ⟨hp, hg, htl, hrow⟩ q => by
    obtain ⟨f0, hw0, hall⟩ : ∃ m, aheadLoop t 50 ((List.replicate t.length none).set g (some g), [g]) = some m ∧ m.all (·.isSome) = true := by
      unfold aheadOk aheadRaw at hp
      cases h : aheadLoop t 50 ((List.replicate t.length none).set g (some g), [g]) with
      | none => rw [h] at hp; cases hp
      | some m => rw [h] at hp; exact ⟨m, rfl, hp⟩
    have hres : aheadOf t g = f0.map (·.getD 0) := by
      unfold aheadOf aheadRaw
      rw [hw0]; rfl
    rw [hres] at q
    refine rb_par 2 3 (rdA_FF (ys := [g]) (evf_rep (xs := [(none : Option Nat)]) (EvF.ev (ev_lst (xs := [(none : Option Nat)]) (eva1 ev_non))) (ev_len (ev_var 0 rfl ra) E.bt.len) (by simp; omega) (by omega)) (ev_lst (xs := [g]) (eva1 (ev_var 1 rfl rg))) sb fun l1 ws l2 ws2 B1 H1 hl n1 hne h01 h02 hb1 hb2 hq1 hq2 lr1 lr2 => ⟨_, _, rfl, ?_⟩) sc25.nd
    have e1 := lr_oV lr1
    have e2 := lr_nV lr2
    subst e1 e2
    have hrep : (List.replicate t.length [(none : Option Nat)]).flatten = List.replicate t.length none := by
      generalize t.length = k
      induction k with
      | zero => rfl
      | succ k ih => rw [List.replicate_succ, List.flatten_cons, ih]; rfl
    rw [hrep] at hq1
    have hBl1 : B l1 = none := sb.free h01
    have hBl2 : B l2 = none := sb.free h02
    -- found[goal] = goal
    refine rb_setItem 2 (B := B) (x := g) (j := g) (ev_var 1 rfl rg) (ev_var 1 rfl rg) n1.bH rfl hq1 (by rw [oV_len]; simpa using hg) fun v1 B2 H2 n2 r2 => ?_
    cases (show v1 = _ from r2)
    rw [oV_set]
    have m2 : (upd H2 l1 (.lst (oV ((List.replicate t.length none).set g (some g))))) l2 = some (.lst (nV [g])) := by rw [upd_ne hne.symm]; exact n2.hh l2 _ hq2
    have s2 : Same H (upd H2 l1 (.lst (oV ((List.replicate t.length none).set g (some g))))) := fun b o e => by rw [upd_ne (ne_of_none e h01)]; exact n2.hh b o (n1.hh b o e)
    refine rb_while (B := B) (fun m σ' B2 H2 => B2 = B ∧ ∃ fd wait y y', σ' = [some v, some vg, some (.ref l1), some (.ref l2), y, y'] ∧ Same H H2 ∧ H2 l1 = some (.lst (oV fd)) ∧ H2 l2 = some (.lst (nV wait)) ∧ aheadLoop t m (fd, wait) = some f0 ∧ fd.length = t.length ∧ wait.length + 100 * m ≤ 6000)
      ⟨50, rfl, _, [g], none, none, rfl, s2, upd_same, m2, hw0, by simp, Nat.le_of_ble_eq_true rfl⟩ PassesOwn.never ?_
    rintro m σ' B2 H2 ⟨rfl, fd, wait, y, y', rfl, sH, h1, h2, hw, hm1, hm2⟩
    refine ⟨upd B2 l2 (.lst (nV wait)), !wait.isEmpty, same_tell (sb.trans sH) h2, Cm.et (cm_neNil (xs := wait) (ev_var 3 rfl (R_nats upd_same)) hr.units), fun ht H3 s3 => ?_, fun ht H3 s3 => ?_⟩
    · obtain ⟨x, xs, rfl⟩ : ∃ x xs, wait = x :: xs := by
        cases wait with
        | nil => cases ht
        | cons x xs => exact ⟨x, xs, rfl⟩
      obtain ⟨m', rfl⟩ : ∃ m', m = m' + 1 := by
        cases m with
        | zero => unfold aheadLoop at hw; cases hw
        | succ m' => exact ⟨m', rfl⟩
      have hw' : (x :: xs).getLast?.getD 0 < t.length ∧ aheadLoop t m' (aheadStep t (fd, x :: xs)) = some f0 := by
        unfold aheadLoop at hw
        split at hw
        · exact ⟨by assumption, hw⟩
        · cases hw
      generalize hz : (x :: xs).getLast?.getD 0 = z at hw'
      have h1' := s3 l1 _ h1
      have h2' := s3 l2 _ h2
      have sH3 := sH.trans s3
      obtain ⟨hrl, hrp⟩ := hrow _ (List.mem_of_getElem? (getD_at (d := []) hw'.1))
      -- here = waiting.pop()
      refine rb_setR 4 (rd_pop 3 rfl h2' (nV_last (List.cons_ne_nil _ _)) fun hl5 => ?_) sc25.nd
      rw [nV_dropLast] at hl5 ⊢
      rw [hz]
      have s5 : Same B2 (upd H3 l2 (.lst (nV (x :: xs).dropLast))) := same_upd2 (sb.trans sH3) hBl2
      have sH5 : Same H (upd H3 l2 (.lst (nV (x :: xs).dropLast))) := fun b o e => by rw [upd_ne (ne_of_none e h02)]; exact sH3 b o e
      have k1 : (upd H3 l2 (.lst (nV (x :: xs).dropLast))) l1 = some (.lst (oV fd)) := by rw [upd_ne hne]; exact h1'
      refine rb_for (B := B2) (xs := t.getD z []) (ei_list (ev_ix (ev_var 0 rfl ra) (ev_var (x := z) 4 rfl rfl) (getD_at hw'.1))) s5 PassesOwn.never rfl fun B6 H6 hl6 n6 _ => ?_
      refine ⟨fun i σ' Bi Hi => Bi = B6 ∧ ∃ y, σ' = [some v, some vg, some (.ref l1), some (.ref l2), some (.int (z : Nat)), y] ∧ Same B6 Hi ∧ Same H Hi ∧ Hi l1 = some (.lst (oV (((t.getD z []).take i).foldl (aheadPut z) (fd, (x :: xs).dropLast)).1)) ∧ Hi l2 = some (.lst (nV (((t.getD z []).take i).foldl (aheadPut z) (fd, (x :: xs).dropLast)).2)),
        ⟨rfl, y', rfl, n6.bh, sH5.trans n6.hh, n6.hh l1 _ k1, n6.hh l2 _ upd_same⟩, fun i σ' Bi Hi ⟨e, _, _, s6, _⟩ => by subst e; exact ⟨Same.refl _, s6⟩, ?_, ?_⟩
      · rintro i a va σ' Bi Hi B7 H7 ha ⟨rfl, y', rfl, s6, sHi, g1, g2⟩ n7 r7
        cases (show va = _ from r7)
        generalize hst : ((t.getD z []).take i).foldl (aheadPut z) (fd, (x :: xs).dropLast) = st at g1 g2
        have hsz := aheadPut_len z ((t.getD z []).take i) (fd, (x :: xs).dropLast)
        rw [hst] at hsz
        have hti : ((t.getD z []).take i).length ≤ 100 := by rw [List.length_take]; exact Nat.le_trans (Nat.min_le_right _ _) hrl
        have hst' : ((t.getD z []).take (i + 1)).foldl (aheadPut z) (fd, (x :: xs).dropLast) = aheadPut z st a := by
          rw [take_snoc ha, List.foldl_append, hst]; rfl
        have hal : a < st.1.length := by rw [hsz.1]; exact Nat.lt_of_lt_of_eq (hrp a (List.mem_of_getElem? ha)) hm1.symm
        have k1 := n7.hh l1 _ g1
        have k2 := n7.hh l2 _ g2
        have sH7 := sHi.trans n7.hh
        have hb1 : Bi l1 = none := n6.hid l1 (by rw [upd_ne hne, h1']; intro z; cases z) hBl1
        have hb2 : Bi l2 = none := n6.hid l2 (by rw [upd_same]; intro z; cases z) hBl2
        refine rg_name 5 (rb_if ((st.1.getD a none).isNone) (Cm.et (cm_isN (ev_ix (xs := st.1) (i := a) (ev_var (B := upd Bi l1 (.lst (oV st.1))) 2 rfl (R_opts upd_same)) (ev_var 5 rfl rfl) (getD_at hal)) nn_nat)) (same_tell (s6.trans n7.hh) k1) (fun ht H8 s8 => ?_) fun ht H8 s8 => ?_) sc25.nd
        · -- found[place] = here; waiting.append(place)
          refine rb_setItem 2 (B := Bi) (x := z) (j := a) (ev_var 4 rfl rfl) (ev_var 5 rfl rfl) ((s6.trans n7.hh).trans s8) rfl (s8 l1 _ k1) (by rw [oV_len]; exact hal) fun v9 B9 H9 n9 r9 => ?_
          cases (show v9 = _ from r9)
          rw [oV_set]
          have m2 : (upd H9 l1 (.lst (oV (st.1.set a (some z))))) l2 = some (.lst (nV st.2)) := by rw [upd_ne hne.symm]; exact n9.hh l2 _ (s8 l2 _ k2)
          have sH9 : Same H (upd H9 l1 (.lst (oV (st.1.set a (some z))))) := fun b o e => by rw [upd_ne (ne_of_none e h01)]; exact n9.hh b o (s8 b o (sH7 b o e))
          have sB9 : Same Bi (upd H9 l1 (.lst (oV (st.1.set a (some z))))) := same_upd2 (((s6.trans n7.hh).trans s8).trans n9.hh) hb1
          refine rb_append 3 (B := Bi) (ev_var (x := a) 5 rfl rfl) sB9 rfl m2 ?_ fun v10 B10 H10 n10 r10 => ?_
          · rw [nV_len]; refine Nat.lt_of_lt_of_le (m := 100000) ?_ (by decide); simp only [List.length_dropLast] at hsz; omega
          cases (show v10 = _ from r10)
          rw [nV_snoc]
          refine rb_nil (rb_nil ⟨Bi, rfl, _, rfl, same_upd2 (sB9.trans n10.hh) hb2, fun b o e => by rw [upd_ne (ne_of_none e h02)]; exact n10.hh b o (sH9 b o e), ?_, ?_⟩)
          · rw [upd_ne hne, hst']
            have := n10.hh l1 _ (upd_same (H := H9) (a := l1) (o := .lst (oV (st.1.set a (some z)))))
            rw [this]; unfold aheadPut; rw [if_pos ht]
          · rw [upd_same, hst']; unfold aheadPut; rw [if_pos ht]
        · refine rb_nil (rb_nil ⟨Bi, rfl, _, rfl, (s6.trans n7.hh).trans s8, sH7.trans s8, ?_, ?_⟩)
          · rw [hst']; unfold aheadPut; rw [if_neg (by rw [ht]; decide)]; exact s8 l1 _ k1
          · rw [hst']; unfold aheadPut; rw [if_neg (by rw [ht]; decide)]; exact s8 l2 _ k2
      · rintro σ' Bi Hi ⟨rfl, y', rfl, s6, sHi, g1, g2⟩
        rw [take_all] at g1 g2
        have hws : aheadStep t (fd, x :: xs) = (t.getD z []).foldl (aheadPut z) (fd, (x :: xs).dropLast) := by
          show (t.getD ((x :: xs).getLast?.getD 0) []).foldl (aheadPut ((x :: xs).getLast?.getD 0)) (fd, (x :: xs).dropLast) = _
          rw [hz]
        have hsz := aheadPut_len z (t.getD z []) (fd, (x :: xs).dropLast)
        rw [hws] at hw'
        simp only [List.length_dropLast] at hsz
        refine rb_nil ⟨m', Nat.lt_succ_self _, B2, rfl, _, _, _, y', rfl, sHi, g1, g2, hw'.2, ?_, ?_⟩ <;> omega
    · obtain rfl : wait = [] := by
        cases wait with
        | nil => rfl
        | cons x xs => cases ht
      have e : fd = f0 := by
        cases m <;> (unfold aheadLoop at hw; exact Option.some.inj hw)
      subst e
      have h1' := s3 l1 _ h1
      rw [oV_nV hall] at h1'
      have N := Nw.all sb (sH.trans s3)
      exact rb_ret (B := told B2 H H3) (ev_var 2 rfl (R_nats ((told_new h01).trans h1'))) N.bh fun v' B' H' n r => q v' B' H' (N.trans n) r
end
end LK
/-! ## F6 -/
namespace LK
open PySem PySem.Spec PyProof.Rows L2
open Rp (R)
section
variable {P : Program} {w : World} {K : PySem.W.Frag} {mg : Str → Option Value} {base : Heap} {cC cW : Addr}

/-! ### yards_behind -/
theorem meetT_len (g : Nat) (r : List Nat) : ∀ s : List Nat × List Nat, (r.foldl (meetT g) s).1.length ≤ s.1.length + r.length ∧ (r.foldl (meetT g) s).2.length ≤ s.2.length + r.length := by
  induction r with
  | nil => exact fun s => ⟨Nat.le_refl _, Nat.le_refl _⟩
  | cons p r ih =>
    intro s
    have h := ih (meetT g s p)
    have h2 : (meetT g s p).1.length ≤ s.1.length + 1 ∧ (meetT g s p).2.length ≤ s.2.length + 1 := by
      unfold meetT
      split
      · simp
      · omega
    rw [List.foldl_cons, List.length_cons]
    omega
theorem sc54 : FnScope ["country", "yard", "target", "met", "waiting", "place"] ["country", "yard", "target"] (defScope (topS 54)) := ⟨rfl, rfl, rfl, by decide +kernel, rfl, by decide +kernel, by decide +kernel⟩
theorem fk_yards_behind (E : Tops K mg cC cW) : Fk P w K mg base "yards_behind" 2 ["country", "yard", "target"] (Sp3 (fun (c : Cty cC) (y g : Nat) => behindOk c.ties y g = true ∧ ∀ r ∈ c.ties, r.length ≤ 100) fun c y g => yardsBehind c.ties y g) :=
  fk3 (N := ["country", "yard", "target", "met", "waiting", "place"]) E.d54 sc54 fun f cd A ou s H EX v vy vg B c yd g Q hr sb ra ry rg ⟨hp, hrow⟩ q => by
    obtain ⟨met0, hw0, hlt⟩ : ∃ m, behindLoop c.ties g 50 ([yd], [yd]) = some m ∧ ∀ p ∈ m, p < c.ties.length := by
      unfold behindOk behindMet at hp
      cases h : behindLoop c.ties g 50 ([yd], [yd]) with
      | none => rw [h] at hp; cases hp
      | some m => rw [h] at hp; exact ⟨m, rfl, fun p hm => of_decide_eq_true (List.all_eq_true.mp hp p hm)⟩
    have hres : yardsBehind c.ties yd g = nsort (met0.filter fun p => decide (1 < (rowAt c.ties p).length)) := by
      unfold yardsBehind behindMet
      rw [hw0]; rfl
    rw [hres] at q
    refine rb_par 3 4 (rdA_FF (xs := [yd]) (ys := [yd]) (ev_lst (xs := [yd]) (eva1 (ev_var 1 rfl ry))) (ev_lst (xs := [yd]) (eva1 (ev_var 1 rfl ry))) sb fun l1 ws l2 ws2 B1 H1 hl n1 hne h01 h02 hb1 hb2 hq1 hq2 lr1 lr2 => ⟨_, _, rfl, ?_⟩) sc54.nd
    have e1 := lr_nV lr1
    have e2 := lr_nV lr2
    subst e1 e2
    have hBl1 : B l1 = none := sb.free h01
    have hBl2 : B l2 = none := sb.free h02
    refine rb_while (B := B) (fun m σ' B2 H2 => B2 = B ∧ ∃ met wait y, σ' = [some v, some vy, some vg, some (.ref l1), some (.ref l2), y] ∧ Same H H2 ∧ H2 l1 = some (.lst (nV met)) ∧ H2 l2 = some (.lst (nV wait)) ∧ behindLoop c.ties g m (met, wait) = some met0 ∧ met.length + 100 * m ≤ 6000 ∧ wait.length + 100 * m ≤ 6000)
      ⟨50, rfl, [yd], [yd], none, rfl, n1.hh, hq1, hq2, hw0, Nat.le_of_ble_eq_true rfl, Nat.le_of_ble_eq_true rfl⟩ PassesOwn.never ?_
    rintro m σ' B2 H2 ⟨rfl, met, wait, y, rfl, sH, h1, h2, hw, hm1, hm2⟩
    refine ⟨upd B2 l2 (.lst (nV wait)), !wait.isEmpty, same_tell (sb.trans sH) h2, Cm.et (cm_neNil (xs := wait) (ev_var 4 rfl (R_nats upd_same)) hr.units), fun ht H3 s3 => ?_, fun ht H3 s3 => ?_⟩
    · obtain ⟨x, xs, rfl⟩ : ∃ x xs, wait = x :: xs := by
        cases wait with
        | nil => cases ht
        | cons x xs => exact ⟨x, xs, rfl⟩
      obtain ⟨m', rfl⟩ : ∃ m', m = m' + 1 := by
        cases m with
        | zero => unfold behindLoop at hw; cases hw
        | succ m' => exact ⟨m', rfl⟩
      have hw' : (x :: xs).getLast?.getD 0 < c.ties.length ∧ behindLoop c.ties g m' (behindStep c.ties g (met, x :: xs)) = some met0 := by
        unfold behindLoop at hw
        split at hw
        · exact ⟨by assumption, hw⟩
        · cases hw
      generalize hz : (x :: xs).getLast?.getD 0 = z at hw'
      have h1' := s3 l1 _ h1
      have h2' := s3 l2 _ h2
      have sH3 := sH.trans s3
      have hrl : (c.ties.getD z []).length ≤ 100 := hrow _ (List.mem_of_getElem? (getD_at hw'.1))
      -- for place in beside(country, waiting.pop())
      refine rb_forI (α := Nat) (rdI_mkL (pi_list pe_rd) (rd_call (fk_beside E) (hr.mono (by decide)) (rdA_mk (pa_cons pe_rd (pa_cons pe_rd pa_nil)) ((ev_var (x := c) 0 rfl ra) H3 (sb.trans sH3) _ fun u B4 H4 hl4 n4 r4 => ?_)))) PassesOwn.never rfl
      refine rd_pop 4 rfl (n4.hh l2 _ h2') (nV_last (List.cons_ne_nil _ _)) fun hl5 => ?_
      have b4 : B4 l2 = none := n4.hid l2 (by rw [h2']; intro z; cases z) hBl2
      rw [nV_dropLast] at hl5 ⊢
      rw [hz]
      have s5 : Same B4 (upd H4 l2 (.lst (nV (x :: xs).dropLast))) := same_upd2 n4.bh b4
      have sH5 : Same H (upd H4 l2 (.lst (nV (x :: xs).dropLast))) := fun b o e => by rw [upd_ne (ne_of_none e h02)]; exact n4.hh b o (sH3 b o e)
      have k51 : (upd H4 l2 (.lst (nV (x :: xs).dropLast))) l1 = some (.lst (nV met)) := by rw [upd_ne hne]; exact n4.hh l1 _ h1'
      have hb41 : B4 l1 = none := n4.hid l1 (by rw [h1']; intro z; cases z) hBl1
      refine ⟨B4, c, z, u, .int (z : Nat), rfl, s5, r4, rfl, hw'.1, fun v6 B6 H6 n6 r6 hl6 => ?_⟩
      obtain ⟨rp, rvs, rfl, hrp, lrp⟩ := r6
      refine ⟨rp, rfl, ⟨rvs, .inl (.inl (n6.bh rp _ hrp))⟩, fun _ => ⟨B6, c.ties.getD z [], itOk_list hrp lrp (hl6 rp _ (n6.bh rp _ hrp)), ?_⟩⟩
      have b62 : B6 l2 = none := n6.hid l2 (by rw [upd_same]; intro z; cases z) b4
      have b61 : B6 l1 = none := n6.hid l1 (by rw [k51]; intro z; cases z) hb41
      refine ⟨fun i σ' Bi Hi => Bi = B6 ∧ ∃ y, σ' = [some v, some vy, some vg, some (.ref l1), some (.ref l2), y] ∧ Same B6 Hi ∧ Same H Hi ∧ Hi l1 = some (.lst (nV (((c.ties.getD z []).take i).foldl (meetT g) (met, (x :: xs).dropLast)).1)) ∧ Hi l2 = some (.lst (nV (((c.ties.getD z []).take i).foldl (meetT g) (met, (x :: xs).dropLast)).2)),
        ⟨rfl, y, rfl, n6.bh, sH5.trans n6.hh, n6.hh l1 _ k51, n6.hh l2 _ upd_same⟩, fun i σ' Bi Hi ⟨e, _, _, s6, _⟩ => by subst e; exact ⟨Same.refl _, s6⟩, ?_, ?_⟩
      · rintro i a va σ' Bi Hi B7 H7 ha ⟨rfl, y', rfl, s6, sHi, g1, g2⟩ n7 r7
        cases (show va = _ from r7)
        generalize hst : ((c.ties.getD z []).take i).foldl (meetT g) (met, (x :: xs).dropLast) = st at g1 g2
        have hsz := meetT_len g ((c.ties.getD z []).take i) (met, (x :: xs).dropLast)
        rw [hst] at hsz
        have hti : ((c.ties.getD z []).take i).length ≤ 100 := by rw [List.length_take]; exact Nat.le_trans (Nat.min_le_right _ _) hrl
        have hst' : ((c.ties.getD z []).take (i + 1)).foldl (meetT g) (met, (x :: xs).dropLast) = meetT g st a := by
          rw [take_snoc ha, List.foldl_append, hst]; rfl
        have k1 := n7.hh l1 _ g1
        have k2 := n7.hh l2 _ g2
        have sH7 := sHi.trans n7.hh
        refine rg_name 5 (rb_if (!decide (a ∈ st.1) && !decide (a = g)) (et_and2 (Cm.et (cm_nin (xs := st.1) (ev_var (B := upd Bi l1 (.lst (nV st.1))) 5 rfl (show R _ a _ from rfl)) (ev_var 3 rfl (R_nats upd_same)))) fun _ => Cm.et (cm_ne (ev_var 5 rfl (show R _ a _ from rfl)) (ev_var 2 rfl (show R _ g _ from rg)))) (same_tell (s6.trans n7.hh) k1) (fun ht H8 s8 => ?_) fun ht H8 s8 => ?_) sc54.nd
        · refine rb_append 3 (B := Bi) (ev_var (x := a) 5 rfl rfl) ((s6.trans n7.hh).trans s8) rfl (s8 l1 _ k1) ?_ fun v9 B9 H9 n9 r9 => ?_
          · rw [nV_len]; refine Nat.lt_of_lt_of_le (m := 100000) ?_ (by decide); simp only at hsz; omega
          cases (show v9 = _ from r9)
          rw [nV_snoc]
          have m2 : (upd H9 l1 (.lst (nV (st.1 ++ [a])))) l2 = some (.lst (nV st.2)) := by rw [upd_ne hne.symm]; exact n9.hh l2 _ (s8 l2 _ k2)
          have sH9 : Same H (upd H9 l1 (.lst (nV (st.1 ++ [a])))) := fun b o e => by rw [upd_ne (ne_of_none e h01)]; exact n9.hh b o (s8 b o (sH7 b o e))
          have sB9 : Same Bi (upd H9 l1 (.lst (nV (st.1 ++ [a])))) := same_upd2 (((s6.trans n7.hh).trans s8).trans n9.hh) b61
          refine rb_append 4 (B := Bi) (ev_var (x := a) 5 rfl rfl) sB9 rfl m2 ?_ fun v10 B10 H10 n10 r10 => ?_
          · rw [nV_len]; refine Nat.lt_of_lt_of_le (m := 100000) ?_ (by decide); simp only [List.length_dropLast] at hsz; omega
          cases (show v10 = _ from r10)
          rw [nV_snoc]
          refine rb_nil (rb_nil ⟨Bi, rfl, _, rfl, same_upd2 (sB9.trans n10.hh) b62, fun b o e => by rw [upd_ne (ne_of_none e h02)]; exact n10.hh b o (sH9 b o e), ?_, ?_⟩)
          · rw [upd_ne hne, hst']
            have := n10.hh l1 _ (upd_same (H := H9) (a := l1) (o := .lst (nV (st.1 ++ [a]))))
            rw [this]; unfold meetT; rw [if_pos ht]
          · rw [upd_same, hst']; unfold meetT; rw [if_pos ht]
        · refine rb_nil (rb_nil ⟨Bi, rfl, _, rfl, (s6.trans n7.hh).trans s8, sH7.trans s8, ?_, ?_⟩)
          · rw [hst']; unfold meetT; rw [if_neg (by rw [ht]; decide)]; exact s8 l1 _ k1
          · rw [hst']; unfold meetT; rw [if_neg (by rw [ht]; decide)]; exact s8 l2 _ k2
      · rintro σ' Bi Hi ⟨rfl, y', rfl, s6, sHi, g1, g2⟩
        rw [take_all] at g1 g2
        have hws : behindStep c.ties g (met, x :: xs) = (c.ties.getD z []).foldl (meetT g) (met, (x :: xs).dropLast) := by
          show (c.ties.getD ((x :: xs).getLast?.getD 0) []).foldl (meetT g) (met, (x :: xs).dropLast) = _
          rw [hz]
        have hsz := meetT_len g (c.ties.getD z []) (met, (x :: xs).dropLast)
        rw [hws] at hw'
        simp only [List.length_dropLast] at hsz
        refine rb_nil ⟨m', Nat.lt_succ_self _, B2, rfl, _, _, y', rfl, sHi, g1, g2, hw'.2, ?_, ?_⟩ <;> omega
    · obtain rfl : wait = [] := by
        cases wait with
        | nil => rfl
        | cons x xs => cases ht
      have e : met = met0 := by
        cases m <;> (unfold behindLoop at hw; exact Option.some.inj hw)
      subst e
      have h1' := s3 l1 _ h1
      have N := Nw.all sb (sH.trans s3)
      have rc := Rp.mono N.bb ra
      refine rb_ret (B := told B2 H H3) (Ev.to (EvF.ev (evf_sorted (EvF.ev (evf_lc (p := fun p => decide (1 < (rowAt c.ties p).length)) (g := fun p => p) [("place", 5)] (ei_list (ev_var (x := met) 3 rfl (R_nats ((told_new h01).trans h1'))))
        (turnN 5 (fun u => rfl) (fun B5 t vt s5 hm rt s H0 C cl fp => ⟨ets_one (Cm.et (cm_gt (ev_len (ev_call2 (x := c) (y := t) (fk_beside E) (hr.mono (by decide)) (eva2 (ev_var 0 rfl (Rp.mono s5 rc)) (ev_var 5 rfl rt)) (hlt t hm)) E.bt.len) (ev_nat 1))), fun _ => ev_var 5 rfl rt⟩) sc54.nd) sc54.nd)) hr.units E.bt.sorted)) (by rw [srt_nat, List.map_id'])) N.bh fun v' B' H' n r => q v' B' H' (N.trans n) r
end
end LK
/-! ## F7 -/
namespace LK
open PySem PySem.Spec PyProof.Rows L2
open Rp (R)
section
variable {α β γ δ : Type} [Rp α] [Rp β] [Rp γ] [Rp δ]
variable {X : Cx} {e a b c tg iter o : Expr} {es : List Expr} {σ : L2.St} {B B' H B0 H0 : Hp} {x : α} {y : β} {z : γ} {pos p p2 p3 p4 : Pos} {D : Ends} {rest body els : List Stmt} {st : Stmt}
/-- [[] for x in ..], as lists that will change: the new list q, its items as -/
theorem lc_empties {xs : List α} {scope : Scope} {vs : List Nat} {pe : Pos} (i : Nat) {n : Str} {pn : Pos} (hi : EvI X (.Name n pn) iter σ B xs) (hw : ∀ u, wipe ((wipe σ vs).set i u) vs = wipe σ vs) (s : Same B H) (Q : VK)
    (k : ∀ (q : Addr) (as : List Addr) H', HLen H' → Same H H' → as.length = xs.length → as.Nodup → q ∉ as → H q = none → (∀ a ∈ as, H a = none ∧ H' a = some (.lst [])) → H' q = some (.lst (as.map V.ref)) → Q (.ref q) H')
    (hN : X.N.Nodup) (hn : X.N[i]? = some n := by rfl) (hx : Loc (relabel scope X.env) n := by first | exact Or.inl rfl | exact Or.inr rfl) (hf1 : (scope.names.lookup n == some .cell) = true ∨ (relabel scope X.env).names.lookup n = some .local := by first | exact Or.inr rfl | exact Or.inl rfl) :
    tLc (rdI X (.Name n pn) iter) (gB X scope (.Name n pn)) (ttB X scope []) (teB X scope (.List [] pe)) vs σ H (fun v H' => HLen H' → Q v H') := by
  refine hi H s _ fun J B' H1 hl nw ok => fun L hL => ?_
  obtain ⟨hz, G, Y, wk, hG, hY⟩ := ok
  refine lc_it (Qd := fun H2 => HLen H2 → Q (.ref L) H2) (g := gB X scope (.Name n pn)) (tt := ttB X scope []) (te := teB X scope (.List [] pe)) (vs := vs) (σ := σ) wk
    (fun i H2 => ∃ as : List Addr, as.length = i ∧ as.Nodup ∧ L ∉ as ∧ (∀ a ∈ as, H1 a = none ∧ H2 a = some (.lst [])) ∧ Same H1 H2 ∧ H2 L = some (.lst (as.map V.ref)))
    ⟨[], rfl, List.nodup_nil, by simp, by simp, same_new hL, upd_same⟩ (fun i H2 _ ⟨as, _, _, _, _, s2, _⟩ => hG H2 (nw.bh.trans s2)) (fun j v H2 H3 hj ⟨as, e1, e2, e3, e4, e5, e6⟩ y => ?_) fun H2 ⟨as, e1, e2, e3, e4, e5, e6⟩ hl2 => ?_
  · obtain ⟨B3, a, ha, n3, ra⟩ := hY j H2 v H3 (nw.bh.trans e5) y
    intro s0 H0 C cl fp
    refine rg_name (X := blkX X scope s0 H0 C cl fp) i ?_ hN hn hx hf1
    refine ⟨hw _, ?_⟩
    intro s1 H1' C1 cl1 fp1
    refine ets_nil (B := B3) H3 n3.bh _ fun H4 s4 => iteT ?_
    intro s2 H2' C2 cl2 fp2
    refine (ev_lst0 (α := Nat)) H4 (Same.refl H4) _ fun p ws B5 H5 hl5 n5 h0 hb hp lr => ?_
    obtain rfl : ws = [] := List.eq_nil_of_length_eq_zero lr.1
    have s45 : Same H2 H5 := n3.hh.trans (s4.trans n5.hh)
    have hpL : p ≠ L := fun z => by
      rw [z, s4 L _ (n3.hh L _ e6)] at h0; cases h0
    have hpas : p ∉ as := fun z => by
      rw [s4 p _ (n3.hh p _ (e4 p z).2)] at h0; cases h0
    refine ⟨as.map V.ref, s45 L _ e6, by rw [List.length_map]; omega, as ++ [p], by rw [List.length_append, e1]; rfl, ?_, ?_, fun a' ha' => ?_, fun b o eb => ?_, by rw [upd_same, List.map_append]; rfl⟩
    · rw [List.nodup_append]
      exact ⟨e2, by simp, fun a ha b hb => by simp at hb; subst hb; exact fun z => hpas (by rw [← z]; exact ha)⟩
    · intro z
      rcases List.mem_append.mp z with z | z
      · exact e3 z
      · simp at z; exact hpL z.symm
    · rcases List.mem_append.mp ha' with z | z
      · rw [upd_ne (fun q => e3 (by rw [← q]; exact z))]
        exact ⟨(e4 a' z).1, s45 a' _ (e4 a' z).2⟩
      · simp at z
        subst z
        rw [upd_ne hpL]
        exact ⟨e5.free (n3.hh.free (s4.free h0)), hp⟩
    · rw [upd_ne (ne_of_none eb hL)]
      exact s45 b o (e5 b o eb)
  · exact k L as H2 hl2 (nw.hh.trans e5) e1 e2 e3 (nw.hh.free hL) (fun a ha => ⟨nw.hh.free (e4 a ha).1, (e4 a ha).2⟩) e6
/-- name = [[] for x in ..] -/
theorem rb_setEmpties {xs : List α} {scope : Scope} {pe spos py : Pos} {y : Str} (j i : Nat) {n : Str} {pn : Pos} (own : List (Str × Nat)) (hi : EvI X (.Name n pn) iter σ B xs) (hw : ∀ u, wipe ((wipe σ (own.map (·.2))).set i u) (own.map (·.2)) = wipe σ (own.map (·.2))) (s : Same B H)
    (k : ∀ (q : Addr) (as : List Addr) H', HLen H' → Same H H' → as.length = xs.length → as.Nodup → q ∉ as → H q = none → (∀ a ∈ as, H a = none ∧ H' a = some (.lst [])) → H' q = some (.lst (as.map V.ref)) → rdB X rest D (σ.set j (some (.ref q))) H')
    (hN : X.N.Nodup) (hn : X.N[i]? = some n := by rfl) (hx : Loc (relabel scope X.env) n := by first | exact Or.inl rfl | exact Or.inr rfl) (hf1 : (scope.names.lookup n == some .cell) = true ∨ (relabel scope X.env).names.lookup n = some .local := by first | exact Or.inr rfl | exact Or.inl rfl)
    (hy : X.N[j]? = some y := by rfl) (hyl : X.env.scope.names.lookup y = some .local := by rfl)
    (hsw : swapsWith (.ListComp (.List [] pe) [⟨.Name n pn, iter, [], 0⟩] scope pos) (some (.Name y py)) spos.line X.env = pure true := by exact sw_true rfl rfl rfl (by kernel_rfl))
    (hc : X.calm = true := by rfl) (ok : blkC X.N X.env.scope scope own = true := by kernel_rfl) (hs : ∀ x, foldedSetIterable iter X.env x = pure x := by intro _; rfl) :
    rdB X (.Assign [.Name y py] (.ListComp (.List [] pe) [⟨.Name n pn, iter, [], 0⟩] scope pos) spos :: rest) D σ H :=
  rdB_mk (pss_cons (ps_setLc hc hN hy hyl hsw pi_rd (blkOk_by ok) (fun s H C cl fp => pg_gB) (fun s H C cl fp => pts_ttB) (fun s H C cl fp => pe_teB) hs) pss_rd) (by
    have h := lc_empties (scope := scope) (pe := pe) i hi hw s (fun v H' => rdB X rest D (σ.set j (some v)) H') k hN hn hx hf1
    show tLc (rdI X (.Name n pn) iter) (gB X scope (.Name n pn)) (ttB X scope []) (teB X scope (.List [] pe)) (own.map (·.2)) σ H fun v H' => rdB X rest D (σ.set j (some v)) H'
    have w : (fun (v : V) (H' : Hp) => HLen H' → rdB X rest D (σ.set j (some v)) H') = fun v H' => rdB X rest D (σ.set j (some v)) H' := by
      funext v H'
      exact propext ⟨fun h => rdB_len h, fun h _ => h⟩
    rw [w] at h
    exact h)
/-- o.append(e), o leads to a list that will change -/
theorem rb_appendE {l : Addr} {vs : List V} (ho : ∀ Q : VK, Q (.ref l) H → rd X o σ H Q) (h : Ev X e σ B x) (s : Same B H) (hl : H l = some (.lst vs)) (hz : vs.length < sizeLine) (k : ∀ v B' H', Nw B H B' H' → R B' x v → rdB X rest D σ (upd H' l (.lst (vs ++ [v]))))
    (hb : attributeBase o "append" X.env (eval o X.env) = eval o X.env := by rfl) (hfew : ((backTo p3 (starEach [e] X.env)).all (fun x => !x.1) && (backToKw p3 (keywordEach [] X.env)).all (fun x => x.1.isSome)
      && decide ([e].length + ([] : List Keyword).length + (if ([] : List Keyword).isEmpty then 0 else 1) < 30)) = true := by rfl)
    (hline : (p2.endLine == p3.line) = true := by rfl) (hs : NS X e [] := by rfl) (hsw : swapsWith (.Call (.Attribute o "append" p2) [e] [] p3) none pos.line X.env = pure false := by rfl) :
    rdB X (.Expr (.Call (.Attribute o "append" p2) [e] [] p3) pos :: rest) D σ H :=
  rdB_mk (pss_cons (ps_expr (pe_bm PySem.F.plainAttrs_list PySem.F.slot_list_append PySem.F.type_list_append mt_append pe_rd (pa_cons pe_rd pa_nil hs) hb hfew hline hs rfl) hsw) pss_rd)
    (ho _ ⟨tyL hl, h H s _ fun v B' H' _ n r => ⟨l, vs, v, rfl, rfl, n.hh l _ hl, hz, k v B' H' n r⟩⟩)
/-- found[i] where found is a list that changes -/
theorem rd_ixRaw {q l : Addr} {vs : List V} {j : Nat} {n m : Str} (i i2 : Nat) (hσ : σ[i]? = some (some (.ref q))) (hσ2 : σ[i2]? = some (some (.int (j : Int)))) (hq : H q = some (.lst vs)) (hj : vs[j]? = some (.ref l)) (Q : VK) (k : Q (.ref l) H)
    (hN : X.N[i]? = some n := by rfl) (hv : Vis X.env.scope n := by first | exact Or.inl rfl | exact Or.inr (Or.inl rfl)) (hd : (n == ("__debug__" : Str)) = false := by decide) (hcd : (n == ("__classdict__" : Str)) = false := by decide)
    (hN2 : X.N[i2]? = some m := by rfl) (hv2 : Vis X.env.scope m := by first | exact Or.inl rfl | exact Or.inr (Or.inl rfl)) (hd2 : (m == ("__debug__" : Str)) = false := by decide) (hcd2 : (m == ("__classdict__" : Str)) = false := by decide)
    (hs : PlainIx (.Name m p2) := by exact fun _ _ => rfl) : rd X (.Subscript (.Name n p) (.Name m p2) pos) σ H Q :=
  rd_mk (pe_ix ix_list (pe_var hN hv hd hcd) (pe_var hN2 hv2 hd2 hcd2) hs) ⟨.ref q, hσ, .int (j : Int), hσ2, q, vs, j, .ref l, rfl, rfl, .inl (.inl hq), atI_nat hj, k⟩
end
/-- the rows stand at as -/
def Rows (H : Hp) (as : List Addr) (T : List (List Nat)) : Prop := as.length = T.length ∧ ∀ (j : Nat) (a : Addr) (r : List Nat), as[j]? = some a → T[j]? = some r → H a = some (.lst (nV r))
theorem Rows.mono {H H' : Hp} {as : List Addr} {T : List (List Nat)} (s : Same H H') (h : Rows H as T) : Rows H' as T := ⟨h.1, fun j a r e1 e2 => s a _ (h.2 j a r e1 e2)⟩
theorem Rows.at {H : Hp} {as : List Addr} {T : List (List Nat)} (h : Rows H as T) {j : Nat} (hj : j < T.length) : ∃ a, as[j]? = some a ∧ H a = some (.lst (nV (T.getD j []))) := by
  have hj' : j < as.length := by rw [h.1]; exact hj
  exact ⟨as[j], List.getElem?_eq_getElem hj', h.2 j _ _ (List.getElem?_eq_getElem hj') (getD_at hj)⟩
theorem Rows.set {H : Hp} {as : List Addr} {T : List (List Nat)} (h : Rows H as T) (nd : as.Nodup) {p : Nat} {ap : Addr} (hp : as[p]? = some ap) (r' : List Nat) : Rows (upd H ap (.lst (nV r'))) as (T.set p r') := by
  refine ⟨by rw [List.length_set]; exact h.1, fun j a r e1 e2 => ?_⟩
  by_cases hj : j = p
  · subst hj
    rw [hp] at e1; cases e1
    rw [upd_same]
    have hlt : j < T.length := by rw [← h.1]; exact lt_of_at hp
    rw [List.getElem?_set_self hlt] at e2
    cases e2; rfl
  · rw [List.getElem?_set_ne (fun z => hj z.symm)] at e2
    rw [upd_ne (fun z => hj (by subst z; exact nd_ix nd e1 hp))]
    exact h.2 j a r e1 e2
theorem tieStep_len (t : List (List Nat)) (l : Lane) : (tieStep t l).length = t.length := by unfold tieStep; simp
theorem tieStep_row {t : List (List Nat)} {l : Lane} {m : Nat} (h : ∀ r ∈ t, r.length ≤ m) : ∀ r ∈ tieStep t l, r.length ≤ m + 2 := by
  intro r hr
  unfold tieStep at hr
  have g : ∀ (u : List (List Nat)) (k i x : Nat), (∀ r ∈ u, r.length ≤ k) → ∀ r ∈ u.set i (u.getD i [] ++ [x]), r.length ≤ k + 1 := by
    intro u k i x hu r hr
    rcases List.mem_or_eq_of_mem_set hr with e | e
    · have := hu r e; omega
    · subst e
      rw [List.length_append]
      by_cases hi : i < u.length
      · have := hu _ (List.mem_of_getElem? (getD_at (d := []) hi)); simp at this ⊢; omega
      · rw [List.getD_eq_getElem?_getD, List.getElem?_eq_none (by omega)]; simp
  exact g _ (m + 1) _ _ (g t m _ _ h) r hr
section
variable {P : Program} {w : World} {K : PySem.W.Frag} {mg : Str → Option Value} {base : Heap} {cC cW : Addr}
theorem sc23 : FnScope ["lanes", "found", "place", "near", "far", "row"] ["lanes"] (defScope (topS 23)) := ⟨rfl, rfl, rfl, by decide +kernel, rfl, by decide +kernel, by decide +kernel⟩
theorem fk_ties_of (E : Tops K mg cC cW) : Fk P w K mg base "ties_of" 1 ["lanes"] (Sp1 (fun ls : List Lane => ls.length ≤ 1000 ∧ tiesOk ls = true) fun ls => tiesOf ls) :=
  fk1 (N := ["lanes", "found", "place", "near", "far", "row"]) E.d23 sc23 fun f cd A ou s H EX v B ls Q hr sb ra ⟨hln, hok⟩ q =>
    rb_setEmpties 1 2 [("place", 2)] (ei_range1 (ev_add (ev_len (ev_var 0 rfl ra) E.bt.len) (ev_nat 1)) (by omega) E.bt.range) (fun u => rfl) sb (fun q0 as H1 hl1 s1 hlen hnd hqn hq0 has hq1 => by
      rw [List.length_range] at hlen
      refine rb_for (ei_list (ev_var 0 rfl ra)) (sb.trans s1) PassesOwn.never rfl fun B2 H2 hl2 n2 _ => ?_
      have sH2 : Same H H2 := s1.trans n2.hh
      have b2a : ∀ a ∈ as, B2 a = none := fun a h => n2.hid a (by rw [(has a h).2]; intro z; cases z) (sb.free (has a h).1)
      have b2q : B2 q0 = none := n2.hid q0 (by rw [hq1]; intro z; cases z) (sb.free hq0)
      refine ⟨fun i σ' Bi Hi => Bi = B2 ∧ ∃ y2 y3 y4 y5, σ' = [some v, some (.ref q0), y2, y3, y4, y5] ∧ Same B2 Hi ∧ Same H Hi ∧ Hi q0 = some (.lst (as.map V.ref)) ∧ Rows Hi as ((ls.take i).foldl tieStep (List.replicate (ls.length + 1) [])) ∧
          ((ls.take i).foldl tieStep (List.replicate (ls.length + 1) [])).length = ls.length + 1 ∧ ∀ r ∈ (ls.take i).foldl tieStep (List.replicate (ls.length + 1) []), r.length ≤ 2 * i,
        ⟨rfl, none, none, none, none, rfl, n2.bh, sH2, n2.hh q0 _ hq1, ⟨by simp [hlen], ?_⟩, by simp, ?_⟩, fun i σ' Bi Hi ⟨e, _, _, _, _, _, s6, _⟩ => by subst e; exact ⟨Same.refl _, s6⟩, ?_, ?_⟩
      · intro j a r e1 e2
        have e3 : r = [] := (List.mem_replicate.mp (List.mem_of_getElem? e2)).2
        subst e3
        exact n2.hh a _ (has a (List.mem_of_getElem? e1)).2
      · intro r hr
        rw [(List.mem_replicate.mp hr).2]; exact Nat.zero_le _
      · rintro i ⟨a, b⟩ va σ' Bi Hi B4 H4 ha ⟨rfl, y2, y3, y4, y5, rfl, s6, sHi, g0, gr, gl, gm⟩ n4 r4
        generalize hT : (ls.take i).foldl tieStep (List.replicate (ls.length + 1) []) = T at gr gl gm
        have hT' : (ls.take (i + 1)).foldl tieStep (List.replicate (ls.length + 1) []) = tieStep T (a, b) := by rw [take_snoc ha, List.foldl_append, hT]; rfl
        have hi : i < ls.length := lt_of_at ha
        have hab := List.all_eq_true.mp hok (a, b) (List.mem_of_getElem? ha)
        simp only [Bool.and_eq_true, decide_eq_true_eq] at hab
        obtain ⟨⟨hne, hal⟩, hbl⟩ := hab
        refine rg_pair 3 4 r4 n4.bh (fun va vb r1 r2 => ?_) sc23.nd
        cases (show va = _ from r1)
        cases (show vb = _ from r2)
        have g0' := n4.hh q0 _ g0
        have gr' := gr.mono n4.hh
        have s4 : Same Bi H4 := s6.trans n4.hh
        have sH4 : Same H H4 := sHi.trans n4.hh
        -- found[near].append(far)
        obtain ⟨aa, haa, hA⟩ := gr'.at (j := a) (by omega)
        have hma := List.mem_of_getElem? haa
        have hqa : q0 ≠ aa := fun z => hqn (by rw [z]; exact hma)
        refine rb_appendE (l := aa) (B := Bi) (x := b) (fun Q k => rd_ixRaw 1 3 rfl rfl g0' (by rw [List.getElem?_map, haa]; rfl) Q k) (ev_var 4 rfl rfl) s4 hA ?_ fun v5 B5 H5 n5 r5 => ?_
        · rw [nV_len]
          have := gm _ (List.mem_of_getElem? (getD_at (d := []) (show a < T.length by omega)))
          exact Nat.lt_of_lt_of_le (m := 100000) (by omega) (by decide)
        cases (show v5 = _ from r5)
        rw [nV_snoc]
        have gr1 := (gr'.mono n5.hh).set hnd haa (T.getD a [] ++ [b])
        have g1 : (upd H5 aa (.lst (nV (T.getD a [] ++ [b])))) q0 = some (.lst (as.map V.ref)) := by rw [upd_ne hqa]; exact n5.hh q0 _ g0'
        have s5 : Same Bi (upd H5 aa (.lst (nV (T.getD a [] ++ [b])))) := same_upd2 (s4.trans n5.hh) (b2a aa hma)
        have sH5 : Same H (upd H5 aa (.lst (nV (T.getD a [] ++ [b])))) := same_upd2 (sH4.trans n5.hh) (has aa hma).1
        have hTl : (T.set a (T.getD a [] ++ [b])).length = ls.length + 1 := by rw [List.length_set, gl]
        have hTm : ∀ r ∈ T.set a (T.getD a [] ++ [b]), r.length ≤ 2 * i + 1 := by
          intro r hr
          rcases List.mem_or_eq_of_mem_set hr with e | e
          · have := gm r e; omega
          · subst e
            have := gm _ (List.mem_of_getElem? (getD_at (d := []) (show a < T.length by omega)))
            rw [List.length_append, List.length_singleton]; omega
        generalize hT1 : T.set a (T.getD a [] ++ [b]) = T1 at gr1 hTl hTm
        generalize upd H5 aa (.lst (nV (T.getD a [] ++ [b]))) = H6 at gr1 g1 s5 sH5
        -- found[far].append(near)
        obtain ⟨bb, hbb, hB⟩ := gr1.at (j := b) (by omega)
        have hmb := List.mem_of_getElem? hbb
        have hqb : q0 ≠ bb := fun z => hqn (by rw [z]; exact hmb)
        refine rb_appendE (l := bb) (B := Bi) (x := a) (fun Q k => rd_ixRaw 1 4 rfl rfl g1 (by rw [List.getElem?_map, hbb]; rfl) Q k) (ev_var 3 rfl rfl) s5 hB ?_ fun v7 B7 H7 n7 r7 => ?_
        · rw [nV_len]
          have := hTm _ (List.mem_of_getElem? (getD_at (d := []) (show b < T1.length by omega)))
          exact Nat.lt_of_lt_of_le (m := 100000) (by omega) (by decide)
        cases (show v7 = _ from r7)
        rw [nV_snoc]
        have hTe : tieStep T (a, b) = T1.set b (T1.getD b [] ++ [a]) := by rw [← hT1]; rfl
        refine rb_nil ⟨Bi, rfl, _, _, _, _, rfl, same_upd2 (s5.trans n7.hh) (b2a bb hmb), same_upd2 (sH5.trans n7.hh) (has bb hmb).1, ?_, ?_, ?_, ?_⟩
        · rw [upd_ne hqb]; exact n7.hh q0 _ g1
        · rw [hT', hTe]; exact (gr1.mono n7.hh).set hnd hbb _
        · rw [hT', tieStep_len]; exact gl
        · rw [hT']
          intro r hr
          have := tieStep_row gm r hr
          omega
      · rintro σ' Bi Hi ⟨rfl, y2, y3, y4, y5, rfl, s6, sHi, g0, gr, gl, gm⟩
        rw [take_all] at gr gl gm
        have N := Nw.all sb sHi
        have rT : R (told B H Hi) (tiesRaw ls) (.ref q0) := by
          refine ⟨q0, as.map V.ref, rfl, (told_new hq0).trans g0, by rw [List.length_map]; exact gr.1, fun j r e => ?_⟩
          have hj : j < as.length := by rw [gr.1]; exact lt_of_at e
          refine ⟨.ref as[j], by rw [List.getElem?_map, List.getElem?_eq_getElem hj]; rfl, as[j], nV r, rfl, ?_, nV_lr r⟩
          rw [told_new (has _ (List.getElem_mem hj)).1]
          exact gr.2 j _ r (List.getElem?_eq_getElem hj) e
        exact rb_ret (B := told B H Hi) (Ev.to (EvF.ev (evf_lc (p := fun _ => true) (g := fun r => srt r) [("row", 5)] (ei_list (ev_var (x := tiesRaw ls) 1 rfl rT)) (turnN 5 (fun u => rfl) (fun B5 t vt s5 hm rt s H0 C cl fp => ⟨ets_nil, fun _ => EvF.ev (evf_sorted (xs := t) (ev_var 5 rfl rt) hr.units E.bt.sorted)⟩) sc23.nd) sc23.nd))
          (by rw [filt_true]; exact List.map_congr_left fun r _ => srt_nat r)) N.bh fun v' B' H' n r => q v' B' H' (N.trans n) r) sc23.nd
end
end LK
/-! ## F8 -/
namespace LK
open PySem PySem.Spec PyProof.Rows L2
open Rp (R)
/-! ### len(set(lanes)) -/
section
variable {X : Cx} {e : Expr} {σ : L2.St} {B H : Hp} {pos p p2 pos2 : Pos}
theorem call_lenSetT : CallR X (.builtin "len") (fun xs H Q => ∃ (a : Addr) (L : List (Addr × List Int)), xs = [V.ref a] ∧ H a = some (SetTO X.prog X.w a L) ∧ ((L.map (·.2)).Nodup → Q (.int (L.length : Nat)) H)) := by
  intro pins s σ H xs us Q I r h
  obtain ⟨a, L, rfl, ha, q⟩ := h
  have R0 : SetT0 X.prog X.w s.heap a L := (I.hok a _ ha).1
  obtain ⟨es, ep, t, ⟨o, ho, hex, hd⟩, hrows, tab, nd, _, _, room, few⟩ := R0.ex
  rw [Vals.ref1 r]
  have hsz : es.size = L.length := by
    rw [← Array.length_toList, hrows]; simp [rowsOf]
  refine call_len_set ho hex hd ?_ (by omega) ?_
  · rw [hsz]
    unfold SetTable.fits SetTable.fill
    rw [tab.sz, tab.dm]
    simp
    omega
  · rw [hsz]
    exact ⟨.int (L.length : Nat), H, I.tok _, ⟨_, rfl⟩, q nd⟩
theorem lanes_ks : ∀ {xs : List Lane} {vs : List V}, LR B xs vs → ∃ ks : List (Addr × List Int), vs = ks.map (fun p => V.ref p.1) ∧ (∀ p ∈ ks, B p.1 = some (.tup (p.2.map V.int))) ∧ ks.map (·.2) = xs.map fun l => [(l.1 : Int), (l.2 : Int)]
  | [], vs, l => ⟨[], List.eq_nil_of_length_eq_zero l.1, by simp, rfl⟩
  | x :: xs, [], l => by have := l.1; cases this
  | x :: xs, v :: vs, l => by
    obtain ⟨ks, e1, e2, e3⟩ := lanes_ks l.tail.2
    obtain ⟨q, v1, v2, rfl, hq, r1, r2⟩ := l.tail.1
    cases (show v1 = _ from r1)
    cases (show v2 = _ from r2)
    refine ⟨(q, [(x.1 : Int), (x.2 : Int)]) :: ks, by rw [e1]; rfl, fun p hp => ?_, by rw [List.map_cons, List.map_cons, e3]⟩
    rcases List.mem_cons.mp hp with z | z
    · subst z; exact hq
    · exact e2 p z
theorem ev_lenSet {xs : List Lane} (h : Ev X e σ B xs) (nd : xs.Nodup) (hz : xs.length < 64) (hu : X.A.units + 64 < cLine) (hm : X.mg "len" = none) (hm2 : X.mg "set" = none) (hc : X.calm = true := by rfl) (hg : Gl X "len" := by rfl) (hg2 : Gl X "set" := by rfl) (h1 : NS X e [] := by rfl)
    (h2 : NS X (.Call (.Name "set" p2) [e] [] pos2) [] := by rfl) : Ev X (.Call (.Name "len" p) [.Call (.Name "set" p2) [e] [] pos2] [] pos) σ B xs.length := fun H s Q q =>
  rd_blt call_lenSetT hm PySem.boot_len (rdA_mk (pa_cons pe_rd pa_nil h2) (rd_ty (cr_setOfT hc hu) hm2 boot_set (rdA1 h s (fun v B' H' _ n r => by
    obtain ⟨q0, vs, rfl, hq, l⟩ := r
    obtain ⟨ks, e1, e2, e3⟩ := lanes_ks l
    have hks : ks.length = xs.length := by have := congrArg List.length e3; simpa using this
    refine ⟨q0, ks, rfl, .inl (.inl (by rw [n.bh q0 _ hq, e1])), fun p hp => .inl (.inl (n.bh _ _ (e2 p hp))), by omega, fun a L ha hsub hall hl => ⟨a, L, rfl, upd_same, fun hnd hl2 => ?_⟩⟩
    have hinj : (xs.map fun l => [(l.1 : Int), (l.2 : Int)]).Nodup := by
      refine List.Pairwise.map (R := fun a b => a ≠ b) _ (fun a b hab => ?_) nd
      intro z
      have z1 := List.cons.inj z
      have z2 := List.cons.inj z1.2
      exact hab (Prod.ext (by have := z1.1; omega) (by have := z2.1; omega))
    have hlen : L.length = xs.length := by
      have hp : (L.map (·.2)).Perm (ks.map (·.2)) := by
        rw [List.perm_ext_iff_of_nodup hnd (by rw [e3]; exact hinj)]
        intro k
        constructor
        · intro hk
          obtain ⟨p, hp, rfl⟩ := List.mem_map.mp hk
          exact List.mem_map.mpr ⟨p, hsub p hp, rfl⟩
        · intro hk
          obtain ⟨p, hp, rfl⟩ := List.mem_map.mp hk
          exact hall p hp
      have := hp.length_eq
      rw [List.length_map, List.length_map] at this
      omega
    rw [hlen]
    exact q _ B' _ hl2 (n.trans (Nw.grow n.bh (same_new ha))) rfl) h1) hg2 (by decide) (by decide) h1)) hg (by decide) (by decide) h2
end
end LK
/-! ## F9 -/
namespace LK
open PySem PySem.Spec PyProof.Rows L2
open Rp (R)
section
variable {P : Program} {w : World} {K : PySem.W.Frag} {mg : Str → Option Value} {base : Heap} {cC cW : Addr}
theorem R_somes {B : Hp} {xs : List Lane} {v : V} (r : R B xs v) : R B (xs.map some) v := by
  obtain ⟨p, vs, e, h, l⟩ := r
  refine ⟨p, vs, e, h, by rw [List.length_map]; exact l.1, fun i a ha => ?_⟩
  rw [List.getElem?_map] at ha
  cases q : xs[i]? with
  | none => rw [q] at ha; cases ha
  | some x =>
    rw [q] at ha
    cases ha
    exact l.2 i x q
theorem none_in : ∀ xs : List Lane, (((xs.map some).map Dd.enc).any fun z => PyData.eqv z (Dd.enc (none : Option Lane))) = false
  | [] => rfl
  | x :: xs => by
    rw [List.map_cons, List.map_cons, List.any_cons, none_in xs, Bool.or_false]
    rfl
theorem sc26 : FnScope ["value", "found", "ties", "yards", "one", "lane", "row"] ["value"] (defScope (topS 26)) := ⟨rfl, rfl, rfl, by decide +kernel, rfl, by decide +kernel, by decide +kernel⟩
theorem fk_lanes_in (E : Tops K mg cC cW) : Fk P w K mg base "lanes_in" 4 ["value"] (Sp1 (fun ls : List Lane => lanesOk ls = true) fun ls => cLanes ls) :=
  fk1 (N := ["value", "found", "ties", "yards", "one", "lane", "row"]) E.d26 sc26 fun f cd A ou s H EX v B ls Q hr sb ra hok q => by
    unfold lanesOk at hok
    simp only [Bool.and_eq_true, decide_eq_true_eq] at hok
    obtain ⟨⟨⟨⟨⟨⟨h28, hne⟩, htie⟩, hnd⟩, hy1, hy2⟩, hr4⟩, hwh⟩ := hok
    have hlen : (ls.map laneIn).length = ls.length := List.length_map _
    refine rb_no (EvT.to (et_w (ew_or (et_not (et_val (ev_isSeq (fk_is_list E) (hr.mono (by decide)) (eva1 (ev_var 0 rfl ra))))) fun _ => ew_or1 (Cm.et (cm_gt (ev_len (ev_var 0 rfl ra) E.bt.len) (ev_mul (ev_kn E.k20) (ev_kn E.k21) (by decide)))))) (by simp; exact h28)) sb fun H1 s1 => ?_
    refine rb_set 1 (B := B) (x := ls.map laneIn) (Ev.to (EvF.ev (evf_lc (p := fun _ => true) (g := laneIn) [("one", 4)] (ei_list (ev_var 0 rfl ra)) (turnN 4 (fun u => rfl) (fun B1 a v s1 hm r s H0 C cl fp => ⟨ets_nil, fun _ => ev_call1 (x := a) (fk_lane_in E) (hr.mono (by decide)) (eva1 (ev_var 4 rfl r)) (by simpa using List.all_eq_true.mp hne a hm)⟩) sc26.nd) sc26.nd)) (by rw [filt_true])) (sb.trans s1) (fun vf B2 H2 hl2 n2 rf => ?_) sc26.nd
    generalize hfd : ls.map laneIn = fd at *
    -- None in found or ..
    have rv := Rp.mono n2.bb ra
    refine rb_no (B := B2) (EvT.to (et_w (ew_or (Cm.et (cm_inD (α := Option Lane) (x := none) (xs := fd.map some) ev_non (ev_var 1 rfl (R_somes rf)) (by have := hr.un; omega))) fun _ => ew_or (Cm.et (cm_ne (ev_lenSet (ev_var (x := fd) 1 rfl rf) hnd (by omega) hr.units E.bt.len E.bt.set) (ev_len (ev_var (x := fd) 1 rfl rf) E.bt.len))) fun _ =>
      ew_or1 (et_val (ev_any (EvF.ev (evf_lc (p := fun _ => true) (g := fun l => decide (fd.length < l.2)) [("lane", 5)] (ei_list (ev_var (x := fd) 1 rfl rf)) (turnN 5 (fun u => rfl) (fun B3 l vl s3 hm r s H0 C cl fp => ⟨ets_nil, fun _ => Cm.ev (cm_gt (ev_snd (ev_var 5 rfl r)) (ev_len (ev_var (x := fd) 1 rfl (Rp.mono s3 rf)) E.bt.len))⟩) sc26.nd) sc26.nd)) E.bt.any))))
      (by
        rw [none_in, filt_true]
        simp only [Bool.false_or, decide_true, Bool.not_true, List.any_map, List.any_eq_false]
        intro l hl
        have := List.all_eq_true.mp htie l hl
        simp only [Bool.and_eq_true, decide_eq_true_eq] at this
        simp
        omega)) n2.bh fun H3 s3 => ?_
    -- ties, yards
    refine rb_set 2 (B := B2) (x := tiesOf fd) (ev_call1 (fk_ties_of E) (hr.mono (by decide)) (eva1 (ev_var (x := fd) 1 rfl rf)) ⟨by omega, htie⟩) (n2.bh.trans s3) (fun vt B4 H4 hl4 n4 rt => ?_) sc26.nd
    refine rb_setLcT 3 (p := fun r : List Nat => decide (1 < r.length)) (g := fun r => r) [("row", 6)] (ei_list (ev_var (x := tiesOf fd) 2 rfl rt)) (turnN 6 (fun u => rfl) (fun B3 l vl s3 hm r s H0 C cl fp => ⟨ets_one (Cm.et (cm_gt (ev_len (ev_var 6 rfl r) E.bt.len) (ev_nat 1))), fun _ => ev_var 6 rfl r⟩) sc26.nd) n4.bh (fun vy B5 H5 hl5 n5 ry => ?_) sc26.nd
    have ry' : R B5 (yardRows (tiesOf fd)) vy := by
      have e : ((tiesOf fd).filter fun r : List Nat => decide (1 < r.length)).map (fun r => r) = yardRows (tiesOf fd) := List.map_id' _
      rw [e] at ry; exact ry
    have rt5 := Rp.mono n5.bb rt
    refine rb_no (B := B5) (EvT.to (et_w (ew_or (et_not (et_chainLe (ev_nat 1) (ev_len (ev_var (x := yardRows (tiesOf fd)) 3 rfl ry') E.bt.len) (ev_kn E.k20))) fun _ => ew_or (et_val (ev_any (EvF.ev (evf_lc (p := fun _ => true) (g := fun r : List Nat => decide (4 < r.length)) [("row", 6)] (ei_list (ev_var (x := tiesOf fd) 2 rfl rt5)) (turnN 6 (fun u => rfl) (fun B3 l vl s3 hm r s H0 C cl fp => ⟨ets_nil, fun _ => Cm.ev (cm_gt (ev_len (ev_var 6 rfl r) E.bt.len) (ev_kn E.k21))⟩) sc26.nd) sc26.nd)) E.bt.any)) fun _ =>
      ew_or1 (et_not (et_val (ev_call1 (fk_is_whole E) (hr.mono (by decide)) (eva1 (ev_var (x := tiesOf fd) 2 rfl rt5)) ⟨hwh, fun r hm => by
        have := List.all_eq_true.mp hr4 r hm
        simp only [decide_eq_true_eq] at this
        omega⟩))))) (by
        rw [filt_true, decide_eq_true hy1, decide_eq_true hy2]
        simp only [Bool.and_self, Bool.not_true, Bool.false_or, Bool.or_false, List.any_map, List.any_eq_false]
        intro r hm
        have := List.all_eq_true.mp hr4 r hm
        simp at this ⊢
        omega)) n5.bh fun H6 s6 => ?_
    have rf5 := Rp.mono (n4.bb.trans n5.bb) rf
    have N := (((Nw.grow sb s1).trans n2).trans (Nw.grow n2.bh s3)).trans (n4.trans (n5.trans (Nw.grow n5.bh s6)))
    exact rb_ret (B := B5) (Ev.to (EvF.ev (evf_sorted (xs := fd) (ev_var (x := fd) 1 rfl rf5) hr.units E.bt.sorted)) (by rw [srt_lane, ← hfd]; rfl)) (n5.bh.trans s6) fun v' B' H' n r => q v' B' H' (N.trans n) r
end
end LK
/-! ## F10 -/
namespace LK
open PySem PySem.Spec PyProof.Rows L2
open Rp (R)
section
variable {α β γ δ : Type} [Rp α] [Rp β] [Rp γ] [Rp δ]
variable {P : Program} {w : World} {K : PySem.W.Frag} {mg : Str → Option Value} {base : Heap}
variable {X : Cx} {e a b c tg iter : Expr} {es : List Expr} {σ : L2.St} {B B' H B0 H0 : Hp} {x : α} {y : β} {z : γ} {pos p p2 p3 p4 : Pos} {D : Ends} {rest body els : List Stmt} {st : Stmt}
/-- a method, a getter -/
theorem fm_mk {n qual : Str} {st : Stmt} {f : Addr} {fd : FuncData} {N ps : List Str} {k : Nat} {sp : Sp} (F : Fun K n qual st f fd) (S : FnScope N ps (defScope st)) (len : ∀ vs H Q E, sp vs H Q E → vs.length = ps.length)
    (body : ∀ f cdv A outer s H vs Q E, Room k (cxD P w K mg base N qual (defScope st) f cdv A outer s H E).A → sp vs H Q E → rdB (cxD P w K mg base N qual (defScope st) f cdv A outer s H E) (defBody st) { nx := fun _ H' => Q .non H', rt := Q } (start N vs) H) :
    FnOk P w K mg base CX0 (k + 1) f fd ps sp := F.ok S len fun cdv A outer s H vs Q E hr h => ⟨_, pss_rd, body f cdv A outer s H vs Q E hr h⟩
/-- self.f = e, self an instance that is being made -/
theorem rb_fld (i : Nat) {l C dx : Addr} {fs : List (Str × V)} {n f : Str} (h : Ev X e σ B x) (s : Same B H) (hσ : σ[i]? = some (some (.ref l))) (hl : H l = some (.ins C dx fs)) (cl : Cls X.K C) (hn : NoAttr X.K C f) (hz : fs.length < 1000) (k : ∀ v B' H', Nw B H B' H' → R B' x v → rdB X rest D σ (upd H' l (.ins C dx (putF f v fs))))
    (hN : X.N[i]? = some n := by rfl) (hv : Vis X.env.scope n := by first | exact Or.inl rfl | exact Or.inr (Or.inl rfl)) (hd : (n == ("__debug__" : Str)) = false := by decide) (hcd : (n == ("__classdict__" : Str)) = false := by decide)
    (hs : swapsWith e (some (.Attribute (.Name n p) f p2)) pos.line X.env = pure false := by rfl) : rdB X (.Assign [.Attribute (.Name n p) f p2] e pos :: rest) D σ H :=
  rdB_mk (pss_cons (ps_fld (pe_var hN hv hd hcd) pe_rd hs) pss_rd) (h H s _ fun v B' H' _ n r => ⟨.ref l, hσ, l, C, dx, fs, rfl, n.hh l _ hl, cl, hn, hz, k v B' H' n r⟩)
/-- self.f, read while self is being made -/
theorem ev_fldRaw (i : Nat) {l C dx : Addr} {fs : List (Str × V)} {n f : Str} {v : V} (hσ : σ[i]? = some (some (.ref l))) (hl : B l = some (.ins C dx fs)) (cl : Cls X.K C) (hn : NoAttr X.K C f) (hf : fs.lookup f = some v) (r : R B x v)
    (hN : X.N[i]? = some n := by rfl) (hv : Vis X.env.scope n := by first | exact Or.inl rfl | exact Or.inr (Or.inl rfl) | exact Or.inr (Or.inr rfl)) (hd : (n == ("__debug__" : Str)) = false := by decide) (hcd : (n == ("__classdict__" : Str)) = false := by decide)
    (hb : attributeBase (.Name n p) f X.env (eval (.Name n p) X.env) = eval (.Name n p) X.env := by rfl) : Ev X (.Attribute (.Name n p) f pos) σ B x := fun H s Q q =>
  rd_mkL (pe_fld (pe_var hN hv hd hcd) hb) ⟨.ref l, hσ, l, C, dx, fs, v, rfl, s l _ hl, cl, hn, hf, fun hl => q v B H hl (Nw.refl s) r⟩
/-- o.f, a property -/
theorem ev_prop {C : Addr} {n qual : Str} {st : Stmt} {k : Nat} {F : α → β} (Dp : PrD X.K C n qual st) (cl : Cls X.K C) (G : ∀ g fd, Fun X.K n qual st g fd → FnOk X.prog X.w X.K X.mg X.base CX0 k g fd ["self"] (Sp1 (fun _ : α => True) F)) (hr : Room (k + 1) X.A)
    (hx : ∀ B v, R B x v → ∃ a dx fs, v = .ref a ∧ B a = some (.ins C dx fs)) (h : Ev X e σ B x) (hab : attributeBase e n X.env (eval e X.env) = eval e X.env := by rfl) : Ev X (.Attribute e n pos) σ B (F x) := fun H s Q q => by
  obtain ⟨pp, g, fd, hp, hF, hb⟩ := Dp
  refine rd_mkL (pe_prop (dvs := []) (ds := []) pe_rd cl hp (G g fd hF) hr hb .nil pass0 hab) (h H s _ fun v B' H' _ n r => ?_)
  obtain ⟨a, dx, fs, rfl, ha⟩ := hx B' v r
  exact ⟨a, dx, fs, rfl, n.bh a _ ha, B', x, .ref a, rfl, n.bh, r, trivial, fun v' B2 H2 n2 r2 hl => q v' B2 H2 hl (n.trans n2) r2⟩
theorem hx_cty {C : Addr} {c : Cty C} : ∀ B v, R B c v → ∃ a dx fs, v = .ref a ∧ B a = some (.ins C dx fs) := fun B v r => by
  obtain ⟨a, dx, l, t, h, e, hA, _⟩ := r; exact ⟨a, dx, _, e, hA⟩
theorem hx_wb {C W : Addr} {c : Wb C W} : ∀ B v, R B c v → ∃ a dx fs, v = .ref a ∧ B a = some (.ins W dx fs) := fun B v r => by
  obtain ⟨a, dx, l, t, e, hA, _⟩ := r; exact ⟨a, dx, _, e, hA⟩
/-- an instance is forgotten; lists of lists of numbers don't hang on it -/
def del (B : Hp) (x : Addr) : Hp := fun b => if b = x then none else B b
theorem del_ne {B : Hp} {x b : Addr} (h : b ≠ x) : del B x b = B b := if_neg h
theorem del_self {B : Hp} {x : Addr} : del B x x = none := if_pos rfl
theorem R_delNN {B : Hp} {x C dx : Addr} {fs : List (Str × V)} {T : List (List Nat)} {v : V} (hx : B x = some (.ins C dx fs)) (r : R B T v) : R (del B x) T v := by
  obtain ⟨p, vs, e, hp, l⟩ := r
  have np : p ≠ x := fun z => by rw [z, hx] at hp; cases hp
  refine ⟨p, vs, e, (del_ne np).trans hp, l.1, fun i a ha => ?_⟩
  obtain ⟨u, h1, q, us, e2, hq, l2⟩ := l.2 i a ha
  have nq : q ≠ x := fun z => by rw [z, hx] at hq; cases hq
  exact ⟨u, h1, q, us, e2, (del_ne nq).trans hq, l2.1, fun j b hb => by
    obtain ⟨w, h2, r2⟩ := l2.2 j b hb
    exact ⟨w, h2, r2⟩⟩
end
theorem tiesRaw_len : ∀ (ls : List Lane) (t : List (List Nat)), (ls.foldl tieStep t).length = t.length
  | [], t => rfl
  | l :: ls, t => by rw [List.foldl_cons, tiesRaw_len ls, tieStep_len]
theorem tiesOf_len (ls : List Lane) : (tiesOf ls).length = ls.length + 1 := by unfold tiesOf tiesRaw; rw [List.length_map, tiesRaw_len]; simp
/-- a country's parts -/
def mkCty (C : Addr) (ls : List Lane) : Cty C := ⟨cLanes ls, cTies ls, cAhead ls⟩
section
variable {P : Program} {w : World} {K : PySem.W.Frag} {mg : Str → Option Value} {base : Heap} {cC cW : Addr}
theorem scPL : FnScope ["self"] ["self"] (defScope (inClass (topS 27) 1)) := ⟨rfl, rfl, rfl, by decide +kernel, rfl, by decide +kernel, by decide +kernel⟩
theorem fn_lanes (E : Tops K mg cC cW) {g : Addr} {fd : FuncData} (F : Fun K "lanes" "Country.lanes" (inClass (topS 27) 1) g fd) : FnOk P w K mg base CX0 1 g fd ["self"] (Sp1 (fun _ : Cty cC => True) fun c => c.lanes) :=
  fm_mk (N := ["self"]) F scPL (fun vs H Q _ ⟨_, _, _, e, _⟩ => by rw [e]; rfl) fun f cd A ou s H vs Q EX hr ⟨B, c, v, e, sb, ra, _, q⟩ => by
    subst e
    exact rb_ret (EvF.ev (evf_list (ev_cLanes E.cty (ev_var 0 rfl ra)) E.bt.list)) sb q
theorem scPY : FnScope ["self", "place", "row"] ["self"] (defScope (inClass (topS 27) 2)) := ⟨rfl, rfl, rfl, by decide +kernel, rfl, by decide +kernel, by decide +kernel⟩
theorem fn_yards (E : Tops K mg cC cW) {g : Addr} {fd : FuncData} (F : Fun K "yards" "Country.yards" (inClass (topS 27) 2) g fd) : FnOk P w K mg base CX0 1 g fd ["self"] (Sp1 (fun _ : Cty cC => True) fun c => yardsIn c.ties) :=
  fm_mk (N := ["self", "place", "row"]) F scPY (fun vs H Q _ ⟨_, _, _, e, _⟩ => by rw [e]; rfl) fun f cd A ou s H vs Q EX hr ⟨B, c, v, e, sb, ra, _, q⟩ => by
    subst e
    exact rb_ret (EvF.ev (evf_lc (p := fun z : Nat × List Nat => decide (1 < z.2.length)) (g := fun z => z.1) [("place", 1), ("row", 2)] (ei_enum (ev_cTies E.cty (ev_var 0 rfl ra)) E.bt.enumerate)
      (turnP 1 2 (fun u w => rfl) (fun B1 a va vb s1 _ ra rb s H0 C cl fp => ⟨ets_one (Cm.et (cm_gt (ev_len (ev_var 2 rfl rb) E.bt.len) (ev_nat 1))), fun _ => ev_var 1 rfl ra⟩) scPY.nd) scPY.nd)) sb q
/-! ### Country.__init__ -/
def SpMk {α β : Type} [Rp α] [Rp β] (C : Addr) (pre : α → Prop) (F : α → β) : Sp := fun vs H Q _ => ∃ (B : Hp) (x dx : Addr) (a : α) (v : V), vs = [.ref x, v] ∧ Same B H ∧ R B a v ∧ B x = none ∧ H x = some (.ins C dx []) ∧ pre a ∧
  ∀ B' H', Same B B' → Same B' H' → (∀ b o, b ≠ x → H b = some o → H' b = some o) → (∀ b, b ≠ x → H b ≠ none → B b = none → B' b = none) → R B' (F a) (.ref x) → Q .non H'
theorem scCI : FnScope ["self", "lanes", "told", "goal"] ["self", "lanes"] (defScope (inClass (topS 27) 0)) := ⟨rfl, rfl, rfl, by decide +kernel, rfl, by decide +kernel, by decide +kernel⟩
theorem fn_initC (E : Tops K mg cC cW) {g : Addr} {fd : FuncData} (F : Fun K "__init__" "Country.__init__" (inClass (topS 27) 0) g fd) : FnOk P w K mg base CX0 5 g fd ["self", "lanes"] (SpMk cC (fun ls : List Lane => ctyOk ls = true) (mkCty cC)) :=
  fm_mk (N := ["self", "lanes", "told", "goal"]) F scCI (fun vs H Q _ ⟨_, _, _, _, _, e, _⟩ => by rw [e]; rfl) fun f cd A ou s H vs Q EX hr ⟨B, x, dx, ls, v, e, sb, ra, hbx, hx, hok, q⟩ => by
    subst e
    unfold ctyOk at hok
    simp only [Bool.and_eq_true] at hok
    obtain ⟨⟨⟨hl, ht⟩, hrow⟩, hah⟩ := hok
    have hll : (cLanes ls).length = ls.length := by unfold cLanes lsort; rw [(isort_perm lle _).length_eq, List.length_map]
    have htl : (cTies ls).length = ls.length + 1 := by unfold cTies; rw [tiesOf_len, hll]
    have h28 : ls.length ≤ 28 := by
      unfold lanesOk at hl
      simp only [Bool.and_eq_true, decide_eq_true_eq] at hl
      exact hl.1.1.1.1.1.1
    have hr2 : ∀ r ∈ cTies ls, r.length ≤ 100 ∧ ∀ p ∈ r, p < (cTies ls).length := fun r hr => by
      have h := List.all_eq_true.mp hrow r hr
      simp only [Bool.and_eq_true, decide_eq_true_eq] at h
      exact ⟨by omega, fun p hp => by simpa using List.all_eq_true.mp h.2 p hp⟩
    -- told = lanes_in(lanes)
    refine rb_set 2 (B := B) (x := cLanes ls) (ev_call1 (fk_lanes_in E) (hr.mono (by decide)) (eva1 (ev_var (x := ls) 1 rfl ra)) hl) sb (fun vl B1 H1 hl1 n1 rl => ?_) scCI.nd
    refine rb_no (B := B1) (EvT.to (Cm.et (cm_isN (x' := some (cLanes ls)) (ev_some (ev_var 2 rfl rl)) nn_list)) rfl) n1.bh fun H2 s2 => ?_
    have hHx : ∀ {H'}, Same H H' → H' x ≠ none := fun {H'} s => by rw [s x _ hx]; intro z; cases z
    have b1x : B1 x = none := n1.hid x (by rw [hx]; intro z; cases z) hbx
    -- self.own_lanes = told
    refine rb_fld 0 (B := B1) (x := cLanes ls) (ev_var 2 rfl rl) (n1.bh.trans s2) rfl (s2 x _ (n1.hh x _ hx)) E.cty.own.cl E.cty.n1 (by decide) fun v3 B3 H3 n3 r3 => ?_
    have b3x : B3 x = none := n3.hid x (by rw [s2 x _ (n1.hh x _ hx)]; intro z; cases z) b1x
    have s3 : Same B3 (upd H3 x (.ins cC dx (putF "own_lanes" v3 []))) := same_upd2 n3.bh b3x
    -- self.own_ties = ties_of(told)
    refine rb_fld 0 (B := B3) (x := tiesOf (cLanes ls)) (ev_call1 (fk_ties_of E) (hr.mono (by decide)) (eva1 (ev_var (x := cLanes ls) 2 rfl (Rp.mono n3.bb rl))) ⟨by omega, ht⟩) s3 rfl upd_same E.cty.own.cl E.cty.n2 (show 1 < 1000 by decide) fun v4 B4 H4 n4 r4 => ?_
    have r4 : R B4 (cTies ls) v4 := r4
    have b4x : B4 x = none := n4.hid x (by rw [upd_same]; intro z; cases z) b3x
    -- self.own_ahead = [..]
    have hHx4 : (upd H4 x (.ins cC dx (putF "own_ties" v4 (putF "own_lanes" v3 [])))) x = some (.ins cC dx [("own_lanes", v3), ("own_ties", v4)]) := upd_same
    have s4 : Same B4 (upd H4 x (.ins cC dx (putF "own_ties" v4 (putF "own_lanes" v3 [])))) := same_upd2 n4.bh b4x
    generalize hH5 : upd H4 x (.ins cC dx (putF "own_ties" v4 (putF "own_lanes" v3 []))) = H5 at hHx4 s4
    have sBt : Same B4 (upd B4 x (.ins cC dx [("own_lanes", v3), ("own_ties", v4)])) := same_new b4x
    refine rb_fld 0 (B := upd B4 x (.ins cC dx [("own_lanes", v3), ("own_ties", v4)])) (x := cAhead ls)
      (Ev.to (EvF.ev (evf_lc (p := fun _ => true) (g := fun g => aheadOf (cTies ls) g) [("goal", 3)] (ei_range1 (ev_add (ev_len (ev_var (x := cLanes ls) 2 rfl (Rp.mono (n3.bb.trans (n4.bb.trans sBt)) rl)) E.bt.len) (ev_nat 1)) (by omega) E.bt.range)
        (turnN 3 (fun u => rfl) (fun B6 g vg s6 hm r s H0 C cl fp => ⟨ets_nil, fun _ => ev_call2 (x := cTies ls) (y := g) (fk_ahead_of E) (hr.mono (by decide)) (eva2 (ev_fldRaw 0 rfl (s6 x _ upd_same) E.cty.own.cl E.cty.n2 (by rfl) (Rp.mono (sBt.trans s6) r4)) (ev_var 3 rfl r))
          (by
            have hg : g < ls.length + 1 := by rw [hll] at hm; exact List.mem_range.mp hm
            exact ⟨by simpa using List.all_eq_true.mp hah g (List.mem_range.mpr hg), by omega, by omega, hr2⟩)⟩) scCI.nd) scCI.nd)) (by rw [filt_true, hll]; rfl))
      (same_tell s4 hHx4) rfl hHx4 E.cty.own.cl E.cty.n3 (show 2 < 1000 by decide) fun v6 B6 H6 n6 r6 => ?_
    have b6x : B6 x = some (.ins cC dx [("own_lanes", v3), ("own_ties", v4)]) := n6.bb x _ upd_same
    have d4 : Same B4 (del B6 x) := fun b o e => by
      have nb : b ≠ x := fun z => by rw [z, b4x] at e; cases e
      rw [del_ne nb]
      exact n6.bb b o (sBt b o e)
    have dn : Same (del B6 x) (upd (del B6 x) x (.ins cC dx [("own_lanes", v3), ("own_ties", v4), ("own_ahead", v6)])) := same_new del_self
    refine rb_nil (q (upd (del B6 x) x (.ins cC dx [("own_lanes", v3), ("own_ties", v4), ("own_ahead", v6)])) _ ?_ ?_ (fun b o nb e => ?_) (fun b nb h1 h2 => ?_) ?_)
    · exact n1.bb.trans (n3.bb.trans (n4.bb.trans (d4.trans dn)))
    · intro b o e
      show (upd H6 x (.ins cC dx [("own_lanes", v3), ("own_ties", v4), ("own_ahead", v6)])) b = some o
      by_cases hb : b = x
      · subst hb; rw [upd_same] at e ⊢; exact e
      · rw [upd_ne hb, del_ne hb] at e
        rw [upd_ne hb]
        exact n6.bh b o e
    · rw [upd_ne nb]
      refine n6.hh b o ?_
      rw [← hH5, upd_ne nb]
      refine n4.hh b o ?_
      rw [upd_ne nb]
      exact n3.hh b o (s2 b o (n1.hh b o e))
    · rw [upd_ne nb, del_ne nb]
      have k1 := n1.hid b h1 h2
      have k2 : H2 b ≠ none := by
        cases q : H b with
        | none => exact absurd q h1
        | some o => rw [s2 b o (n1.hh b o q)]; intro z; cases z
      have k3 := n3.hid b k2 k1
      have k4 : (upd H3 x (.ins cC dx (putF "own_lanes" v3 []))) b ≠ none := by
        rw [upd_ne nb]
        cases q : H2 b with
        | none => exact absurd q k2
        | some o => rw [n3.hh b o q]; intro z; cases z
      have k5 := n4.hid b k4 k3
      refine n6.hid b ?_ (by rw [upd_ne nb]; exact k5)
      rw [← hH5, upd_ne nb]
      cases q : (upd H3 x (.ins cC dx (putF "own_lanes" v3 []))) b with
      | none => exact absurd q k4
      | some o => rw [n4.hh b o q]; intro z; cases z
    · exact ⟨x, dx, v3, v4, v6, rfl, upd_same, Rp.mono (n4.bb.trans (d4.trans dn)) r3, Rp.mono (d4.trans dn) r4, Rp.mono dn (R_delNN b6x r6)⟩
/-- Country(lanes) -/
theorem ev_mkC {X : Cx} {e : Expr} {es : List Expr} {σ : L2.St} {B : Hp} {ls : List Lane} {pos p : Pos} (E : Tops X.K X.mg cC cW) (hr : Room 6 X.A) (h : EvA X (e :: es) σ B [⟨ls⟩]) (hok : ctyOk ls = true) (hg : Gl X "Country" := by rfl) (he : NS X e es := by rfl) (hpl : (backTo pos (starEach es X.env)).any (·.1) = false := by rfl) :
    Ev X (.Call (.Name "Country" p) (e :: es) [] pos) σ B (mkCty cC ls) := fun H s Q q => by
  obtain ⟨f, fd, M, F, hb⟩ := E.mkC
  refine rd_mkL (pe_make (dvs := []) (ds := []) M (fn_initC (P := X.prog) (w := X.w) (base := X.base) E F) hr hg E.cty.mgC hb .nil pass0 pa_rd (by decide) he hpl) (h H s _ fun vs B1 H1 _ n1 r => ?_)
  cases r with
  | @cons d1 v1 ds1 vs1 r1 t => cases t with
    | nil =>
      intro x dx nx ndx nex
      refine ⟨B1, x, dx, ls, v1, rfl, ?_, r1, n1.bh.free nx, upd_same, hok, fun B' H' s1 s2 s3 s4 r => ⟨rfl, fun hl => ?_⟩⟩
      · exact (n1.bh.trans (same_new ndx)).trans (same_new (by rw [upd_ne nex.symm]; exact nx))
      · have keep : ∀ b o, H1 b = some o → b ≠ x ∧ (upd (upd H1 dx (.own x)) x (.ins cC dx [])) b = some o := fun b o e => by
          have nb : b ≠ x := fun z => by rw [z, nx] at e; cases e
          have nd : b ≠ dx := fun z => by rw [z, ndx] at e; cases e
          exact ⟨nb, by rw [upd_ne nb, upd_ne nd]; exact e⟩
        refine q _ B' H' hl (n1.trans ⟨s1, s2, fun b o e => s3 b o (keep b o e).1 (keep b o e).2, fun b h1 h2 => ?_⟩) r
        cases q0 : H1 b with
        | none => exact absurd q0 h1
        | some o => exact s4 b (keep b o q0).1 (by rw [(keep b o q0).2]; intro z; cases z) h2
end
end LK
/-! ## F11 -/
namespace LK
open PySem PySem.Spec PyProof.Rows L2
open Rp (R)
theorem eqv_pair (a b c d : Nat) : PyData.eqv (Dd.enc (a, b)) (Dd.enc (c, d)) = decide ((a, b) = (c, d)) := by
  show PyData.eqv (.tuple [.int (a : Int), .int (b : Int)]) (.tuple [.int (c : Int), .int (d : Int)]) = _
  simp only [PyData.eqv, PyData.eqvAll, Bool.and_true]
  rw [Bool.eq_iff_iff, decide_eq_true_iff]
  simp only [Bool.and_eq_true, beq_iff_eq, Prod.mk.injEq]
  omega
theorem eqv_opt (a b : Option Nat) : PyData.eqv (Dd.enc a) (Dd.enc b) = decide (a = b) := by
  cases a <;> cases b
  · rfl
  · rfl
  · rfl
  · rename_i m n
    show PyData.eqv (.int (m : Int)) (.int (n : Int)) = _
    simp only [PyData.eqv]
    rw [Bool.eq_iff_iff, decide_eq_true_iff]
    simp only [beq_iff_eq, Option.some.injEq]
    omega
section
variable {P : Program} {w : World} {K : PySem.W.Frag} {mg : Str → Option Value} {base : Heap} {cC cW : Addr}
theorem sc42 : FnScope ["load", "origin", "target", "found", "many", "one"] ["load", "origin", "target"] (defScope (topS 42)) := ⟨rfl, rfl, rfl, by decide +kernel, rfl, by decide +kernel, by decide +kernel⟩
def plusCart (l : Load) (o t : Nat) : Load := srt (plusRaw l o t)
theorem fk_plus_cart (E : Tops K mg cC cW) : Fk P w K mg base "plus_cart" 1 ["load", "origin", "target"] (Sp3 (fun (l : Load) (o t : Nat) => l.length ≤ 1000) plusCart) :=
  fk3 (N := ["load", "origin", "target", "found", "many", "one"]) E.d42 sc42 fun f cd A ou s H EX v1 v2 v3 B l o t Q hr sb r1 r2 r3 hz q =>
    rb_par 3 4 (rdA_FE (xs := ([] : Load)) (y := 1) ev_lst0 (ev_nat 1) sb fun q0 ws vn B1 H1 hl n1 h0 hb hq lr rn => ⟨_, _, rfl, by
      cases (show vn = _ from rn)
      obtain rfl : ws = [] := List.eq_nil_of_length_eq_zero lr.1
      refine rb_for (ei_list (ev_var 0 rfl (Rp.mono n1.bb r1))) n1.bh PassesOwn.never rfl fun B2 H2 hl2 n2 _ => ?_
      refine ⟨fun i σ' Bi Hi => ∃ y5 ws, σ' = [some v1, some v2, some v3, some (.ref q0), some (.int (((l.take i).foldl (fun n r => if isPair o t r then n + r.c else n) 1 : Nat) : Int)), y5] ∧ Nw B H Bi Hi ∧ Same B2 Bi ∧ Bi q0 = none ∧ Hi q0 = some (.lst ws) ∧ LR Bi ((l.take i).filter fun r => !isPair o t r) ws,
        ⟨none, [], rfl, n1.trans n2, Same.refl _, n2.hid q0 (by rw [hq]; intro z; cases z) hb, n2.hh q0 _ hq, LR.nil⟩, fun i σ' Bi Hi ⟨_, _, _, N, s2, _⟩ => ⟨s2, N.bh⟩, ?_, ?_⟩
      · rintro i a va σ' Bi Hi B4 H4 ha ⟨y5, ws, rfl, N, sB, hbi, hqi, lri⟩ n4 r4
        have hb4 : B4 q0 = none := n4.hid q0 (by rw [hqi]; intro z; cases z) hbi
        have hq4 := n4.hh q0 _ hqi
        have o4 : R B4 o v2 := Rp.mono ((n1.bb.trans n2.bb).trans (sB.trans n4.bb)) r2
        have t4 : R B4 t v3 := Rp.mono ((n1.bb.trans n2.bb).trans (sB.trans n4.bb)) r3
        refine rg_name 5 (rb_if (isPair o t a) (EvT.to (Cm.et (cm_eqD (x := (a.a, a.b)) (y := (o, t)) (ev_slT2 (u := a) (ev_var 5 rfl r4)) (ev_tup2 (eva2 (ev_var 1 rfl o4) (ev_var 2 rfl t4))) hr.units)) (eqv_pair _ _ _ _)) n4.bh (fun ht H5 s5 => ?_) fun ht H5 s5 => ?_) sc42.nd
        · -- many = many + one[2]
          refine rb_set 4 (B := B4) (x := (l.take i).foldl (fun n r => if isPair o t r then n + r.c else n) 1 + a.c) (ev_add (ev_var 4 rfl rfl) (ev_t2 (u := a) (ev_var 5 rfl r4))) (n4.bh.trans s5) (fun v6 B6 H6 hl6 n6 r6 => ?_) sc42.nd
          cases (show v6 = _ from r6)
          refine rb_nil (rb_nil ⟨B6, some va, ws, ?_, (N.trans n4).trans ((Nw.grow n4.bh s5).trans n6), sB.trans (n4.bb.trans n6.bb), n6.hid q0 (by rw [s5 q0 _ hq4]; intro z; cases z) hb4, n6.hh q0 _ (s5 q0 _ hq4), ?_⟩)
          · rw [take_snoc ha, List.foldl_append, List.foldl_cons, List.foldl_nil, if_pos ht]; rfl
          · rw [take_snoc ha, List.filter_append, List.filter_cons_of_neg (by rw [ht]; decide), List.filter_nil, List.append_nil]
            exact lri.mono (n4.bb.trans n6.bb)
        · -- found.append(one)
          refine rb_append 3 (B := B4) (x := a) (ev_var 5 rfl r4) (n4.bh.trans s5) rfl (s5 q0 _ hq4) ?_ fun v6 B6 H6 n6 r6 => ?_
          · rw [lri.1]
            have h1 := List.length_filter_le (fun r => !isPair o t r) (l.take i)
            have h2 : (l.take i).length ≤ l.length := by rw [List.length_take]; exact Nat.min_le_right _ _
            exact Nat.lt_of_le_of_lt (Nat.le_trans h1 (Nat.le_trans h2 hz)) (by decide)
          have hb6 : B6 q0 = none := n6.hid q0 (by rw [s5 q0 _ hq4]; intro z; cases z) hb4
          refine rb_nil (rb_nil ⟨B6, some va, _, ?_, ((N.trans n4).trans ((Nw.grow n4.bh s5).trans n6)).mut h0 hb6, sB.trans (n4.bb.trans n6.bb), hb6, upd_same, ?_⟩)
          · rw [take_snoc ha, List.foldl_append, List.foldl_cons, List.foldl_nil, if_neg (by rw [ht]; decide)]; rfl
          · rw [take_snoc ha, List.filter_append, List.filter_cons_of_pos (by rw [ht]; rfl), List.filter_nil]
            exact (lri.mono (n4.bb.trans n6.bb)).snoc r6
      · rintro σ' Bi Hi ⟨y5, ws, rfl, N, sB, hbi, hqi, lri⟩
        rw [take_all] at lri ⊢
        have N2 := N.tell h0 hbi hqi
        have sT : Same Bi (upd Bi q0 (.lst ws)) := same_new hbi
        refine rb_ret (B := upd Bi q0 (.lst ws)) (EvF.ev (evf_sorted (xs := plusRaw l o t) (EvF.ev (evf_cat (xs := l.filter fun r => !isPair o t r) (ys := [⟨o, t, _⟩]) (ev_var 3 rfl (R_tell hbi lri)) (EvF.ev (ev_lst (xs := [T3.mk o t _]) (eva1 (ev_tup3 (eva3 (ev_var 1 rfl (Rp.mono N2.bb r2)) (ev_var 2 rfl (Rp.mono N2.bb r3)) (ev_var 4 rfl rfl)))))) ?_)) hr.units E.bt.sorted)) N2.bh fun v' B' H' n r => q v' B' H' (N2.trans n) r
        have h1 := List.length_filter_le (fun r => !isPair o t r) l
        rw [List.length_singleton]; omega⟩) sc42.nd
theorem sc43 : FnScope ["near", "value"] ["near", "value"] (defScope (topS 43)) := ⟨rfl, rfl, rfl, by decide +kernel, rfl, by decide +kernel, by decide +kernel⟩
theorem fk_is_end_for (E : Tops K mg cC cW) : Fk P w K mg base "is_end_for" 3 ["near", "value"] (Sp2 (fun (n : List Nat) (x : Option Nat) => True) endOk) :=
  fk2 (N := ["near", "value"]) E.d43 sc43 fun f cd A ou s H EX v1 v2 B near x Q hr sb r1 r2 _ q => by
    cases x with
    | none => exact rb_ret (Ev.to (ev_or2 (u := true) (Cm.ev (cm_isN (x' := (none : Option Nat)) (ev_var 1 rfl r2) nn_nat)) (fun h => by cases h)) rfl) sb q
    | some k =>
      have rk : R B k v2 := r2
      exact rb_ret (Ev.to (ev_or2 (Cm.ev (cm_isN (x' := some k) (ev_var 1 rfl r2) nn_nat)) fun _ => ev_and2 (ev_call1 (x := k) (fk_is_count E) (hr.mono (by decide)) (eva1 (ev_var 1 rfl rk)) trivial) fun _ => Cm.ev (cm_in (x := k) (xs := near) (ev_var 1 rfl rk) (ev_var 0 rfl r1))) (by rw [Option.isNone_some, Bool.false_or, Bool.true_and]; rfl)) sb q
theorem sc44 : FnScope ["near", "value"] ["near", "value"] (defScope (topS 44)) := ⟨rfl, rfl, rfl, by decide +kernel, rfl, by decide +kernel, by decide +kernel⟩
theorem fk_is_bound_for (E : Tops K mg cC cW) : Fk P w K mg base "is_bound_for" 4 ["near", "value"] (Sp2 (fun (n : List Nat) (x : Bnd) => True) bndOk) :=
  fk2 (N := ["near", "value"]) E.d44 sc44 fun f cd A ou s H EX v1 v2 B near x Q hr sb r1 r2 _ q => by
    refine rb_if (decide (6 < x.c)) (EvT.to (et_w (ew_or (et_not (et_val (ev_isi true (ev_var 1 rfl r2) E.bt.isinstance E.bt.tuple boot_tuple))) fun _ => ew_or (Cm.et (cm_ne (ev_lenT (ev_var 1 rfl r2) E.bt.len) (ev_nat 3))) fun _ =>
      ew_or (et_not (et_val (ev_call1 (x := x.c) (fk_is_count E) (hr.mono (by decide)) (eva1 (ev_t2 (u := x) (ev_var 1 rfl r2))) trivial))) fun _ => ew_or1 (Cm.et (cm_gt (ev_t2 (u := x) (ev_var 1 rfl r2)) (ev_kn E.k38))))) (by simp)) sb (fun ht H1 s1 => ?_) fun ht H1 s1 => ?_
    · refine rb_ret (B := B) (x := false) ev_bl (sb.trans s1) fun v' B' H' n r => q v' B' H' ((Nw.grow sb s1).trans n) ?_
      have : bndOk near x = false := by
        unfold bndOk
        rw [decide_eq_false (show ¬ x.c ≤ 6 by have := of_decide_eq_true ht; omega)]
        simp
      rw [this]; exact r
    · refine rb_nil (rb_ret (B := B) (Ev.to (ev_and (ev_call2 (x := near) (y := x.a) (fk_is_end_for E) (hr.mono (by decide)) (eva2 (ev_var 0 rfl r1) (ev_t0 (u := x) (ev_var 1 rfl r2))) trivial) fun _ => ev_and (ev_call2 (x := near) (y := x.b) (fk_is_end_for E) (hr.mono (by decide)) (eva2 (ev_var 0 rfl r1) (ev_t1 (u := x) (ev_var 1 rfl r2))) trivial) fun _ =>
        ev_and1 (Cm.ev (cm_neD (x := x.a) (y := x.b) (ev_t0 (u := x) (ev_var 1 rfl r2)) (ev_t1 (u := x) (ev_var 1 rfl r2)) hr.units))) ?_) (sb.trans s1) fun v' B' H' n r => q v' B' H' ((Nw.grow sb s1).trans n) r)
      unfold bndOk
      rw [decide_eq_true (show x.c ≤ 6 by have := of_decide_eq_false ht; omega), eqv_opt, Bool.true_and, Bool.and_assoc]
      simp
end
end LK
/-! ## F12 -/
namespace LK
open PySem PySem.Spec PyProof.Rows L2
open Rp (R)
section
variable {P : Program} {w : World} {K : PySem.W.Frag} {mg : Str → Option Value} {base : Heap} {cC cW : Addr}
theorem sc45 : FnScope ["near", "value", "bounds", "one"] ["near", "value"] (defScope (topS 45)) := ⟨rfl, rfl, rfl, by decide +kernel, rfl, by decide +kernel, by decide +kernel⟩
theorem fk_alternative_in (E : Tops K mg cC cW) : Fk P w K mg base "alternative_in" 5 ["near", "value"] (Sp2 (fun (n : List Nat) (x : Alt) => altOk n x = true) fun _ x => x) :=
  fk2 (N := ["near", "value", "bounds", "one"]) E.d45 sc45 fun f cd A ou s H EX v1 v2 B near x Q hr sb r1 r2 hok q => by
    unfold altOk at hok
    simp only [Bool.and_eq_true, decide_eq_true_eq] at hok
    obtain ⟨⟨⟨h1, h6⟩, hb6⟩, hall⟩ := hok
    refine rb_no (EvT.to (et_w (ew_or (et_not (et_val (ev_isi true (ev_var 1 rfl r2) E.bt.isinstance E.bt.tuple boot_tuple))) fun _ => ew_or (Cm.et (cm_ne (ev_lenP (ev_var 1 rfl r2) E.bt.len) (ev_nat 2))) fun _ =>
      ew_or (et_not (et_val (ev_call1 (x := x.1) (fk_is_count E) (hr.mono (by decide)) (eva1 (ev_fst (u := x) (ev_var 1 rfl r2))) trivial))) fun _ => ew_or1 (et_not (et_chainLe (ev_nat 1) (ev_fst (u := x) (ev_var 1 rfl r2)) (ev_kn E.k38))))) (by simp [h1, h6])) sb fun H1 s1 => ?_
    refine rb_set 2 (B := B) (x := x.2) (ev_snd (u := x) (ev_var 1 rfl r2)) (sb.trans s1) (fun vb B2 H2 hl2 n2 rb => ?_) sc45.nd
    have r12 := Rp.mono n2.bb r1
    have r22 := Rp.mono n2.bb r2
    refine rb_no (EvT.to (et_w (ew_or (et_not (et_val (ev_isSeq (fk_is_list E) (hr.mono (by decide)) (eva1 (ev_var (x := x.2) 2 rfl rb))))) fun _ => ew_or (Cm.et (cm_gt (ev_len (ev_var (x := x.2) 2 rfl rb) E.bt.len) (ev_kn E.k39))) fun _ =>
      ew_or1 (et_not (et_val (ev_all (EvF.ev (evf_lc (p := fun _ => true) (g := fun b => bndOk near b) [("one", 3)] (ei_list (ev_var (x := x.2) 2 rfl rb)) (turnN 3 (fun u => rfl) (fun B3 b vl s3 hm r s H0 C cl fp => ⟨ets_nil, fun _ => ev_call2 (x := near) (y := b) (fk_is_bound_for E) (hr.mono (by decide)) (eva2 (ev_var 0 rfl (Rp.mono s3 r12)) (ev_var 3 rfl r)) trivial⟩) sc45.nd) sc45.nd)) E.bt.all)))))
      (by
        rw [filt_true]
        simp only [Bool.not_true, Bool.false_or, List.all_map, Bool.or_eq_false_iff, decide_eq_false_iff_not, Bool.not_eq_false']
        exact ⟨by omega, hall⟩)) n2.bh fun H3 s3 => ?_
    exact rb_ret (ev_tup2 (eva2 (ev_fst (u := x) (ev_var 1 rfl r22)) (EvF.ev (evf_list (ev_var (x := x.2) 2 rfl rb) E.bt.list)))) (n2.bh.trans s3) fun v' B' H' n r => q v' B' H' (((Nw.grow sb s1).trans n2).trans ((Nw.grow n2.bh s3).trans n)) r
theorem sc46 : FnScope ["bound", "load", "origin", "target", "most", "many", "start", "end", "some"] ["bound", "load"] (defScope (topS 46)) := ⟨rfl, rfl, rfl, by decide +kernel, rfl, by decide +kernel, by decide +kernel⟩
theorem fk_keeps (E : Tops K mg cC cW) : Fk P w K mg base "keeps" 1 ["bound", "load"] (Sp2 (fun (b : Bnd) (l : Load) => True) keeps) :=
  fk2 (N := ["bound", "load", "origin", "target", "most", "many", "start", "end", "some"]) E.d46 sc46 fun f cd A ou s H EX v1 v2 B b l Q hr sb r1 r2 _ q =>
    rb_unpack3 2 3 4 (ev_var (x := b) 0 rfl r1) sb (fun vo vt vm B1 H1 hl1 n1 ro rt rm =>
      rb_set 5 (ev_nat 0) n1.bh (fun vn B2 H2 hl2 n2 rn => by
        cases (show vn = _ from rn)
        refine rb_for (ei_list (ev_var 1 rfl (Rp.mono (n1.bb.trans n2.bb) r2))) n2.bh PassesOwn.never rfl fun B3 H3 hl3 n3 _ => ?_
        refine ⟨fun i σ' Bi Hi => ∃ y6 y7 y8, σ' = [some v1, some v2, some vo, some vt, some vm, some (.int (((l.take i).foldl (fun n r => if hits b.a b.b r then n + r.c else n) 0 : Nat) : Int)), y6, y7, y8] ∧ Nw B H Bi Hi ∧ Same B3 Bi,
          ⟨none, none, none, rfl, n1.trans (n2.trans n3), Same.refl _⟩, fun i σ' Bi Hi ⟨_, _, _, _, N, s2⟩ => ⟨s2, N.bh⟩, ?_, ?_⟩
        · rintro i a va σ' Bi Hi B4 H4 ha ⟨y6, y7, y8, rfl, N, sB⟩ n4 r4
          have s14 : Same B1 B4 := n2.bb.trans (n3.bb.trans (sB.trans n4.bb))
          refine rg_tri 6 7 8 r4 n4.bh (fun vs ve vc rs re rc => ?_) sc46.nd
          refine rb_if (hits b.a b.b a) (EvT.to (et_and2 (Cm.et (cm_inP (x := b.a) (y := none) (z := some a.a) (ev_var 2 rfl (Rp.mono s14 ro)) (ev_tup2 (eva2 ev_non (ev_some (ev_var 6 rfl rs)))))) fun _ => Cm.et (cm_inP (x := b.b) (y := none) (z := some a.b) (ev_var 3 rfl (Rp.mono s14 rt)) (ev_tup2 (eva2 ev_non (ev_some (ev_var 7 rfl re)))))) (by unfold hits; congr 1 <;> exact decide_eq_decide.mpr Iff.rfl)) n4.bh (fun ht H5 s5 => ?_) fun ht H5 s5 => ?_
          · refine rb_set 5 (B := B4) (x := (l.take i).foldl (fun n r => if hits b.a b.b r then n + r.c else n) 0 + a.c) (ev_add (ev_var 5 rfl rfl) (ev_var 8 rfl rc)) (n4.bh.trans s5) (fun v6 B6 H6 hl6 n6 r6 => ?_) sc46.nd
            cases (show v6 = _ from r6)
            refine rb_nil (rb_nil ⟨B6, some vs, some ve, some vc, ?_, (N.trans n4).trans ((Nw.grow n4.bh s5).trans n6), sB.trans (n4.bb.trans n6.bb)⟩)
            rw [take_snoc ha, List.foldl_append, List.foldl_cons, List.foldl_nil, if_pos ht]; rfl
          · refine rb_nil (rb_nil ⟨B4, some vs, some ve, some vc, ?_, (N.trans n4).trans (Nw.grow n4.bh s5), sB.trans n4.bb⟩)
            rw [take_snoc ha, List.foldl_append, List.foldl_cons, List.foldl_nil, if_neg (by rw [ht]; decide)]; rfl
        · rintro σ' Bi Hi ⟨y6, y7, y8, rfl, N, sB⟩
          rw [take_all]
          exact rb_ret (B := Bi) (Cm.ev (cm_le (m := manyOf b.a b.b l) (ev_var 5 rfl rfl) (ev_var 4 rfl (Rp.mono (n2.bb.trans (n3.bb.trans sB)) rm)))) N.bh fun v' B' H' n r => q v' B' H' (N.trans n) r) sc46.nd) sc46.nd
theorem sc47 : FnScope ["alternative", "load", "places", "bounds", "start", "end", "some", "bound"] ["alternative", "load"] (defScope (topS 47)) := ⟨rfl, rfl, rfl, by decide +kernel, rfl, by decide +kernel, by decide +kernel⟩
theorem fk_stands_by_one (E : Tops K mg cC cW) : Fk P w K mg base "stands_by_one" 2 ["alternative", "load"] (Sp2 (fun (x : Alt) (l : Load) => True) standsOne) :=
  fk2 (N := ["alternative", "load", "places", "bounds", "start", "end", "some", "bound"]) E.d47 sc47 fun f cd A ou s H EX v1 v2 B x l Q hr sb r1 r2 _ q =>
    rb_unpack 2 3 (ev_var (x := x) 0 rfl r1) sb (fun vp vb B1 H1 hl1 n1 rp rb => by
      have r21 := Rp.mono n1.bb r2
      refine rb_if (decide (x.1 < weight l)) (EvT.to (Cm.et (cm_gt (ev_sum (EvF.ev (evf_lc (p := fun _ => true) (g := fun r : T3 Nat Nat Nat => r.c) [("start", 4), ("end", 5), ("some", 6)] (ei_list (ev_var (x := l) 1 rfl r21)) (turnT 4 5 6 (fun u w z => rfl) (fun B3 a va vb vc s3 hm ra rb rc s H0 C cl fp => ⟨ets_nil, fun _ => ev_var 6 rfl rc⟩) sc47.nd) sc47.nd)) E.bt.sum) (ev_var 2 rfl rp))) (by rw [filt_true]; rfl)) n1.bh (fun ht H2 s2 => ?_) fun ht H2 s2 => ?_
      · refine rb_ret (B := B1) (x := false) ev_bl (n1.bh.trans s2) fun v' B' H' n r => q v' B' H' (n1.trans ((Nw.grow n1.bh s2).trans n)) ?_
        have : standsOne x l = false := by unfold standsOne; rw [ht]; rfl
        rw [this]; exact r
      · refine rb_nil (rb_ret (B := B1) (Ev.to (ev_all (EvF.ev (evf_lc (p := fun _ => true) (g := fun b => keeps b l) [("bound", 7)] (ei_list (ev_var (x := x.2) 3 rfl rb)) (turnN 7 (fun u => rfl) (fun B3 b vl s3 hm r s H0 C cl fp => ⟨ets_nil, fun _ => ev_call2 (x := b) (y := l) (fk_keeps E) (hr.mono (by decide)) (eva2 (ev_var 7 rfl r) (ev_var 1 rfl (Rp.mono s3 r21))) trivial⟩) sc47.nd) sc47.nd)) E.bt.all) ?_) (n1.bh.trans s2) fun v' B' H' n r => q v' B' H' (n1.trans ((Nw.grow n1.bh s2).trans n)) r)
        rw [filt_true]; unfold standsOne; rw [ht]; rfl) sc47.nd
theorem sc48 : FnScope ["book", "load", "alternative"] ["book", "load"] (defScope (topS 48)) := ⟨rfl, rfl, rfl, by decide +kernel, rfl, by decide +kernel, by decide +kernel⟩
theorem fk_stands_by (E : Tops K mg cC cW) : Fk P w K mg base "stands_by" 3 ["book", "load"] (Sp2 (fun (b : Book) (l : Load) => True) standsBy) :=
  fk2 (N := ["book", "load", "alternative"]) E.d48 sc48 fun f cd A ou s H EX v1 v2 B b l Q hr sb r1 r2 _ q => by
    refine rb_for (ei_list (ev_var (x := b) 0 rfl r1)) sb PassesOwn.never rfl fun B1 H1 hl1 n1 _ => ?_
    refine ⟨fun i σ' Bi Hi => ∃ y, σ' = [some v1, some v2, y] ∧ Nw B H Bi Hi ∧ Same B1 Bi ∧ ((b.take i).any fun x => standsOne x l) = false, ⟨none, rfl, n1, Same.refl _, rfl⟩, fun i σ' Bi Hi ⟨_, _, N, s2, _⟩ => ⟨s2, N.bh⟩, ?_, ?_⟩
    · rintro i a va σ' Bi Hi B4 H4 ha ⟨y, rfl, N, sB, hno⟩ n4 r4
      refine rg_name 2 (rb_if (standsOne a l) (et_val (ev_call2 (x := a) (y := l) (fk_stands_by_one E) (hr.mono (by decide)) (eva2 (ev_var 2 rfl r4) (ev_var 1 rfl (Rp.mono (n1.bb.trans (sB.trans n4.bb)) r2))) trivial)) n4.bh (fun ht H5 s5 => ?_) fun ht H5 s5 => ?_) sc48.nd
      · refine rb_ret (B := B4) (x := true) ev_bl (n4.bh.trans s5) fun v' B' H' n r => q v' B' H' (N.trans (n4.trans ((Nw.grow n4.bh s5).trans n))) ?_
        have : standsBy b l = true := List.any_eq_true.mpr ⟨a, List.mem_of_getElem? ha, ht⟩
        rw [this]; exact r
      · refine rb_nil (rb_nil ⟨B4, _, rfl, N.trans (n4.trans (Nw.grow n4.bh s5)), sB.trans n4.bb, ?_⟩)
        rw [take_snoc ha, List.any_append, hno, List.any_cons, ht]; rfl
    · rintro σ' Bi Hi ⟨y, rfl, N, sB, hno⟩
      rw [take_all] at hno
      refine rb_ret (B := Bi) (x := false) ev_bl N.bh fun v' B' H' n r => q v' B' H' (N.trans n) ?_
      have : standsBy b l = false := hno
      rw [this]; exact r
theorem R_someA {B : Hp} {xs : List Alt} {v : V} (r : R B xs v) : R B (xs.map some) v := by
  obtain ⟨p, vs, e, h, l⟩ := r
  refine ⟨p, vs, e, h, by rw [List.length_map]; exact l.1, fun i a ha => ?_⟩
  rw [List.getElem?_map] at ha
  cases q : xs[i]? with
  | none => rw [q] at ha; cases ha
  | some x =>
    rw [q] at ha
    cases ha
    exact l.2 i x q
theorem none_inA : ∀ xs : List Alt, (((xs.map some).map Dd.enc).any fun z => PyData.eqv z (Dd.enc (none : Option Alt))) = false
  | [] => rfl
  | x :: xs => by
    rw [List.map_cons, List.map_cons, List.any_cons, none_inA xs, Bool.or_false]
    rfl
theorem sc49 : FnScope ["country", "yard", "value", "near", "found", "single", "one", "origin", "target"] ["country", "yard", "value"] (defScope (topS 49)) := ⟨rfl, rfl, rfl, by decide +kernel, rfl, by decide +kernel, by decide +kernel⟩
theorem fk_book_in (E : Tops K mg cC cW) : Fk P w K mg base "book_in" 6 ["country", "yard", "value"] (Sp3 (fun (c : Cty cC) (y : Nat) (b : Book) => y < c.ties.length ∧ (rowAt c.ties y).length ≤ 100 ∧ bookOk (rowAt c.ties y) b = true) fun _ _ b => b) :=
  fk3 (N := ["country", "yard", "value", "near", "found", "single", "one", "origin", "target"]) E.d49 sc49 fun f cd A ou s H EX v1 v2 v3 B c y b Q hr sb r1 r2 r3 ⟨hy, h100, hok⟩ q => by
    unfold bookOk at hok
    simp only [Bool.and_eq_true, decide_eq_true_eq] at hok
    obtain ⟨⟨⟨h1, h4⟩, hall⟩, hsing⟩ := hok
    refine rb_no (EvT.to (et_w (ew_or (et_not (et_val (ev_isSeq (fk_is_list E) (hr.mono (by decide)) (eva1 (ev_var 2 rfl r3))))) fun _ => ew_or1 (et_not (et_chainLe (ev_nat 1) (ev_len (ev_var 2 rfl r3) E.bt.len) (ev_kn E.k40))))) (by simp [h1, h4])) sb fun H1 s1 => ?_
    refine rb_set 3 (B := B) (x := rowAt c.ties y) (ev_call2 (x := c) (y := y) (fk_beside E) (hr.mono (by decide)) (eva2 (ev_var 0 rfl r1) (ev_var 1 rfl r2)) hy) (sb.trans s1) (fun vn B2 H2 hl2 n2 rn => ?_) sc49.nd
    have r32 := Rp.mono n2.bb r3
    refine rb_set 4 (B := B2) (x := b) (Ev.to (EvF.ev (evf_lc (p := fun _ => true) (g := fun x => x) [("one", 6)] (ei_list (ev_var (x := b) 2 rfl r32)) (turnN 6 (fun u => rfl) (fun B3 a vl s3 hm r s H0 C cl fp => ⟨ets_nil, fun _ => ev_call2 (x := rowAt c.ties y) (y := a) (fk_alternative_in E) (hr.mono (by decide)) (eva2 (ev_var 3 rfl (Rp.mono s3 rn)) (ev_var 6 rfl r)) (List.all_eq_true.mp hall a hm)⟩) sc49.nd) sc49.nd)) (by rw [filt_true, List.map_id'])) n2.bh (fun vf B4 H4 hl4 n4 rf => ?_) sc49.nd
    refine rb_no (B := B4) (EvT.to (Cm.et (cm_inD (α := Option Alt) (x := none) (xs := b.map some) ev_non (ev_var 4 rfl (R_someA rf)) (by have := hr.un; omega))) (none_inA b)) n4.bh fun H5 s5 => ?_
    refine rb_setLcT 5 (p := fun _ : Nat × Nat => true) (g := fun z => standsBy b [T3.mk z.1 z.2 1]) [("origin", 7), ("target", 8)] (ei_list (ev_call2 (x := c) (y := y) (fk_pairs_at E) (hr.mono (by decide)) (eva2 (ev_var 0 rfl (Rp.mono (n2.bb.trans n4.bb) r1)) (ev_var 1 rfl (Rp.mono (n2.bb.trans n4.bb) r2))) ⟨hy, h100⟩))
      (turnP 7 8 (fun u w => rfl) (fun B3 a va vb s3 hm ra rb s H0 C cl fp => ⟨ets_nil, fun _ => ev_call2 (x := b) (y := ([T3.mk a.1 a.2 1] : Load)) (fk_stands_by E) (hr.mono (by decide)) (eva2 (ev_var 4 rfl (Rp.mono s3 rf)) (EvF.ev (ev_lst (xs := [T3.mk a.1 a.2 1]) (eva1 (ev_tup3 (eva3 (ev_var 7 rfl ra) (ev_var 8 rfl rb) (ev_nat 1))))))) trivial⟩) sc49.nd) (n4.bh.trans s5) (fun v6 B6 H6 hl6 n6 r6 => ?_) sc49.nd
    refine rb_ret (B := B6) (ev_ifExp true (EvT.to (et_val (ev_all (ev_var (x := _) 5 rfl r6) E.bt.all)) ?_) (fun _ => ev_var (x := b) 4 rfl (Rp.mono n6.bb rf)) fun h => by cases h) n6.bh fun v' B' H' n r => q v' B' H' ((((Nw.grow sb s1).trans n2).trans n4).trans (((Nw.grow n4.bh s5).trans n6).trans n)) r
    rw [filt_true, List.all_map]
    exact hsing
theorem sc50 : FnScope ["country", "yard", "value", "found"] ["country", "yard", "value"] (defScope (topS 50)) := ⟨rfl, rfl, rfl, by decide +kernel, rfl, by decide +kernel, by decide +kernel⟩
theorem fk_want_book (E : Tops K mg cC cW) : Fk P w K mg base "want_book" 7 ["country", "yard", "value"] (Sp3 (fun (c : Cty cC) (y : Nat) (b : Book) => y < c.ties.length ∧ (rowAt c.ties y).length ≤ 100 ∧ bookOk (rowAt c.ties y) b = true) fun _ _ b => b) :=
  fk3 (N := ["country", "yard", "value", "found"]) E.d50 sc50 fun f cd A ou s H EX v1 v2 v3 B c y b Q hr sb r1 r2 r3 hp q => by
    refine rb_set 3 (B := B) (x := b) (ev_call3 (x := c) (y := y) (z := b) (fk_book_in E) (hr.mono (by decide)) (eva3 (ev_var 0 rfl r1) (ev_var 1 rfl r2) (ev_var 2 rfl r3)) hp) sb (fun vf B2 H2 hl2 n2 rf => ?_) sc50.nd
    refine rb_no (B := B2) (EvT.to (Cm.et (cm_isN (x' := some b) (ev_some (ev_var 3 rfl rf)) nn_list)) rfl) n2.bh fun H3 s3 => ?_
    exact rb_ret (ev_var (x := b) 3 rfl rf) (n2.bh.trans s3) fun v' B' H' n r => q v' B' H' (n2.trans ((Nw.grow n2.bh s3).trans n)) r
end
end LK
/-! ## F13 -/
namespace LK
open PySem PySem.Spec PyProof.Rows L2
open Rp (R)
section
variable {α β γ δ : Type} [Rp α] [Rp β] [Rp γ] [Rp δ]
variable {X : Cx} {e a b c tg iter o : Expr} {es : List Expr} {σ : L2.St} {B B' H B0 H0 : Hp} {pos p p2 p3 p4 : Pos}
theorem idx_ahead : ∀ (xs : List Nat) (y m : Nat), m < xs.idxOf y → xs[m]? ≠ some y
  | [], y, m, h => by simp at h
  | x :: xs, y, 0, h => by
    intro e
    cases e
    rw [List.idxOf_cons_self] at h
    omega
  | x :: xs, y, m + 1, h => by
    intro e
    rw [List.getElem?_cons_succ] at e
    refine idx_ahead xs y m ?_ e
    rw [List.idxOf_cons] at h
    cases hxy : x == y with
    | true => rw [hxy] at h; simp at h
    | false => rw [hxy] at h; simp at h; omega
/-- xs.index(y) -/
theorem ev_index {xs : List Nat} {y : Nat} (h : Ev X o σ B xs) (h' : Ev X e σ B y) (hm : y ∈ xs) (hb : attributeBase o "index" X.env (eval o X.env) = eval o X.env := by rfl) (hfew : ((backTo p3 (starEach [e] X.env)).all (fun x => !x.1) && (backToKw p3 (keywordEach [] X.env)).all (fun x => x.1.isSome)
      && decide ([e].length + ([] : List Keyword).length + (if ([] : List Keyword).isEmpty then 0 else 1) < 30)) = true := by rfl)
    (hline : (p2.endLine == p3.line) = true := by rfl) (hs : NS X e [] := by rfl) : Ev X (.Call (.Attribute o "index" p2) [e] [] p3) σ B (xs.idxOf y) := fun H s Q q =>
  rd_mkL (pe_bm PySem.F.plainAttrs_list PySem.F.slot_list_index PySem.F.type_list_index mt_index pe_rd (pa_cons pe_rd pa_nil hs) hb hfew hline hs rfl) (h H s _ fun v B1 H1 _ n1 r1 => by
    obtain ⟨l, vs, rfl, hl, lr⟩ := r1
    refine ⟨tyL (n1.bh l _ hl), (h'.mono n1.bb) H1 n1.bh _ fun w B2 H2 _ n2 r2 => ?_⟩
    cases (show w = _ from r2)
    have e1 := lr_fl lr
    subst e1
    have hlt : xs.idxOf y < xs.length := List.idxOf_lt_length_of_mem hm
    have hget : xs[xs.idxOf y] = y := List.getElem_idxOf hlt
    refine ⟨l, _, .int (y : Int), xs.idxOf y, .int (y : Int), rfl, rfl, .inl (.inl (n2.hh l _ (n1.bh l _ hl))), rfl, fl_all xs, ?_, by simp [eqV], fun m z hmj hz => ?_, fun hl2 => q _ B2 H2 hl2 (n1.trans n2) rfl⟩
    · rw [List.getElem?_map, List.getElem?_eq_getElem hlt, hget]; rfl
    · rw [List.getElem?_map, List.getElem?_eq_getElem (Nat.lt_trans hmj hlt)] at hz
      cases hz
      cases hq : eqV (Fl.tv xs[m]) (V.int (y : Int)) with
      | false => rfl
      | true =>
        have : xs[m] = y := (Fl.inj xs[m] y).mp hq
        exact absurd (by rw [List.getElem?_eq_getElem (Nat.lt_trans hmj hlt), this]) (idx_ahead xs y m hmj))
end
/-- a web's parts -/
def mkWb {C : Addr} (W : Addr) (c : Cty C) (bs : List Book) : Wb C W := ⟨c, bs⟩
def SpMk2 {α β γ : Type} [Rp α] [Rp β] [Rp γ] (C : Addr) (pre : α → β → Prop) (F : α → β → γ) : Sp := fun vs H Q _ => ∃ (B : Hp) (x dx : Addr) (a : α) (b : β) (v w : V), vs = [.ref x, v, w] ∧ Same B H ∧ R B a v ∧ R B b w ∧ B x = none ∧ H x = some (.ins C dx []) ∧ pre a b ∧
  ∀ B' H', Same B B' → Same B' H' → (∀ b o, b ≠ x → H b = some o → H' b = some o) → (∀ b, b ≠ x → H b ≠ none → B b = none → B' b = none) → R B' (F a b) (.ref x) → Q .non H'
theorem zip_snd {α β : Type} : ∀ (xs : List α) (ys : List β), ys.length = xs.length → (xs.zip ys).map (·.2) = ys
  | [], [], _ => rfl
  | x :: xs, [], h => by cases h
  | [], y :: ys, h => by cases h
  | x :: xs, y :: ys, h => by rw [List.zip_cons_cons, List.map_cons, zip_snd xs ys (by simpa using h)]
section
variable {P : Program} {w : World} {K : PySem.W.Frag} {mg : Str → Option Value} {base : Heap} {cC cW : Addr}
theorem scWI : FnScope ["self", "country", "books", "here", "yards", "yard", "book"] ["self", "country", "books"] (defScope (inClass (topS 56) 0)) := ⟨rfl, rfl, rfl, by decide +kernel, rfl, by decide +kernel, by decide +kernel⟩
theorem fn_initW (E : Tops K mg cC cW) {g : Addr} {fd : FuncData} (F : Fun K "__init__" "Web.__init__" (inClass (topS 56) 0) g fd) : FnOk P w K mg base CX0 8 g fd ["self", "country", "books"] (SpMk2 cW (fun (c : Cty cC) (bs : List Book) => booksOk c.ties bs = true) (mkWb cW)) :=
  fm_mk (N := ["self", "country", "books", "here", "yards", "yard", "book"]) F scWI (fun vs H Q _ ⟨_, _, _, _, _, _, _, e, _⟩ => by rw [e]; rfl) fun f cd A ou s H vs Q EX hr ⟨B, x, dx, c, bs, v, w', e, sb, ra, rb, hbx, hx, hok, q⟩ => by
    subst e
    unfold booksOk at hok
    simp only [Bool.and_eq_true, decide_eq_true_eq] at hok
    obtain ⟨hlen, hall⟩ := hok
    refine rb_set 3 (B := B) (x := c) (ev_call1 (x := c) (fk_want_country E) (hr.mono (by decide)) (eva1 (ev_var 1 rfl ra)) trivial) sb (fun vh B1 H1 hl1 n1 rh => ?_) scWI.nd
    refine rb_set 4 (B := B1) (x := yardsIn c.ties) (ev_call1 (x := c) (fk_yards_in E) (hr.mono (by decide)) (eva1 (ev_var 3 rfl rh)) trivial) n1.bh (fun vy B2 H2 hl2 n2 ry => ?_) scWI.nd
    have n12 := n1.trans n2
    have rb2 := Rp.mono n12.bb rb
    refine rb_no (B := B2) (EvT.to (et_w (ew_or (et_not (et_val (ev_isSeq (fk_is_list E) (hr.mono (by decide)) (eva1 (ev_var (x := bs) 2 rfl rb2))))) fun _ => ew_or1 (Cm.et (cm_ne (ev_len (ev_var (x := bs) 2 rfl rb2) E.bt.len) (ev_len (ev_var (x := yardsIn c.ties) 4 rfl ry) E.bt.len))))) (by simp [hlen])) n2.bh fun H3 s3 => ?_
    have b2x : B2 x = none := n12.hid x (by rw [hx]; intro z; cases z) hbx
    have hx3 : H3 x = some (.ins cW dx []) := s3 x _ (n12.hh x _ hx)
    refine rb_fld 0 (B := B2) (x := c) (ev_var 3 rfl (Rp.mono n2.bb rh)) (n2.bh.trans s3) rfl hx3 E.wb.own.cl E.wb.n1 (by decide) fun v4 B4 H4 n4 r4 => ?_
    have b4x : B4 x = none := n4.hid x (by rw [hx3]; intro z; cases z) b2x
    have s4 : Same B4 (upd H4 x (.ins cW dx (putF "own_country" v4 []))) := same_upd2 n4.bh b4x
    refine rb_fld 0 (B := B4) (x := bs) (Ev.to (EvF.ev (evf_lc (p := fun _ : Nat × Book => true) (g := fun z => z.2) [("yard", 5), ("book", 6)] (ei_zip (ev_var (x := yardsIn c.ties) 4 rfl (Rp.mono n4.bb ry)) (ev_var (x := bs) 2 rfl (Rp.mono n4.bb rb2)) E.bt.zip)
      (turnP 5 6 (fun u w => rfl) (fun B6 z va vb s6 hm r1 r2 s H0 C cl fp => ⟨ets_nil, fun _ => ev_call3 (x := c) (y := z.1) (z := z.2) (fk_want_book E) (hr.mono (by decide)) (eva3 (ev_var 3 rfl (Rp.mono (n2.bb.trans (n4.bb.trans s6)) rh)) (ev_var 5 rfl r1) (ev_var 6 rfl r2)) (by
        have := List.all_eq_true.mp hall z hm
        simp only [Bool.and_eq_true, decide_eq_true_eq] at this
        exact ⟨this.1.1, this.1.2, this.2⟩)⟩) scWI.nd) scWI.nd)) (by rw [filt_true]; exact zip_snd _ _ hlen)) s4 rfl upd_same E.wb.own.cl E.wb.n2 (show 1 < 1000 by decide) fun v6 B6 H6 n6 r6 => ?_
    have b6x : B6 x = none := n6.hid x (by rw [upd_same]; intro z; cases z) b4x
    have dn : Same B6 (upd B6 x (.ins cW dx [("own_country", v4), ("own_books", v6)])) := same_new b6x
    refine rb_nil (q (upd B6 x (.ins cW dx [("own_country", v4), ("own_books", v6)])) _ ?_ ?_ (fun b o nb e => ?_) (fun b nb h1 h2 => ?_) ?_)
    · exact n12.bb.trans (n4.bb.trans (n6.bb.trans dn))
    · show Same (upd B6 x (.ins cW dx [("own_country", v4), ("own_books", v6)])) (upd H6 x (.ins cW dx [("own_country", v4), ("own_books", v6)]))
      exact same_both n6.bh
    · rw [upd_ne nb]
      refine n6.hh b o ?_
      rw [upd_ne nb]
      exact n4.hh b o (s3 b o (n12.hh b o e))
    · rw [upd_ne nb]
      have k1 := n12.hid b h1 h2
      have k2 : H3 b ≠ none := by
        cases q : H b with
        | none => exact absurd q h1
        | some o => rw [s3 b o (n12.hh b o q)]; intro z; cases z
      have k3 := n4.hid b k2 k1
      refine n6.hid b ?_ k3
      rw [upd_ne nb]
      cases q : H3 b with
      | none => exact absurd q k2
      | some o => rw [n4.hh b o q]; intro z; cases z
    · exact ⟨x, dx, v4, v6, rfl, upd_same, Rp.mono (n6.bb.trans dn) r4, Rp.mono dn r6⟩
/-- Web(country, books) -/
theorem ev_mkW {X : Cx} {e : Expr} {es : List Expr} {σ : L2.St} {B : Hp} {c : Cty cC} {bs : List Book} {pos p : Pos} (E : Tops X.K X.mg cC cW) (hr : Room 9 X.A) (h : EvA X (e :: es) σ B [⟨c⟩, ⟨bs⟩]) (hok : booksOk c.ties bs = true) (hg : Gl X "Web" := by rfl) (he : NS X e es := by rfl) (hpl : (backTo pos (starEach es X.env)).any (·.1) = false := by rfl) :
    Ev X (.Call (.Name "Web" p) (e :: es) [] pos) σ B (mkWb cW c bs) := fun H s Q q => by
  obtain ⟨f, fd, M, F, hb⟩ := E.mkW
  refine rd_mkL (pe_make (dvs := []) (ds := []) M (fn_initW (P := X.prog) (w := X.w) (base := X.base) E F) hr hg E.wb.mgW hb .nil pass0 pa_rd (by decide) he hpl) (h H s _ fun vs B1 H1 _ n1 r => ?_)
  cases r with
  | @cons d1 v1 ds1 vs1 r1 t => cases t with
    | @cons d2 v2 ds2 vs2 r2 t => cases t with
      | nil =>
        intro x dx nx ndx nex
        refine ⟨B1, x, dx, c, bs, v1, v2, rfl, ?_, r1, r2, n1.bh.free nx, upd_same, hok, fun B' H' s1 s2 s3 s4 r => ⟨rfl, fun hl => ?_⟩⟩
        · exact (n1.bh.trans (same_new ndx)).trans (same_new (by rw [upd_ne nex.symm]; exact nx))
        · have keep : ∀ b o, H1 b = some o → b ≠ x ∧ (upd (upd H1 dx (.own x)) x (.ins cW dx [])) b = some o := fun b o e => by
            have nb : b ≠ x := fun z => by rw [z, nx] at e; cases e
            have nd : b ≠ dx := fun z => by rw [z, ndx] at e; cases e
            exact ⟨nb, by rw [upd_ne nb, upd_ne nd]; exact e⟩
          refine q _ B' H' hl (n1.trans ⟨s1, s2, fun b o e => s3 b o (keep b o e).1 (keep b o e).2, fun b h1 h2 => ?_⟩) r
          cases q0 : H1 b with
          | none => exact absurd q0 h1
          | some o => exact s4 b (keep b o q0).1 (by rw [(keep b o q0).2]; intro z; cases z) h2
theorem scPC : FnScope ["self"] ["self"] (defScope (inClass (topS 56) 1)) := ⟨rfl, rfl, rfl, by decide +kernel, rfl, by decide +kernel, by decide +kernel⟩
theorem fn_country (E : Tops K mg cC cW) {g : Addr} {fd : FuncData} (F : Fun K "country" "Web.country" (inClass (topS 56) 1) g fd) : FnOk P w K mg base CX0 1 g fd ["self"] (Sp1 (fun _ : Wb cC cW => True) fun c => c.cty) :=
  fm_mk (N := ["self"]) F scPC (fun vs H Q _ ⟨_, _, _, e, _⟩ => by rw [e]; rfl) fun f cd A ou s H vs Q EX hr ⟨B, c, v, e, sb, ra, _, q⟩ => by
    subst e
    exact rb_ret (ev_wCty E.wb (ev_var 0 rfl ra)) sb q
theorem scPB : FnScope ["self", "book", "places", "bounds"] ["self"] (defScope (inClass (topS 56) 2)) := ⟨rfl, rfl, rfl, by decide +kernel, rfl, by decide +kernel, by decide +kernel⟩
theorem fn_books (E : Tops K mg cC cW) {g : Addr} {fd : FuncData} (F : Fun K "books" "Web.books" (inClass (topS 56) 2) g fd) : FnOk P w K mg base CX0 1 g fd ["self"] (Sp1 (fun _ : Wb cC cW => True) fun c => c.books) :=
  fm_mk (N := ["self", "book", "places", "bounds"]) F scPB (fun vs H Q _ ⟨_, _, _, e, _⟩ => by rw [e]; rfl) fun f cd A ou s H vs Q EX hr ⟨B, c, v, e, sb, ra, _, q⟩ => by
    subst e
    refine rb_ret (Ev.to (EvF.ev (evf_lc (p := fun _ => true) (g := fun b : Book => b) [("book", 1)] (ei_list (ev_wBooks E.wb (ev_var (x := c) 0 rfl ra))) (turnN 1 (fun u => rfl) (fun B1 b vb s1 _ rb s H0 C cl fp => ⟨ets_nil, fun _ =>
      Ev.to (EvF.ev (evf_lc (p := fun _ => true) (g := fun a : Alt => (a.1, a.2)) [("places", 2), ("bounds", 3)] (ei_list (ev_var (x := b) 1 rfl rb)) (turnP 2 3 (fun u w => rfl) (fun B2 a va vb s2 _ r1 r2 s H0 C cl fp => ⟨ets_nil, fun _ => ev_tup2 (eva2 (ev_var 2 rfl r1) (EvF.ev (evf_list (ev_var (x := a.2) 3 rfl r2) E.bt.list)))⟩) scPB.nd) scPB.nd)) (by rw [filt_true]; exact List.map_id' _)⟩) scPB.nd) scPB.nd)) (by rw [filt_true]; exact List.map_id' _)) sb q
theorem ev_pC {X : Cx} {e : Expr} {σ : L2.St} {B : Hp} {c : Wb cC cW} {pos : Pos} (E : Tops X.K X.mg cC cW) (hr : Room 2 X.A) (h : Ev X e σ B c) (hab : attributeBase e "country" X.env (eval e X.env) = eval e X.env := by rfl) : Ev X (.Attribute e "country" pos) σ B c.cty := ev_prop E.prC E.wb.own.cl (fun g fd F => fn_country E F) hr hx_wb h hab
theorem ev_pB {X : Cx} {e : Expr} {σ : L2.St} {B : Hp} {c : Wb cC cW} {pos : Pos} (E : Tops X.K X.mg cC cW) (hr : Room 2 X.A) (h : Ev X e σ B c) (hab : attributeBase e "books" X.env (eval e X.env) = eval e X.env := by rfl) : Ev X (.Attribute e "books" pos) σ B c.books := ev_prop E.prB E.wb.own.cl (fun g fd F => fn_books E F) hr hx_wb h hab
theorem ev_pL {X : Cx} {e : Expr} {σ : L2.St} {B : Hp} {c : Cty cC} {pos : Pos} (E : Tops X.K X.mg cC cW) (hr : Room 2 X.A) (h : Ev X e σ B c) (hab : attributeBase e "lanes" X.env (eval e X.env) = eval e X.env := by rfl) : Ev X (.Attribute e "lanes" pos) σ B c.lanes := ev_prop E.prL E.cty.own.cl (fun g fd F => fn_lanes E F) hr hx_cty h hab
theorem ev_pY {X : Cx} {e : Expr} {σ : L2.St} {B : Hp} {c : Cty cC} {pos : Pos} (E : Tops X.K X.mg cC cW) (hr : Room 2 X.A) (h : Ev X e σ B c) (hab : attributeBase e "yards" X.env (eval e X.env) = eval e X.env := by rfl) : Ev X (.Attribute e "yards" pos) σ B (yardsIn c.ties) := ev_prop (x := c) (F := fun c : Cty cC => yardsIn c.ties) E.prY E.cty.own.cl (fun g fd F => fn_yards E F) hr hx_cty h hab
theorem sc57 : FnScope ["web", "yard"] ["web", "yard"] (defScope (topS 57)) := ⟨rfl, rfl, rfl, by decide +kernel, rfl, by decide +kernel, by decide +kernel⟩
theorem fk_book_at (E : Tops K mg cC cW) : Fk P w K mg base "book_at" 2 ["web", "yard"] (Sp2 (fun (x : Wb cC cW) (y : Nat) => y ∈ yardsIn x.cty.ties ∧ x.books.length = (yardsIn x.cty.ties).length) fun x y => bookAt x.cty.ties x.books y) :=
  fk2 (N := ["web", "yard"]) E.d57 sc57 fun f cd A ou s H EX v1 v2 B x y Q hr sb r1 r2 ⟨hy, hl⟩ q =>
    rb_ret (ev_ix (xs := x.books) (ev_wBooks E.wb (ev_var (x := x) 0 rfl r1)) (ev_index (xs := yardsIn x.cty.ties) (y := y) (ev_call1 (x := x.cty) (fk_yards_in E) (hr.mono (by decide)) (eva1 (ev_wCty E.wb (ev_var (x := x) 0 rfl r1))) trivial) (ev_var 1 rfl r2) hy) (getD_at (by rw [hl]; exact List.idxOf_lt_length_of_mem hy))) sb q
theorem sc59 : FnScope ["country", "books"] ["country", "books"] (defScope (topS 59)) := ⟨rfl, rfl, rfl, by decide +kernel, rfl, by decide +kernel, by decide +kernel⟩
theorem fk_bare_web (E : Tops K mg cC cW) : Fk P w K mg base "bare_web" 10 ["country", "books"] (Sp2 (fun (c : Cty cC) (bs : List Book) => booksOk c.ties bs = true) fun c bs => mkWb cW c bs) :=
  fk2 (N := ["country", "books"]) E.d59 sc59 fun f cd A ou s H EX v1 v2 B c bs Q hr sb r1 r2 hp q => rb_ret (ev_mkW (c := c) (bs := bs) E (hr.mono (by decide)) (eva2 (ev_var 0 rfl r1) (ev_var 1 rfl r2)) hp) sb q
end
end LK
/-! ## F14 -/
namespace LK
open PySem PySem.Spec PyProof.Rows L2
open Rp (R)
section
variable {α β γ δ : Type} [Rp α] [Rp β] [Rp γ] [Rp δ]
variable {X : Cx} {e : Expr} {es : List Expr} {σ : L2.St} {B H : Hp} {x : α} {y : β} {pos : Pos}
/-- a def whose last parameter, None, isn't written -/
def FkN (P : Program) (w : World) (K : PySem.W.Frag) (mg : Str → Option Value) (base : Heap) (n : Str) (k : Nat) (ps : List Str) (sp : Sp) : Prop :=
  ∃ f fd ds, FnOk P w K mg base CX0 k f fd ps sp ∧ mg n = some (.ref f) ∧ PySem.W.keepIn K (.ref f) = true ∧ Vals [.non] ds ∧ Binds K fd ps ds
def Sp2N (pre : α → β → Prop) (F : α → β → γ) : Sp := fun vs H Q _ => ∃ (B : Hp) (a : α) (b : β) (v w : V), vs = [v, w, .non] ∧ Same B H ∧ R B a v ∧ R B b w ∧ pre a b ∧ ∀ v' B' H', Nw B H B' H' → R B' (F a b) v' → Q v' H'
theorem ev_call2N {n : Str} {k : Nat} {ps : List Str} {p : Pos} {pre : α → β → Prop} {F : α → β → γ} (G : FkN X.prog X.w X.K X.mg X.base n k ps (Sp2N pre F)) (hr : Room k X.A) (h : EvA X (e :: es) σ B [⟨x⟩, ⟨y⟩]) (hp : pre x y)
    (hg : Gl X n := by rfl) (hdb : (n == ("__debug__" : Str)) = false := by decide) (he : NS X e es := by rfl) (hpl : (backTo pos (starEach es X.env)).any (·.1) = false := by rfl) : Ev X (.Call (.Name n p) (e :: es) [] pos) σ B (F x y) := fun H s Q q => by
  obtain ⟨f, fd, ds, G, hm, hk, hv, hb⟩ := G
  refine rd_mkL (pe_call (dvs := [.non]) (ds := ds) G hr hg hm hk hb hv pass0 pa_rd hdb he hpl) (h H s _ fun vs B1 H1 _ n1 r => ?_)
  cases r with
  | @cons d1 v1 ds1 vs1 r1 t => cases t with
    | @cons d2 v2 ds2 vs2 r2 t => cases t with
      | nil => exact ⟨B1, x, y, v1, v2, rfl, n1.bh, r1, r2, hp, fun v' B' H' n2 r2 hl => q v' B' H' hl (n1.trans n2) r2⟩
end
section
variable {P : Program} {w : World} {K : PySem.W.Frag} {mg : Str → Option Value} {base : Heap} {cC cW : Addr}
theorem sc70 : FnScope ["load", "row"] ["load"] (defScope (topS 70)) := ⟨rfl, rfl, rfl, by decide +kernel, rfl, by decide +kernel, by decide +kernel⟩
theorem fk_load_weight (E : Tops K mg cC cW) : Fk P w K mg base "load_weight" 1 ["load"] (Sp1 (fun _ : Load => True) weight) :=
  fk1 (N := ["load", "row"]) E.d70 sc70 fun f cd A ou s H EX v B l Q hr sb ra _ q =>
    rb_ret (Ev.to (ev_sum (EvF.ev (evf_lc (p := fun _ => true) (g := fun r : T3 Nat Nat Nat => r.c) [("row", 1)] (ei_list (ev_var (x := l) 0 rfl ra)) (turnN 1 (fun u => rfl) (fun B1 a va s1 _ r s H0 C cl fp => ⟨ets_nil, fun _ => ev_t2 (u := a) (ev_var 1 rfl r)⟩) sc70.nd) sc70.nd)) E.bt.sum) (by rw [filt_true]; rfl)) sb q
def isShut (book : Book) (t : Nat) (l : Load) (z : Nat) : Bool := !standsBy book (plusCart l t z)
theorem sc67 : FnScope ["book", "target", "load", "place"] ["book", "target", "load", "place"] (defScope (topS 67)) := ⟨rfl, rfl, rfl, by decide +kernel, rfl, by decide +kernel, by decide +kernel⟩
theorem fk_is_shut (E : Tops K mg cC cW) : Fk P w K mg base "is_shut" 4 ["book", "target", "load", "place"] (Sp4 (fun (b : Book) (t : Nat) (l : Load) (z : Nat) => l.length ≤ 1000) isShut) :=
  fk4 (N := ["book", "target", "load", "place"]) E.d67 sc67 fun f cd A ou s H EX v1 v2 v3 v4 B b t l z Q hr sb r1 r2 r3 r4 hz q =>
    rb_ret (ev_not (ev_call2 (x := b) (y := plusCart l t z) (fk_stands_by E) (hr.mono (by decide)) (eva2 (ev_var 0 rfl r1) (ev_call3 (x := l) (y := t) (z := z) (fk_plus_cart E) (hr.mono (by decide)) (eva3 (ev_var 2 rfl r3) (ev_var 1 rfl r2) (ev_var 3 rfl r4)) hz)) trivial)) sb q
theorem sc63 : FnScope ["country", "yard", "target", "pair"] ["country", "yard", "target"] (defScope (topS 63)) := ⟨rfl, rfl, rfl, by decide +kernel, rfl, by decide +kernel, by decide +kernel⟩
theorem fk_pairs_towards (E : Tops K mg cC cW) : Fk P w K mg base "pairs_towards" 3 ["country", "yard", "target"] (Sp3 (fun (c : Cty cC) (y t : Nat) => y < c.ties.length ∧ (rowAt c.ties y).length ≤ 100) fun c y t => pairsTo (rowAt c.ties y) t) :=
  fk3 (N := ["country", "yard", "target", "pair"]) E.d63 sc63 fun f cd A ou s H EX v1 v2 v3 B c y t Q hr sb r1 r2 r3 hp q =>
    rb_ret (Ev.to (EvF.ev (evf_lc (p := fun z : Nat × Nat => decide (z.2 = t)) (g := fun z => z) [("pair", 3)] (ei_list (ev_call2 (x := c) (y := y) (fk_pairs_at E) (hr.mono (by decide)) (eva2 (ev_var 0 rfl r1) (ev_var 1 rfl r2)) hp))
      (turnN 3 (fun u => rfl) (fun B1 a va s1 _ r s H0 C cl fp => ⟨ets_one (Cm.et (cm_eq (ev_snd (u := a) (ev_var 3 rfl r)) (ev_var 2 rfl (Rp.mono s1 r3)))), fun _ => ev_var 3 rfl r⟩) sc63.nd) sc63.nd)) (by rw [List.map_id']; rfl)) sb q
theorem mem_yards {ties : List (List Nat)} {y : Nat} (h : y ∈ yardsIn ties) : y < ties.length ∧ 1 < (rowAt ties y).length := by
  unfold yardsIn at h
  simp only [List.mem_map, List.mem_filter, Prod.exists, decide_eq_true_eq] at h
  obtain ⟨a, b, ⟨⟨c, d, hcd, he⟩, hb⟩, rfl⟩ := h
  cases he
  have h2 := List.mem_zipIdx hcd
  simp at h2
  obtain ⟨h3, h4⟩ := h2
  refine ⟨h3, ?_⟩
  unfold rowAt
  rw [List.getD_eq_getElem?_getD, List.getElem?_eq_getElem h3, ← h4]
  exact hb
theorem sc66 : FnScope ["country", "found", "yard", "place"] ["country"] (defScope (topS 66)) := ⟨rfl, rfl, rfl, by decide +kernel, rfl, by decide +kernel, by decide +kernel⟩
theorem fk_yard_sides (E : Tops K mg cC cW) : Fk P w K mg base "yard_sides" 5 ["country"] (Sp1 (fun c : Cty cC => c.ties.length ≤ 100 ∧ ∀ r ∈ c.ties, r.length ≤ 100) fun c => yardSides c.ties) :=
  fk1 (N := ["country", "found", "yard", "place"]) E.d66 sc66 fun f cd A ou s H EX v1 B c Q hr sb r1 ⟨hn, hrow⟩ q =>
    rb_setF 1 (xs := ([] : List (Nat × Nat))) ev_lst0 sb (fun qf ws B1 H1 hl n1 h0 hb hq lr => by
      refine rb_for (B := B1) (xs := yardsIn c.ties) (ei_list (ev_call1 (x := c) (fk_yards_in E) (hr.mono (by decide)) (eva1 (ev_var 0 rfl (Rp.mono n1.bb r1))) trivial)) n1.bh PassesOwn.never rfl fun B2 H2 hl2 n2 _ => ?_
      refine ⟨fun i σ' Bi Hi => ∃ y2 y3 ws, σ' = [some v1, some (.ref qf), y2, y3] ∧ Nw B H Bi Hi ∧ Same B2 Bi ∧ Bi qf = none ∧ Hi qf = some (.lst ws) ∧ LR Bi (((yardsIn c.ties).take i).flatMap fun y => ((rowAt c.ties y).filter fun p => isYard c.ties p).map fun p => (y, p)) ws,
          ⟨none, none, ws, rfl, n1.trans n2, Same.refl _, n2.hid qf (by rw [hq]; intro z; cases z) hb, n2.hh qf _ hq, lr.mono n2.bb⟩, fun i σ' Bi Hi ⟨_, _, _, _, N, s2, _⟩ => ⟨s2, N.bh⟩, ?_, ?_⟩
      · rintro i a v σ' Bi Hi B4 H3 ha ⟨y2, y3, ws, rfl, N, sB, hbi, hqi, lri⟩ n4 r4
        have r14 : R B4 c v1 := Rp.mono (n1.bb.trans (n2.bb.trans (sB.trans n4.bb))) r1
        have hya := (mem_yards (List.mem_of_getElem? ha)).1
        refine rg_name 2 (rb_extend 1 (evf_lc (p := fun t => isYard c.ties t) (g := fun t => (a, t)) [("place", 3)] (ei_list (ev_call2 (x := c) (y := a) (fk_beside E) (hr.mono (by decide)) (eva2 (ev_var 0 rfl r14) (ev_var 2 rfl r4)) hya)) (turnN 3 (fun u => rfl) (fun B5 t vt s5 _ rt s H0 C cl fp => ⟨ets_one (et_val (ev_call2 (x := c) (y := t) (fk_is_yard E) (hr.mono (by decide)) (eva2 (ev_var 0 rfl (Rp.mono s5 r14)) (ev_var 3 rfl rt)) trivial)), fun _ => ev_tup2 (eva2 (ev_var 2 rfl (Rp.mono s5 r4)) (ev_var 3 rfl rt))⟩) sc66.nd) sc66.nd)
          n4.bh rfl (n4.hh qf _ hqi) ?_ fun ws' B5 H5 n5 lr5 => rb_nil ⟨B5, _, y3, _, rfl, (N.trans (n4.trans n5)).mut h0 ?_, sB.trans (n4.bb.trans n5.bb), ?_, upd_same, ?_⟩) sc66.nd
        · have h1 := lri.1
          have hrl : ∀ y, (rowAt c.ties y).length ≤ 100 := fun y => by
            unfold rowAt
            by_cases hy : y < c.ties.length
            · exact hrow _ (List.mem_of_getElem? (getD_at hy))
            · rw [List.getD_eq_getElem?_getD, List.getElem?_eq_none (by omega)]; exact Nat.zero_le _
          have h2 : ∀ y, (((rowAt c.ties y).filter fun p => isYard c.ties p).map fun p => (y, p)).length ≤ 100 := fun y => by
            rw [List.length_map]; exact Nat.le_trans (List.length_filter_le _ _) (hrl y)
          have h3 := flat_len h2 ((yardsIn c.ties).take i)
          have h4 : ((yardsIn c.ties).take i).length ≤ 100 := by
            rw [List.length_take]
            refine Nat.le_trans (Nat.min_le_right _ _) (Nat.le_trans ?_ hn)
            unfold yardsIn
            rw [List.length_map]
            refine Nat.le_trans (List.length_filter_le _ _) ?_
            rw [List.length_map, List.length_zipIdx]
            exact Nat.le_refl _
          have h5 := h2 a
          have h6 : 100 * ((yardsIn c.ties).take i).length ≤ 100 * 100 := Nat.mul_le_mul_left _ h4
          omega
        · exact n5.hid qf (by rw [n4.hh qf _ hqi]; intro z; cases z) (n4.hid qf (by rw [hqi]; intro z; cases z) hbi)
        · exact n5.hid qf (by rw [n4.hh qf _ hqi]; intro z; cases z) (n4.hid qf (by rw [hqi]; intro z; cases z) hbi)
        · rw [take_snoc ha, List.flatMap_append, List.flatMap_singleton]
          exact (lri.mono (n4.bb.trans n5.bb)).append lr5
      · rintro σ' Bi Hi ⟨y2, y3, ws, rfl, N, sB, hbi, hqi, lri⟩
        rw [take_all] at lri
        exact rb_retL 1 rfl N h0 hbi hqi lri q) sc66.nd
end
end LK
/-! ## L7 -/
namespace LK
open PySem PySem.Spec PyProof.Rows L2
open Rp (R)

/-! ### a list that grows: l is new since H0, not told, and holds ys -/
def Gr {α : Type} [Rp α] (B0 H0 : Hp) (l : Addr) (ys : List α) (B H : Hp) : Prop := ∃ ws, Nw B0 H0 B H ∧ H0 l = none ∧ B l = none ∧ H l = some (.lst ws) ∧ LR B ys ws
section
variable {α β γ δ : Type} [Rp α] [Rp β] [Rp γ] [Rp δ]
variable {X : Cx} {e a b c tg iter : Expr} {es : List Expr} {σ : L2.St} {B B' H H' B0 H0 : Hp} {x : α} {y : β} {z : γ} {pos p p2 p3 p4 : Pos} {D : Ends} {rest body els : List Stmt} {st : Stmt} {l : Addr} {ys : List α}
theorem Gr.nw (g : Gr B0 H0 l ys B H) : Nw B0 H0 B H := g.choose_spec.1
theorem Gr.step (g : Gr B0 H0 l ys B H) (n : Nw B H B' H') : Gr B0 H0 l ys B' H' := by
  obtain ⟨ws, N, h0, hb, hl, lr⟩ := g
  exact ⟨ws, N.trans n, h0, n.hid l (by rw [hl]; intro z; cases z) hb, n.hh l _ hl, lr.mono n.bb⟩
theorem Gr.grow (g : Gr B0 H0 l ys B H) (n : Same H H') : Gr B0 H0 l ys B H' := g.step (Nw.grow g.nw.bh n)
/-- another list, hidden, of the same block, changes -/
theorem Gr.mut (g : Gr B0 H0 l ys B H) {q : Addr} {o : HO} (h0 : H0 q = none) (hb : B q = none) (ne : q ≠ l) : Gr B0 H0 l ys B (upd H q o) := by
  obtain ⟨ws, N, h00, hbl, hl, lr⟩ := g
  exact ⟨ws, N.mut h0 hb, h00, hbl, by rw [upd_ne (Ne.symm ne)]; exact hl, lr⟩
theorem rb_setGr (i : Nat) {n : Str} {p : Pos} {xs : List α} (h : EvF X e σ B xs) (N0 : Nw B0 H0 B H) (k : ∀ q B' H', HLen H' → Nw B H B' H' → Gr B0 H0 q xs B' H' → Gr B H q xs B' H' → rdB X rest D (σ.set i (some (.ref q))) H')
    (hN : X.N.Nodup) (hi : X.N[i]? = some n := by rfl) (hx : Loc X.env.scope n := by first | exact Or.inl rfl | exact Or.inr rfl) (hs : swapsWith e (some (.Name n p)) pos.line X.env = pure false := by rfl)
    (hf : X.fn n = true ∨ X.env.scope.names.lookup n = some .local := by first | exact .inl rfl | exact .inr rfl) : rdB X (.Assign [.Name n p] e pos :: rest) D σ H :=
  rb_setF i h N0.bh (fun q vs B' H' hl n h0 hb hq lr => k q B' H' hl n ⟨vs, N0.trans n, N0.hh.free h0, hb, hq, lr⟩ ⟨vs, n, h0, hb, hq, lr⟩) hN hi hx hs hf
theorem rb_appendGr (i : Nat) {n : Str} (g : Gr B0 H0 l ys B H) (h : Ev X e σ B x) (hσ : σ[i]? = some (some (.ref l))) (hz : ys.length < 100000) (k : ∀ B' H', Same B B' → Gr B0 H0 l (ys ++ [x]) B' H' → (∀ b o, b ≠ l → H b = some o → H' b = some o) → (∀ b, H b ≠ none → B b = none → B' b = none) → rdB X rest D σ H')
    (hN : X.N[i]? = some n := by rfl) (hv : Vis X.env.scope n := by first | exact Or.inl rfl | exact Or.inr (Or.inl rfl)) (hd : (n == ("__debug__" : Str)) = false := by decide) (hcd : (n == ("__classdict__" : Str)) = false := by decide)
    (hb : attributeBase (.Name n p) "append" X.env (eval (.Name n p) X.env) = eval (.Name n p) X.env := by rfl) (hfew : ((backTo p3 (starEach [e] X.env)).all (fun x => !x.1) && (backToKw p3 (keywordEach [] X.env)).all (fun x => x.1.isSome)
      && decide ([e].length + ([] : List Keyword).length + (if ([] : List Keyword).isEmpty then 0 else 1) < 30)) = true := by rfl)
    (hline : (p2.endLine == p3.line) = true := by rfl) (hs : NS X e [] := by rfl) (hsw : swapsWith (.Call (.Attribute (.Name n p) "append" p2) [e] [] p3) none pos.line X.env = pure false := by rfl) :
    rdB X (.Expr (.Call (.Attribute (.Name n p) "append" p2) [e] [] p3) pos :: rest) D σ H := by
  obtain ⟨ws, N, h0, hbl, hl, lr⟩ := g
  refine rb_append (vs := ws) i h N.bh hσ hl (by rw [lr.1]; exact Nat.lt_of_lt_of_le hz (by decide)) (fun v B' H' n r => ?_) hN hv hd hcd hb hfew hline hs hsw
  have hbl' := n.hid l (by rw [hl]; intro z; cases z) hbl
  exact k B' _ n.bb ⟨_, (N.trans n).mut h0 hbl', h0, hbl', upd_same, (lr.mono n.bb).snoc r⟩ (fun b o nb eb => by rw [upd_ne nb]; exact n.hh b o eb) n.hid
theorem rb_extendGr (i : Nat) {n : Str} {zs : List α} (g : Gr B0 H0 l ys B H) (h : EvF X e σ B zs) (hσ : σ[i]? = some (some (.ref l))) (hz : ys.length + zs.length ≤ 100000) (k : ∀ B' H', Same B B' → Gr B0 H0 l (ys ++ zs) B' H' → (∀ b o, b ≠ l → H b = some o → H' b = some o) → (∀ b, H b ≠ none → B b = none → B' b = none) → rdB X rest D σ H')
    (hN : X.N[i]? = some n := by rfl) (hv : Vis X.env.scope n := by first | exact Or.inl rfl | exact Or.inr (Or.inl rfl)) (hd : (n == ("__debug__" : Str)) = false := by decide) (hcd : (n == ("__classdict__" : Str)) = false := by decide)
    (hb : attributeBase (.Name n p) "extend" X.env (eval (.Name n p) X.env) = eval (.Name n p) X.env := by rfl) (hfew : ((backTo p3 (starEach [e] X.env)).all (fun x => !x.1) && (backToKw p3 (keywordEach [] X.env)).all (fun x => x.1.isSome)
      && decide ([e].length + ([] : List Keyword).length + (if ([] : List Keyword).isEmpty then 0 else 1) < 30)) = true := by rfl)
    (hline : (p2.endLine == p3.line) = true := by rfl) (hs : NS X e [] := by rfl) (hsw : swapsWith (.Call (.Attribute (.Name n p) "extend" p2) [e] [] p3) none pos.line X.env = pure false := by rfl) :
    rdB X (.Expr (.Call (.Attribute (.Name n p) "extend" p2) [e] [] p3) pos :: rest) D σ H := by
  obtain ⟨ws, N, h0, hbl, hl, lr⟩ := g
  refine rb_extend (vs := ws) i h N.bh hσ hl (by rw [lr.1]; exact hz) (fun vs' B' H' n r => ?_) hN hv hd hcd hb hfew hline hs hsw
  have hbl' := n.hid l (by rw [hl]; intro z; cases z) hbl
  exact k B' _ n.bb ⟨_, (N.trans n).mut h0 hbl', h0, hbl', upd_same, (lr.mono n.bb).append r⟩ (fun b o nb eb => by rw [upd_ne nb]; exact n.hh b o eb) n.hid
theorem rb_retGr (i : Nat) {n : Str} (g : Gr B0 H0 l ys B H) (hσ : σ[i]? = some (some (.ref l))) (k : ∀ v' B' H', Nw B0 H0 B' H' → R B' ys v' → D.rt v' H')
    (hN : X.N[i]? = some n := by rfl) (hv : Vis X.env.scope n := by first | exact Or.inl rfl | exact Or.inr (Or.inl rfl)) (hd : (n == ("__debug__" : Str)) = false := by decide) (hcd : (n == ("__classdict__" : Str)) = false := by decide) : rdB X (.Return (some (.Name n p)) pos :: rest) D σ H := by
  obtain ⟨ws, N, h0, hbl, hl, lr⟩ := g
  exact rb_retL i hσ N h0 hbl hl lr k hN hv hd hcd
/-- the list is told from now on -/
theorem Gr.told (g : Gr B0 H0 l ys B H) : ∃ B2, Same B B2 ∧ Nw B0 H0 B2 H ∧ R B2 ys (.ref l) ∧ (∀ b, b ≠ l → B b = none → B2 b = none) := by
  obtain ⟨ws, N, h0, hbl, hl, lr⟩ := g
  exact ⟨upd B l (.lst ws), same_new hbl, N.tell h0 hbl hl, R_tell hbl lr, fun b nb e => by rw [upd_ne nb]; exact e⟩
/-- while it is read it is told -/
theorem Gr.look (g : Gr B0 H0 l ys B H) : ∃ B2, Same B B2 ∧ Same B2 H ∧ R B2 ys (.ref l) := by
  obtain ⟨B2, s, N, r, _⟩ := g.told
  exact ⟨B2, s, N.bh, r⟩
theorem Gr.ne {q : Addr} {zs : List β} (g : Gr B0 H0 l ys B H) (g' : Gr B H q zs B' H') : l ≠ q := fun e => by
  obtain ⟨ws, N, h0, hbl, hl, lr⟩ := g
  obtain ⟨ws', N', h0', _⟩ := g'
  rw [e, h0'] at hl
  cases hl
theorem Gr.other {q : Addr} {zs : List β} (g : Gr B0 H0 l ys B H) (g' : Gr B0 H0 q zs B' H') (s : Same B B') (hh : ∀ b o, b ≠ q → H b = some o → H' b = some o) (hid : ∀ b, H b ≠ none → B b = none → B' b = none) (ne : l ≠ q) : Gr B0 H0 l ys B' H' := by
  obtain ⟨ws, N, h0, hbl, hl, lr⟩ := g
  exact ⟨ws, g'.nw, h0, hid l (by rw [hl]; intro z; cases z) hbl, hh l _ ne hl, lr.mono s⟩
theorem Gr.tell2 {q : Addr} {zs : List β} (g : Gr B0 H0 l ys B H) (g' : Gr B0 H0 q zs B H) (ne : l ≠ q) : ∃ B2, Same B B2 ∧ Gr B0 H0 l ys B2 H ∧ R B2 zs (.ref q) := by
  obtain ⟨B2, s, N2, r, k⟩ := g'.told
  obtain ⟨ws, N, h0, hbl, hl, lr⟩ := g
  exact ⟨B2, s, ⟨ws, N2, h0, k l ne hbl, hl, lr.mono s⟩, r⟩
/-- for: I what holds ahead of turn i; it lasts -/
theorem rb_forS {xs : List β} (I : Nat → L2.St → Hp → Hp → Prop) (h : EvI X tg iter σ B xs) (st : ∀ i σ B H B' H', I i σ B H → Nw B H B' H' → I i σ B' H') (bh : ∀ i σ B H, I i σ B H → Same B H) (i0 : I 0 σ B H) (hp : PassesOwn (model X.prog X.w) X.A X.env X.xe) (hc : X.calm = true)
    (turn : ∀ B1, Same B B1 → ∀ i a v σ' B2 H2, xs[i]? = some a → Same B1 B2 → I i σ' B2 H2 → R B2 a v →
      rdG X tg v σ' H2 fun σ3 H3 => rdB X body { D with nx := fun σ' H' => ∃ B', Same B1 B' ∧ I (i + 1) σ' B' H', ct := fun σ' H' => ∃ B', Same B1 B' ∧ I (i + 1) σ' B' H', bk := rdB X rest D } σ3 H3)
    (done : ∀ σ' B2 H2, Same B B2 → I xs.length σ' B2 H2 → rdB X rest D σ' H2)
    (hs : ∀ x, foldedSetIterable iter X.env x = pure x := by intro _; rfl) : rdB X (.For tg iter body [] pos :: rest) D σ H :=
  rb_for h (bh _ _ _ _ i0) hp hc (fun B1 H1 hl1 n1 _ => ⟨fun i σ' B2 H2 => Same B1 B2 ∧ I i σ' B2 H2, ⟨Same.refl _, st _ _ _ _ _ _ i0 n1⟩, fun i σ' B2 H2 ⟨s, g2⟩ => ⟨s, bh _ _ _ _ g2⟩,
    fun i a v σ' B2 H2 B4 H3 ha ⟨s, g2⟩ n4 r4 => turn B1 n1.bb i a v σ' B4 H3 ha (s.trans n4.bb) (st _ _ _ _ _ _ g2 n4) r4,
    fun σ' B2 H2 ⟨s, g2⟩ => done σ' B2 H2 (n1.bb.trans s) g2⟩) hs
end
end LK
/-! ## F15 -/
namespace LK
open PySem PySem.Spec PyProof.Rows L2
open Rp (R)
theorem plusRaw_len (l : Load) (o t : Nat) : (plusRaw l o t).length ≤ l.length + 1 := by
  unfold plusRaw
  rw [List.length_append, List.length_singleton]
  have := List.length_filter_le (fun r => !isPair o t r) l
  omega
theorem plusCart_len (l : Load) (o t : Nat) : (plusCart l o t).length ≤ l.length + 1 := by
  unfold plusCart
  rw [(srt_perm _).length_eq]
  exact plusRaw_len l o t
theorem filterMap_len {α β : Type} (f : α → Option β) : ∀ xs : List α, (xs.filterMap f).length ≤ xs.length := List.length_filterMap_le f
theorem nextOf_len (book : Book) (ps : List (Nat × Nat)) (z : Load × Nat) : (nextOf srt book ps z).length ≤ ps.length := by
  unfold nextOf
  refine Nat.le_trans (filterMap_len _ _) ?_
  rw [List.length_map, List.length_range]
  omega
theorem flat_le {α β : Type} {f : α → List β} {k : Nat} : ∀ xs : List α, (∀ x ∈ xs, (f x).length ≤ k) → (xs.flatMap f).length ≤ k * xs.length
  | [], _ => by simp
  | x :: xs, h => by
    rw [List.flatMap_cons, List.length_append, List.length_cons]
    have h1 := h x (List.mem_cons_self ..)
    have h2 := flat_le xs fun y hy => h y (List.mem_cons_of_mem _ hy)
    rw [Nat.mul_add]
    omega
theorem nextAll_len (book : Book) (ps : List (Nat × Nat)) (last : List (Load × Nat)) : (nextAll srt book ps last).length ≤ ps.length * last.length := flat_le _ fun z _ => nextOf_len book ps z
theorem nextAll_loads {book : Book} {ps : List (Nat × Nat)} {last : List (Load × Nat)} {k : Nat} (h : ∀ z ∈ last, z.1.length ≤ k) : ∀ z ∈ nextAll srt book ps last, z.1.length ≤ k + 1 := by
  intro z hz
  unfold nextAll at hz
  obtain ⟨y, hy, hz⟩ := List.mem_flatMap.mp hz
  unfold nextOf at hz
  obtain ⟨j, hj, e⟩ := List.mem_filterMap.mp hz
  unfold nextOne at e
  split at e
  · cases e
    exact Nat.le_trans (plusCart_len y.1 _ _) (Nat.succ_le_succ (h y hy))
  · cases e
theorem nextAll_at {book : Book} {ps : List (Nat × Nat)} {last : List (Load × Nat)} : ∀ z ∈ nextAll srt book ps last, z.2 ≤ ps.length := by
  intro z hz
  unfold nextAll at hz
  obtain ⟨y, hy, hz⟩ := List.mem_flatMap.mp hz
  unfold nextOf at hz
  obtain ⟨j, hj, e⟩ := List.mem_filterMap.mp hz
  obtain ⟨t, ht, rfl⟩ := List.mem_map.mp hj
  have := List.mem_range.mp ht
  unfold nextOne at e
  split at e
  · cases e
    show y.2 + t ≤ ps.length
    omega
  · cases e
section
variable {P : Program} {w : World} {K : PySem.W.Frag} {mg : Str → Option Value} {base : Heap} {cC cW : Addr}
theorem sc62 : FnScope ["book", "pairs", "most", "found", "last", "later", "load", "first", "at", "more"] ["book", "pairs", "most"] (defScope (topS 62)) := ⟨rfl, rfl, rfl, by decide +kernel, rfl, by decide +kernel, by decide +kernel⟩
theorem fk_standing_by (E : Tops K mg cC cW) : FkN P w K mg base "standing_by" 4 ["book", "pairs", "most"] (Sp2N (fun (b : Book) (ps : List (Nat × Nat)) => ps.length ≤ 3 ∧ (standing srt b ps).isSome = true) fun b ps => (standing srt b ps).getD []) := by
  obtain ⟨f, fd, ds, F, hm, hv, hb⟩ := E.d62
  refine ⟨f, fd, ds, F.ok sc62 (fun vs H Q E ⟨_, _, _, _, _, e, _⟩ => by rw [e]; rfl) fun cd A ou s H vs Q EX hr ⟨B, b, ps, v1, v2, e, sb, r1, r2, ⟨hps, hst⟩, q⟩ => ⟨_, PSs.nox pss_rd, ?_⟩, hm, F.kp, hv, hb⟩
  subst e
  show rdB (cxD P w K mg base ["book", "pairs", "most", "found", "last", "later", "load", "first", "at", "more"] "standing_by" (defScope (topS 62)) f cd A ou s H EX) (defBody (topS 62)) { nx := fun _ H' => Q .non H', rt := Q } (start ["book", "pairs", "most", "found", "last", "later", "load", "first", "at", "more"] [v1, v2, .non]) H
  have hr : Room 3 (cxD P w K mg base ["book", "pairs", "most", "found", "last", "later", "load", "first", "at", "more"] "standing_by" (defScope (topS 62)) f cd A ou s H EX).A := hr
  obtain ⟨res, hres⟩ := Option.isSome_iff_exists.mp hst
  have q : ∀ v' B' H', Nw B H B' H' → R B' ((standing srt b ps).getD []) v' → Q v' H' := q
  rw [hres] at q
  refine rb_par 3 4 (rdA_FE (xs := ([[]] : List Load)) (y := ([([], 0)] : List (Load × Nat))) (ev_lst (xs := ([[]] : List Load)) (eva1 (EvF.ev ev_lst0))) (EvF.ev (ev_lst (xs := ([([], 0)] : List (Load × Nat))) (eva1 (ev_tup2 (eva2 (x := ([] : Load)) (y := 0) (EvF.ev ev_lst0) (ev_nat 0)))))) sb fun q0 ws v4 B1 H1 hl n1 h0 hb0 hq lr r4 => ⟨_, _, rfl, ?_⟩) sc62.nd
  have g1 : Gr B H q0 ([[]] : List Load) B1 H1 := ⟨ws, n1, h0, hb0, hq, lr⟩
  refine rb_while (fun m σ' B2 H2 => ∃ fnd lst v4 y5 y6 y7 y8 y9, σ' = [some v1, some v2, some .non, some (.ref q0), some v4, y5, y6, y7, y8, y9] ∧ Gr B H q0 fnd B2 H2 ∧ R B2 (lst : List (Load × Nat)) v4 ∧ standLoop srt b ps m fnd lst = some res ∧ m ≤ 8 ∧ lst.length * 3 ^ m ≤ 6561 ∧ fnd.length + 6561 * m ≤ 60000 ∧ ∀ z ∈ lst, z.1.length + m ≤ 8 ∧ z.2 ≤ 3)
    (H := H1) (B := B1) ⟨8, [[]], [([], 0)], v4, none, none, none, none, none, rfl, g1, r4, hres, Nat.le_refl _, by decide, by decide, fun z hz => by cases List.mem_singleton.mp hz; decide⟩ PassesOwn.never ?_
  rintro m σ' B2 H2 ⟨fnd, lst, v4, y5, y6, y7, y8, y9, rfl, g, r4, hw, hm8, hz1, hz2, hz3⟩
  refine ⟨B2, !lst.isEmpty, g.nw.bh, Cm.et (cm_neNil (xs := lst) (ev_var 4 rfl r4) hr.units), fun ht H3 s3 => ?_, fun ht H3 s3 => ?_⟩
  · obtain ⟨m', rfl⟩ : ∃ m', m = m' + 1 := by
      cases m with
      | zero => cases lst with
        | nil => cases ht
        | cons x xs => unfold standLoop at hw; cases hw
      | succ m' => exact ⟨m', rfl⟩
    have hw' : standLoop srt b ps m' (fnd ++ (nextAll srt b ps lst).map (·.1)) (nextAll srt b ps lst) = some res := by
      cases lst with
      | nil => cases ht
      | cons x xs => unfold standLoop at hw; exact hw
    have g3 := g.grow s3
    have hlst : lst.length ≤ 6561 := Nat.le_trans (Nat.le_mul_of_pos_right _ (Nat.pow_pos (by decide))) hz1
    have hnl : ∀ xs : List (Load × Nat), (∀ z ∈ xs, z ∈ lst) → xs.length ≤ lst.length → (xs.flatMap (nextOf srt b ps)).length ≤ 19683 := fun xs _ hx => by
      have := flat_le (f := nextOf srt b ps) (k := 3) xs fun z _ => Nat.le_trans (nextOf_len b ps z) hps
      omega
    refine rb_setGr 5 (xs := ([] : List (Load × Nat))) ev_lst0 g3.nw (fun q5 B4 H4 hl4 n4 g5 g5' => ?_) sc62.nd
    have hne := g3.ne g5'
    refine rb_forS (B := B4) (xs := lst) (fun i σ' B5 H5 => ∃ y6 y7 y8 y9, σ' = [some v1, some v2, some .non, some (.ref q0), some v4, some (.ref q5), y6, y7, y8, y9] ∧ Gr B H q0 fnd B5 H5 ∧ Gr B H q5 ((lst.take i).flatMap (nextOf srt b ps)) B5 H5)
      (ei_list (ev_var 4 rfl (Rp.mono n4.bb r4))) (fun i σ B H B' H' ⟨y6, y7, y8, y9, e, ga, gb⟩ n => ⟨y6, y7, y8, y9, e, ga.step n, gb.step n⟩) (fun i σ B H ⟨_, _, _, _, _, ga, _⟩ => ga.nw.bh) ⟨y6, y7, y8, y9, rfl, g3.step n4, g5⟩ PassesOwn.never rfl ?_ ?_
    · rintro B5 s5 i ⟨load, first⟩ va σ' B6 H6 ha s6 ⟨y6, y7, y8, y9, rfl, ga, gb⟩ ra
      have hzm : (load, first) ∈ lst := List.mem_of_getElem? ha
      refine rg_pair 6 7 ra ga.nw.bh (fun vl vf rl rf => ?_) sc62.nd
      cases (show vf = _ from rf)
      have r1' := Rp.mono ga.nw.bb r1
      have r2' := Rp.mono ga.nw.bb r2
      refine rb_forS (B := B6) (xs := (List.range (ps.length - first)).map (first + ·)) (fun j σ' B7 H7 => ∃ y8 y9, σ' = [some v1, some v2, some .non, some (.ref q0), some v4, some (.ref q5), some vl, some (.int (first : Nat)), y8, y9] ∧ Gr B H q0 fnd B7 H7 ∧
          Gr B H q5 ((lst.take i).flatMap (nextOf srt b ps) ++ (((List.range (ps.length - first)).map (first + ·)).take j).filterMap (nextOne srt b ps load)) B7 H7)
        (ei_range2 (ev_var 7 rfl rfl) (ev_len (ev_var (x := ps) 1 rfl r2') E.bt.len) (Nat.le_trans hps (by decide)) ?_ E.bt.range) (fun i σ B H B' H' ⟨y8, y9, e, ga, gb⟩ n => ⟨y8, y9, e, ga.step n, gb.step n⟩) (fun i σ B H ⟨_, _, _, ga, _⟩ => ga.nw.bh) ⟨y8, y9, rfl, ga, by rw [List.take_zero, List.filterMap_nil, List.append_nil]; exact gb⟩ PassesOwn.never rfl ?_ ?_
      · exact Nat.le_trans (hz3 _ hzm).2 (by decide)
      · rintro B7 s7 j k vk σ' B8 H8 hk s8 ⟨y8, y9, rfl, gc, gd⟩ rk
        cases (show vk = _ from rk)
        have hkl : k < ps.length := by
          obtain ⟨t, ht, rfl⟩ := List.mem_map.mp (List.mem_of_getElem? hk)
          have := List.mem_range.mp ht
          omega
        have r1c := Rp.mono gc.nw.bb r1
        have r2c := Rp.mono gc.nw.bb r2
        have rlc : R B8 load vl := Rp.mono (s7.trans s8) rl
        have rp : ∀ {X : Cx} {σ' : L2.St} {p p2 p3 : Pos}, True := fun {_ _ _ _ _} => trivial
        refine rg_name 8 (rb_set 9 (B := B8) (x := plusCart load (ps.getD k (0, 0)).1 (ps.getD k (0, 0)).2) (ev_call3 (x := load) (y := (ps.getD k (0, 0)).1) (z := (ps.getD k (0, 0)).2) (fk_plus_cart E) (hr.mono (by decide))
          (eva3 (ev_var 6 rfl rlc) (ev_fst (u := ps.getD k (0, 0)) (ev_ix (xs := ps) (i := k) (ev_var 1 rfl r2c) (ev_var 8 rfl rfl) (getD_at hkl))) (ev_snd (u := ps.getD k (0, 0)) (ev_ix (xs := ps) (i := k) (ev_var 1 rfl r2c) (ev_var 8 rfl rfl) (getD_at hkl)))) (by have := (hz3 _ hzm).1; simp only at this; omega)) gc.nw.bh (fun v9 B9 H9 hl9 n9 r9 => ?_) sc62.nd) sc62.nd
        have gc9 := gc.step n9
        have gd9 := gd.step n9
        have hT : ((((List.range (ps.length - first)).map (first + ·)).take (j + 1)).filterMap (nextOne srt b ps load)) = ((((List.range (ps.length - first)).map (first + ·)).take j).filterMap (nextOne srt b ps load)) ++ (nextOne srt b ps load k).toList := by
          rw [take_snoc hk, List.filterMap_append]
          cases h : nextOne srt b ps load k with
          | none => rw [List.filterMap_cons_none h]; rfl
          | some u => rw [List.filterMap_cons_some h]; rfl
        refine rb_if (B := B9) (standsBy b (plusCart load (ps.getD k (0, 0)).1 (ps.getD k (0, 0)).2)) (et_val (ev_call2 (x := b) (y := plusCart load (ps.getD k (0, 0)).1 (ps.getD k (0, 0)).2) (fk_stands_by E) (hr.mono (by decide)) (eva2 (ev_var 0 rfl (Rp.mono n9.bb r1c)) (ev_var 9 rfl r9)) trivial)) n9.bh (fun ht H10 s10 => ?_) fun ht H10 s10 => ?_
        · refine rb_appendGr 5 (x := (plusCart load (ps.getD k (0, 0)).1 (ps.getD k (0, 0)).2, k)) (gd9.grow s10) (ev_tup2 (eva2 (ev_var 9 rfl r9) (ev_var 8 rfl (show R _ k _ from rfl)))) rfl ?_ fun B11 H11 s11 g11 hh11 hid11 => ?_
          · have h1 := hnl (lst.take i) (fun z h => List.mem_of_mem_take h) (by rw [List.length_take]; exact Nat.min_le_right _ _)
            have h2 : ((((List.range (ps.length - first)).map (first + ·)).take j).filterMap (nextOne srt b ps load)).length ≤ 3 := by
              refine Nat.le_trans (filterMap_len _ _) ?_
              rw [List.length_take, List.length_map, List.length_range]
              omega
            rw [List.length_append]
            omega
          · refine rb_nil (rb_nil ⟨B11, s8.trans (n9.bb.trans s11), _, _, rfl, (gc9.grow s10).other g11 s11 hh11 hid11 hne, ?_⟩)
            rw [hT, ← List.append_assoc]
            have : nextOne srt b ps load k = some (plusCart load (ps.getD k (0, 0)).1 (ps.getD k (0, 0)).2, k) := by
              unfold nextOne; rw [if_pos (by exact ht)]; rfl
            rw [this]
            exact g11
        · refine rb_nil (rb_nil ⟨B9, s8.trans n9.bb, _, _, rfl, gc9.grow s10, ?_⟩)
          rw [hT]
          have : nextOne srt b ps load k = none := by
            unfold nextOne; rw [if_neg (by show ¬ standsBy b (plusCart load (ps.getD k (0, 0)).1 (ps.getD k (0, 0)).2) = true; rw [ht]; decide)]
          rw [this, Option.toList_none, List.append_nil]
          exact gd9.grow s10
      · rintro σ' B7 H7 s7 ⟨y8, y9, rfl, gc, gd⟩
        refine rb_nil ⟨B7, s6.trans s7, _, _, _, _, rfl, gc, ?_⟩
        rw [List.take_of_length_le (Nat.le_refl _)] at gd
        rw [take_snoc ha, List.flatMap_append, List.flatMap_singleton]
        exact gd
    · rintro σ' B5 H5 s5 ⟨y6, y7, y8, y9, rfl, ga, gb⟩
      rw [take_all] at gb
      obtain ⟨B6, s6, ga6, r6⟩ := ga.tell2 gb hne
      have hnx : (lst.flatMap (nextOf srt b ps)) = nextAll srt b ps lst := rfl
      rw [hnx] at r6
      have hnn : (nextAll srt b ps lst).length ≤ 3 * lst.length := Nat.le_trans (nextAll_len b ps lst) (Nat.mul_le_mul_right _ hps)
      refine rb_extendGr 3 (zs := (nextAll srt b ps lst).map (·.1)) ga6 (EvF.to (evf_lc (p := fun _ => true) (g := fun z : Load × Nat => z.1) [("load", 6), ("at", 8)] (ei_list (ev_var 5 rfl r6)) (turnP 6 8 (fun u w => rfl) (fun B1 a va vb s1 _ r1 r2 s H0 C cl fp => ⟨ets_nil, fun _ => ev_var 6 rfl r1⟩) sc62.nd) sc62.nd) (by rw [filt_true])) rfl ?_ fun B7 H7 s7 g7 _ _ => ?_
      · rw [List.length_map]
        omega
      have r7 := Rp.mono s7 r6
      refine rb_no (B := B7) (EvT.to (et_and2 (t := false) (u := false) (Cm.et (cm_notN (x' := (none : Option Nat)) (ev_var 2 rfl rfl) nn_nat)) (fun h => by cases h)) rfl) g7.nw.bh fun H8 s8 => ?_
      refine rb_set 4 (B := B7) (x := nextAll srt b ps lst) (ev_var 5 rfl r7) (g7.grow s8).nw.bh (fun v9 B9 H9 hl9 n9 r9 => ?_) sc62.nd
      refine rb_nil ⟨m', Nat.lt_succ_self _, B9, _, _, v9, _, _, _, _, _, rfl, (g7.grow s8).step n9, r9, hw', by omega, ?_, ?_, ?_⟩
      · rw [Nat.pow_succ] at hz1
        have : (nextAll srt b ps lst).length * 3 ^ m' ≤ 3 * lst.length * 3 ^ m' := Nat.mul_le_mul_right _ hnn
        have e : 3 * lst.length * 3 ^ m' = lst.length * (3 ^ m' * 3) := by rw [Nat.mul_comm 3, Nat.mul_assoc, Nat.mul_comm 3]
        omega
      · rw [List.length_append, List.length_map]
        have : (nextAll srt b ps lst).length ≤ 6561 := by
          have : 3 * lst.length ≤ 6561 := by
            rw [Nat.pow_succ] at hz1
            have h3 : lst.length * 3 ≤ lst.length * (3 ^ m' * 3) := Nat.mul_le_mul_left _ (Nat.le_mul_of_pos_left _ (Nat.pow_pos (by decide)))
            omega
          omega
        omega
      · intro z hz
        have h1 := nextAll_loads (k := 8 - (m' + 1)) (fun z hz => by have := (hz3 z hz).1; omega) z hz
        have h2 := nextAll_at z hz
        omega
  · have e : fnd = res := by
      cases lst with
      | nil => cases m <;> (unfold standLoop at hw; exact Option.some.inj hw)
      | cons x xs => cases ht
    subst e
    exact rb_retGr 3 (g.grow s3) rfl q
end
end LK
/-! ## F16 -/
namespace LK
open PySem PySem.Spec PyProof.Rows L2
open Rp (R)
theorem standLoop_loads {b : Book} {ps : List (Nat × Nat)} : ∀ (m : Nat) (fnd : List Load) (lst : List (Load × Nat)) (res : List Load), standLoop srt b ps m fnd lst = some res → (∀ l ∈ fnd, l.length ≤ 8) → (∀ z ∈ lst, z.1.length + m ≤ 8) → ∀ l ∈ res, l.length ≤ 8
  | m, fnd, [], res, h, hf, hl => by
    have e : fnd = res := by cases m <;> (unfold standLoop at h; exact Option.some.inj h)
    subst e
    exact hf
  | 0, fnd, x :: xs, res, h, hf, hl => by unfold standLoop at h; cases h
  | m + 1, fnd, x :: xs, res, h, hf, hl => by
    unfold standLoop at h
    have hn := nextAll_loads (book := b) (ps := ps) (last := x :: xs) (k := 8 - (m + 1)) fun z hz => by have := hl z hz; omega
    have h8 : m + 1 ≤ 8 := by have := hl x (List.mem_cons_self ..); omega
    refine standLoop_loads m _ _ res h (fun l hl => ?_) fun z hz => by have := hn z hz; omega
    rcases List.mem_append.mp hl with h1 | h1
    · exact hf l h1
    · obtain ⟨z, hz, rfl⟩ := List.mem_map.mp h1
      have := hn z hz
      omega
theorem standing_loads {b : Book} {ps : List (Nat × Nat)} : ∀ l ∈ (standing srt b ps).getD [], l.length ≤ 8 := by
  cases h : standing srt b ps with
  | none => intro l hl; cases hl
  | some res => exact standLoop_loads 8 _ _ res h (fun l hl => by cases List.mem_singleton.mp hl; decide) (fun z hz => by cases List.mem_singleton.mp hz; decide)
def toLoads (b : Book) (near : List Nat) (t : Nat) : List Load := srt (((standing srt b (pairsTo near t)).getD []).drop 1)
theorem toLoads_len {b : Book} {near : List Nat} {t : Nat} : ∀ l ∈ toLoads b near t, l.length ≤ 8 := fun l hl => standing_loads l (List.mem_of_mem_drop ((srt_perm _).mem_iff.mp hl))
/-- what is asked of a web all over -/
structure WOk {C W : Addr} (x : Wb C W) : Prop where
  len : x.books.length = (yardsIn x.cty.ties).length
  n : x.cty.ties.length ≤ 100
  row : ∀ r ∈ x.cty.ties, r.length ≤ 4
  inn : ∀ r ∈ x.cty.ties, ∀ p ∈ r, p < x.cty.ties.length
  ps : ∀ y ∈ yardsIn x.cty.ties, ∀ t ∈ rowAt x.cty.ties y, (pairsTo (rowAt x.cty.ties y) t).length ≤ 3
  std : ∀ y ∈ yardsIn x.cty.ties, ∀ t ∈ rowAt x.cty.ties y, (standing srt (bookAt x.cty.ties x.books y) (pairsTo (rowAt x.cty.ties y) t)).isSome = true
  beh : ∀ s ∈ yardSides x.cty.ties, behindOk x.cty.ties s.1 s.2 = true
  ahd : ∀ y ∈ yardsIn x.cty.ties, ∀ g, g < x.cty.ties.length → g ≠ y → g < x.cty.ahead.length ∧ y < (x.cty.ahead.getD g []).length ∧ (x.cty.ahead.getD g []).getD y 0 ∈ rowAt x.cty.ties y
section
variable {C W : Addr} {x : Wb C W}
theorem row_mem {ties : List (List Nat)} {y : Nat} (h : y < ties.length) : rowAt ties y ∈ ties := List.mem_of_getElem? (getD_at h)
theorem WOk.rowLe (o : WOk x) {y : Nat} (h : y ∈ yardsIn x.cty.ties) : (rowAt x.cty.ties y).length ≤ 4 := o.row _ (row_mem (mem_yards h).1)
end
/-- one neighbour, many loads: where a load shuts one out -/
def others (near : List Nat) (t : Nat) : List Nat := near.filter fun p => !decide (p = t)
def wRows (b : Book) (near : List Nat) (t : Nat) : List (Nat × Load) := srt ((toLoads b near t).map fun l => (weight l, l))
def shutAt (b : Book) (near : List Nat) (t : Nat) (z : Nat × Load) : Option (Load × Nat) := ((others near t).find? fun p => isShut b t z.2 p).map fun p => (z.2, p)
def witness (b : Book) (near : List Nat) (t : Nat) : Option (Load × Nat) := (wRows b near t).findSome? (shutAt b near t)
theorem drop_at {α : Type} {xs : List α} {i : Nat} {a : α} (h : xs[i]? = some a) : xs.drop i = a :: xs.drop (i + 1) := by
  obtain ⟨hi, rfl⟩ := List.getElem?_eq_some_iff.mp h
  exact List.drop_eq_getElem_cons hi
section
variable {P : Program} {w : World} {K : PySem.W.Frag} {mg : Str → Option Value} {base : Heap} {cC cW : Addr}
theorem sc64 : FnScope ["web", "yard", "target", "pairs"] ["web", "yard", "target"] (defScope (topS 64)) := ⟨rfl, rfl, rfl, by decide +kernel, rfl, by decide +kernel, by decide +kernel⟩
theorem fk_towards (E : Tops K mg cC cW) : Fk P w K mg base "towards" 5 ["web", "yard", "target"] (Sp3 (fun (x : Wb cC cW) (y t : Nat) => WOk x ∧ y ∈ yardsIn x.cty.ties ∧ t ∈ rowAt x.cty.ties y) fun x y t => toLoads (bookAt x.cty.ties x.books y) (rowAt x.cty.ties y) t) :=
  fk3 (N := ["web", "yard", "target", "pairs"]) E.d64 sc64 fun f cd A ou s H EX v1 v2 v3 B x y t Q hr sb r1 r2 r3 ⟨ok, hy, ht⟩ q =>
    rb_set 3 (B := B) (x := pairsTo (rowAt x.cty.ties y) t) (ev_call3 (x := x.cty) (y := y) (z := t) (fk_pairs_towards E) (hr.mono (by decide)) (eva3 (ev_call1 (x := x) (fk_country_of E) (hr.mono (by decide)) (eva1 (ev_var 0 rfl r1)) trivial) (ev_var 1 rfl r2) (ev_var 2 rfl r3)) ⟨(mem_yards hy).1, Nat.le_trans (ok.rowLe hy) (by decide)⟩) sb (fun v4 B1 H1 hl1 n1 r4 =>
      rb_ret (EvF.ev (evf_sorted (EvF.ev (evf_sl1 (ev_call2N (x := bookAt x.cty.ties x.books y) (y := pairsTo (rowAt x.cty.ties y) t) (fk_standing_by E) (hr.mono (by decide)) (eva2 (ev_call2 (x := x) (y := y) (fk_book_at E) (hr.mono (by decide)) (eva2 (ev_var 0 rfl (Rp.mono n1.bb r1)) (ev_var 1 rfl r2)) ⟨hy, ok.len⟩) (ev_var 3 rfl r4)) ⟨ok.ps y hy t ht, ok.std y hy t ht⟩))) hr.units E.bt.sorted)) n1.bh fun v' B' H' n r => q v' B' H' (n1.trans n) r) sc64.nd
theorem sc68 : FnScope ["web", "yard", "target", "others", "book", "rows", "many", "load", "place"] ["web", "yard", "target"] (defScope (topS 68)) := ⟨rfl, rfl, rfl, by decide +kernel, rfl, by decide +kernel, by decide +kernel⟩
theorem fk_witness_of (E : Tops K mg cC cW) : Fk P w K mg base "witness_of" 6 ["web", "yard", "target"] (Sp3 (fun (x : Wb cC cW) (y t : Nat) => WOk x ∧ y ∈ yardsIn x.cty.ties ∧ t ∈ rowAt x.cty.ties y) fun x y t => witness (bookAt x.cty.ties x.books y) (rowAt x.cty.ties y) t) :=
  fk3 (N := ["web", "yard", "target", "others", "book", "rows", "many", "load", "place"]) E.d68 sc68 fun f cd A ou s H EX v1 v2 v3 B x y t Q hr sb r1 r2 r3 ⟨ok, hy, ht⟩ q => by
    have hyl := (mem_yards hy).1
    generalize hbk : bookAt x.cty.ties x.books y = bk at *
    refine rb_par 3 4 (rdA2 (x := others (rowAt x.cty.ties y) t) (y := bookAt x.cty.ties x.books y) (Ev.to (EvF.ev (evf_lc (p := fun p => !decide (p = t)) (g := fun p => p) [("place", 8)] (ei_list (ev_call2 (x := x.cty) (y := y) (fk_beside E) (hr.mono (by decide)) (eva2 (ev_pC (c := x) E (hr.mono (by decide)) (ev_var 0 rfl r1)) (ev_var 1 rfl r2)) hyl))
      (turnN 8 (fun u => rfl) (fun B1 a va s1 _ r s H0 C cl fp => ⟨ets_one (Cm.et (cm_ne (ev_var 8 rfl r) (ev_var 2 rfl (Rp.mono s1 r3)))), fun _ => ev_var 8 rfl r⟩) sc68.nd) sc68.nd)) (List.map_id' _)) (ev_call2 (x := x) (y := y) (fk_book_at E) (hr.mono (by decide)) (eva2 (ev_var 0 rfl r1) (ev_var 1 rfl r2)) ⟨hy, ok.len⟩) sb fun v4 v5 B1 H1 hl1 n1 r4 r5 => ⟨_, _, rfl, ?_⟩) sc68.nd
    rw [hbk] at r5
    refine rb_setLcT 5 (B := B1) (p := fun _ : Load => true) (g := fun l => (weight l, l)) [("load", 7)] (ei_list (Ev.to (ev_call3 (x := x) (y := y) (z := t) (fk_towards E) (hr.mono (by decide)) (eva3 (ev_var 0 rfl (Rp.mono n1.bb r1)) (ev_var 1 rfl r2) (ev_var 2 rfl r3)) ⟨ok, hy, ht⟩) (congrArg (fun b => toLoads b (rowAt x.cty.ties y) t) hbk)))
      (turnN 7 (fun u => rfl) (fun B2 a va s2 _ r s H0 C cl fp => ⟨ets_nil, fun _ => ev_tup2 (eva2 (ev_call1 (x := a) (fk_load_weight E) (hr.mono (by decide)) (eva1 (ev_var 7 rfl r)) trivial) (ev_var 7 rfl r))⟩) sc68.nd) n1.bh (fun v6 B2 H2 hl2 n2 r6 => ?_) sc68.nd
    rw [filt_true] at r6
    have n12 := n1.trans n2
    refine rb_forS (B := B2) (xs := wRows bk (rowAt x.cty.ties y) t) (fun i σ' B3 H3 => ∃ y7 y8 y9, σ' = [some v1, some v2, some v3, some v4, some v5, some v6, y7, y8, y9] ∧ Nw B H B3 H3 ∧ Same B2 B3 ∧ witness bk (rowAt x.cty.ties y) t = ((wRows bk (rowAt x.cty.ties y) t).drop i).findSome? (shutAt bk (rowAt x.cty.ties y) t))
      (ei_list (EvF.ev (evf_sorted (ev_var (x := (toLoads bk (rowAt x.cty.ties y) t).map fun l => (weight l, l)) 5 rfl r6) hr.units E.bt.sorted))) (fun i σ B H B' H' ⟨a, b, c, e, N, s2, z⟩ n => ⟨a, b, c, e, N.trans n, s2.trans n.bb, z⟩) (fun i σ B H ⟨_, _, _, _, N, _, _⟩ => N.bh) ⟨none, none, none, rfl, n12, Same.refl _, rfl⟩ PassesOwn.never rfl ?_ ?_
    · rintro B3 s3 i ⟨mn, ld⟩ va σ' B4 H4 ha s4 ⟨y7, y8, y9, rfl, N, s24, hw⟩ ra
      refine rg_pair 6 7 ra N.bh (fun vm vl rm rl => ?_) sc68.nd
      rw [drop_at ha, List.findSome?_cons] at hw
      have hll : ld.length ≤ 1000 := by
        have h1 := (srt_perm _).mem_iff.mp (List.mem_of_getElem? ha)
        obtain ⟨l, hl, e⟩ := List.mem_map.mp h1
        cases e
        exact Nat.le_trans (toLoads_len _ hl) (show 8 ≤ 1000 by decide)
      have r4' := Rp.mono (n2.bb.trans s24) r4
      have r5' := Rp.mono (n2.bb.trans s24) r5
      refine rb_forS (B := B4) (xs := others (rowAt x.cty.ties y) t) (fun j σ' B5 H5 => ∃ y9, σ' = [some v1, some v2, some v3, some v4, some v5, some v6, some vm, some vl, y9] ∧ Nw B H B5 H5 ∧ Same B4 B5 ∧ (others (rowAt x.cty.ties y) t).find? (fun p => isShut bk t ld p) = ((others (rowAt x.cty.ties y) t).drop j).find? (fun p => isShut bk t ld p))
        (ei_list (ev_var 3 rfl r4')) (fun i σ B H B' H' ⟨a, e, N, s2, z⟩ n => ⟨a, e, N.trans n, s2.trans n.bb, z⟩) (fun i σ B H ⟨_, _, N, _, _⟩ => N.bh) ⟨y9, rfl, N, Same.refl _, rfl⟩ PassesOwn.never rfl ?_ ?_
      · rintro B5 s5 j p vp σ' B6 H6 hp s6 ⟨y9, rfl, N6, s46, hf⟩ rp
        rw [drop_at hp, List.find?_cons] at hf
        refine rg_name 8 (rb_if (B := B6) (isShut bk t ld p) (et_val (ev_call4 (x := bk) (y := t) (z := ld) (w := p) (fk_is_shut E) (hr.mono (by decide)) (eva4 (ev_var 4 rfl (Rp.mono s46 r5')) (ev_var 2 rfl (show R B6 t v3 from r3)) (ev_var 7 rfl (Rp.mono s46 rl)) (ev_var 8 rfl rp)) hll)) N6.bh (fun hsh H7 s7 => ?_) fun hsh H7 s7 => ?_) sc68.nd
        · have N7 := N6.trans (Nw.grow N6.bh s7)
          rw [hsh] at hf
          have hw' : witness bk (rowAt x.cty.ties y) t = some (ld, p) := by
            rw [hw]; unfold shutAt; rw [hf]; rfl
          refine rb_ret (B := B6) (x := some (ld, p)) (ev_some (ev_tup2 (eva2 (ev_var 7 rfl (Rp.mono s46 rl)) (ev_var 8 rfl rp)))) N7.bh fun v' B' H' n r => q v' B' H' (N7.trans n) ?_
          rw [hw']
          exact r
        · rw [hsh] at hf
          exact rb_nil (rb_nil ⟨B6, s6, _, rfl, N6.trans (Nw.grow N6.bh s7), s46, hf⟩)
      · rintro σ' B5 H5 s5 ⟨y9, rfl, N5, s45, hf⟩
        rw [List.drop_length] at hf
        refine rb_nil ⟨B5, s4.trans s45, _, _, _, rfl, N5, s24.trans s45, ?_⟩
        rw [hw]
        have : shutAt bk (rowAt x.cty.ties y) t (mn, ld) = none := by unfold shutAt; rw [hf]; rfl
        rw [this]
    · rintro σ' B3 H3 s3 ⟨y7, y8, y9, rfl, N, s23, hw⟩
      rw [List.drop_length] at hw
      refine rb_ret (B := B3) (x := (none : Option (Load × Nat))) ev_non N.bh fun v' B' H' n r => q v' B' H' (N.trans n) ?_
      rw [hw]
      exact r
end
end LK
/-! ## L12 -/
namespace LK
open PySem PySem.Spec PyProof.Rows L2
open Rp (R)
/-! ### sorted(xs, key=f), f a def of one's own -/
/-- no frame, no cell, no pin, no record from ahead -/
structure Apart (X : Cx) (pins : List (Addr × Obj)) (c : Addr) : Prop where
  fr : c ∉ frs X.stack
  fs : c ∉ X.fs
  ex : c ∈ X.ex ∨ X.s_0.heap.objs.size ≤ c
  loc : c ≠ X.env.locals
  cell : ∀ x d, X.env.cells.lookup x = some d → d ≠ c
  pin : ∀ p ∈ X.pn ++ pins, p.1 ≠ c
section
variable {X : Cx} {pins : List (Addr × Obj)} {σ : L2.St} {H : Hp} {s : Shared}
theorem apart_of (I : L2.Inv X pins σ H s) {c : Addr} (h : s.heap.objs.size ≤ c) : Apart X pins c where
  fr := fun z => by
    rcases List.mem_cons.mp (I.stkSub c z) with e | e
    · exact Nat.lt_irrefl _ (Nat.lt_of_lt_of_le (e ▸ I.lt) h)
    · exact I.nofs h e
  fs := I.nofs h
  ex := .inr (Nat.le_trans I.sz h)
  loc := fun e => Nat.lt_irrefl _ (Nat.lt_of_lt_of_le (e ▸ I.lt) h)
  cell := fun x d e z => by
    obtain ⟨v, o, ho, _⟩ := I.cell x d e
    exact Nat.lt_irrefl _ (Nat.lt_of_lt_of_le (z ▸ Heap.lt_size ho) h)
  pin := fun p hp z => by
    exact Nat.lt_irrefl _ (Nat.lt_of_lt_of_le (z ▸ Heap.lt_size (I.pin p hp).1) h)
end
section
variable {α : Type} [Rp α] {X : Cx} {pins : List (Addr × Obj)} {σ : L2.St} {H B : Hp} {s : Shared} {a kS f : Addr} {fd : FuncData} {ps : List Str} {k e1 : Nat} {key : α → Nat} {pre : α → Prop} {xs : List α} {ws : List V} {vs : List Value} {E : Value → Shared → Prop} {P : PySem.Fin → Shared → Prop}
theorem key_call (F : FnOk X.prog X.w X.K X.mg X.base CX0 k f fd ps (Sp1 pre key)) (hb : Binds X.K fd ps []) (hr : Room k X.A.in1.in1) (I : L2.Inv X pins σ H s) (sb : Same B H) {y : α} {v : V} {u : Value} (r : R B y v) (hp : pre y) (rv : RelV v u) {Q : Value → Shared → Prop}
    (q : ∀ t H' s', L2.Inv X pins σ H' s' → Same H H' → (∀ c o, Apart X pins c → H c = none → s.heap.get? c = some o → H' c = none ∧ s'.heap.get? c = some o) → Q (.int (key y : Nat) t) s') :
    wpAny (model X.prog X.w) X.A.in1.in1 (call (.ref f) [u]) Q (fun _ _ => False) s := by
  have r2 : Vals [v] [u] := .cons rv .nil
  have h : Sp1 pre key [v] H (fun v' H' => v' = .int (key y : Nat) ∧ Same H H') E0 := ⟨B, y, v, rfl, sb, r, hp, fun v' B' H' n r' => ⟨r', n.hh⟩⟩
  have hl : ([u] ++ ([] : List Value)).length = ps.length := by
    rw [← F.len _ _ _ _ h]
    rfl
  refine wpAny_call (codeAny_mono (F.run X.A.in1.in1 X.stack s H ⟨[u], []⟩ [u] [v] _ E0 hr I.env0.in1.in1 (hb s [u] I.kIn hl) r2 h) fun r s' hq => ?_)
  cases r with
  | error e => exact hq
  | ok fl =>
    cases fl with
    | ret w =>
      obtain ⟨v', H', os, bare, un, hok, rel, rfl, sH⟩ := hq
      obtain ⟨t, rfl⟩ := rel
      obtain ⟨hh, g, d, tk, os'⟩ := s'
      obtain rfl : os' = s.os := os
      exact q t H' _ (I.call (h' := hh) (g' := g) (d' := d) (t' := tk) (ch := []) un hok bare (fun b z => absurd z (by simp))) sH fun c o A hc ho => ⟨un.free c o ho hc (by simp), un.keep c o ho hc A.fr (by simp)⟩
    | next => exact False.elim hq
    | brk => exact False.elim hq
    | cont => exact False.elim hq
def kInt (n : Nat) : PyData := .int (n : Int)
theorem eachF {B : Hp} : ∀ {xs : List α} {vs : List V} {us : List Value}, LR B xs vs → Vals vs us → PySem.W.EachIs (fun u x => ∃ v, RelV v u ∧ R B x v) us xs
  | [], vs, us, l, r => by
    have : vs = [] := List.eq_nil_of_length_eq_zero l.1
    subst this; cases r; exact .nil
  | x :: xs, [], us, l, r => by have := l.1; cases this
  | x :: xs, v :: vs, us, l, r => by
    cases r with
    | cons r1 r2 => exact .cons ⟨v, r1, l.tail.1⟩ (eachF l.tail.2 r2)
theorem ofEachF {B : Hp} : ∀ {xs : List α} {us : List Value}, PySem.W.EachIs (fun u x => ∃ v, RelV v u ∧ R B x v) us xs → ∃ vs, Vals vs us ∧ LR B xs vs
  | _, _, .nil => ⟨[], .nil, LR.nil⟩
  | _, _, .cons ⟨v, r, h⟩ t => by
    obtain ⟨vs, h1, h2⟩ := ofEachF t
    exact ⟨v :: vs, .cons r h1, LR.cons h h2⟩
theorem kInts_alike (ns : List Nat) : PySem.W.AllAlike (ns.map kInt) := fun d hd d' hd' => by
  obtain ⟨m, _, rfl⟩ := List.mem_map.mp hd
  obtain ⟨n, _, rfl⟩ := List.mem_map.mp hd'
  simp [kInt, PySem.W.alike]
theorem kInts_sort (ns : List Nat) : PySem.W.Sortable (ns.map kInt) := .inr fun d hd => by
  obtain ⟨m, _, rfl⟩ := List.mem_map.mp hd
  simp [kInt]
theorem key_rest (F : FnOk X.prog X.w X.K X.mg X.base CX0 k f fd ps (Sp1 pre key)) (hb : Binds X.K fd ps []) (hr : Room k X.A.in1.in1) (I : L2.Inv X pins σ H s) (sb : Same B H) (lr : LR B xs ws) (rv : Vals ws vs) (hp : ∀ x ∈ xs, pre x)
    (Aa : Apart X pins a) (Ak : Apart X pins kS) (Ha : H a = none) (Hk : H kS = none) (nk : s.heap.get? kS = some (seqObj "list" #[] 0)) (na : s.heap.get? a = some (seqObj "list" #[] e1)) (hka : kS ≠ a) (hZ : vs.length ≤ sizeLine)
    (h : ∀ H' s' ov ys, L2.Inv X pins σ H' s' → Same H H' → H' a = some (.lst ov) → LR B ys ov → ys.Perm xs → P (.done (.ret .none)) s') :
    wpAny (model X.prog X.w) X.A.in1.in1 (ksk_rest a (.ref f) false vs.toArray e1 (.ref kS)) P E s := by
  have hwl : ws.length = vs.length := rv.length
  have hxl : xs.length = vs.length := by rw [← lr.1]; exact hwl
  unfold ksk_rest
  refine wpAny_bind (wpAny_rule ?_)
  first
    | rw [List.forIn_toArray]
    | (rw [← Array.forIn_toList]; simp only [List.toList_toArray])
    | rw [← Array.forIn_toList]
  refine wpAny_bind (ksk_fold (fun i s' => ∃ Hi kA e, L2.Inv X pins σ Hi s' ∧ Same H Hi ∧ Hi a = none ∧ Hi kS = none ∧ s'.heap.get? kS = some (seqObj "list" kA e) ∧ s'.heap.get? a = some (seqObj "list" #[] e1) ∧ PySem.W.EachIs (fun v (n : Nat) => ∃ t, v = Value.int (n : Int) t) kA.toList ((xs.take i).map key)) vs 0 s
    ⟨H, #[], 0, I, Same.refl _, Ha, Hk, nk, na, by rw [List.take_zero]; exact .nil⟩ ?step ?done)
  case step =>
    rintro j x s' hx ⟨Hi, kA, e, Ii, sH, Hia, Hik, nk', na', hk⟩
    simp only [Nat.zero_add] at hk ⊢
    have hj : j < vs.length := lt_of_at hx
    obtain ⟨y, hy⟩ : ∃ y, xs[j]? = some y := ⟨_, List.getElem?_eq_getElem (by omega)⟩
    obtain ⟨v, hv, ry⟩ := lr.2 j y hy
    obtain ⟨u, hu, rvu⟩ := rv.get hv
    rw [hx] at hu
    cases hu
    have hz : kA.size ≤ vs.length := by
      have h1 := hk.length
      rw [Array.length_toList, List.length_map, List.length_take] at h1
      omega
    refine wpAny_bind (wpAny_attempt (wpAny_mono (key_call F hb hr Ii (sb.trans sH) ry (hp y (List.mem_of_getElem? hy)) rvu (Q := fun r s'' => ∃ t H' , r = Value.int (key y : Nat) t ∧ L2.Inv X pins σ H' s'' ∧ Same Hi H' ∧ (H' kS = none ∧ s''.heap.get? kS = some (seqObj "list" kA e)) ∧ (H' a = none ∧ s''.heap.get? a = some (seqObj "list" #[] e1)))
      fun t H' s'' I' sH' kp => ⟨t, H', rfl, I', sH', kp kS _ Ak Hik nk', kp a _ Aa Hia na'⟩) (fun r s'' he => ?_) fun _ _ hF => hF.elim))
    obtain ⟨t, H', rfl, I', sH', ⟨hk1, hk2⟩, ha1, ha2⟩ := he
    try dsimp only
    have s1 := Heap.SameBut.update s''.heap kS (Obj.mapSeq (·.push (Value.int (key y : Nat) t)))
    obtain ⟨c2, hc2⟩ : ∃ c2, (s''.heap.update kS (Obj.mapSeq (·.push (Value.int (key y : Nat) t)))).get? kS = some (seqObj "list" (kA.push (Value.int (key y : Nat) t)) c2) := ⟨_, get?_update_seq hk2 (·.push (Value.int (key y : Nat) t))⟩
    refine wpAny_bind (listUpdate_at hk2 rfl ?_ (Nat.le_trans hz hZ) (Nat.le_trans (Nat.le_of_eq (Array.size_push ..)) (Nat.succ_le_succ (Nat.le_trans hz hZ))))
    refine wpAny_pure ⟨rfl, H', kA.push (Value.int (key y : Nat) t), c2, I'.turned (fun b o hb eb => (s1.2 b hb).trans eb) hk1 Ak.loc Ak.ex Ak.cell Ak.pin, sH.trans sH', ha1, hk1, hc2, (s1.2 a hka.symm).trans ha2, ?_⟩
    rw [Array.toList_push, take_snoc hy, List.map_append]
    exact PySem.W.each_snoc (R := fun v (n : Nat) => ∃ t, v = Value.int (n : Int) t) ⟨t, rfl⟩ hk
  case done =>
    rintro s' ⟨Hi, kA, e, Ii, sH, Hia, Hik, nk', na', hk⟩
    rw [Nat.zero_add, show xs.take vs.length = xs by rw [← hxl]; exact take_all xs] at hk
    have hsz : kA.size = vs.length := by
      have h1 := hk.length
      rw [Array.length_toList, List.length_map] at h1
      omega
    have hk' : PySem.W.EachIs (fun v d => ∃ as, Reads s'.heap v d as) kA.toList (xs.map fun x => kInt (key x)) := by
      have : ∀ {us : List Value} {ns : List Nat}, PySem.W.EachIs (fun v (n : Nat) => ∃ t, v = Value.int (n : Int) t) us ns → PySem.W.EachIs (fun v d => ∃ as, Reads s'.heap v d as) us (ns.map kInt) := by
        intro us ns hh
        induction hh with
        | nil => exact .nil
        | cons h1 _ ih =>
          obtain ⟨t, rfl⟩ := h1
          exact .cons (Dp.reads Ii (PyData.int _) (V.int _) _ (Dp.int _) ⟨t, rfl⟩) ih
      have h2 := this hk
      rw [List.map_map] at h2
      exact h2
    have ek : (xs.map fun x => kInt (key x)) = (xs.map key).map kInt := by rw [List.map_map]; rfl
    have hal : PySem.W.AllAlike (xs.map fun x => kInt (key x)) := by rw [ek]; exact kInts_alike _
    have hso : PySem.W.Sortable (xs.map fun x => kInt (key x)) := by rw [ek]; exact kInts_sort _
    have hu : ∀ d, d ∈ (xs.map fun x => kInt (key x)) → X.A.in1.in1.units + d.depth < cLine := fun d hd => by
      obtain ⟨m, _, rfl⟩ := List.mem_map.mp hd
      have e0 : (kInt (key m)).depth = 0 := by simp [kInt, PyData.depth]
      rw [e0]
      exact Nat.lt_of_le_of_lt (Nat.add_le_add_left (Nat.zero_le 64) _) hr.units
    try dsimp only
    refine wpAny_bind (listItems_at nk' rfl ?_)
    refine PySem.W.keyH_end (κ := PySem.W.dataKind s'.heap (xs.map fun x => kInt (key x))) (h₁ := PySem.W.hideAll s'.heap [kS]) (fun b o _ hb => PySem.W.of_hideAll [kS] hb) (PySem.W.hideAll_none [kS] (List.mem_singleton.mpr rfl)) nk' na' hka (PySem.W.SortsAt.data (s := s') hk' hal hso hu) hsz hZ fun h3 tk3 c k3 n3 => ?_
    have ko : PySem.W.KeyedOut false (xs.map fun x => kInt (key x)) vs (PySem.W.sortVals (PySem.W.dataKind s'.heap (xs.map fun x => kInt (key x))) false kA.toList vs) := ⟨s'.heap, kA.toList, hal, rfl, hk'⟩
    have eo := PySem.W.keyedOut_each (fun x => kInt (key x)) ko (eachF lr rv)
    obtain ⟨ov, ho1, ho2⟩ := ofEachF eo
    have hperm := List.mergeSort_perm xs (PySem.W.dataLe false fun x => kInt (key x))
    have hol : ov.length ≤ sizeLine := by rw [ho2.1, hperm.length_eq, hxl]; exact hZ
    have keep : ∀ b o, b ≠ a → b ≠ kS → s'.heap.get? b = some o → h3.get? b = some o := fun b o nb nk eb => k3 b o nb (PySem.W.hideAll_get [kS] eb (by simpa using nk))
    refine h (upd Hi a (.lst ov)) _ ov _ (Ii.step (h' := h3) (H' := upd Hi a (.lst ov)) (g' := s'.gens) (t' := tk3) (d' := s'.drawn) (ch := [a, kS]) ?_ ?_ ?_ ?_ ?_ ?_ ?_ ?_ ?_ ?_ Ii.bare) (sH.trans (same_new Hia)) upd_same ho2 hperm
    · intro b hb
      rcases List.mem_cons.mp hb with rfl | hb
      · exact ⟨Aa.ex, Aa.loc, Aa.cell, Aa.pin⟩
      · cases List.mem_singleton.mp hb
        exact ⟨Ak.ex, Ak.loc, Ak.cell, Ak.pin⟩
    · exact fun b o _ _ hc eb _ => keep b o (fun z => hc (by simp [z])) (fun z => hc (by simp [z])) eb
    · exact fun b o _ _ hc eb _ => ⟨o.slots, keep b o (fun z => hc (by simp [z])) (fun z => hc (by simp [z])) eb⟩
    · exact fun b o hc _ hn => by rw [upd_ne (fun z => hc (by simp [z]))]; exact hn
    · exact fun b o hc eb => ⟨o, keep b o (fun z => hc (by simp [z])) (fun z => hc (by simp [z])) eb⟩
    · exact fun b zs eb => by rw [upd_ne (ne_of_none eb Hia)]; exact eb
    · exact fun b o u eb => by rw [upd_ne (ne_of_none eb Hia)]; exact eb
    · exact fun b qs eb => ⟨#[], by rw [upd_ne (ne_of_none eb Hia), eb]; simp⟩
    · rintro m ⟨o, es, ep, ho, hr⟩
      exact ⟨o, es, ep, keep _ o (Ne.symm Aa.loc) (Ne.symm Ak.loc) ho, hr⟩
    · intro b u eb
      by_cases hba : b = a
      · subst hba
        rw [upd_same] at eb
        cases eb
        exact ⟨hol, _, c, ho1, n3⟩
      · rw [upd_ne hba] at eb
        refine (Ii.hok b u eb).stay (fun c' v' hc q => ?_) (fun c' q => by rw [upd_ne (ne_of_none q Hia)]; exact q) fun c' zs q => by rw [upd_ne (ne_of_none q Hia)]; exact q
        have hn : ∀ d, Hi d = none → c' ≠ d := fun d hd z => by
          rcases hc with z2 | z2
          · rw [← z, z2, eb] at hd; cases hd
          · rw [← z, z2] at hd; cases hd
        exact keep c' v' (hn a Hia) (hn kS Hik) q
theorem cr_sortedKey {n : Str} (F : Fk X.prog X.w X.K X.mg X.base n k ps (Sp1 pre key)) (hr : Room (k + 2) X.A) : CallRK X (.builtin "sorted") ["key"] (fun us zs H Q => ∃ (B : Hp) (p g : Addr) (ws : List V) (xs : List α), us = [.ref p] ∧ zs = [.ref g] ∧ X.mg n = some (.ref g) ∧ Same B H ∧ H p = some (.lst ws) ∧ LR B xs ws ∧ (∀ x ∈ xs, pre x) ∧
    ∀ q ov ys H', Same H H' → H q = none → H' q = some (.lst ov) → LR B ys ov → ys.Perm xs → Q (.ref q) H') := by
  intro pins s σ H us zs uv zv Q I r rz h
  obtain ⟨B, p, g, ws, xs, rfl, rfl, hg, sb, hp, lr, hpre, q⟩ := h
  obtain ⟨f, fd, G, hm, hkp, hb⟩ := F
  rw [hg] at hm
  cases hm
  rw [Vals.ref1 r, Vals.ref1 rz]
  obtain ⟨its, rv, hl, hz⟩ := I.list (SqL.of hp)
  have hz' : its.length ≤ sizeLine := by rw [← rv.length]; exact hz
  have hr2 : Room k X.A.in1.in1 := hr.in1.in1
  show wpAny _ _ (call (.builtin "sorted") [.ref p] [(Str.ofString "key", .ref g)]) _ _ _
  refine PySem.W.sorted_of_sort hl.isList hz' (ksk_s1 _ _) (fun x => ksk_l1 _ _) fun E' => ?_
  rw [ksk_t1]
  have ho := PySem.W.copyHeap_at s.heap its
  have ha : s.heap.objs.size + 1 < (PySem.W.copyHeap s.heap its).objs.size := Heap.lt_size ho
  obtain ⟨e1, ho1⟩ : ∃ e1, ((PySem.W.copyHeap s.heap its).update (s.heap.objs.size + 1) (Obj.mapSeq fun _ => (#[] : Array Value))).get? (s.heap.objs.size + 1) = some (seqObj "list" #[] e1) := ⟨_, get?_update_seq ho fun _ => #[]⟩
  have hkS : (((PySem.W.copyHeap s.heap its).update (s.heap.objs.size + 1) (Obj.mapSeq fun _ => (#[] : Array Value))).push (seqObj "tuple" its.toArray 0)).objs.size = (PySem.W.copyHeap s.heap its).objs.size + 1 := by rw [size_push', Heap.size_update]
  unfold ksk_tree
  refine wpAny_bind (listItems_at ho rfl ?_)
  refine wpAny_bind (listUpdate_at ho rfl ?_ (by rw [List.size_toArray]; exact hz') (Nat.zero_le _))
  refine wpAny_bind (seqEpoch_at ho1 rfl ?_)
  refine wpAny_bind (wpAny_newTuple ?_ (by show its.length ≤ _; exact hz'))
  refine wpAny_bind (wpAny_newList ?_ (Nat.zero_le _))
  refine wpAny_holding ?_
  have k5 : ∀ b o, s.heap.get? b = some o → ((((PySem.W.copyHeap s.heap its).update (s.heap.objs.size + 1) (Obj.mapSeq fun _ => (#[] : Array Value))).push (seqObj "tuple" its.toArray 0)).push (seqObj "list" #[] 0)).get? b = some o := fun b o eb =>
    Heap.get?_push_of_some _ (Heap.get?_push_of_some _ ((Heap.get?_update_ne _ _ _ _ (Nat.ne_of_lt (Nat.lt_succ_of_lt (Heap.lt_size eb)))).trans (PySem.W.copyHeap_old eb)))
  have hsa : s.heap.objs.size ≤ s.heap.objs.size + 1 := Nat.le_succ _
  have hsk : s.heap.objs.size ≤ (((PySem.W.copyHeap s.heap its).update (s.heap.objs.size + 1) (Obj.mapSeq fun _ => (#[] : Array Value))).push (seqObj "tuple" its.toArray 0)).objs.size := by rw [hkS]; omega
  exact key_rest (s := { s with heap := (((PySem.W.copyHeap s.heap its).update (s.heap.objs.size + 1) (Obj.mapSeq fun _ => (#[] : Array Value))).push (seqObj "tuple" its.toArray 0)).push (seqObj "list" #[] 0) }) (kS := (((PySem.W.copyHeap s.heap its).update (s.heap.objs.size + 1) (Obj.mapSeq fun _ => (#[] : Array Value))).push (seqObj "tuple" its.toArray 0)).objs.size)
    G hb hr2 (I.kept (t' := s.toks) k5) sb lr rv hpre (apart_of I hsa) (apart_of I hsk) (I.hok.fresh hsa) (I.hok.fresh hsk) (Heap.get?_push_size _ rfl) (Heap.get?_push_of_some _ (Heap.get?_push_of_some _ ho1)) (by rw [hkS]; exact Nat.ne_of_gt (Nat.lt_succ_of_lt ha)) hz'
    fun H' s' ov ys I' sH hH' l' pm => ⟨rfl, .ref (s.heap.objs.size + 1), H', I', rfl, q _ ov ys H' sH (I.hok.fresh hsa) hH' l' pm⟩
end
theorem LR.rev {α : Type} [Rp α] {B : Hp} {xs : List α} {vs : List V} (h : LR B xs vs) : LR B xs.reverse vs.reverse := ⟨by rw [List.length_reverse, List.length_reverse, h.1], fun i a e => by
  have hi : i < xs.length := by
    have := lt_of_at e
    rwa [List.length_reverse] at this
  rw [List.getElem?_reverse hi] at e
  rw [List.getElem?_reverse (by rw [h.1]; exact hi), h.1]
  exact h.2 _ a e⟩
section
variable {α β : Type} [Rp α] [Rp β] {X : Cx} {e tg iter : Expr} {σ : L2.St} {H B : Hp} {pos pos2 p1 p2 p3 p4 p5 kp : Pos} {n : Str} {k : Nat} {ps : List Str} {key : α → Nat} {pre : α → Prop} {xs : List α} {D : Ends} {body rest : List Stmt}
/-- sorted(e, key=f)[::-1]: a list of the same items -/
theorem rd_keyRev {kk : Nat} (F : Fk X.prog X.w X.K X.mg X.base n k ps (Sp1 pre key)) (hr : Room (k + 2) X.A) (h : Ev X e σ B xs) (hpre : ∀ x ∈ xs, pre x) (s : Same B H) (hm : X.mg "sorted" = none) {Q : VK} (q : ∀ p vs ys B' H', HLen H' → Nw B H B' H' → H p = none → B' p = none → H' p = some (.lst vs) → LR B' ys vs → ys.Perm xs → Q (.ref p) H')
    (hg : Gl X "sorted" := by rfl) (hgn : Gl X n := by rfl) (hdb : (n == ("__debug__" : Str)) = false := by decide) (h1 : NS X e [] := by rfl)
    (he : backTo pos (starEach [e] X.env) = (false, eval e X.env) :: backTo pos (starEach [] X.env) := by rfl) (hpl : (backTo pos (starEach [e] X.env)).any (·.1) = false := by rfl)
    (hall : (backToKw pos (keywordEach [⟨some "key", .Name n p2, kp⟩] X.env)).all (·.1.isSome) = true := by rfl) (hnone : (backToKw pos (keywordEach [⟨some "key", .Name n p2, kp⟩] X.env)).any (·.1.isNone) = false := by rfl) (hks : (backToKw pos (keywordEach [⟨some "key", .Name n p2, kp⟩] X.env)).filterMap (·.1) = [("key" : Str)] := by rfl) :
    rd X (.Subscript (.Call (.Name "sorted" p1) [e] [⟨some "key", .Name n p2, kp⟩] pos) (.Slice none none (some (.UnaryOp .USub (.Constant (.int 1) kk p3) p4)) p5) pos2) σ H Q := by
  obtain ⟨f, fd, G, hmf, hkp, hb⟩ := id F
  refine rd_mkL (pe_revL (pe_callBK (cr_sortedKey F hr) hg hm boot_sorted (pa_cons pe_rd pa_nil h1) (pk_cons (pe_glob (v := .ref f) hgn hmf rfl hdb) pk_nil) (by decide) (by decide) he hpl hall hnone hks)) (h H s _ fun v B1 H1 _ n1 r1 => ?_)
  obtain ⟨p, ws, rfl, hp, lr⟩ := r1
  refine ⟨B1, p, f, ws, xs, rfl, rfl, hmf, n1.bh, n1.bh p _ hp, lr, hpre, fun q0 ov ys H2 s2 h0 hq l2 pm => ?_⟩
  refine ⟨q0, ov, rfl, .inl (.inl hq), fun z hz hl => ?_⟩
  have hz1 : H1 z = none := s2.free hz
  exact q z ov.reverse ys.reverse B1 _ hl (n1.trans (Nw.grow n1.bh (s2.trans (same_new hz)))) (n1.hh.free hz1) (n1.bh.free hz1) upd_same l2.rev ((List.reverse_perm ys).trans pm)
/-- walked: some list that S holds of -/
def EvIp (X : Cx) (tg iter : Expr) (σ : L2.St) (B : Hp) (S : List β → Prop) : Prop := ∀ H, Same B H → ∀ Rc : It → Hp → Prop, (∀ J B' H' xs, HLen H' → Nw B H B' H' → S xs → ItOk J B' xs → Rc J H') → rdI X tg iter σ H Rc
theorem rb_forSP {S : List β → Prop} (I : List β → Nat → L2.St → Hp → Hp → Prop) (h : EvIp X tg iter σ B S) (s : Same B H) (st : ∀ xs i σ B H B' H', I xs i σ B H → Nw B H B' H' → I xs i σ B' H') (bh : ∀ xs i σ B H, I xs i σ B H → Same B H) (i0 : ∀ xs B1 H1, S xs → Nw B H B1 H1 → I xs 0 σ B1 H1) (hp : PassesOwn (model X.prog X.w) X.A X.env X.xe) (hc : X.calm = true)
    (turn : ∀ xs B1, S xs → Same B B1 → ∀ i a v σ' B2 H2, xs[i]? = some a → Same B1 B2 → I xs i σ' B2 H2 → R B2 a v →
      rdG X tg v σ' H2 fun σ3 H3 => rdB X body { D with nx := fun σ' H' => ∃ B', Same B1 B' ∧ I xs (i + 1) σ' B' H', ct := fun σ' H' => ∃ B', Same B1 B' ∧ I xs (i + 1) σ' B' H', bk := rdB X rest D } σ3 H3)
    (done : ∀ xs σ' B2 H2, S xs → Same B B2 → I xs xs.length σ' B2 H2 → rdB X rest D σ' H2)
    (hs : ∀ x, foldedSetIterable iter X.env x = pure x := by intro _; rfl) : rdB X (.For tg iter body [] pos :: rest) D σ H :=
  rb_forI (α := β) (h H s _ fun J B1 H1 xs _ n1 hS ok => ⟨B1, xs, ok, fun i σ' B2 H2 => Same B1 B2 ∧ I xs i σ' B2 H2, ⟨Same.refl _, i0 xs B1 H1 hS n1⟩, fun i σ' B2 H2 ⟨s, g2⟩ => ⟨s, bh _ _ _ _ _ g2⟩,
    fun i a v σ' B2 H2 B4 H3 ha ⟨s, g2⟩ n4 r4 => turn xs B1 hS n1.bb i a v σ' B4 H3 ha (s.trans n4.bb) (st _ _ _ _ _ _ _ g2 n4) r4,
    fun σ' B2 H2 ⟨s, g2⟩ => done xs σ' B2 H2 hS (n1.bb.trans s) g2⟩) hp hc hs
end
end LK
/-! ## F17 -/
namespace LK
open PySem PySem.Spec PyProof.Rows L2
open Rp (R)
def hasPlug (b : Book) (near : List Nat) (t : Nat) : Bool := (toLoads b near t).any fun l => (others near t).any fun p => isShut b t l p
theorem any_perm {α : Type} {xs ys : List α} (h : ys.Perm xs) (f : α → Bool) : ys.any f = xs.any f := by
  rw [Bool.eq_iff_iff, List.any_eq_true, List.any_eq_true]
  exact ⟨fun ⟨x, hx, e⟩ => ⟨x, h.mem_iff.mp hx, e⟩, fun ⟨x, hx, e⟩ => ⟨x, h.mem_iff.mpr hx, e⟩⟩
section
variable {P : Program} {w : World} {K : PySem.W.Frag} {mg : Str → Option Value} {base : Heap} {cC cW : Addr}
theorem sc69 : FnScope ["web", "side", "yard", "target", "book", "near", "load", "place"] ["web", "side"] (defScope (topS 69)) := ⟨rfl, rfl, rfl, by decide +kernel, rfl, by decide +kernel, by decide +kernel⟩
theorem fk_has_plug (E : Tops K mg cC cW) : Fk P w K mg base "has_plug" 7 ["web", "side"] (Sp2 (fun (x : Wb cC cW) (s : Nat × Nat) => WOk x ∧ s.1 ∈ yardsIn x.cty.ties ∧ s.2 ∈ rowAt x.cty.ties s.1) fun x s => hasPlug (bookAt x.cty.ties x.books s.1) (rowAt x.cty.ties s.1) s.2) :=
  fk2 (N := ["web", "side", "yard", "target", "book", "near", "load", "place"]) E.d69 sc69 fun f cd A ou s H EX v1 v2 B x sd Q hr sb r1 r2 ⟨ok, hy, ht⟩ q => by
    have hyl := (mem_yards hy).1
    obtain ⟨y, t⟩ := sd
    refine rb_unpack 2 3 (B := B) (u := (y, t)) (ev_var 1 rfl r2) sb (fun v3 v4 B1 H1 hl1 n1 r3 r4 => ?_) sc69.nd
    have r11 := Rp.mono n1.bb r1
    refine rb_unpack 4 5 (B := B1) (u := (bookAt x.cty.ties x.books y, others (rowAt x.cty.ties y) t)) (ev_tup2 (eva2 (x := bookAt x.cty.ties x.books y) (y := others (rowAt x.cty.ties y) t) (ev_call2 (x := x) (y := y) (fk_book_at E) (hr.mono (by decide)) (eva2 (ev_var 0 rfl r11) (ev_var 2 rfl r3)) ⟨hy, ok.len⟩) (Ev.to (EvF.ev (evf_lc (p := fun p => !decide (p = t)) (g := fun p => p) [("place", 7)] (ei_list (ev_call2 (x := x.cty) (y := y) (fk_beside E) (hr.mono (by decide)) (eva2 (ev_pC (c := x) E (hr.mono (by decide)) (ev_var 0 rfl r11)) (ev_var 2 rfl r3)) hyl))
      (turnN 7 (fun u => rfl) (fun B2 a va s2 _ r s H0 C cl fp => ⟨ets_one (Cm.et (cm_ne (ev_var 7 rfl r) (ev_var 3 rfl (Rp.mono s2 r4)))), fun _ => ev_var 7 rfl r⟩) sc69.nd) sc69.nd)) (List.map_id' _)))) n1.bh (fun v5 v6 B2 H2 hl2 n2 r5 r6 => ?_) sc69.nd
    have r5 : R B2 (bookAt x.cty.ties x.books y) v5 := r5
    have r6 : R B2 (others (rowAt x.cty.ties y) t) v6 := r6
    have n12 := n1.trans n2
    have r12 := Rp.mono n2.bb r11
    generalize hbk : bookAt x.cty.ties x.books y = bk at *
    refine rb_forSP (β := Load) (S := fun ys => ys.Perm (toLoads bk (rowAt x.cty.ties y) t)) (B := B2) (fun ys i σ' B3 H3 => ∃ y6 y7, σ' = [some v1, some v2, some v3, some v4, some v5, some v6, y6, y7] ∧ Nw B H B3 H3 ∧ Same B2 B3 ∧ hasPlug bk (rowAt x.cty.ties y) t = (ys.drop i).any fun l => (others (rowAt x.cty.ties y) t).any fun p => isShut bk t l p)
      ?_ n2.bh (fun ys i σ B H B' H' ⟨a, b, e, N, s2, z⟩ n => ⟨a, b, e, N.trans n, s2.trans n.bb, z⟩) (fun ys i σ B H ⟨_, _, _, N, _⟩ => N.bh) (fun ys B3 H3 hS n3 => ⟨none, none, rfl, n12.trans n3, n3.bb, (any_perm hS _).symm⟩) PassesOwn.never rfl ?_ ?_
    · intro H3 s3 Rc k
      refine rdI_mkL (pi_list pe_rd) (rd_keyRev (xs := toLoads bk (rowAt x.cty.ties y) t) (fk_load_weight E) (hr.mono (by decide)) (Ev.to (ev_call3 (x := x) (y := y) (z := t) (fk_towards E) (hr.mono (by decide)) (eva3 (ev_var 0 rfl r12) (ev_var 2 rfl (Rp.mono n2.bb r3)) (ev_var 3 rfl (Rp.mono n2.bb r4))) ⟨ok, hy, ht⟩) (congrArg (fun b => toLoads b (rowAt x.cty.ties y) t) hbk)) (fun _ _ => trivial) s3 E.bt.sorted fun p vs ys B4 H4 hl4 n4 h0 hb hp lr pm => ?_)
      refine ⟨p, rfl, ⟨vs, .inl (.inl hp)⟩, fun hl => ?_⟩
      have hsz := hl p vs hp
      exact k (Itl K p) (upd B4 p (.lst vs)) H4 ys hl (n4.tell h0 hb hp) pm (itOk_list upd_same (lr.mono (same_new hb)) hsz)
    · rintro ys B3 hS s3 i ld va σ' B4 H4 ha s4 ⟨y6, y7, rfl, N, s24, hw⟩ ra
      rw [drop_at ha, List.any_cons] at hw
      have hll : ld.length ≤ 1000 := Nat.le_trans (toLoads_len _ (hS.mem_iff.mp (List.mem_of_getElem? ha))) (show 8 ≤ 1000 by decide)
      have r4' := Rp.mono (n2.bb.trans s24) r4
      have r5' := Rp.mono s24 r5
      have r6' := Rp.mono s24 r6
      refine rg_name 6 (rb_if (B := B4) ((others (rowAt x.cty.ties y) t).any fun p => isShut bk t ld p) (EvT.to (et_val (ev_any (EvF.ev (evf_lc (p := fun _ : Nat => true) (g := fun p => isShut bk t ld p) [("place", 7)] (ei_list (ev_var (x := others (rowAt x.cty.ties y) t) 5 rfl r6'))
        (turnN 7 (fun u => rfl) (fun B5 p vp s5 _ rp s H0 C cl fp => ⟨ets_nil, fun _ => ev_call4 (x := bk) (y := t) (z := ld) (w := p) (fk_is_shut E) (hr.mono (by decide)) (eva4 (ev_var 4 rfl (Rp.mono s5 r5')) (ev_var 3 rfl (Rp.mono s5 r4')) (ev_var 6 rfl (Rp.mono s5 ra)) (ev_var 7 rfl rp)) hll⟩) sc69.nd) sc69.nd)) E.bt.any)) (by rw [filt_true, List.any_map]; rfl)) N.bh (fun hsh H7 s7 => ?_) fun hsh H7 s7 => ?_) sc69.nd
      · have N7 := N.trans (Nw.grow N.bh s7)
        rw [hsh, Bool.true_or] at hw
        refine rb_ret (B := B4) (x := true) ev_bl N7.bh fun v' B' H' n r => q v' B' H' (N7.trans n) ?_
        show R B' (hasPlug bk (rowAt x.cty.ties y) t) v'
        rw [hw]
        exact r
      · rw [hsh, Bool.false_or] at hw
        exact rb_nil (rb_nil ⟨B4, s4, _, _, rfl, N.trans (Nw.grow N.bh s7), s24, hw⟩)
    · rintro ys σ' B3 H3 hS s3 ⟨y6, y7, rfl, N, s23, hw⟩
      rw [List.drop_length] at hw
      refine rb_ret (B := B3) (x := false) ev_bl N.bh fun v' B' H' n r => q v' B' H' (N.trans n) ?_
      show R B' (hasPlug bk (rowAt x.cty.ties y) t) v'
      rw [hw]
      exact r
end
end LK
/-! ## F18 -/
namespace LK
open PySem PySem.Spec PyProof.Rows L2
open Rp (R)
theorem ev_kd {X : Cx} {σ : L2.St} {B : Hp} {w : Str} {j} {pos : Pos} (k : Kd) (h : w = k.str := by rfl) : Ev X (.Constant (.str w) j pos) σ B k := fun H s Q q => by
  subst h
  exact (ev_str (B := B)) H s Q fun v B' H' hl n r => q v B' H' hl n r
def plugOf (ties : List (List Nat)) (books : List Book) (s : Nat × Nat) : Bool := hasPlug (bookAt ties books s.1) (rowAt ties s.1) s.2
def sidesPlugged (ties : List (List Nat)) (books : List Book) : List (Nat × Nat) := (yardSides ties).filter (plugOf ties books)
def commonYards (ties : List (List Nat)) (sides : List (Nat × Nat)) : List Nat := (yardsIn ties).filter fun y => ((sides.map fun s => yardsBehind ties s.1 s.2).map fun row => decide (y ∈ row)).all id
def postsOf (ties : List (List Nat)) (books : List Book) : List Nat := commonYards ties (sidesPlugged ties books)
def stepTo (ahead : List (List Nat)) (p g : Nat) : Nat := (ahead.getD g []).getD p 0
def isClearTo (ties : List (List Nat)) (ahead : List (List Nat)) (books : List Book) (g : Nat) : Bool := (yardsIn ties).all fun y => (witness (bookAt ties books y) (rowAt ties y) (stepTo ahead y g)).isNone
def kindBy (ties : List (List Nat)) (ahead : List (List Nat)) (books : List Book) (g : Nat) : Kd := if isClearTo ties ahead books g then .clear else if (postsOf ties books).isEmpty then .bad else .own
theorem side_mem {ties : List (List Nat)} {s : Nat × Nat} (h : s ∈ yardSides ties) : s.1 ∈ yardsIn ties ∧ s.2 ∈ rowAt ties s.1 := by
  unfold yardSides at h
  obtain ⟨y, hy, h⟩ := List.mem_flatMap.mp h
  obtain ⟨t, ht, rfl⟩ := List.mem_map.mp h
  exact ⟨hy, (List.mem_filter.mp ht).1⟩
section
variable {P : Program} {w : World} {K : PySem.W.Frag} {mg : Str → Option Value} {base : Heap} {cC cW : Addr}
theorem sc71 : FnScope ["web", "side"] ["web"] (defScope (topS 71)) := ⟨rfl, rfl, rfl, by decide +kernel, rfl, by decide +kernel, by decide +kernel⟩
theorem fk_sides_plugged (E : Tops K mg cC cW) : Fk P w K mg base "sides_plugged" 8 ["web"] (Sp1 (fun x : Wb cC cW => WOk x) fun x => sidesPlugged x.cty.ties x.books) :=
  fk1 (N := ["web", "side"]) E.d71 sc71 fun f cd A ou s H EX v1 B x Q hr sb r1 ok q =>
    rb_ret (Ev.to (EvF.ev (evf_lc (p := plugOf x.cty.ties x.books) (g := fun s => s) [("side", 1)] (ei_list (ev_call1 (x := x.cty) (fk_yard_sides E) (hr.mono (by decide)) (eva1 (ev_pC (c := x) E (hr.mono (by decide)) (ev_var 0 rfl r1))) ⟨ok.n, fun r hr => Nat.le_trans (ok.row r hr) (by decide)⟩))
      (turnN 1 (fun u => rfl) (fun B1 a va s1 ha r s H0 C cl fp => ⟨ets_one (et_val (ev_call2 (x := x) (y := a) (fk_has_plug E) (hr.mono (by decide)) (eva2 (ev_var 0 rfl (Rp.mono s1 r1)) (ev_var 1 rfl r)) ⟨ok, side_mem ha⟩)), fun _ => ev_var 1 rfl r⟩) sc71.nd) sc71.nd)) (List.map_id' _)) sb q
theorem sc73 : FnScope ["country", "sides", "rows", "yard", "target", "row"] ["country", "sides"] (defScope (topS 73)) := ⟨rfl, rfl, rfl, by decide +kernel, rfl, by decide +kernel, by decide +kernel⟩
theorem fk_common_yards (E : Tops K mg cC cW) : Fk P w K mg base "common_yards" 3 ["country", "sides"] (Sp2 (fun (c : Cty cC) (ss : List (Nat × Nat)) => (∀ s ∈ ss, behindOk c.ties s.1 s.2 = true) ∧ ∀ r ∈ c.ties, r.length ≤ 100) fun c ss => commonYards c.ties ss) :=
  fk2 (N := ["country", "sides", "rows", "yard", "target", "row"]) E.d73 sc73 fun f cd A ou s H EX v1 v2 B c ss Q hr sb r1 r2 ⟨hb, hrow⟩ q =>
    rb_set 2 (B := B) (x := ss.map fun s : Nat × Nat => yardsBehind c.ties s.1 s.2) (Ev.to (EvF.ev (evf_lc (p := fun _ : Nat × Nat => true) (g := fun s : Nat × Nat => yardsBehind c.ties s.1 s.2) [("yard", 3), ("target", 4)] (ei_list (ev_var (x := ss) 1 rfl r2))
      (turnP 3 4 (fun u w => rfl) (fun B1 a va vb s1 ha ra rb s H0 C cl fp => ⟨ets_nil, fun _ => ev_call3 (x := c) (y := a.1) (z := a.2) (fk_yards_behind E) (hr.mono (by decide)) (eva3 (ev_var 0 rfl (Rp.mono s1 r1)) (ev_var 3 rfl ra) (ev_var 4 rfl rb)) ⟨hb a ha, hrow⟩⟩) sc73.nd) sc73.nd)) (by rw [filt_true])) sb (fun v3 B2 H2 hl2 n2 r3 =>
      rb_ret (Ev.to (EvF.ev (evf_lc (p := fun y => ((ss.map fun s : Nat × Nat => yardsBehind c.ties s.1 s.2).map fun row => decide (y ∈ row)).all id) (g := fun s => s) [("yard", 3)] (ei_list (ev_call1 (x := c) (fk_yards_in E) (hr.mono (by decide)) (eva1 (ev_var 0 rfl (Rp.mono n2.bb r1))) trivial))
        (turnN 3 (fun u => rfl) (fun B3 y vy s3 hy ry s H0 C cl fp => ⟨ets_one (EvT.to (et_val (ev_all (EvF.ev (evf_lc (p := fun _ : List Nat => true) (g := fun row => decide (y ∈ row)) [("row", 5)] (ei_list (ev_var (x := (ss.map fun s : Nat × Nat => yardsBehind c.ties s.1 s.2)) 2 rfl (Rp.mono s3 r3)))
          (turnN 5 (fun u => rfl) (fun B4 a va s4 ha ra s H0 C cl fp => ⟨ets_nil, fun _ => Cm.ev (cm_in (xs := a) (ev_var 3 rfl (Rp.mono s4 ry)) (ev_var 5 rfl ra))⟩) sc73.nd) sc73.nd)) E.bt.all)) (by rw [filt_true])), fun _ => ev_var 3 rfl ry⟩) sc73.nd) sc73.nd)) (List.map_id' _)) n2.bh fun v' B' H' n r => q v' B' H' (n2.trans n) r) sc73.nd
theorem sc74 : FnScope ["web"] ["web"] (defScope (topS 74)) := ⟨rfl, rfl, rfl, by decide +kernel, rfl, by decide +kernel, by decide +kernel⟩
theorem fk_posts_of (E : Tops K mg cC cW) : Fk P w K mg base "posts_of" 9 ["web"] (Sp1 (fun x : Wb cC cW => WOk x) fun x => postsOf x.cty.ties x.books) :=
  fk1 (N := ["web"]) E.d74 sc74 fun f cd A ou s H EX v1 B x Q hr sb r1 ok q =>
    rb_ret (ev_call2 (x := x.cty) (y := sidesPlugged x.cty.ties x.books) (fk_common_yards E) (hr.mono (by decide)) (eva2 (ev_pC (c := x) E (hr.mono (by decide)) (ev_var 0 rfl r1)) (ev_call1 (x := x) (fk_sides_plugged E) (hr.mono (by decide)) (eva1 (ev_var 0 rfl r1)) ok)) ⟨fun s hs => ok.beh s (List.mem_filter.mp hs).1, fun r hr => Nat.le_trans (ok.row r hr) (by decide)⟩) sb q
theorem sc75 : FnScope ["web"] ["web"] (defScope (topS 75)) := ⟨rfl, rfl, rfl, by decide +kernel, rfl, by decide +kernel, by decide +kernel⟩
theorem fk_posts (E : Tops K mg cC cW) : Fk P w K mg base "posts" 10 ["web"] (Sp1 (fun x : Wb cC cW => WOk x) fun x => postsOf x.cty.ties x.books) :=
  fk1 (N := ["web"]) E.d75 sc75 fun f cd A ou s H EX v1 B x Q hr sb r1 ok q =>
    rb_ret (ev_call1 (x := x) (fk_posts_of E) (hr.mono (by decide)) (eva1 (ev_call1 (x := x) (fk_want_web E) (hr.mono (by decide)) (eva1 (ev_var 0 rfl r1)) trivial)) ok) sb q
theorem sc78 : FnScope ["web", "gate", "country", "yard"] ["web", "gate"] (defScope (topS 78)) := ⟨rfl, rfl, rfl, by decide +kernel, rfl, by decide +kernel, by decide +kernel⟩
theorem fk_is_clear_to (E : Tops K mg cC cW) : Fk P w K mg base "is_clear_to" 7 ["web", "gate"] (Sp2 (fun (x : Wb cC cW) (g : Nat) => WOk x ∧ g < x.cty.ties.length ∧ (rowAt x.cty.ties g).length = 1) fun x g => isClearTo x.cty.ties x.cty.ahead x.books g) :=
  fk2 (N := ["web", "gate", "country", "yard"]) E.d78 sc78 fun f cd A ou s H EX v1 v2 B x g Q hr sb r1 r2 ⟨ok, hg, hg1⟩ q => by
    refine rb_set 2 (B := B) (x := x.cty) (ev_pC (c := x) E (hr.mono (by decide)) (ev_var 0 rfl r1)) sb (fun v3 B1 H1 hl1 n1 r3 => ?_) sc78.nd
    refine rb_forS (B := B1) (xs := yardsIn x.cty.ties) (fun i σ' B2 H2 => ∃ y4, σ' = [some v1, some v2, some v3, y4] ∧ Nw B H B2 H2 ∧ Same B1 B2 ∧ isClearTo x.cty.ties x.cty.ahead x.books g = ((yardsIn x.cty.ties).drop i).all fun y => (witness (bookAt x.cty.ties x.books y) (rowAt x.cty.ties y) (stepTo x.cty.ahead y g)).isNone)
      (ei_list (ev_call1 (x := x.cty) (fk_yards_in E) (hr.mono (by decide)) (eva1 (ev_var 2 rfl r3)) trivial)) (fun i σ B H B' H' ⟨a, e, N, s2, z⟩ n => ⟨a, e, N.trans n, s2.trans n.bb, z⟩) (fun i σ B H ⟨_, _, N, _, _⟩ => N.bh) ⟨none, rfl, n1, Same.refl _, rfl⟩ PassesOwn.never rfl ?_ ?_
    · rintro B2 s2 i y va σ' B3 H3 ha s3 ⟨y4, rfl, N, s13, hw⟩ ra
      have hy : y ∈ yardsIn x.cty.ties := List.mem_of_getElem? ha
      have hgy : g ≠ y := fun e => by have := (mem_yards hy).2; rw [← e, hg1] at this; omega
      have hah := ok.ahd y hy g hg hgy
      rw [drop_at ha, List.all_cons] at hw
      refine rg_name 3 (rb_if (B := B3) ((witness (bookAt x.cty.ties x.books y) (rowAt x.cty.ties y) (stepTo x.cty.ahead y g)).isSome) (Cm.et (cm_notN (ev_call3 (x := x) (y := y) (z := stepTo x.cty.ahead y g) (fk_witness_of E) (hr.mono (by decide)) (eva3 (ev_var 0 rfl (Rp.mono (n1.bb.trans s13) r1)) (ev_var 3 rfl ra)
        (ev_call3 (x := x.cty) (y := y) (z := g) (fk_step_towards E) (hr.mono (by decide)) (eva3 (ev_var 2 rfl (Rp.mono s13 r3)) (ev_var 3 rfl ra) (ev_var 1 rfl r2)) ⟨hah.1, hah.2.1⟩)) ⟨ok, hy, hah.2.2⟩) nn_pair)) N.bh (fun ht H4 s4 => ?_) fun ht H4 s4 => ?_) sc78.nd
      · have N4 := N.trans (Nw.grow N.bh s4)
        refine rb_ret (B := B3) (x := false) ev_bl N4.bh fun v' B' H' n r => q v' B' H' (N4.trans n) ?_
        have : isClearTo x.cty.ties x.cty.ahead x.books g = false := by
          rw [hw, ← Option.not_isSome, ht]; rfl
        rw [this]
        exact r
      · refine rb_nil (rb_nil ⟨B3, s3, _, rfl, N.trans (Nw.grow N.bh s4), s13, ?_⟩)
        rw [hw, ← Option.not_isSome, ht]
        rfl
    · rintro σ' B2 H2 s2 ⟨y4, rfl, N, s12, hw⟩
      rw [List.drop_length] at hw
      refine rb_ret (B := B2) (x := true) ev_bl N.bh fun v' B' H' n r => q v' B' H' (N.trans n) ?_
      rw [hw]
      exact r
theorem sc79 : FnScope ["web", "gate"] ["web", "gate"] (defScope (topS 79)) := ⟨rfl, rfl, rfl, by decide +kernel, rfl, by decide +kernel, by decide +kernel⟩
theorem fk_kind_by (E : Tops K mg cC cW) : Fk P w K mg base "kind_by" 10 ["web", "gate"] (Sp2 (fun (x : Wb cC cW) (g : Nat) => WOk x ∧ g < x.cty.ties.length ∧ (rowAt x.cty.ties g).length = 1) fun x g => kindBy x.cty.ties x.cty.ahead x.books g) :=
  fk2 (N := ["web", "gate"]) E.d79 sc79 fun f cd A ou s H EX v1 v2 B x g Q hr sb r1 r2 ⟨ok, hg, hg1⟩ q =>
    rb_if (B := B) (isClearTo x.cty.ties x.cty.ahead x.books g) (et_val (ev_call2 (x := x) (y := g) (fk_is_clear_to E) (hr.mono (by decide)) (eva2 (ev_var 0 rfl r1) (ev_var 1 rfl r2)) ⟨ok, hg, hg1⟩)) sb (fun ht H1 s1 =>
      rb_ret (B := B) (x := Kd.clear) (ev_kd .clear) (sb.trans s1) fun v' B' H' n r => q v' B' H' ((Nw.grow sb s1).trans n) (by
        have : kindBy x.cty.ties x.cty.ahead x.books g = .clear := by unfold kindBy; rw [if_pos ht]
        rw [this]; exact r)) fun ht H1 s1 =>
      rb_nil (rb_ret (B := B) (x := if (postsOf x.cty.ties x.books).isEmpty = true then Kd.bad else Kd.own) (ev_ifExp (postsOf x.cty.ties x.books).isEmpty (Cm.et (cm_eqNil (ev_call1 (x := x) (fk_posts_of E) (hr.mono (by decide)) (eva1 (ev_var 0 rfl r1)) ok) hr.units)) (fun h => Ev.to (ev_kd .bad) (by rw [if_pos h])) fun h => Ev.to (ev_kd .own) (by rw [if_neg (by rw [h]; decide)])) (sb.trans s1) fun v' B' H' n r => q v' B' H' ((Nw.grow sb s1).trans n) (by
        have : kindBy x.cty.ties x.cty.ahead x.books g = if (postsOf x.cty.ties x.books).isEmpty = true then Kd.bad else Kd.own := by unfold kindBy; rw [if_neg (by rw [ht]; decide)]
        rw [this]; exact r))
end
end LK
/-! ## F19 -/
namespace LK
open PySem PySem.Spec PyProof.Rows L2
open Rp (R)
def doorStep (g behind : Nat) (s : List Nat × Nat) (p : Nat) : List Nat × Nat := (s.1 ++ [if p = g then behind else s.2], if p = g then s.2 else s.2 + 1)
def doorNums (n g first behind : Nat) : List Nat := ((List.range n).foldl (doorStep g behind) ([], first)).1
def doorYard (t : List (List Nat)) (g : Nat) : Nat := (rowAt t g).getD 0 0
def numsBoth (t1 : List (List Nat)) (g : Nat) (t2 : List (List Nat)) (d : Nat) : List Nat × List Nat :=
  (doorNums t1.length g 0 ((t1.length - 1) + (if d < doorYard t2 d then doorYard t2 d - 1 else doorYard t2 d)), doorNums t2.length d (t1.length - 1) (if g < doorYard t1 g then doorYard t1 g - 1 else doorYard t1 g))
def ledEnd (nums : List Nat) (p : Option Nat) : Option Nat := p.map fun p => nums.getD p 0
def ledBnd (nums : List Nat) (b : Bnd) : Bnd := ⟨ledEnd nums b.a, ledEnd nums b.b, b.c⟩
def ledAlt (nums : List Nat) (a : Alt) : Alt := (a.1, a.2.map (ledBnd nums))
def ledBook (book : Book) (nums : List Nat) : Book := book.map (ledAlt nums)
def endIn (n : Nat) (p : Option Nat) : Prop := ∀ q, p = some q → q < n
def bookIn (n : Nat) (b : Book) : Prop := ∀ a ∈ b, ∀ z ∈ a.2, endIn n z.a ∧ endIn n z.b
def jLanes (l1 : List Lane) (near : List Nat) (l2 : List Lane) (far : List Nat) (d : Nat) : List Lane :=
  (l1.map fun z => (near.getD z.1 0, near.getD z.2 0)) ++ (l2.filter fun z => !decide (d ∈ [z.1, z.2])).map fun z => (far.getD z.1 0, far.getD z.2 0)
def jBooks (t1 : List (List Nat)) (b1 : List Book) (near : List Nat) (t2 : List (List Nat)) (b2 : List Book) (far : List Nat) : List Book :=
  ((yardsIn t1).map fun y => ledBook (bookAt t1 b1 y) near) ++ (yardsIn t2).map fun y => ledBook (bookAt t2 b2 y) far
section
variable {P : Program} {w : World} {K : PySem.W.Frag} {mg : Str → Option Value} {base : Heap} {cC cW : Addr}
theorem sc80 : FnScope ["country", "gate"] ["country", "gate"] (defScope (topS 80)) := ⟨rfl, rfl, rfl, by decide +kernel, rfl, by decide +kernel, by decide +kernel⟩
theorem fk_door_yard (E : Tops K mg cC cW) : Fk P w K mg base "door_yard" 2 ["country", "gate"] (Sp2 (fun (c : Cty cC) (g : Nat) => g < c.ties.length ∧ 0 < (rowAt c.ties g).length) fun c g => doorYard c.ties g) :=
  fk2 (N := ["country", "gate"]) E.d80 sc80 fun f cd A ou s H EX v1 v2 B c g Q hr sb r1 r2 ⟨hg, h0⟩ q =>
    rb_ret (ev_ix (xs := rowAt c.ties g) (i := 0) (ev_call2 (x := c) (y := g) (fk_beside E) (hr.mono (by decide)) (eva2 (ev_var 0 rfl r1) (ev_var 1 rfl r2)) hg) (ev_nat 0) (getD_at h0)) sb q
theorem doorStep_len (g b : Nat) : ∀ (ps : List Nat) (s : List Nat × Nat), (ps.foldl (doorStep g b) s).1.length = s.1.length + ps.length
  | [], s => rfl
  | p :: ps, s => by
    rw [List.foldl_cons, doorStep_len g b ps, List.length_cons]
    unfold doorStep
    rw [List.length_append, List.length_singleton]
    omega
theorem sc81 : FnScope ["country", "gate", "first", "behind", "found", "late", "place"] ["country", "gate", "first", "behind"] (defScope (topS 81)) := ⟨rfl, rfl, rfl, by decide +kernel, rfl, by decide +kernel, by decide +kernel⟩
theorem fk_door_numbers (E : Tops K mg cC cW) : Fk P w K mg base "door_numbers" 2 ["country", "gate", "first", "behind"] (Sp4 (fun (c : Cty cC) (g f b : Nat) => c.ties.length ≤ 100) fun c g f b => doorNums c.ties.length g f b) :=
  fk4 (N := ["country", "gate", "first", "behind", "found", "late", "place"]) E.d81 sc81 fun f cd A ou s H EX v1 v2 v3 v4 B c g fi be Q hr sb r1 r2 r3 r4 hn q => by
    cases (show v2 = _ from r2)
    cases (show v3 = _ from r3)
    cases (show v4 = _ from r4)
    refine rb_par 4 5 (rdA_FE (xs := ([] : List Nat)) (y := fi) ev_lst0 (ev_var 2 rfl rfl) sb fun q0 ws vn B1 H1 hl n1 h0 hb hq lr rn => ⟨_, _, rfl, ?_⟩) sc81.nd
    cases (show vn = _ from rn)
    have g1 : Gr B H q0 ([] : List Nat) B1 H1 := ⟨ws, n1, h0, hb, hq, lr⟩
    refine rb_forS (B := B1) (xs := List.range c.ties.length) (fun i σ' B2 H2 => ∃ y6, σ' = [some v1, some (.int (g : Nat)), some (.int (fi : Nat)), some (.int (be : Nat)), some (.ref q0), some (.int (((List.range c.ties.length).take i).foldl (doorStep g be) ([], fi)).2), y6] ∧ Gr B H q0 (((List.range c.ties.length).take i).foldl (doorStep g be) ([], fi)).1 B2 H2)
      (ei_range1 (ev_call1 (x := c) (fk_place_count E) (hr.mono (by decide)) (eva1 (ev_var 0 rfl (Rp.mono n1.bb r1))) trivial) (Nat.le_trans hn (by decide)) E.bt.range) (fun i σ B H B' H' ⟨a, e, N⟩ n => ⟨a, e, N.step n⟩) (fun i σ B H ⟨_, _, N⟩ => N.nw.bh) ⟨none, rfl, g1⟩ PassesOwn.never rfl ?_ ?_
    · rintro B2 s2 i p va σ' B3 H3 ha s3 ⟨y6, rfl, G⟩ ra
      cases (show va = _ from ra)
      have hsz := doorStep_len g be ((List.range c.ties.length).take i) ([], fi)
      have hst : ((List.range c.ties.length).take (i + 1)).foldl (doorStep g be) ([], fi) = doorStep g be (((List.range c.ties.length).take i).foldl (doorStep g be) ([], fi)) p := by rw [take_snoc ha, List.foldl_append]; rfl
      rw [hst]
      generalize ((List.range c.ties.length).take i).foldl (doorStep g be) ([], fi) = st at *
      refine rg_name 6 (rb_appendGr 4 (x := if p = g then be else st.2) G (ev_ifExp (decide (p = g)) (Cm.et (cm_eq (ev_var 6 rfl rfl) (ev_var 1 rfl rfl))) (fun h => Ev.to (ev_var (x := be) 3 rfl rfl) (by rw [if_pos (of_decide_eq_true h)])) fun h => Ev.to (ev_var (x := st.2) 5 rfl rfl) (by rw [if_neg (of_decide_eq_false h)])) rfl ?_ fun B4 H4 s4 g4 _ _ => ?_) sc81.nd
      · rw [hsz, List.length_nil, List.length_take, List.length_range]
        omega
      · refine rb_set 5 (B := B4) (x := if p = g then st.2 else st.2 + 1) (ev_ifExp (decide (p = g)) (Cm.et (cm_eq (ev_var 6 rfl rfl) (ev_var 1 rfl rfl))) (fun h => Ev.to (ev_var (x := st.2) 5 rfl rfl) (by rw [if_pos (of_decide_eq_true h)])) fun h => Ev.to (ev_add (ev_var (x := st.2) 5 rfl rfl) (ev_nat 1)) (by rw [if_neg (of_decide_eq_false h)])) g4.nw.bh (fun v9 B9 H9 hl9 n9 r9 => ?_) sc81.nd
        cases (show v9 = _ from r9)
        exact rb_nil ⟨B9, s3.trans (s4.trans n9.bb), _, rfl, g4.step n9⟩
    · rintro σ' B2 H2 s2 ⟨y6, rfl, G⟩
      rw [List.length_range] at G
      rw [show (List.range c.ties.length).take c.ties.length = List.range c.ties.length from by rw [List.take_of_length_le (by rw [List.length_range]; exact Nat.le_refl _)]] at G
      exact rb_retGr 4 G rfl q
theorem sc82 : FnScope ["country", "gate", "other", "door", "first", "yard", "far", "near_yard", "far_yard"] ["country", "gate", "other", "door"] (defScope (topS 82)) := ⟨rfl, rfl, rfl, by decide +kernel, rfl, by decide +kernel, by decide +kernel⟩
theorem fk_numbers_of_both (E : Tops K mg cC cW) : Fk P w K mg base "numbers_of_both" 3 ["country", "gate", "other", "door"] (Sp4 (fun (c : Cty cC) (g : Nat) (o : Cty cC) (d : Nat) => (c.ties.length ≤ 100 ∧ g < c.ties.length ∧ 0 < (rowAt c.ties g).length) ∧ (o.ties.length ≤ 100 ∧ d < o.ties.length ∧ 0 < (rowAt o.ties d).length)) fun c g o d => numsBoth c.ties g o.ties d) :=
  fk4 (N := ["country", "gate", "other", "door", "first", "yard", "far", "near_yard", "far_yard"]) E.d82 sc82 fun f cd A ou s H EX v1 v2 v3 v4 B c g o d Q hr sb r1 r2 r3 r4 ⟨⟨hn1, hg, hg0⟩, hn2, hd, hd0⟩ q => by
    cases (show v2 = _ from r2)
    cases (show v4 = _ from r4)
    refine rb_set 4 (B := B) (x := c.ties.length - 1) (ev_sub (ev_call1 (x := c) (fk_place_count E) (hr.mono (by decide)) (eva1 (ev_var 0 rfl r1)) trivial) (ev_nat 1) (by omega)) sb (fun v5 B1 H1 hl1 n1 r5 => ?_) sc82.nd
    cases (show v5 = _ from r5)
    refine rb_par 5 6 (rdA2 (x := doorYard c.ties g) (y := doorYard o.ties d) (ev_call2 (x := c) (y := g) (fk_door_yard E) (hr.mono (by decide)) (eva2 (ev_var 0 rfl (Rp.mono n1.bb r1)) (ev_var 1 rfl rfl)) ⟨hg, hg0⟩) (ev_call2 (x := o) (y := d) (fk_door_yard E) (hr.mono (by decide)) (eva2 (ev_var 2 rfl (Rp.mono n1.bb r3)) (ev_var 3 rfl rfl)) ⟨hd, hd0⟩) n1.bh fun v6 v7 B2 H2 hl2 n2 r6 r7 => ⟨_, _, rfl, ?_⟩) sc82.nd
    cases (show v6 = _ from r6)
    cases (show v7 = _ from r7)
    have n12 := n1.trans n2
    refine rb_set 7 (B := B2) (x := if g < doorYard c.ties g then doorYard c.ties g - 1 else doorYard c.ties g) (ev_ifExp (decide (g < doorYard c.ties g)) (Cm.et (cm_lt (ev_var 1 rfl rfl) (ev_var 5 rfl rfl))) (fun h => Ev.to (ev_sub (ev_var (x := doorYard c.ties g) 5 rfl rfl) (ev_nat 1) (by have := of_decide_eq_true h; omega)) (by rw [if_pos (of_decide_eq_true h)])) fun h => Ev.to (ev_var (x := doorYard c.ties g) 5 rfl rfl) (by rw [if_neg (of_decide_eq_false h)])) n12.bh (fun v8 B3 H3 hl3 n3 r8 => ?_) sc82.nd
    cases (show v8 = _ from r8)
    refine rb_set 8 (B := B3) (x := (c.ties.length - 1) + (if d < doorYard o.ties d then doorYard o.ties d - 1 else doorYard o.ties d)) (ev_add (ev_var 4 rfl rfl) (ev_ifExp (decide (d < doorYard o.ties d)) (Cm.et (cm_lt (ev_var 3 rfl rfl) (ev_var 6 rfl rfl))) (fun h => Ev.to (ev_sub (ev_var (x := doorYard o.ties d) 6 rfl rfl) (ev_nat 1) (by have := of_decide_eq_true h; omega)) (by rw [if_pos (of_decide_eq_true h)])) fun h => Ev.to (ev_var (x := doorYard o.ties d) 6 rfl rfl) (by rw [if_neg (of_decide_eq_false h)]))) n3.bh (fun v9 B4 H4 hl4 n4 r9 => ?_) sc82.nd
    cases (show v9 = _ from r9)
    have n14 := n12.trans (n3.trans n4)
    exact rb_ret (B := B4) (x := numsBoth c.ties g o.ties d) (ev_tup2 (eva2
      (ev_call4 (x := c) (y := g) (z := 0) (w := (c.ties.length - 1) + (if d < doorYard o.ties d then doorYard o.ties d - 1 else doorYard o.ties d)) (fk_door_numbers E) (hr.mono (by decide)) (eva4 (ev_var 0 rfl (Rp.mono n14.bb r1)) (ev_var 1 rfl rfl) (ev_nat 0) (ev_var 8 rfl rfl)) hn1)
      (ev_call4 (x := o) (y := d) (z := c.ties.length - 1) (w := if g < doorYard c.ties g then doorYard c.ties g - 1 else doorYard c.ties g) (fk_door_numbers E) (hr.mono (by decide)) (eva4 (ev_var 2 rfl (Rp.mono n14.bb r3)) (ev_var 3 rfl rfl) (ev_var 4 rfl rfl) (ev_var 7 rfl rfl)) hn2))) n14.bh fun v' B' H' n r => q v' B' H' (n14.trans n) r
theorem sc83 : FnScope ["numbers", "place"] ["numbers", "place"] (defScope (topS 83)) := ⟨rfl, rfl, rfl, by decide +kernel, rfl, by decide +kernel, by decide +kernel⟩
theorem fk_led_end (E : Tops K mg cC cW) : Fk P w K mg base "led_end" 1 ["numbers", "place"] (Sp2 (fun (ns : List Nat) (p : Option Nat) => endIn ns.length p) ledEnd) :=
  fk2 (N := ["numbers", "place"]) E.d83 sc83 fun f cd A ou s H EX v1 v2 B ns p Q hr sb r1 r2 hp q =>
    rb_ret (B := B) (x := ledEnd ns p) (ev_ifExp p.isNone (Cm.et (cm_isN (ev_var (x := p) 1 rfl r2) nn_nat)) (fun h => Ev.to (ev_non (α := Nat)) (by cases p with | none => rfl | some _ => cases h)) fun h => by
      cases p with
      | none => cases h
      | some p => exact ev_some (ev_ix (xs := ns) (i := p) (ev_var 0 rfl r1) (ev_var 1 rfl (show R B p v2 from r2)) (getD_at (hp p rfl)))) sb q
theorem sc84 : FnScope ["book", "numbers", "found", "places", "bounds", "rows", "origin", "target", "most"] ["book", "numbers"] (defScope (topS 84)) := ⟨rfl, rfl, rfl, by decide +kernel, rfl, by decide +kernel, by decide +kernel⟩
theorem fk_led_book (E : Tops K mg cC cW) : Fk P w K mg base "led_book" 2 ["book", "numbers"] (Sp2 (fun (b : Book) (ns : List Nat) => b.length ≤ 1000 ∧ bookIn ns.length b) ledBook) :=
  fk2 (N := ["book", "numbers", "found", "places", "bounds", "rows", "origin", "target", "most"]) E.d84 sc84 fun f cd A ou s H EX v1 v2 B b ns Q hr sb r1 r2 ⟨hbl, hp⟩ q => by
    refine rb_setGr 2 (xs := ([] : Book)) ev_lst0 (Nw.refl sb) (fun q0 B1 H1 hl1 n1 g1 _ => ?_) sc84.nd
    refine rb_forS (B := B1) (xs := b) (fun i σ' B2 H2 => ∃ y3 y4 y5 y6 y7 y8, σ' = [some v1, some v2, some (.ref q0), y3, y4, y5, y6, y7, y8] ∧ Gr B H q0 ((b.take i).map (ledAlt ns)) B2 H2)
      (ei_list (ev_var 0 rfl (Rp.mono n1.bb r1))) (fun i σ B H B' H' ⟨a1, a2, a3, a4, a5, a6, e, N⟩ n => ⟨a1, a2, a3, a4, a5, a6, e, N.step n⟩) (fun i σ B H ⟨_, _, _, _, _, _, _, N⟩ => N.nw.bh) ⟨none, none, none, none, none, none, rfl, g1⟩ PassesOwn.never rfl ?_ ?_
    · rintro B2 s2 i a va σ' B3 H3 ha s3 ⟨y3, y4, y5, y6, y7, y8, rfl, G⟩ ra
      have ham := List.mem_of_getElem? ha
      refine rg_pair 3 4 ra G.nw.bh (fun vp vb rp rb => ?_) sc84.nd
      have r2' := Rp.mono G.nw.bb r2
      refine rb_setLcT 5 (B := B3) (p := fun _ : Bnd => true) (g := ledBnd ns) [("origin", 6), ("target", 7), ("most", 8)] (ei_list (ev_var (x := a.2) 4 rfl rb))
        (turnT 6 7 8 (fun u w z => rfl) (fun B4 z vx vy vz s4 hz rx ry rz s H0 C cl fp => ⟨ets_nil, fun _ => ev_tup3 (eva3 (ev_call2 (x := ns) (y := z.a) (fk_led_end E) (hr.mono (by decide)) (eva2 (ev_var 1 rfl (Rp.mono s4 r2')) (ev_var 6 rfl rx)) (hp a ham z hz).1) (ev_call2 (x := ns) (y := z.b) (fk_led_end E) (hr.mono (by decide)) (eva2 (ev_var 1 rfl (Rp.mono s4 r2')) (ev_var 7 rfl ry)) (hp a ham z hz).2) (ev_var 8 rfl rz))⟩) sc84.nd) G.nw.bh (fun v5 B4 H4 hl4 n4 r5 => ?_) sc84.nd
      rw [filt_true] at r5
      refine rb_appendGr 2 (x := ledAlt ns a) (G.step n4) (ev_tup2 (eva2 (x := a.1) (y := a.2.map (ledBnd ns)) (ev_var 3 rfl (Rp.mono n4.bb rp)) (ev_var 5 rfl r5))) rfl ?_ fun B5 H5 s5 g5 _ _ => ?_
      · rw [List.length_map, List.length_take]
        omega
      · refine rb_nil ⟨B5, s3.trans (n4.bb.trans s5), _, _, _, _, _, _, rfl, ?_⟩
        rw [take_snoc ha, List.map_append]
        exact g5
    · rintro σ' B2 H2 s2 ⟨y3, y4, y5, y6, y7, y8, rfl, G⟩
      rw [take_all] at G
      exact rb_retGr 2 G rfl q
end
end LK
/-! ## F20 -/
namespace LK
open PySem PySem.Spec PyProof.Rows L2
open Rp (R)
section
variable {C W : Addr}
def nearOf (x : Wb C W) (g : Nat) (y : Wb C W) (d : Nat) : List Nat := (numsBoth x.cty.ties g y.cty.ties d).1
def farOf (x : Wb C W) (g : Nat) (y : Wb C W) (d : Nat) : List Nat := (numsBoth x.cty.ties g y.cty.ties d).2
def lanesOf (x : Wb C W) (g : Nat) (y : Wb C W) (d : Nat) : List Lane := jLanes x.cty.lanes (nearOf x g y d) y.cty.lanes (farOf x g y d) d
def booksOf (x : Wb C W) (g : Nat) (y : Wb C W) (d : Nat) : List Book := jBooks x.cty.ties x.books (nearOf x g y d) y.cty.ties y.books (farOf x g y d)
def joinedWeb (x : Wb C W) (g : Nat) (y : Wb C W) (d : Nat) : Wb C W := mkWb W (mkCty C (lanesOf x g y d)) (booksOf x g y d)
def gateIn (t : List (List Nat)) (g : Nat) : Prop := t.length ≤ 100 ∧ g < t.length ∧ 0 < (rowAt t g).length
/-- what joining asks of one side -/
def sideIn (x : Wb C W) (ns : List Nat) : Prop := (x.cty.lanes.length ≤ 100 ∧ ∀ z ∈ x.cty.lanes, z.1 < ns.length ∧ z.2 < ns.length) ∧ x.books.length = (yardsIn x.cty.ties).length ∧ (yardsIn x.cty.ties).length ≤ 100 ∧ ∀ y ∈ yardsIn x.cty.ties, (bookAt x.cty.ties x.books y).length ≤ 1000 ∧ bookIn ns.length (bookAt x.cty.ties x.books y)
structure JOk (x : Wb C W) (g : Nat) (y : Wb C W) (d : Nat) : Prop where
  g1 : gateIn x.cty.ties g
  g2 : gateIn y.cty.ties d
  s1 : sideIn x (nearOf x g y d)
  s2 : sideIn y (farOf x g y d)
  cty : ctyOk (lanesOf x g y d) = true
  bks : booksOk (cTies (lanesOf x g y d)) (booksOf x g y d) = true
end
section
variable {P : Program} {w : World} {K : PySem.W.Frag} {mg : Str → Option Value} {base : Heap} {cC cW : Addr}
theorem sc85 : FnScope ["web", "gate", "other", "door", "near", "far", "lanes", "books", "one", "two", "yard"] ["web", "gate", "other", "door"] (defScope (topS 85)) := ⟨rfl, rfl, rfl, by decide +kernel, rfl, by decide +kernel, by decide +kernel⟩
theorem fk_joined_web (E : Tops K mg cC cW) : Fk P w K mg base "joined_web" 11 ["web", "gate", "other", "door"] (Sp4 (fun (x : Wb cC cW) (g : Nat) (y : Wb cC cW) (d : Nat) => JOk x g y d) joinedWeb) :=
  fk4 (N := ["web", "gate", "other", "door", "near", "far", "lanes", "books", "one", "two", "yard"]) E.d85 sc85 fun f cd A ou s H EX v1 v2 v3 v4 B x g y d Q hr sb r1 r2 r3 r4 ok q => by
    obtain ⟨⟨hl1, hi1⟩, hb1, hy1, hk1⟩ := ok.s1
    obtain ⟨⟨hl2, hi2⟩, hb2, hy2, hk2⟩ := ok.s2
    cases (show v2 = _ from r2)
    cases (show v4 = _ from r4)
    refine rb_unpack 4 5 (B := B) (u := numsBoth x.cty.ties g y.cty.ties d) (ev_call4 (x := x.cty) (y := g) (z := y.cty) (w := d) (fk_numbers_of_both E) (hr.mono (by decide)) (eva4 (ev_pC (c := x) E (hr.mono (by decide)) (ev_var 0 rfl r1)) (ev_var 1 rfl rfl) (ev_pC (c := y) E (hr.mono (by decide)) (ev_var 2 rfl r3)) (ev_var 3 rfl rfl)) ⟨ok.g1, ok.g2⟩) sb (fun v5 v6 B1 H1 hl1' n1 r5 r6 => ?_) sc85.nd
    have r5 : R B1 (nearOf x g y d) v5 := r5
    have r6 : R B1 (farOf x g y d) v6 := r6
    refine rb_setLcT 6 (B := B1) (p := fun _ : Nat × Nat => true) (g := fun z : Nat × Nat => ((nearOf x g y d).getD z.1 0, (nearOf x g y d).getD z.2 0)) [("one", 8), ("two", 9)] (ei_list (ev_pL (c := x.cty) E (hr.mono (by decide)) (ev_pC (c := x) E (hr.mono (by decide)) (ev_var 0 rfl (Rp.mono n1.bb r1)))))
      (turnP 8 9 (fun u w => rfl) (fun B2 z va vb s2 hz ra rb s H0 C cl fp => ⟨ets_nil, fun _ => ev_tup2 (eva2 (ev_ix (xs := nearOf x g y d) (i := z.1) (ev_var 4 rfl (Rp.mono s2 r5)) (ev_var 8 rfl ra) (getD_at (hi1 z hz).1)) (ev_ix (xs := nearOf x g y d) (i := z.2) (ev_var 4 rfl (Rp.mono s2 r5)) (ev_var 9 rfl rb) (getD_at (hi1 z hz).2)))⟩) sc85.nd) n1.bh (fun v7 B2 H2 hl2' n2 r7 => ?_) sc85.nd
    rw [filt_true] at r7
    have n12 := n1.trans n2
    refine rb_set 6 (B := B2) (x := lanesOf x g y d) (EvF.ev (evf_cat (ev_var (x := x.cty.lanes.map fun z : Nat × Nat => ((nearOf x g y d).getD z.1 0, (nearOf x g y d).getD z.2 0)) 6 rfl r7) (EvF.ev (evf_lc (p := fun z : Nat × Nat => !decide (d ∈ [z.1, z.2])) (g := fun z : Nat × Nat => ((farOf x g y d).getD z.1 0, (farOf x g y d).getD z.2 0)) [("one", 8), ("two", 9)] (ei_list (ev_pL (c := y.cty) E (hr.mono (by decide)) (ev_pC (c := y) E (hr.mono (by decide)) (ev_var 2 rfl (Rp.mono n12.bb r3)))))
      (turnP 8 9 (fun u w => rfl) (fun B3 z va vb s3 hz ra rb s H0 C cl fp => ⟨ets_one (Cm.et (cm_ninP (y := z.1) (z := z.2) (ev_var 3 rfl rfl) (ev_tup2 (eva2 (ev_var 8 rfl ra) (ev_var 9 rfl rb))))), fun _ => ev_tup2 (eva2 (ev_ix (xs := farOf x g y d) (i := z.1) (ev_var 5 rfl (Rp.mono (n2.bb.trans s3) r6)) (ev_var 8 rfl ra) (getD_at (hi2 z hz).1)) (ev_ix (xs := farOf x g y d) (i := z.2) (ev_var 5 rfl (Rp.mono (n2.bb.trans s3) r6)) (ev_var 9 rfl rb) (getD_at (hi2 z hz).2)))⟩) sc85.nd) sc85.nd)) ?_)) n2.bh (fun v8 B3 H3 hl3' n3 r8 => ?_) sc85.nd
    · rw [List.length_map, List.length_map]
      have := List.length_filter_le (fun z : Nat × Nat => !decide (d ∈ [z.1, z.2])) y.cty.lanes
      have e : x.cty.lanes.length + (y.cty.lanes.filter (fun z : Nat × Nat => !decide (d ∈ [z.1, z.2]))).length ≤ 200 := by omega
      exact Nat.le_trans e (show 200 ≤ 100000 by decide)
    have n13 := n12.trans n3
    refine rb_setLcT 7 (B := B3) (p := fun _ : Nat => true) (g := fun z => ledBook (bookAt x.cty.ties x.books z) (nearOf x g y d)) [("yard", 10)] (ei_list (ev_call1 (x := x.cty) (fk_yards_in E) (hr.mono (by decide)) (eva1 (ev_pC (c := x) E (hr.mono (by decide)) (ev_var 0 rfl (Rp.mono n13.bb r1)))) trivial))
      (turnN 10 (fun u => rfl) (fun B4 z va s4 hz ra s H0 C cl fp => ⟨ets_nil, fun _ => ev_call2 (x := bookAt x.cty.ties x.books z) (y := nearOf x g y d) (fk_led_book E) (hr.mono (by decide)) (eva2 (ev_call2 (x := x) (y := z) (fk_book_at E) (hr.mono (by decide)) (eva2 (ev_var 0 rfl (Rp.mono (n13.bb.trans s4) r1)) (ev_var 10 rfl ra)) ⟨hz, hb1⟩) (ev_var 4 rfl (Rp.mono (n2.bb.trans (n3.bb.trans s4)) r5))) (hk1 z hz)⟩) sc85.nd) n3.bh (fun v9 B4 H4 hl4' n4 r9 => ?_) sc85.nd
    rw [filt_true] at r9
    have n14 := n13.trans n4
    refine rb_set 7 (B := B4) (x := booksOf x g y d) (EvF.ev (EvF.to (evf_cat (ev_var (x := (yardsIn x.cty.ties).map fun z => ledBook (bookAt x.cty.ties x.books z) (nearOf x g y d)) 7 rfl r9) (EvF.ev (evf_lc (p := fun _ : Nat => true) (g := fun z => ledBook (bookAt y.cty.ties y.books z) (farOf x g y d)) [("yard", 10)] (ei_list (ev_call1 (x := y.cty) (fk_yards_in E) (hr.mono (by decide)) (eva1 (ev_pC (c := y) E (hr.mono (by decide)) (ev_var 2 rfl (Rp.mono n14.bb r3)))) trivial))
      (turnN 10 (fun u => rfl) (fun B5 z va s5 hz ra s H0 C cl fp => ⟨ets_nil, fun _ => ev_call2 (x := bookAt y.cty.ties y.books z) (y := farOf x g y d) (fk_led_book E) (hr.mono (by decide)) (eva2 (ev_call2 (x := y) (y := z) (fk_book_at E) (hr.mono (by decide)) (eva2 (ev_var 2 rfl (Rp.mono (n14.bb.trans s5) r3)) (ev_var 10 rfl ra)) ⟨hz, hb2⟩) (ev_var 5 rfl (Rp.mono (n2.bb.trans (n3.bb.trans (n4.bb.trans s5))) r6))) (hk2 z hz)⟩) sc85.nd) sc85.nd)) ?_) (by rw [filt_true]; rfl))) n4.bh (fun v10 B5 H5 hl5' n5 r10 => ?_) sc85.nd
    · rw [filt_true, List.length_map, List.length_map]
      exact Nat.le_trans (Nat.add_le_add hy1 hy2) (show 200 ≤ 100000 by decide)
    have n15 := n14.trans n5
    exact rb_ret (B := B5) (x := joinedWeb x g y d) (ev_call2 (x := mkCty cC (lanesOf x g y d)) (y := booksOf x g y d) (fk_bare_web E) (hr.mono (by decide)) (eva2 (ev_mkC (ls := lanesOf x g y d) E (hr.mono (by decide)) (eva1 (ev_var 6 rfl (Rp.mono (n4.bb.trans n5.bb) r8))) ok.cty) (ev_var 7 rfl r10)) ok.bks) n15.bh fun v' B' H' n r => q v' B' H' (n15.trans n) r
def loneLs : List Lane := [(0, 1), (1, 2)]
def loneOf (C W : Addr) (bs : List Bnd) : Wb C W := mkWb W (mkCty C loneLs) [[(2, bs)]]
theorem lone_cty : ctyOk loneLs = true := by decide +kernel
theorem sc86 : FnScope ["bounds"] ["bounds"] (defScope (topS 86)) := ⟨rfl, rfl, rfl, by decide +kernel, rfl, by decide +kernel, by decide +kernel⟩
theorem fk_lone_web (E : Tops K mg cC cW) : Fk P w K mg base "lone_web" 11 ["bounds"] (Sp1 (fun bs : List Bnd => booksOk (cTies loneLs) [[(2, bs)]] = true) (loneOf cC cW)) :=
  fk1 (N := ["bounds"]) E.d86 sc86 fun f cd A ou s H EX v1 B bs Q hr sb r1 ok q =>
    rb_ret (B := B) (x := loneOf cC cW bs) (ev_call2 (x := mkCty cC loneLs) (y := [[(2, bs)]]) (fk_bare_web E) (hr.mono (by decide)) (eva2 (ev_mkC (ls := loneLs) E (hr.mono (by decide)) (eva1 (EvF.ev (ev_lst (xs := loneLs) (eva2 (ev_tup2 (eva2 (x := 0) (y := 1) (ev_nat 0) (ev_nat 1))) (ev_tup2 (eva2 (x := 1) (y := 2) (ev_nat 1) (ev_nat 2))))))) lone_cty)
      (EvF.ev (ev_lst (xs := [[((2 : Nat), bs)]]) (eva1 (EvF.ev (ev_lst (xs := [((2 : Nat), bs)]) (eva1 (ev_tup2 (eva2 (x := 2) (y := bs) (ev_nat 2) (ev_var 0 rfl r1)))))))))) ok) sb q
theorem sc87 : FnScope ["web", "gate", "here"] ["web", "gate"] (defScope (topS 87)) := ⟨rfl, rfl, rfl, by decide +kernel, rfl, by decide +kernel, by decide +kernel⟩
theorem fk_kind (E : Tops K mg cC cW) : Fk P w K mg base "kind" 11 ["web", "gate"] (Sp2 (fun (x : Wb cC cW) (g : Nat) => WOk x ∧ g < x.cty.ties.length ∧ (rowAt x.cty.ties g).length = 1) fun x g => kindBy x.cty.ties x.cty.ahead x.books g) :=
  fk2 (N := ["web", "gate", "here"]) E.d87 sc87 fun f cd A ou s H EX v1 v2 B x g Q hr sb r1 r2 ⟨ok, hg⟩ q =>
    rb_set 2 (B := B) (x := x) (ev_call1 (x := x) (fk_want_web E) (hr.mono (by decide)) (eva1 (ev_var 0 rfl r1)) trivial) sb (fun v3 B1 H1 hl1 n1 r3 =>
      rb_drop (B := B1) (x := (none : Option Nat)) (ev_call2 (x := x.cty) (y := g) (fk_want_gate E) (hr.mono (by decide)) (eva2 (ev_pC (c := x) E (hr.mono (by decide)) (ev_var 2 rfl r3)) (ev_var 1 rfl r2)) hg) n1.bh fun B2 H2 hl2 n2 =>
      rb_ret (B := B2) (ev_call2 (x := x) (y := g) (fk_kind_by E) (hr.mono (by decide)) (eva2 (ev_var 2 rfl (Rp.mono n2.bb r3)) (ev_var 1 rfl r2)) ⟨ok, hg⟩) n2.bh fun v' B' H' n r => q v' B' H' (n1.trans (n2.trans n)) r) sc87.nd
theorem sc88 : FnScope ["web", "gate", "other", "door", "here", "there"] ["web", "gate", "other", "door"] (defScope (topS 88)) := ⟨rfl, rfl, rfl, by decide +kernel, rfl, by decide +kernel, by decide +kernel⟩
theorem fk_joined (E : Tops K mg cC cW) : Fk P w K mg base "joined" 12 ["web", "gate", "other", "door"] (Sp4 (fun (x : Wb cC cW) (g : Nat) (y : Wb cC cW) (d : Nat) => JOk x g y d ∧ (g < x.cty.ties.length ∧ (rowAt x.cty.ties g).length = 1) ∧ (d < y.cty.ties.length ∧ (rowAt y.cty.ties d).length = 1) ∧ (yardsIn x.cty.ties).length + (yardsIn y.cty.ties).length ≤ 7) joinedWeb) :=
  fk4 (N := ["web", "gate", "other", "door", "here", "there"]) E.d88 sc88 fun f cd A ou s H EX v1 v2 v3 v4 B x g y d Q hr sb r1 r2 r3 r4 ⟨ok, hg, hd, h7⟩ q =>
    rb_set 4 (B := B) (x := x) (ev_call1 (x := x) (fk_want_web E) (hr.mono (by decide)) (eva1 (ev_var 0 rfl r1)) trivial) sb (fun v5 B1 H1 hl1 n1 r5 =>
      rb_drop (B := B1) (x := (none : Option Nat)) (ev_call2 (x := x.cty) (y := g) (fk_want_gate E) (hr.mono (by decide)) (eva2 (ev_pC (c := x) E (hr.mono (by decide)) (ev_var 4 rfl r5)) (ev_var 1 rfl r2)) hg) n1.bh fun B2 H2 hl2 n2 =>
      rb_set 5 (B := B2) (x := y) (ev_call1 (x := y) (fk_want_web E) (hr.mono (by decide)) (eva1 (ev_var 2 rfl (Rp.mono (n1.trans n2).bb r3))) trivial) n2.bh (fun v6 B3 H3 hl3 n3 r6 =>
        rb_no (B := B3) (EvT.to (et_not (et_val (ev_call2 (x := y.cty) (y := d) (fk_is_gate E) (hr.mono (by decide)) (eva2 (ev_pC (c := y) E (hr.mono (by decide)) (ev_var 5 rfl r6)) (ev_var 3 rfl r4)) trivial))) (by rw [decide_eq_true hd.1, decide_eq_true hd.2]; rfl)) n3.bh fun H4 s4 =>
        rb_drop (B := B3) (x := (none : Option Nat)) (ev_call3 (x := ("yards" : Str)) (y := 7) (z := (yardsIn x.cty.ties).length + (yardsIn y.cty.ties).length) (fk_want_at_most E) (hr.mono (by decide)) (eva3 ev_str (ev_kn E.k20) (ev_add
          (ev_len (ev_call1 (x := x.cty) (fk_yards_in E) (hr.mono (by decide)) (eva1 (ev_pC (c := x) E (hr.mono (by decide)) (ev_var 4 rfl (Rp.mono (n2.trans n3).bb r5)))) trivial) E.bt.len)
          (ev_len (ev_call1 (x := y.cty) (fk_yards_in E) (hr.mono (by decide)) (eva1 (ev_pC (c := y) E (hr.mono (by decide)) (ev_var 5 rfl r6))) trivial) E.bt.len))) h7) (n3.bh.trans s4) fun B5 H5 hl5 n5 =>
        rb_ret (B := B5) (ev_call4 (x := x) (y := g) (z := y) (w := d) (fk_joined_web E) (hr.mono (by decide)) (eva4 (ev_var 4 rfl (Rp.mono n5.bb (Rp.mono (n2.trans n3).bb r5))) (ev_var 1 rfl r2) (ev_var 5 rfl (Rp.mono n5.bb r6)) (ev_var 3 rfl r4)) ok) n5.bh fun v' B' H' n r => q v' B' H' (n1.trans (n2.trans (n3.trans ((Nw.grow n3.bh s4).trans (n5.trans n))))) r) sc88.nd) sc88.nd
end
end LK
/-! ## F21 -/
namespace LK
open PySem PySem.Spec PyProof.Rows L2
open Rp (R)
structure KT (K : PySem.W.Frag) where
  u : Unit := ()
instance {K : PySem.W.Frag} : Rp (KT K) := ⟨fun _ _ v => ∃ a, v = .ref a ∧ ∀ H : Hp, SqT K H a [.str "clear", .str "own", .str "bad"], fun _ h => h⟩
def neverStuck (a b : Kd) : Bool := decide (Kd.clear ∈ [a, b]) && !decide (Kd.bad ∈ [a, b])
def partBnds (a b : Kd) : List Bnd := if decide (Kd.bad ∈ [a, b]) = true then [⟨none, some 2, 1⟩] else []
def partingOf (C W : Addr) (a b : Kd) : Option (Wb C W × Nat) := if a = b then none else some (loneOf C W (partBnds a b), 2)
section
variable {X : Cx} {e a b c : Expr} {es : List Expr} {σ : L2.St} {B H : Hp} {pos p : Pos} {k l : Kd}
theorem ev_kinds (h : KiD X.K X.mg) (hg : Gl X "KINDS" := by rfl) : Ev X (.Name "KINDS" pos) σ B (KT.mk () : KT X.K) := fun H s Q q => by
  obtain ⟨t, ht, ho⟩ := h
  exact rd_len fun hl => rd_mk (pe_glob (v := .ref t) hg ht rfl (by decide)) (q _ B H hl (Nw.refl s) ⟨t, rfl, ho⟩)
theorem kd_all (k : Kd) : inV (.str k.str) [.str "clear", .str "own", .str "bad"] = true := by cases k <;> decide +kernel
theorem cm_ninK (h : KiD X.K X.mg) (ha : Ev X a σ B k) (hg : Gl X "KINDS" := by rfl) (hm : behindInMarks .NotIn (.Name "KINDS" p) = false := by rfl) : Cm X (.Compare a [.NotIn] [.Name "KINDS" p] pos) σ B false :=
  cm_two op_notIn_seq hm ha (ev_kinds h hg) fun B1 H1 s u v ru rv Q q => by
    obtain ⟨t, rfl, ht⟩ := rv
    cases (show u = _ from ru)
    refine ⟨t, _, rfl, .inr (ht H1), rfl, by rfl, ?_⟩
    rw [if_pos rfl, kd_all]
    exact q
theorem kd_str (h : Ev X e σ B k) : Ev X e σ B k.str := fun H s Q q => h H s Q fun v B' H' hl n r => q v B' H' hl n r
theorem kd_inj (k l : Kd) : decide (k.str = l.str) = decide (k = l) := by cases k <;> cases l <;> decide +kernel
theorem cm_eqK (ha : Ev X a σ B k) (hb : Ev X b σ B l) : Cm X (.Compare a [.Eq] [b] pos) σ B (decide (k = l)) := Cm.to (cm_eqS (kd_str ha) (kd_str hb)) (kd_inj k l)
theorem cm_neK (ha : Ev X a σ B k) (hb : Ev X b σ B l) : Cm X (.Compare a [.NotEq] [b] pos) σ B (!decide (k = l)) := Cm.to (cm_neS (kd_str ha) (kd_str hb)) (by rw [kd_inj])
end
section
variable {P : Program} {w : World} {K : PySem.W.Frag} {mg : Str → Option Value} {base : Heap} {cC cW : Addr}
theorem sc89 : FnScope ["value"] ["value"] (defScope (topS 89)) := ⟨rfl, rfl, rfl, by decide +kernel, rfl, by decide +kernel, by decide +kernel⟩
theorem fk_want_kind (E : Tops K mg cC cW) : Fk P w K mg base "want_kind" 1 ["value"] (Sp1 (fun _ : Kd => True) fun _ => (none : Option Nat)) :=
  fk1 (N := ["value"]) E.d89 sc89 fun f cd A ou s H EX v B a Q hr sb ra _ q =>
    rb_no (B := B) (EvT.to (et_or2 (et_not (et_val (ev_isi (x := a) true (ev_var 0 rfl ra) E.bt.isinstance E.bt.str (by rfl)))) fun _ => Cm.et (cm_ninK E.k77 (ev_var 0 rfl ra))) rfl) sb fun H1 s1 =>
    rb_nil (q .non B H1 (Nw.grow sb s1) rfl)
theorem sc90 : FnScope ["near", "far"] ["near", "far"] (defScope (topS 90)) := ⟨rfl, rfl, rfl, by decide +kernel, rfl, by decide +kernel, by decide +kernel⟩
theorem fk_are_never_stuck (E : Tops K mg cC cW) : Fk P w K mg base "are_never_stuck" 2 ["near", "far"] (Sp2 (fun _ _ : Kd => True) neverStuck) :=
  fk2 (N := ["near", "far"]) E.d90 sc90 fun f cd A ou s H EX v1 v2 B a b Q hr sb r1 r2 _ q =>
    rb_drop (B := B) (x := (none : Option Nat)) (ev_call1 (x := a) (fk_want_kind E) (hr.mono (by decide)) (eva1 (ev_var 0 rfl r1)) trivial) sb fun B1 H1 hl1 n1 =>
    rb_drop (B := B1) (x := (none : Option Nat)) (ev_call1 (x := b) (fk_want_kind E) (hr.mono (by decide)) (eva1 (ev_var 1 rfl r2)) trivial) n1.bh fun B2 H2 hl2 n2 =>
    rb_ret (B := B2) (x := neverStuck a b) (ev_and2 (Cm.ev (cm_inP (y := a) (z := b) (ev_kd .clear) (ev_tup2 (eva2 (ev_var 0 rfl r1) (ev_var 1 rfl r2))))) fun _ => Cm.ev (cm_ninP (y := a) (z := b) (ev_kd .bad) (ev_tup2 (eva2 (ev_var 0 rfl r1) (ev_var 1 rfl r2))))) n2.bh fun v' B' H' n r => q v' B' H' (n1.trans (n2.trans n)) r
theorem part_ok (a b : Kd) : booksOk (cTies loneLs) [[(2, partBnds a b)]] = true := by
  unfold partBnds
  split <;> decide +kernel
theorem sc91 : FnScope ["near", "far"] ["near", "far"] (defScope (topS 91)) := ⟨rfl, rfl, rfl, by decide +kernel, rfl, by decide +kernel, by decide +kernel⟩
theorem fk_partingF (E : Tops K mg cC cW) : ∃ f fd, Fun K "parting" "parting" (topS 91) f fd ∧ FnOk P w K mg base CX0 12 f fd ["near", "far"] (Sp2 (fun _ _ : Kd => True) (partingOf cC cW)) ∧ mg "parting" = some (.ref f) ∧ Binds K fd ["near", "far"] [] :=
  fk_mkF (N := ["near", "far"]) E.d91 sc91 (fun vs H Q E ⟨_, _, _, _, _, e, _⟩ => by rw [e]; rfl) fun f cd A ou s H vs Q EX hr ⟨B, a, b, v1, v2, e, sb, r1, r2, _, q⟩ => by
    subst e
    exact
      rb_drop (B := B) (x := (none : Option Nat)) (ev_call1 (x := a) (fk_want_kind E) (hr.mono (by decide)) (eva1 (ev_var 0 rfl r1)) trivial) sb fun B1 H1 hl1 n1 =>
      rb_drop (B := B1) (x := (none : Option Nat)) (ev_call1 (x := b) (fk_want_kind E) (hr.mono (by decide)) (eva1 (ev_var 1 rfl r2)) trivial) n1.bh fun B2 H2 hl2 n2 =>
      rb_if (B := B2) (decide (a = b)) (Cm.et (cm_eqK (k := a) (l := b) (ev_var 0 rfl r1) (ev_var 1 rfl r2))) n2.bh
        (fun ht H3 s3 => rb_ret (B := B2) (x := (none : Option (Wb cC cW × Nat))) ev_non (n2.bh.trans s3) fun v' B' H' n r => q v' B' H' (n1.trans (n2.trans ((Nw.grow n2.bh s3).trans n))) (by
          have : partingOf cC cW a b = none := by unfold partingOf; rw [if_pos (of_decide_eq_true ht)]
          rw [this]; exact r))
        fun ht H3 s3 => rb_nil (rb_ret (B := B2) (x := some (loneOf cC cW (partBnds a b), 2)) (ev_some (ev_tup2 (eva2 (y := 2) (ev_call1 (x := partBnds a b) (fk_lone_web E) (hr.mono (by decide)) (eva1 (x := partBnds a b) (ev_ifExp (decide (Kd.bad ∈ [a, b])) (Cm.et (cm_inP (y := a) (z := b) (ev_kd .bad) (ev_tup2 (eva2 (ev_var 0 rfl r1) (ev_var 1 rfl r2)))))
            (fun h => Ev.to (EvF.ev (ev_lst (xs := [(T3.mk (none : Option Nat) (some 2) 1 : Bnd)]) (eva1 (ev_tup3 (eva3 (x := (none : Option Nat)) (y := some 2) (z := 1) ev_non (ev_some (ev_nat 2)) (ev_nat 1)))))) (by unfold partBnds; rw [if_pos h])) fun h => Ev.to (EvF.ev (ev_lst0 (α := Bnd))) (by unfold partBnds; rw [if_neg (by rw [h]; decide)]))) (part_ok a b)) (ev_nat 2)))) (n2.bh.trans s3) fun v' B' H' n r => q v' B' H' (n1.trans (n2.trans ((Nw.grow n2.bh s3).trans n))) (by
          have : partingOf cC cW a b = some (loneOf cC cW (partBnds a b), 2) := by unfold partingOf; rw [if_neg (of_decide_eq_false ht)]
          rw [this]; exact r))
theorem fk_parting (E : Tops K mg cC cW) : Fk P w K mg base "parting" 12 ["near", "far"] (Sp2 (fun _ _ : Kd => True) (partingOf cC cW)) := by
  obtain ⟨f, fd, F, G, hm, hb⟩ := fk_partingF (P := P) (w := w) (base := base) E
  exact ⟨f, fd, G, hm, F.kp, hb⟩
end
end LK
/-! ## L8 -/
namespace LK
open PySem PySem.Spec PyProof.Rows L2
open Rp (R)
/-! ### sorted(set(xs)), xs a list of numbers -/
section
variable {P : Program} {w : World} {A : Around} {E : Value → Shared → Prop} {s : Shared}
/-- a new set, empty -/
abbrev newSet (w : World) : Obj := { cls := .type "set", dict := none, data := .set #[] 0 (.fresh 0 0 (!w.params.followText "set-order")) }
theorem call_set_lst {l : Addr} {items : Array Value} (ns : List Int) {Q : Value → Shared → Prop} (hh : A.handled = none) (hl : s.heap.IsList l items) (hit : IntsAre items.toList ns) (hb : ns.length + 1 < scanBound)
    (h : ∀ (h' : Heap) (tk c : Nat), SetR w h' s.heap.objs.size (fun j => decide (j ∈ ns)) c → c ≤ ns.length → (∀ b o, s.heap.get? b = some o → h'.get? b = some o) → Q (.ref s.heap.objs.size) { s with heap := h', toks := tk }) :
    wpAny (model P w) A (call (.type "set") [.ref l]) Q E s := by
  have hS : (s.heap.push (newSet w)).get? s.heap.objs.size = some (newSet w) := Heap.get?_push_size _ rfl
  have hT : Shared.TypeIs { s with heap := s.heap.push (newSet w) } (.ref s.heap.objs.size) "set" := ⟨_, hS, rfl⟩
  -- the new set is filled
  have fill : wpAny (model P w) A.in1.in1 (Builtin.«set.__init__» ⟨[.ref s.heap.objs.size, .ref l], []⟩) (fun fin s' => match fin with
      | .done f => wants (fun r s₂ => r = .none ∧ Q (.ref s.heap.objs.size) s₂) E (.ok f) s'
      | .again c' => c'.quiet = true ∧ codeAny (model P w) A.in1 c' (wants (fun r s₂ => r = .none ∧ Q (.ref s.heap.objs.size) s₂) E) s')
      (fun e s' => wants (fun r s₂ => r = .none ∧ Q (.ref s.heap.objs.size) s₂) E (.error e) s') { s with heap := s.heap.push (newSet w) } := by
    obtain ⟨⟨ocls, odict, odata, oslots⟩, hol, hcl, nl, hdl⟩ := hl
    cases hcl
    cases hdl
    have hlS : l < s.heap.objs.size := Heap.lt_size hol
    have hl1 : (s.heap.push (newSet w)).IsList l items := ⟨_, Heap.get?_push_of_some _ hol, rfl, nl, rfl⟩
    have q0 := Heap.get?_push_of_some (newSet w) hol
    have q1 := PySem.F.sub_list_set
    have q2 := PySem.F.sub_list_frozenset
    have q3 : (Value.type "list" == Value.type "dict") = false := by decide
    have hsz : items.size = ns.length := by rw [← Array.length_toList]; exact IntsAre.length hit
    have hz : (s.heap.push (newSet w)).objs.size = s.heap.objs.size + 1 := Heap.size_push ..
    unfold Builtin.«set.__init__» noKeywords Builtin.Frozenset.updateFrom
    generalize hPI : pyIter = PI
    wp_walk
    subst hPI
    refine wpAny_pyIter_list hl1 (wpAny_bind (wpAny_runValue ?_))
    have hne : l ≠ (s.heap.push (newSet w)).objs.size := by rw [hz]; exact Nat.ne_of_lt (Nat.lt_succ_of_lt hlS)
    have hnot : s.heap.objs.size ∉ [(s.heap.push (newSet w)).objs.size, l] := by
      rw [hz]
      simp only [List.mem_cons, List.not_mem_nil, or_false, not_or]
      exact ⟨Nat.ne_of_lt (Nat.lt_succ_self _), Nat.ne_of_gt hlS⟩
    refine set_update_ints ((Walks.list (A := A.in1.in1.in1) (by simp [hh]) _ l hne items).toS) s.heap.objs.size hnot ns hsz hb (fun i v hv => ?_) (items.size - 0) 0 _ (by omega) (Nat.zero_le _)
      ⟨⟨_, Heap.get?_push_size _ rfl, rfl, rfl⟩, hl1.push _⟩ ⟨0, Nat.le_refl 0, setR_new_at (Heap.get?_push_of_some _ hS)⟩ fun s' c' hm hc' hS' => ?_
    · have hi : i < ns.length := by rw [← hsz]; exact (Array.getElem?_eq_some_iff.mp hv).1
      obtain ⟨t, e⟩ := PyProof.Rows.IntsAre.int_at hit i v (by rw [Array.getElem?_toList]; exact hv)
      exact ⟨ns[i], t, List.getElem?_eq_getElem hi, by rw [e, List.getD_eq_getElem?_getD, List.getElem?_eq_getElem hi] <;> rfl⟩
    · obtain ⟨h', g2, d', tk', os'⟩ := s'
      obtain rfl : g2 = s.gens := hm.gens
      obtain rfl : d' = s.drawn := hm.drawn
      obtain rfl : os' = s.os := hm.os
      rw [hsz] at hc'
      refine wpAny_pure (wpAny_pure ⟨rfl, h h' tk' c' hS' hc' fun b o e => hm.heap b o ?_ (Heap.get?_push_of_some _ (Heap.get?_push_of_some _ e))⟩)
      have hb0 : b < s.heap.objs.size := Heap.lt_size e
      rw [hz]
      simp only [List.mem_cons, List.not_mem_nil, or_false, not_or]
      exact ⟨Nat.ne_of_lt hb0, Nat.ne_of_lt (Nat.lt_succ_of_lt hb0)⟩
  -- the call of the type
  obtain ⟨c, tl, hmro⟩ := PySem.F.called_set.mro
  have hmade := PySem.F.called_set.made
  have hsub := PySem.F.called_set.sub
  have h1 := PySem.F.called_set.notType
  have h2 := PySem.F.called_set.canCreate
  have hct := PySem.F.typeCall_set_1 (.ref l)
  refine wpAny_call (codeAny_of_tree ?_)
  show wpAny _ _ (callAny (.type "set") _) _ _ _
  refine wpAny_pure ⟨Code.quiet_builtin _ (by decide +kernel), codeAny_builtin PySem.F.entry_type_call ?_⟩
  rw [Around.under_plain (weight_type_call_type "set" [.ref l] []) rfl]
  repeat (any_goals (first | assumption | wp_step))
  refine codeAny_mono (code_set_led1 (.ref l) (E := E) (Q₁ := fun obj s₁ => obj = .ref s.heap.objs.size ∧ s₁ = { s with heap := s.heap.push (newSet w) }) ⟨rfl, rfl⟩) fun r s₁ hr => ?_
  cases r with
  | error e => exact hr
  | ok fl =>
    cases fl with
    | ret obj =>
      obtain ⟨rfl, rfl⟩ := hr
      have hli := PySem.F.called_set.init.lookup
      have hbi := PySem.F.called_set.init.bind (.ref s.heap.objs.size)
      repeat (any_goals (first | assumption | wp_step))
      refine codeAny_mono (codeAny_call_builtin (R := wants (fun r s₂ => r = .none ∧ Q (.ref s.heap.objs.size) s₂) E) PySem.F.called_set.init.plain PySem.F.entry_set_init (check_set_init_1 hT fill)) fun r₂ s₂ hr₂ => ?_
      cases r₂ with
      | error e => exact hr₂
      | ok fl₂ =>
        cases fl₂ with
        | ret r =>
          obtain ⟨rfl, hq⟩ := hr₂
          repeat (any_goals (first | assumption | wp_step))
        | _ => exact hr₂.elim
    | _ => exact hr.elim
end
def nset (xs : List Nat) : List Nat := (List.range (xs.foldl max 0 + 1)).filter fun k => decide (k ∈ xs)
theorem le_foldl_max : ∀ (xs : List Nat) (m : Nat), m ≤ xs.foldl max m ∧ ∀ k ∈ xs, k ≤ xs.foldl max m
  | [], m => ⟨Nat.le_refl _, by simp⟩
  | x :: xs, m => by
    obtain ⟨h1, h2⟩ := le_foldl_max xs (max m x)
    refine ⟨Nat.le_trans (Nat.le_max_left ..) h1, fun k hk => ?_⟩
    rcases List.mem_cons.mp hk with rfl | hk
    · exact Nat.le_trans (Nat.le_max_right ..) h1
    · exact h2 k hk
theorem mem_nset {xs : List Nat} {k : Nat} : k ∈ nset xs ↔ k ∈ xs := by
  unfold nset
  rw [List.mem_filter, List.mem_range, decide_eq_true_iff]
  exact ⟨fun h => h.2, fun h => ⟨Nat.lt_succ_of_le ((le_foldl_max xs 0).2 k h), h⟩⟩
theorem nset_lt (xs : List Nat) : (nset xs).Pairwise (· < ·) := List.Pairwise.filter _ List.pairwise_lt_range
theorem ints_eq {ns : List Int} {ms : List Nat} (h1 : ns.Pairwise (· < ·)) (h2 : ms.Pairwise (· < ·)) (h : ∀ k : Int, k ∈ ns ↔ k ∈ ms.map fun (m : Nat) => (m : Int)) : ns = ms.map fun (m : Nat) => (m : Int) := by
  have h3 : (ms.map fun (m : Nat) => (m : Int)).Pairwise (· < ·) := List.Pairwise.map _ (fun a b hab => by omega) h2
  have n1 : ns.Nodup := h1.imp fun h => Int.ne_of_lt h
  have n2 : (ms.map fun (m : Nat) => (m : Int)).Nodup := h3.imp fun h => Int.ne_of_lt h
  exact List.Perm.eq_of_pairwise (le := (· < ·)) (fun a b _ _ hab hba => absurd hab (by omega)) h1 h3 ((List.perm_ext_iff_of_nodup n1 n2).mpr h)
section
variable {X : Cx} {e : Expr} {σ : L2.St} {B H : Hp} {pos p p2 pos2 : Pos}
theorem ints_vals : ∀ {ns : List Nat} {us : List Value}, Vals (nV ns) us → IntsAre us (ns.map fun (n : Nat) => (n : Int))
  | [], _, .nil => .nil
  | n :: ns, _, .cons r t => by
    obtain ⟨k, rfl⟩ := r
    exact .cons _ k (ints_vals t)
theorem cr_setOfN (hc : X.calm = true) : CallR X (.type "set") (fun xs H Q => ∃ (l : Addr) (ns : List Nat), xs = [V.ref l] ∧ H l = some (.lst (nV ns)) ∧ ns.length < 64 ∧
    ∀ a c, H a = none → c ≤ ns.length → Q (.ref a) (upd H a (SetO X.w a (fun j => decide (j ∈ ns.map fun (n : Nat) => (n : Int))) c))) := by
  intro pins s σ H xs us Q I r h
  obtain ⟨l, ns, rfl, hl, hz, q⟩ := h
  rw [Vals.ref1 r]
  obtain ⟨its, rv, pl, _⟩ := I.list (SqL.of hl)
  have hn : H s.heap.objs.size = none := I.hok.fresh (Nat.le_refl _)
  refine call_set_lst (P := X.prog) (w := X.w) (ns.map fun (n : Nat) => (n : Int)) (I.ok.hd hc) pl.isList (by simpa using ints_vals rv) (by rw [List.length_map]; exact Nat.lt_of_lt_of_le (Nat.succ_lt_succ hz) (by decide)) fun h' tk c R hcl k => ?_
  rw [List.length_map] at hcl
  exact ⟨.ref s.heap.objs.size, upd H s.heap.objs.size (SetO X.w s.heap.objs.size (fun j => decide (j ∈ ns.map fun (n : Nat) => (n : Int))) c), I.laid (t' := tk) k (Nat.le_refl _) (setO_new R), rfl, q _ c hn hcl⟩
/-- sorted(set(xs)) -/
theorem evf_sortedSet {xs : List Nat} (h : Ev X e σ B xs) (hz : xs.length < 64) (hm : X.mg "sorted" = none) (hm2 : X.mg "set" = none) (hc : X.calm = true := by rfl) (hg : Gl X "sorted" := by rfl) (hg2 : Gl X "set" := by rfl) (h1 : NS X e [] := by rfl)
    (h2 : NS X (.Call (.Name "set" p2) [e] [] pos2) [] := by rfl) : EvF X (.Call (.Name "sorted" p) [.Call (.Name "set" p2) [e] [] pos2] [] pos) σ B (nset xs) := fun H s Q q =>
  rd_blt (cr_sortedSet hc) hm boot_sorted (rdA_mk (pa_cons pe_rd pa_nil h2) (rd_ty (cr_setOfN hc) hm2 boot_set (rdA1 h s (fun v B' H' _ n r => by
    obtain ⟨q0, vs, rfl, hq, l⟩ := r
    have e1 := lr_nV l
    subst e1
    refine ⟨q0, xs, rfl, n.bh q0 _ hq, hz, fun a c ha hcl hl => ⟨a, _, c, rfl, upd_same, Nat.lt_of_le_of_lt hcl hz, fun ns p0 hp hmem _ hp0 hl2 => ?_⟩⟩
    have e2 := ints_eq hp (nset_lt xs) (fun k => by
      rw [hmem k, decide_eq_true_iff, List.mem_map, List.mem_map]
      exact ⟨fun ⟨a, h1, h2⟩ => ⟨a, mem_nset.mpr h1, h2⟩, fun ⟨a, h1, h2⟩ => ⟨a, mem_nset.mp h1, h2⟩⟩)
    subst e2
    have hne : p0 ≠ a := fun e => by rw [e, upd_same] at hp0; cases hp0
    have hp1 : H' p0 = none := by rw [upd_ne hne] at hp0; exact hp0
    have ev : ((nset xs).map fun (m : Nat) => (m : Int)).map V.int = nV (nset xs) := by unfold nV; rw [List.map_map]; rfl
    rw [ev] at hl2 ⊢
    refine q p0 (nV (nset xs)) B' _ hl2 (n.trans (Nw.grow n.bh ((same_new ha).trans (same_new hp0)))) (n.hh.free hp1) (n.bh.free hp1) upd_same (nV_lr _)) h1) hg2 (by decide) (by decide) h1)) hg (by decide) (by decide) h2
end
end LK
/-! ## F22 -/
namespace LK
open PySem PySem.Spec PyProof.Rows L2
open Rp (R)
def lBeside (ls : List Lane) (p : Nat) : List Nat := nsort ((ls.filter fun z => decide (p ∈ [z.1, z.2])).map fun z => if z.1 = p then z.2 else z.1)
def lPlaces (ls : List Lane) : List Nat := nset (ls.map (fun z => z.1) ++ ls.map fun z => z.2)
def lYards (ls : List Lane) : List Nat := (lPlaces ls).filter fun p => decide (1 < (lBeside ls p).length)
def lGates (ls : List Lane) : List Nat := (lPlaces ls).filter fun p => decide ((lBeside ls p).length = 1)
section
variable {P : Program} {w : World} {K : PySem.W.Frag} {mg : Str → Option Value} {base : Heap} {cC cW : Addr}
theorem sc96 : FnScope ["_law_lanes", "_law_place", "_law_a", "_law_b"] ["_law_lanes", "_law_place"] (defScope (topS 96)) := ⟨rfl, rfl, rfl, by decide +kernel, rfl, by decide +kernel, by decide +kernel⟩
theorem fk_lbeside (E : Tops K mg cC cW) : Fk P w K mg base "_law_beside" 1 ["_law_lanes", "_law_place"] (Sp2 (fun (_ : List Lane) (_ : Nat) => True) lBeside) :=
  fk2 (N := ["_law_lanes", "_law_place", "_law_a", "_law_b"]) E.d96 sc96 fun f cd A ou s H EX v1 v2 B ls p Q hr sb r1 r2 _ q =>
    rb_ret (Ev.to (EvF.ev (evf_sorted (EvF.ev (evf_lc (p := fun z : Lane => decide (p ∈ [z.1, z.2])) (g := fun z : Lane => if z.1 = p then z.2 else z.1) [("_law_a", 2), ("_law_b", 3)] (ei_list (ev_var (x := ls) 0 rfl r1))
      (turnP 2 3 (fun u w => rfl) (fun B1 z va vb s1 _ ra rb s H0 C cl fp => ⟨ets_one (Cm.et (cm_in (xs := [z.1, z.2]) (ev_var 1 rfl (Rp.mono s1 r2)) (EvF.ev (ev_lst (xs := [z.1, z.2]) (eva2 (ev_var 2 rfl ra) (ev_var 3 rfl rb)))))), fun _ =>
        ev_ifExp (decide (z.1 = p)) (Cm.et (cm_eq (ev_var 2 rfl ra) (ev_var 1 rfl (Rp.mono s1 r2)))) (fun h => Ev.to (ev_var (x := z.2) 3 rfl rb) (by rw [if_pos (of_decide_eq_true h)])) fun h => Ev.to (ev_var (x := z.1) 2 rfl ra) (by rw [if_neg (of_decide_eq_false h)])⟩) sc96.nd) sc96.nd)) hr.units E.bt.sorted)) (srt_nat _)) sb q
theorem ev_places {X : Cx} {σ : L2.St} {B : Hp} {ls : List Lane} : True := trivial
theorem sc97 : FnScope ["_law_lanes", "_law_places", "_law_a", "_law_b", "_law_place"] ["_law_lanes"] (defScope (topS 97)) := ⟨rfl, rfl, rfl, by decide +kernel, rfl, by decide +kernel, by decide +kernel⟩
theorem fk_lyards (E : Tops K mg cC cW) : Fk P w K mg base "_law_yards" 2 ["_law_lanes"] (Sp1 (fun ls : List Lane => ls.length < 30) lYards) :=
  fk1 (N := ["_law_lanes", "_law_places", "_law_a", "_law_b", "_law_place"]) E.d97 sc97 fun f cd A ou s H EX v1 B ls Q hr sb r1 hz q =>
    rb_set 1 (B := B) (x := lPlaces ls) (EvF.ev (evf_sortedSet (xs := ls.map (fun z => z.1) ++ ls.map fun z => z.2) (Ev.to (EvF.ev (evf_cat (xs := (ls.filter fun _ => true).map fun z => z.1) (ys := (ls.filter fun _ => true).map fun z => z.2)
      (EvF.ev (evf_lc (p := fun _ : Lane => true) (g := fun z : Lane => z.1) [("_law_a", 2), ("_law_b", 3)] (ei_list (ev_var (x := ls) 0 rfl r1)) (turnP 2 3 (fun u w => rfl) (fun B1 z va vb s1 _ ra rb s H0 C cl fp => ⟨ets_nil, fun _ => ev_var 2 rfl ra⟩) sc97.nd) sc97.nd))
      (EvF.ev (evf_lc (p := fun _ : Lane => true) (g := fun z : Lane => z.2) [("_law_a", 2), ("_law_b", 3)] (ei_list (ev_var (x := ls) 0 rfl r1)) (turnP 2 3 (fun u w => rfl) (fun B1 z va vb s1 _ ra rb s H0 C cl fp => ⟨ets_nil, fun _ => ev_var 3 rfl rb⟩) sc97.nd) sc97.nd))
      (by rw [filt_true, List.length_map, List.length_map]; exact Nat.le_trans (Nat.add_le_add (Nat.le_of_lt hz) (Nat.le_of_lt hz)) (show 60 ≤ 100000 by decide)))) (by rw [filt_true])) (by rw [List.length_append, List.length_map, List.length_map]; omega) E.bt.sorted E.bt.set)) sb (fun v2 B2 H2 hl2 n2 r2 =>
    rb_ret (Ev.to (EvF.ev (evf_lc (p := fun p => decide (1 < (lBeside ls p).length)) (g := fun p => p) [("_law_place", 4)] (ei_list (ev_var (x := lPlaces ls) 1 rfl r2)) (turnN 4 (fun u => rfl) (fun B3 p vp s3 _ rp s H0 C cl fp => ⟨ets_one (Cm.et (cm_gt (ev_len (ev_call2 (x := ls) (y := p) (fk_lbeside E) (hr.mono (by decide)) (eva2 (ev_var 0 rfl (Rp.mono (n2.bb.trans s3) r1)) (ev_var 4 rfl rp)) trivial) E.bt.len) (ev_nat 1))), fun _ => ev_var 4 rfl rp⟩) sc97.nd) sc97.nd)) (List.map_id' _)) n2.bh fun v' B' H' n r => q v' B' H' (n2.trans n) r) sc97.nd
theorem sc98 : FnScope ["_law_lanes", "_law_places", "_law_a", "_law_b", "_law_place"] ["_law_lanes"] (defScope (topS 98)) := ⟨rfl, rfl, rfl, by decide +kernel, rfl, by decide +kernel, by decide +kernel⟩
theorem fk_lgates (E : Tops K mg cC cW) : Fk P w K mg base "_law_gates" 2 ["_law_lanes"] (Sp1 (fun ls : List Lane => ls.length < 30) lGates) :=
  fk1 (N := ["_law_lanes", "_law_places", "_law_a", "_law_b", "_law_place"]) E.d98 sc98 fun f cd A ou s H EX v1 B ls Q hr sb r1 hz q =>
    rb_set 1 (B := B) (x := lPlaces ls) (EvF.ev (evf_sortedSet (xs := ls.map (fun z => z.1) ++ ls.map fun z => z.2) (Ev.to (EvF.ev (evf_cat (xs := (ls.filter fun _ => true).map fun z => z.1) (ys := (ls.filter fun _ => true).map fun z => z.2)
      (EvF.ev (evf_lc (p := fun _ : Lane => true) (g := fun z : Lane => z.1) [("_law_a", 2), ("_law_b", 3)] (ei_list (ev_var (x := ls) 0 rfl r1)) (turnP 2 3 (fun u w => rfl) (fun B1 z va vb s1 _ ra rb s H0 C cl fp => ⟨ets_nil, fun _ => ev_var 2 rfl ra⟩) sc98.nd) sc98.nd))
      (EvF.ev (evf_lc (p := fun _ : Lane => true) (g := fun z : Lane => z.2) [("_law_a", 2), ("_law_b", 3)] (ei_list (ev_var (x := ls) 0 rfl r1)) (turnP 2 3 (fun u w => rfl) (fun B1 z va vb s1 _ ra rb s H0 C cl fp => ⟨ets_nil, fun _ => ev_var 3 rfl rb⟩) sc98.nd) sc98.nd))
      (by rw [filt_true, List.length_map, List.length_map]; exact Nat.le_trans (Nat.add_le_add (Nat.le_of_lt hz) (Nat.le_of_lt hz)) (show 60 ≤ 100000 by decide)))) (by rw [filt_true])) (by rw [List.length_append, List.length_map, List.length_map]; omega) E.bt.sorted E.bt.set)) sb (fun v2 B2 H2 hl2 n2 r2 =>
    rb_ret (Ev.to (EvF.ev (evf_lc (p := fun p => decide ((lBeside ls p).length = 1)) (g := fun p => p) [("_law_place", 4)] (ei_list (ev_var (x := lPlaces ls) 1 rfl r2)) (turnN 4 (fun u => rfl) (fun B3 p vp s3 _ rp s H0 C cl fp => ⟨ets_one (Cm.et (cm_eq (ev_len (ev_call2 (x := ls) (y := p) (fk_lbeside E) (hr.mono (by decide)) (eva2 (ev_var 0 rfl (Rp.mono (n2.bb.trans s3) r1)) (ev_var 4 rfl rp)) trivial) E.bt.len) (ev_nat 1))), fun _ => ev_var 4 rfl rp⟩) sc98.nd) sc98.nd)) (List.map_id' _)) n2.bh fun v' B' H' n r => q v' B' H' (n2.trans n) r) sc98.nd
end
/-! ### lets -/
def lHit (b : Bnd) (q : Nat × Nat) : Bool := decide (b.a ∈ [none, some q.1]) && decide (b.b ∈ [none, some q.2])
def letsFits (a : Alt) (load : List (Nat × Nat)) : Bool := a.2.foldl (fun f b => f && decide ((load.filter (lHit b)).length ≤ b.c)) (decide (load.length ≤ a.1))
def lLets (book : Book) (load : List (Nat × Nat)) : Bool := book.any fun a => letsFits a load
section
variable {P : Program} {w : World} {K : PySem.W.Frag} {mg : Str → Option Value} {base : Heap} {cC cW : Addr}
theorem sc100 : FnScope ["_law_book_here", "_law_load", "_law_places", "_law_bounds", "_law_fits", "_law_origin", "_law_target", "_law_most", "_law_some", "_law_pair"] ["_law_book_here", "_law_load"] (defScope (topS 100)) := ⟨rfl, rfl, rfl, by decide +kernel, rfl, by decide +kernel, by decide +kernel⟩
theorem fk_lets (E : Tops K mg cC cW) : Fk P w K mg base "_law_lets" 1 ["_law_book_here", "_law_load"] (Sp2 (fun (_ : Book) (_ : List (Nat × Nat)) => True) lLets) :=
  fk2 (N := ["_law_book_here", "_law_load", "_law_places", "_law_bounds", "_law_fits", "_law_origin", "_law_target", "_law_most", "_law_some", "_law_pair"]) E.d100 sc100 fun f cd A ou s H EX v1 v2 B b ld Q hr sb r1 r2 _ q => by
    refine rb_forS (B := B) (xs := b) (fun i σ' B2 H2 => ∃ y2 y3 y4 y5 y6 y7 y8 y9, σ' = [some v1, some v2, y2, y3, y4, y5, y6, y7, y8, y9] ∧ Nw B H B2 H2 ∧ lLets b ld = (b.drop i).any fun a => letsFits a ld)
      (ei_list (ev_var 0 rfl r1)) (fun i σ B H B' H' ⟨a1, a2, a3, a4, a5, a6, a7, a8, e, N, z⟩ n => ⟨a1, a2, a3, a4, a5, a6, a7, a8, e, N.trans n, z⟩) (fun i σ B H ⟨_, _, _, _, _, _, _, _, _, N, _⟩ => N.bh) ⟨none, none, none, none, none, none, none, none, rfl, Nw.refl sb, rfl⟩ PassesOwn.never rfl ?_ ?_
    · rintro B1 s1 i a va σ' B2 H2 ha s2 ⟨y2, y3, y4, y5, y6, y7, y8, y9, rfl, N, hw⟩ ra
      rw [drop_at ha, List.any_cons] at hw
      refine rg_pair 2 3 ra N.bh (fun vp vb rp rb => ?_) sc100.nd
      refine rb_set 4 (B := B2) (x := decide (ld.length ≤ a.1)) (Cm.ev (cm_le (ev_len (ev_var (x := ld) 1 rfl (Rp.mono N.bb r2)) E.bt.len) (ev_var 2 rfl rp))) N.bh (fun v4 B3 H3 hl3 n3 r4 => ?_) sc100.nd
      cases (show v4 = _ from r4)
      have N3 := N.trans n3
      refine rb_forS (B := B3) (xs := a.2) (fun j σ' B4 H4 => ∃ y5 y6 y7 y8 y9, σ' = [some v1, some v2, some vp, some vb, some (.bl ((a.2.take j).foldl (fun f b => f && decide ((ld.filter (lHit b)).length ≤ b.c)) (decide (ld.length ≤ a.1)))), y5, y6, y7, y8, y9] ∧ Nw B H B4 H4 ∧ Same B3 B4)
        (ei_list (ev_var 3 rfl (Rp.mono n3.bb rb))) (fun i σ B H B' H' ⟨a1, a2, a3, a4, a5, e, N, z⟩ n => ⟨a1, a2, a3, a4, a5, e, N.trans n, z.trans n.bb⟩) (fun i σ B H ⟨_, _, _, _, _, _, N, _⟩ => N.bh) ⟨y5, y6, y7, y8, y9, rfl, N3, Same.refl _⟩ PassesOwn.never rfl ?_ ?_
      · rintro B4 s4 j z vz σ' B5 H5 hz s5 ⟨y5, y6, y7, y8, y9, rfl, N5, s35⟩ rz
        have hst : (a.2.take (j + 1)).foldl (fun f b => f && decide ((ld.filter (lHit b)).length ≤ b.c)) (decide (ld.length ≤ a.1)) = ((a.2.take j).foldl (fun f b => f && decide ((ld.filter (lHit b)).length ≤ b.c)) (decide (ld.length ≤ a.1)) && decide ((ld.filter (lHit z)).length ≤ z.c)) := by rw [take_snoc hz, List.foldl_append]; rfl
        rw [hst]
        generalize (a.2.take j).foldl (fun f b => f && decide ((ld.filter (lHit b)).length ≤ b.c)) (decide (ld.length ≤ a.1)) = fit
        refine rg_tri 5 6 7 rz N5.bh (fun vo vt vm ro rt rm => ?_) sc100.nd
        refine rb_setLcT 8 (B := B5) (p := lHit z) (g := fun q : Nat × Nat => q) [("_law_pair", 9)] (ei_list (ev_var (x := ld) 1 rfl (Rp.mono N5.bb r2)))
          (turnN 9 (fun u => rfl) (fun B6 q vq s6 _ rq s H0 C cl fp => ⟨ets_one (EvT.to (et_and2 (Cm.et (cm_in (xs := [none, some q.1]) (ev_var (x := z.a) 5 rfl (Rp.mono s6 ro)) (EvF.ev (ev_lst (xs := [none, some q.1]) (eva2 (x := (none : Option Nat)) (y := some q.1) ev_non (ev_some (ev_fst (u := q) (ev_var 9 rfl rq))))))))
            fun _ => Cm.et (cm_in (xs := [none, some q.2]) (ev_var (x := z.b) 6 rfl (Rp.mono s6 rt)) (EvF.ev (ev_lst (xs := [none, some q.2]) (eva2 (x := (none : Option Nat)) (y := some q.2) ev_non (ev_some (ev_snd (u := q) (ev_var 9 rfl rq)))))))) (by unfold lHit; congr 1 <;> exact decide_eq_decide.mpr Iff.rfl)), fun _ => ev_var 9 rfl rq⟩) sc100.nd) N5.bh (fun v8 B6 H6 hl6 n6 r8 => ?_) sc100.nd
        rw [List.map_id'] at r8
        refine rb_set 4 (B := B6) (x := fit && decide ((ld.filter (lHit z)).length ≤ z.c)) (ev_and2 (ev_var (x := fit) 4 rfl rfl) fun _ => Cm.ev (cm_le (ev_len (ev_var (x := ld.filter (lHit z)) 8 rfl r8) E.bt.len) (ev_var 7 rfl (Rp.mono n6.bb rm)))) n6.bh (fun v9 B7 H7 hl7 n7 r9 => ?_) sc100.nd
        cases (show v9 = _ from r9)
        exact rb_nil ⟨B7, s5.trans (n6.bb.trans n7.bb), _, _, _, _, _, rfl, (N5.trans n6).trans n7, s35.trans (n6.bb.trans n7.bb)⟩
      · rintro σ' B4 H4 s4 ⟨y5, y6, y7, y8, y9, rfl, N4, s34⟩
        rw [take_all]
        refine rb_if (B := B4) (letsFits a ld) (et_val (ev_var (x := letsFits a ld) 4 rfl rfl)) N4.bh (fun ht H5 s5 => ?_) fun ht H5 s5 => ?_
        · have N5 := N4.trans (Nw.grow N4.bh s5)
          refine rb_ret (B := B4) (x := true) ev_bl N5.bh fun v' B' H' n r => q v' B' H' (N5.trans n) ?_
          have : lLets b ld = true := by rw [hw, ht]; rfl
          rw [this]
          exact r
        · refine rb_nil (rb_nil ⟨B4, s2.trans (n3.bb.trans s34), _, _, _, _, _, _, _, _, rfl, N4.trans (Nw.grow N4.bh s5), ?_⟩)
          rw [hw, ht]
          rfl
    · rintro σ' B1 H1 s1 ⟨y2, y3, y4, y5, y6, y7, y8, y9, rfl, N, hw⟩
      rw [List.drop_length] at hw
      refine rb_ret (B := B1) (x := false) ev_bl N.bh fun v' B' H' n r => q v' B' H' (N.trans n) ?_
      rw [hw]
      exact r
end
end LK
/-! ## F23 -/
namespace LK
open PySem PySem.Spec PyProof.Rows L2
open Rp (R)
def lmax (xs : List Nat) : Nat := xs.foldl max 0
section
variable {X : Cx} {e : Expr} {σ : L2.St} {B H : Hp} {pos p : Pos}
theorem lmax_of {xs : List Nat} {m : Int} (h1 : m ∈ xs.map fun (n : Nat) => (n : Int)) (h2 : ∀ a ∈ xs.map fun (n : Nat) => (n : Int), a ≤ m) : m = ((lmax xs : Nat) : Int) := by
  obtain ⟨k, hk, rfl⟩ := List.mem_map.mp h1
  have h3 := (le_foldl_max xs 0).2 k hk
  have h4 : lmax xs ≤ k := by
    have h5 : ∀ (ys : List Nat) (m : Nat), (∀ y ∈ ys, y ≤ k) → m ≤ k → ys.foldl max m ≤ k := by
      intro ys
      induction ys with
      | nil => intro m _ hm; exact hm
      | cons y ys ih => intro m hy hm; exact ih _ (fun z hz => hy z (List.mem_cons_of_mem _ hz)) (Nat.max_le.mpr ⟨hm, hy y (List.mem_cons_self ..)⟩)
    refine h5 xs 0 (fun y hy => ?_) (Nat.zero_le _)
    have := h2 _ (List.mem_map.mpr ⟨y, hy, rfl⟩)
    omega
  have : k ≤ lmax xs := h3
  omega
theorem ev_maxL {xs : List Nat} (h : Ev X e σ B xs) (hne : xs ≠ []) (hm : X.mg "max" = none) (hc : X.calm = true := by rfl) (hg : Gl X "max" := by rfl) (h1 : NS X e [] := by rfl) : Ev X (.Call (.Name "max" p) [e] [] pos) σ B (lmax xs) := fun H s Q q =>
  rd_blt (cr_max hc) hm (by rfl) (rdA1 h s (fun v B' H' _ n r => by
    obtain ⟨p, vs, rfl, hp, l⟩ := r
    have e := lr_nat l
    subst e
    exact ⟨p, xs.map fun (n : Nat) => (n : Int), rfl, .inl (.inl (n.bh p _ hp)), by rw [List.length_map]; exact List.length_pos_iff.mpr hne, fun m h1 h2 hl => q _ B' H' hl n (by show V.int _ = V.int _; rw [lmax_of h1 h2])⟩) h1) hg (by decide) (by decide) h1
end
def lotsStep (things : List Nat) (found : List (List Nat)) : List (List Nat) := found.flatMap fun lot => (things.filter fun t => lot.isEmpty || decide (lot.getLast?.getD 0 ≤ t)).map fun t => lot ++ [t]
def lots (things : List Nat) : Nat → List (List Nat)
  | 0 => [[]]
  | n + 1 => lotsStep things (lots things n)
theorem lotsStep_len {things : List Nat} {found : List (List Nat)} : (lotsStep things found).length ≤ things.length * found.length := by
  unfold lotsStep
  refine flat_le _ fun lot _ => ?_
  rw [List.length_map]
  exact List.length_filter_le _ _
theorem lots_len {things : List Nat} (h : things.length ≤ 3) : ∀ n, (lots things n).length ≤ 3 ^ n
  | 0 => Nat.le_refl _
  | n + 1 => by
    refine Nat.le_trans lotsStep_len ?_
    rw [Nat.pow_succ, Nat.mul_comm]
    exact Nat.mul_le_mul (lots_len h n) h
theorem lots_each {things : List Nat} : ∀ n, ∀ l ∈ lots things n, l.length = n
  | 0, l, h => by cases List.mem_singleton.mp h; rfl
  | n + 1, l, h => by
    unfold lots lotsStep at h
    obtain ⟨lot, h1, h2⟩ := List.mem_flatMap.mp h
    obtain ⟨t, _, rfl⟩ := List.mem_map.mp h2
    rw [List.length_append, lots_each n lot h1]
    rfl
def others2 (ls : List Lane) (y t : Nat) : List Nat := (lBeside ls y).filter fun p => !decide (p = t)
def lPlugAt (book : Book) (oth : List Nat) (t : Nat) (lot : List Nat) : Bool := lLets book (lot.map fun o => (o, t)) && !(oth.map fun z => lLets book ((lot.map fun o => (o, t)) ++ [(t, z)])).all id
def lMost (book : Book) : Nat := lmax (book.map fun a => a.1)
def lPlugIn (book : Book) (oth : List Nat) (t : Nat) : Bool := ((List.range (lMost book + 1 - 1)).map (1 + ·)).any fun n => (lots oth n).any (lPlugAt book oth t)
def lPlugged (ls : List Lane) (book : Book) (y t : Nat) : Bool := lPlugIn book (others2 ls y t) t
section
variable {P : Program} {w : World} {K : PySem.W.Frag} {mg : Str → Option Value} {base : Heap} {cC cW : Addr}
theorem sc101 : FnScope ["_law_things", "_law_many", "_law_found", "_law_turn", "_law_longer", "_law_lot", "_law_thing"] ["_law_things", "_law_many"] (defScope (topS 101)) := ⟨rfl, rfl, rfl, by decide +kernel, rfl, by decide +kernel, by decide +kernel⟩
theorem fk_lots (E : Tops K mg cC cW) : Fk P w K mg base "_law_lots" 1 ["_law_things", "_law_many"] (Sp2 (fun (ts : List Nat) (n : Nat) => ts.length ≤ 3 ∧ n ≤ 6) fun ts n => lots ts n) :=
  fk2 (N := ["_law_things", "_law_many", "_law_found", "_law_turn", "_law_longer", "_law_lot", "_law_thing"]) E.d101 sc101 fun f cd A ou s H EX v1 v2 B ts m Q hr sb r1 r2 ⟨hts, hm⟩ q => by
    refine rb_set 2 (B := B) (x := ([[]] : List (List Nat))) (EvF.ev (ev_lst (xs := ([[]] : List (List Nat))) (eva1 (EvF.ev ev_lst0)))) sb (fun v3 B1 H1 hl1 n1 r3 => ?_) sc101.nd
    refine rb_forS (B := B1) (xs := List.range m) (fun i σ' B2 H2 => ∃ v3 y4 y5 y6 y7, σ' = [some v1, some v2, some v3, y4, y5, y6, y7] ∧ Nw B H B2 H2 ∧ R B2 (lots ts i) v3)
      (ei_range1 (ev_var 1 rfl r2) (Nat.le_trans hm (by decide)) E.bt.range) (fun i σ B H B' H' ⟨a1, a2, a3, a4, a5, e, N, z⟩ n => ⟨a1, a2, a3, a4, a5, e, N.trans n, Rp.mono n.bb z⟩) (fun i σ B H ⟨_, _, _, _, _, _, N, _⟩ => N.bh) ⟨v3, none, none, none, none, rfl, n1, r3⟩ PassesOwn.never rfl ?_ ?_
    · rintro B2 s2 i a va σ' B3 H3 ha s3 ⟨v3, y4, y5, y6, y7, rfl, N, r3⟩ ra
      have him : i < m := by have := lt_of_at ha; rw [List.length_range] at this; exact this
      have hll : (lots ts i).length ≤ 729 := Nat.le_trans (lots_len hts i) (Nat.pow_le_pow_right (n := 3) (by decide) (by omega) : 3 ^ i ≤ 3 ^ 6)
      refine rg_name 3 (rb_setGr 4 (B := B3) (xs := ([] : List (List Nat))) ev_lst0 N (fun q5 B4 H4 hl4 n4 g4 _ => ?_) sc101.nd) sc101.nd
      refine rb_forS (B := B4) (xs := lots ts i) (fun j σ' B5 H5 => ∃ y6 y7, σ' = [some v1, some v2, some v3, some va, some (.ref q5), y6, y7] ∧ Gr B H q5 (lotsStep ts ((lots ts i).take j)) B5 H5)
        (ei_list (ev_var 2 rfl (Rp.mono n4.bb r3))) (fun i σ B H B' H' ⟨a1, a2, e, N⟩ n => ⟨a1, a2, e, N.step n⟩) (fun i σ B H ⟨_, _, _, N⟩ => N.nw.bh) ⟨y6, y7, rfl, g4⟩ PassesOwn.never rfl ?_ ?_
      · rintro B5 s5 j lot vl σ' B6 H6 hj s6 ⟨y6, y7, rfl, G⟩ rl
        have hlm := List.mem_of_getElem? hj
        have hlen := lots_each i lot hlm
        refine rg_name 5 (rb_extendGr 4 (zs := (ts.filter fun t => lot.isEmpty || decide (lot.getLast?.getD 0 ≤ t)).map fun t => lot ++ [t]) G (evf_lc (p := fun t => lot.isEmpty || decide (lot.getLast?.getD 0 ≤ t)) (g := fun t => lot ++ [t]) [("_law_thing", 6)] (ei_list (ev_var (x := ts) 0 rfl (Rp.mono G.nw.bb r1)))
          (turnN 6 (fun u => rfl) (fun B7 t vt s7 _ rt s H0 C cl fp => ⟨ets_one (et_or2 (Cm.et (cm_eqNil (ev_var (x := lot) 5 rfl (Rp.mono s7 rl)) (by exact hr.units))) fun hne => Cm.et (cm_ge (ev_var 6 rfl rt) (ev_ixLast (x := lot.getLast?.getD 0) (xs := lot) (ev_var 5 rfl (Rp.mono s7 rl)) (by
              cases lot with
              | nil => cases hne
              | cons x xs => rw [List.getLast?_eq_some_getLast (List.cons_ne_nil x xs)]; rfl)))), fun _ => EvF.ev (evf_cat (ev_var (x := lot) 5 rfl (Rp.mono s7 rl)) (EvF.ev (ev_lst (xs := [t]) (eva1 (ev_var 6 rfl rt)))) (by rw [hlen, List.length_singleton]; exact Nat.le_trans (Nat.succ_le_of_lt him) (Nat.le_trans hm (show 6 ≤ 100000 by decide))))⟩) sc101.nd) sc101.nd) rfl ?_ fun B7 H7 s7 g7 _ _ => ?_) sc101.nd
        · have h1 : (lotsStep ts ((lots ts i).take j)).length ≤ 3 * 729 := Nat.le_trans lotsStep_len (Nat.mul_le_mul hts (by rw [List.length_take]; exact Nat.le_trans (Nat.min_le_right _ _) hll))
          rw [List.length_map]
          have h2 := List.length_filter_le (fun t => lot.isEmpty || decide (lot.getLast?.getD 0 ≤ t)) ts
          omega
        · refine rb_nil ⟨B7, s6.trans s7, _, _, rfl, ?_⟩
          have e : lotsStep ts ((lots ts i).take (j + 1)) = lotsStep ts ((lots ts i).take j) ++ (ts.filter fun t => lot.isEmpty || decide (lot.getLast?.getD 0 ≤ t)).map fun t => lot ++ [t] := by
            unfold lotsStep
            rw [take_snoc hj, List.flatMap_append, List.flatMap_singleton]
          rw [e]
          exact g7
      · rintro σ' B5 H5 s5 ⟨y6, y7, rfl, G⟩
        rw [take_all] at G
        obtain ⟨B6, s6, N6, r6, _⟩ := G.told
        refine rb_set 2 (B := B6) (x := lots ts (i + 1)) (ev_var 4 rfl r6) N6.bh (fun v7 B7 H7 hl7 n7 r7 => ?_) sc101.nd
        exact rb_nil ⟨B7, s3.trans (n4.bb.trans (s5.trans (s6.trans n7.bb))), _, _, _, _, _, rfl, N6.trans n7, r7⟩
    · rintro σ' B2 H2 s2 ⟨v3, y4, y5, y6, y7, rfl, N, r3⟩
      rw [List.length_range] at r3
      exact rb_ret (B := B2) (ev_var (x := lots ts m) 2 rfl r3) N.bh fun v' B' H' n r => q v' B' H' (N.trans n) r
theorem sc102 : FnScope ["_law_lanes", "_law_book_here", "_law_yard", "_law_target", "_law_others", "_law_most", "_law_many", "_law_lot", "_law_load", "_law_late", "_law_place", "_law_places", "_law_bounds", "_law_origin", "_law_z"] ["_law_lanes", "_law_book_here", "_law_yard", "_law_target"] (defScope (topS 102)) := ⟨rfl, rfl, rfl, by decide +kernel, rfl, by decide +kernel, by decide +kernel⟩
theorem fk_plugged (E : Tops K mg cC cW) : Fk P w K mg base "_law_plugged" 2 ["_law_lanes", "_law_book_here", "_law_yard", "_law_target"] (Sp4 (fun (ls : List Lane) (b : Book) (y t : Nat) => b ≠ [] ∧ lMost b ≤ 6 ∧ (others2 ls y t).length ≤ 3) lPlugged) :=
  fk4 (N := ["_law_lanes", "_law_book_here", "_law_yard", "_law_target", "_law_others", "_law_most", "_law_many", "_law_lot", "_law_load", "_law_late", "_law_place", "_law_places", "_law_bounds", "_law_origin", "_law_z"]) E.d102 sc102 fun f cd A ou s H EX v1 v2 v3 v4 B ls b y t Q hr sb r1 r2 r3 r4 ⟨hb, hm, ho⟩ q => by
    refine rb_setLcT 4 (B := B) (p := fun p => !decide (p = t)) (g := fun p => p) [("_law_place", 10)] (ei_list (ev_call2 (x := ls) (y := y) (fk_lbeside E) (hr.mono (by decide)) (eva2 (ev_var 0 rfl r1) (ev_var 2 rfl r3)) trivial))
      (turnN 10 (fun u => rfl) (fun B1 p vp s1 _ rp s H0 C cl fp => ⟨ets_one (Cm.et (cm_ne (ev_var 10 rfl rp) (ev_var 3 rfl (Rp.mono s1 r4)))), fun _ => ev_var 10 rfl rp⟩) sc102.nd) sb (fun v5 B1 H1 hl1 n1 r5 => ?_) sc102.nd
    rw [List.map_id'] at r5
    have r5 : R B1 (others2 ls y t) v5 := r5
    refine rb_set 5 (B := B1) (x := lMost b) (Ev.to (ev_maxL (xs := (b.filter fun _ => true).map fun a => a.1) (EvF.ev (evf_lc (p := fun _ : Alt => true) (g := fun a : Alt => a.1) [("_law_places", 11), ("_law_bounds", 12)] (ei_list (ev_var (x := b) 1 rfl (Rp.mono n1.bb r2)))
      (turnP 11 12 (fun u w => rfl) (fun B2 a va vb s2 _ ra rb s H0 C cl fp => ⟨ets_nil, fun _ => ev_var 11 rfl ra⟩) sc102.nd) sc102.nd)) (by rw [filt_true]; intro z; exact hb (List.map_eq_nil_iff.mp z)) E.bt.max) (by rw [filt_true]; rfl)) n1.bh (fun v6 B2 H2 hl2 n2 r6 => ?_) sc102.nd
    have n12 := n1.trans n2
    refine rb_forS (B := B2) (xs := (List.range (lMost b + 1 - 1)).map (1 + ·)) (fun i σ' B3 H3 => ∃ y7 y8 y9 y10 y11 y12 y13 y14 y15, σ' = [some v1, some v2, some v3, some v4, some v5, some v6, y7, y8, y9, y10, y11, y12, y13, y14, y15] ∧ Nw B H B3 H3 ∧ Same B2 B3 ∧ lPlugged ls b y t = (((List.range (lMost b + 1 - 1)).map (1 + ·)).drop i).any fun n => (lots (others2 ls y t) n).any (lPlugAt b (others2 ls y t) t))
      (ei_range2 (ev_nat 1) (ev_add (ev_var 5 rfl r6) (ev_nat 1)) (Nat.le_trans (Nat.succ_le_succ hm) (by decide)) (by decide) E.bt.range) (fun i σ B H B' H' ⟨a1, a2, a3, a4, a5, a6, a7, a8, a9, e, N, s2, z⟩ n => ⟨a1, a2, a3, a4, a5, a6, a7, a8, a9, e, N.trans n, s2.trans n.bb, z⟩) (fun i σ B H ⟨_, _, _, _, _, _, _, _, _, _, N, _⟩ => N.bh)
      ⟨none, none, none, none, none, none, none, none, none, rfl, n12, Same.refl _, rfl⟩ PassesOwn.never rfl ?_ ?_
    · rintro B3 s3 i k vk σ' B4 H4 hk s4 ⟨y7, y8, y9, y10, y11, y12, y13, y14, y15, rfl, N, s24, hw⟩ rk
      have hk6 : k ≤ 6 := by
        obtain ⟨j, hj, rfl⟩ := List.mem_map.mp (List.mem_of_getElem? hk)
        have := List.mem_range.mp hj
        omega
      rw [drop_at hk, List.any_cons] at hw
      have r5' := Rp.mono (n2.bb.trans s24) r5
      refine rg_name 6 (rb_forS (B := B4) (xs := lots (others2 ls y t) k) (fun j σ' B5 H5 => ∃ y8 y9 y10 y11 y12 y13 y14 y15, σ' = [some v1, some v2, some v3, some v4, some v5, some v6, some vk, y8, y9, y10, y11, y12, y13, y14, y15] ∧ Nw B H B5 H5 ∧ Same B4 B5 ∧ (lots (others2 ls y t) k).any (lPlugAt b (others2 ls y t) t) = ((lots (others2 ls y t) k).drop j).any (lPlugAt b (others2 ls y t) t))
        (ei_list (ev_call2 (x := others2 ls y t) (y := k) (fk_lots E) (hr.mono (by decide)) (eva2 (ev_var 4 rfl r5') (ev_var 6 rfl rk)) ⟨ho, hk6⟩)) (fun i σ B H B' H' ⟨a1, a2, a3, a4, a5, a6, a7, a8, e, N, s2, z⟩ n => ⟨a1, a2, a3, a4, a5, a6, a7, a8, e, N.trans n, s2.trans n.bb, z⟩) (fun i σ B H ⟨_, _, _, _, _, _, _, _, _, N, _⟩ => N.bh)
        ⟨y8, y9, y10, y11, y12, y13, y14, y15, rfl, N, Same.refl _, rfl⟩ PassesOwn.never rfl ?_ ?_) sc102.nd
      · rintro B5 s5 j lot vl σ' B6 H6 hj s6 ⟨y8, y9, y10, y11, y12, y13, y14, y15, rfl, N6, s46, hw2⟩ rl
        have hln := lots_each k lot (List.mem_of_getElem? hj)
        rw [drop_at hj, List.any_cons] at hw2
        have r4' := Rp.mono N6.bb r4
        have r2' := Rp.mono N6.bb r2
        refine rg_name 7 ?_ sc102.nd
        refine rb_set 8 (B := B6) (x := lot.map fun o => (o, t)) (Ev.to (EvF.ev (evf_lc (p := fun _ : Nat => true) (g := fun o => (o, t)) [("_law_origin", 13)] (ei_list (ev_var (x := lot) 7 rfl rl)) (turnN 13 (fun u => rfl) (fun B7 o vo s7 _ ro s H0 C cl fp => ⟨ets_nil, fun _ => ev_tup2 (eva2 (ev_var 13 rfl ro) (ev_var 3 rfl (Rp.mono s7 r4')))⟩) sc102.nd) sc102.nd)) (by rw [filt_true])) N6.bh (fun v8 B7 H7 hl7 n7 r8 => ?_) sc102.nd
        refine rb_setLcT 9 (B := B7) (p := fun _ : Nat => true) (g := fun z => lLets b ((lot.map fun o => (o, t)) ++ [(t, z)])) [("_law_z", 14)] (ei_list (ev_var (x := others2 ls y t) 4 rfl (Rp.mono (s46.trans n7.bb) r5'))) (turnN 14 (fun u => rfl) (fun B8 z vz s8 _ rz s H0 C cl fp => ⟨ets_nil, fun _ => ev_call2 (x := b) (y := (lot.map fun o => (o, t)) ++ [(t, z)]) (fk_lets E) (hr.mono (by decide)) (eva2 (ev_var 1 rfl (Rp.mono (n7.bb.trans s8) r2'))
          (EvF.ev (evf_cat (ev_var (x := lot.map fun o => (o, t)) 8 rfl (Rp.mono s8 r8)) (EvF.ev (ev_lst (xs := [(t, z)]) (eva1 (ev_tup2 (eva2 (ev_var 3 rfl (Rp.mono (n7.bb.trans s8) r4')) (ev_var 14 rfl rz)))))) (by rw [List.length_map, hln, List.length_singleton]; exact Nat.le_trans (Nat.succ_le_succ hk6) (show 7 ≤ 100000 by decide))))) trivial⟩) sc102.nd) n7.bh (fun v9 B8 H8 hl8 n8 r9 => ?_) sc102.nd
        rw [filt_true] at r9
        have N8 := N6.trans (n7.trans n8)
        refine rb_if (B := B8) (lPlugAt b (others2 ls y t) t lot) (EvT.to (et_and2 (et_val (ev_call2 (x := b) (y := lot.map fun o => (o, t)) (fk_lets E) (hr.mono (by decide)) (eva2 (ev_var 1 rfl (Rp.mono N8.bb r2)) (ev_var 8 rfl (Rp.mono n8.bb r8))) trivial)) fun _ => et_not (et_val (ev_all (ev_var (x := (others2 ls y t).map fun z => lLets b ((lot.map fun o => (o, t)) ++ [(t, z)])) 9 rfl r9) E.bt.all))) rfl) N8.bh (fun ht H9 s9 => ?_) fun ht H9 s9 => ?_
        · have N9 := N8.trans (Nw.grow N8.bh s9)
          refine rb_ret (B := B8) (x := true) ev_bl N9.bh fun v' B' H' n r => q v' B' H' (N9.trans n) ?_
          have : lPlugged ls b y t = true := by rw [hw, hw2, ht]; rfl
          rw [this]
          exact r
        · refine rb_nil (rb_nil ⟨B8, s6.trans (n7.trans n8).bb, _, _, _, _, _, _, _, _, rfl, N8.trans (Nw.grow N8.bh s9), s46.trans (n7.trans n8).bb, ?_⟩)
          rw [hw2, ht]
          rfl
      · rintro σ' B5 H5 s5 ⟨y8, y9, y10, y11, y12, y13, y14, y15, rfl, N5, s45, hw2⟩
        rw [List.drop_length] at hw2
        refine rb_nil ⟨B5, s4.trans s45, _, _, _, _, _, _, _, _, _, rfl, N5, s24.trans s45, ?_⟩
        rw [hw, hw2]
        rfl
    · rintro σ' B3 H3 s3 ⟨y7, y8, y9, y10, y11, y12, y13, y14, y15, rfl, N, s23, hw⟩
      rw [List.drop_length] at hw
      refine rb_ret (B := B3) (x := false) ev_bl N.bh fun v' B' H' n r => q v' B' H' (N.trans n) ?_
      rw [hw]
      exact r
end
end LK
/-! ## F24 -/
namespace LK
open PySem PySem.Spec PyProof.Rows L2
open Rp (R)
section
variable {α β γ δ : Type} [Rp α] [Rp β] [Rp γ] [Rp δ]
variable {X : Cx} {e a b c tg iter : Expr} {es : List Expr} {σ : L2.St} {B B' H H' B0 H0 : Hp} {x : α} {y : β} {z : γ} {pos p p2 p3 p4 : Pos} {D : Ends} {rest body els : List Stmt} {st : Stmt} {l : Addr} {ys : List α}
theorem LR.last {vs : List V} (h : LR B ys vs) {x : α} (hx : ys.getLast? = some x) : ∃ v, vs.getLast? = some v ∧ R B x v := by
  rw [List.getLast?_eq_getElem?] at hx
  obtain ⟨v, hv, r⟩ := h.2 _ _ hx
  exact ⟨v, by rw [List.getLast?_eq_getElem?, h.1]; exact hv, r⟩
theorem LR.dropLast {vs : List V} (h : LR B ys vs) : LR B ys.dropLast vs.dropLast := ⟨by rw [List.length_dropLast, List.length_dropLast, h.1], fun i a ha => by
  rw [List.getElem?_dropLast] at ha ⊢
  rw [h.1]
  split at ha
  · rename_i hi
    rw [if_pos hi]
    exact h.2 i a ha
  · cases ha⟩
theorem rb_popGr (i j : Nat) {n m : Str} {pn : Pos} (g : Gr B0 H0 l ys B H) (hσ : σ[i]? = some (some (.ref l))) (hy : ys.getLast? = some x) (k : ∀ v H', R B x v → Gr B0 H0 l ys.dropLast B H' → rdB X rest D (σ.set j (some v)) H') (hND : X.N.Nodup)
    (hi : X.N[j]? = some m := by rfl) (hx : Loc X.env.scope m := by first | exact Or.inl rfl | exact Or.inr rfl) (hs : swapsWith (.Call (.Attribute (.Name n p) "pop" p2) [] [] p3) (some (.Name m pn)) pos.line X.env = pure false := by rfl)
    (hf : X.fn m = true ∨ X.env.scope.names.lookup m = some .local := by first | exact .inl rfl | exact .inr rfl)
    (hN : X.N[i]? = some n := by rfl) (hv : Vis X.env.scope n := by first | exact Or.inl rfl | exact Or.inr (Or.inl rfl)) (hd : (n == ("__debug__" : Str)) = false := by decide) (hcd : (n == ("__classdict__" : Str)) = false := by decide)
    (hb : attributeBase (.Name n p) "pop" X.env (eval (.Name n p) X.env) = eval (.Name n p) X.env := by rfl) (hline : (p2.endLine == p3.line) = true := by rfl) : rdB X (.Assign [.Name m pn] (.Call (.Attribute (.Name n p) "pop" p2) [] [] p3) pos :: rest) D σ H := by
  obtain ⟨ws, N, h0, hbl, hl, lr⟩ := g
  obtain ⟨v, hv', r⟩ := lr.last hy
  exact rb_setR j (rd_pop i hσ hl hv' (fun _ => k v _ r ⟨_, N.mut h0 hbl, h0, hbl, upd_same, lr.dropLast⟩) hN hv hd hcd hb hline) hND hi hx hs hf
end
def wayNext (ls : List Lane) (w : List Nat) : List (List Nat) := ((lBeside ls (w.getLast?.getD 0)).filter fun p => !decide (p ∈ w)).map fun p => w ++ [p]
def wayLoop (ls : List Lane) (e : Nat) : Nat → List (List Nat) → Option (List Nat)
  | _, [] => some []
  | 0, _ => none
  | n + 1, x :: xs => if ((x :: xs).getLast?.getD []).getLast?.getD 0 = e then some ((x :: xs).getLast?.getD []) else wayLoop ls e n ((x :: xs).dropLast ++ wayNext ls ((x :: xs).getLast?.getD []))
def lWay (ls : List Lane) (s e : Nat) : List Nat := (wayLoop ls e 200 [[s]]).getD []
theorem lBeside_len (ls : List Lane) (p : Nat) : (lBeside ls p).length ≤ ls.length := by
  unfold lBeside nsort
  rw [(isort_perm _ _).length_eq, List.length_map]
  exact List.length_filter_le _ _
section
variable {P : Program} {w : World} {K : PySem.W.Frag} {mg : Str → Option Value} {base : Heap} {cC cW : Addr}
theorem sc99 : FnScope ["_law_lanes", "_law_start", "_law_end", "_law_left", "_law_way_here", "_law_place"] ["_law_lanes", "_law_start", "_law_end"] (defScope (topS 99)) := ⟨rfl, rfl, rfl, by decide +kernel, rfl, by decide +kernel, by decide +kernel⟩
theorem fk_way (E : Tops K mg cC cW) : Fk P w K mg base "_law_way" 2 ["_law_lanes", "_law_start", "_law_end"] (Sp3 (fun (ls : List Lane) (s e : Nat) => ls.length < 30 ∧ (wayLoop ls e 200 [[s]]).isSome = true) lWay) :=
  fk3 (N := ["_law_lanes", "_law_start", "_law_end", "_law_left", "_law_way_here", "_law_place"]) E.d99 sc99 fun f cd A ou s H EX v1 v2 v3 B ls st en Q hr sb r1 r2 r3 ⟨hls, hok⟩ q => by
    obtain ⟨res, hres⟩ := Option.isSome_iff_exists.mp hok
    have hq : lWay ls st en = res := by unfold lWay; rw [hres]; rfl
    rw [hq] at q
    refine rb_setGr 3 (B := B) (xs := [[st]]) (ev_lst (xs := [[st]]) (eva1 (EvF.ev (ev_lst (xs := [st]) (eva1 (ev_var 1 rfl r2)))))) (Nw.refl sb) (fun q0 B1 H1 hl1 n1 g1 _ => ?_) sc99.nd
    refine rb_while (fun m σ' B2 H2 => ∃ left y4 y5, σ' = [some v1, some v2, some v3, some (.ref q0), y4, y5] ∧ Gr B H q0 left B2 H2 ∧ wayLoop ls en m left = some res ∧ m ≤ 200 ∧ left.length + 30 * m ≤ 6001 ∧ ∀ w ∈ left, w ≠ [] ∧ w.length + m ≤ 201)
      (H := H1) (B := B1) ⟨200, [[st]], none, none, rfl, g1, hres, Nat.le_refl _, (show 1 + 30 * 200 ≤ 6001 by decide), fun w hw => by cases List.mem_singleton.mp hw; exact ⟨List.cons_ne_nil _ _, by show 1 + 200 ≤ 201; decide⟩⟩ PassesOwn.never ?_
    rintro m σ' B2 H2 ⟨left, y4, y5, rfl, g, hw, hm, hz, hall⟩
    obtain ⟨Bt, st2, sh2, rt⟩ := g.look
    refine ⟨Bt, !left.isEmpty, sh2, Cm.et (cm_neNil (xs := left) (ev_var 3 rfl rt) hr.units), fun ht H3 s3 => ?_, fun ht H3 s3 => ?_⟩
    · obtain ⟨x, xs, rfl⟩ : ∃ x xs, left = x :: xs := by
        cases left with
        | nil => cases ht
        | cons x xs => exact ⟨x, xs, rfl⟩
      obtain ⟨m', rfl⟩ : ∃ m', m = m' + 1 := by
        cases m with
        | zero => unfold wayLoop at hw; cases hw
        | succ m' => exact ⟨m', rfl⟩
      unfold wayLoop at hw
      have hlast : (x :: xs).getLast? = some ((x :: xs).getLast?.getD []) := by rw [List.getLast?_eq_some_getLast (List.cons_ne_nil x xs)]; rfl
      have hwm : ((x :: xs).getLast?.getD []) ∈ x :: xs := List.mem_of_getLast? hlast
      generalize (x :: xs).getLast?.getD [] = wy at *
      obtain ⟨hwne, hwlen⟩ := hall wy hwm
      have hwl : wy.getLast? = some (wy.getLast?.getD 0) := by rw [List.getLast?_eq_some_getLast hwne]; rfl
      refine rb_popGr 3 4 (g.grow s3) rfl hlast (fun v4 H4 r4 g4 => ?_) sc99.nd
      have ra2 := Rp.mono g.nw.bb r1
      refine rb_if (B := B2) (decide (wy.getLast?.getD 0 = en)) (Cm.et (cm_eq (ev_ixLast (xs := wy) (ev_var 4 rfl r4) hwl) (ev_var 2 rfl (show R B2 en v3 from r3)))) g4.nw.bh (fun ht5 H5 s5 => ?_) fun ht5 H5 s5 => ?_
      · have N5 := g4.nw.trans (Nw.grow g4.nw.bh s5)
        rw [if_pos (of_decide_eq_true ht5)] at hw
        cases hw
        exact rb_ret (B := B2) (ev_var (x := res) 4 rfl r4) N5.bh fun v' B' H' n r => q v' B' H' (N5.trans n) r
      · rw [if_neg (of_decide_eq_false ht5)] at hw
        have hbl := lBeside_len ls (wy.getLast?.getD 0)
        have hnl : (wayNext ls wy).length ≤ 29 := by
          unfold wayNext
          rw [List.length_map]
          exact Nat.le_trans (List.length_filter_le _ _) (by omega)
        refine rb_nil (rb_extendGr 3 (zs := wayNext ls wy) (g4.grow s5) (evf_lc (p := fun p => !decide (p ∈ wy)) (g := fun p => wy ++ [p]) [("_law_place", 5)] (ei_list (ev_call2 (x := ls) (y := wy.getLast?.getD 0) (fk_lbeside E) (hr.mono (by decide)) (eva2 (ev_var 0 rfl ra2) (ev_ixLast (xs := wy) (ev_var 4 rfl r4) hwl)) trivial))
          (turnN 5 (fun u => rfl) (fun B7 p vp s7 _ rp s H0 C cl fp => ⟨ets_one (Cm.et (cm_nin (xs := wy) (ev_var 5 rfl rp) (ev_var 4 rfl (Rp.mono s7 r4)))), fun _ => EvF.ev (evf_cat (ev_var (x := wy) 4 rfl (Rp.mono s7 r4)) (EvF.ev (ev_lst (xs := [p]) (eva1 (ev_var 5 rfl rp)))) (by rw [List.length_singleton]; exact Nat.le_trans (show wy.length + 1 ≤ 201 by omega) (show 201 ≤ 100000 by decide)))⟩) sc99.nd) sc99.nd) rfl ?_ fun B7 H7 s7 g7 _ _ => ?_)
        · rw [List.length_dropLast]
          simp only [List.length_cons] at hz ⊢
          omega
        · refine rb_nil ⟨m', Nat.lt_succ_self _, B7, _, _, _, rfl, g7, hw, by omega, ?_, ?_⟩
          · rw [List.length_append, List.length_dropLast]
            simp only [List.length_cons] at hz ⊢
            omega
          · intro w hw
            rcases List.mem_append.mp hw with h1 | h1
            · obtain ⟨h2, h3⟩ := hall w (List.dropLast_subset _ h1)
              exact ⟨h2, by omega⟩
            · unfold wayNext at h1
              obtain ⟨p, _, rfl⟩ := List.mem_map.mp h1
              refine ⟨by simp, ?_⟩
              rw [List.length_append, List.length_singleton]
              omega
    · obtain rfl : left = [] := by
        cases left with
        | nil => rfl
        | cons x xs => cases ht
      have e : res = [] := by
        cases m <;> (unfold wayLoop at hw; exact (Option.some.inj hw).symm)
      subst e
      have N := (g.grow s3).nw
      exact rb_ret (B := B2) (x := ([] : List Nat)) (EvF.ev ev_lst0) N.bh fun v' B' H' n r => q v' B' H' (N.trans n) r
end
end LK
/-! ## F25 -/
namespace LK
open PySem PySem.Spec PyProof.Rows L2
open Rp (R)
/-- what is asked of lanes and books told to the law -/
structure LOk (ls : List Lane) (bs : List Book) : Prop where
  n : ls.length < 30
  len : bs.length = (lYards ls).length
  yn : (lYards ls).length ≤ 100
  way : ∀ y ∈ lYards ls, ∀ x ∈ lPlaces ls, y ≠ x → (wayLoop ls x 200 [[y]]).isSome = true ∧ 1 < (lWay ls y x).length
  bk : ∀ b ∈ bs, b ≠ [] ∧ lMost b ≤ 6
  deg : ∀ y ∈ lYards ls, (lBeside ls y).length ≤ 3
def enum {α : Type} (xs : List α) : List (Nat × α) := xs.zipIdx.map fun z => (z.2, z.1)
def lStep (ls : List Lane) (y x : Nat) : Nat := (lWay ls y x).getD 1 0
def lPlugTo (ls : List Lane) (bs : List Book) (x : Nat) (z : Nat × Nat) : Bool := lPlugged ls (bs.getD z.1 []) z.2 (lStep ls z.2 x)
def postStep (ls : List Lane) (bs : List Book) (x : Nat) (acc : Bool) (z : Nat × Nat) : Bool := if (!decide (z.2 = x) && !acc) = true then lPlugTo ls bs x z else acc
def lPlugHere (ls : List Lane) (bs : List Book) (x : Nat) : Bool := (enum (lYards ls)).foldl (postStep ls bs x) false
def lPosts (ls : List Lane) (bs : List Book) : List Nat := (lYards ls).filter fun x => !lPlugHere ls bs x
def lIsClear (ls : List Lane) (bs : List Book) (g : Nat) : Bool := !(enum (lYards ls)).any (lPlugTo ls bs g)
def lKind (ls : List Lane) (bs : List Book) (g : Nat) : Kd := if lIsClear ls bs g then .clear else if !(lPosts ls bs).isEmpty then .own else .bad
theorem enum_mem {α : Type} {xs : List α} {z : Nat × α} (h : z ∈ enum xs) : xs[z.1]? = some z.2 := by
  unfold enum at h
  obtain ⟨⟨a, i⟩, h2, rfl⟩ := List.mem_map.mp h
  have := List.mem_zipIdx h2
  simp at this
  rw [List.getElem?_eq_getElem this.1]
  exact congrArg some this.2.symm
theorem yards_places {ls : List Lane} {y : Nat} (h : y ∈ lYards ls) : y ∈ lPlaces ls := (List.mem_filter.mp h).1
section
variable {P : Program} {w : World} {K : PySem.W.Frag} {mg : Str → Option Value} {base : Heap} {cC cW : Addr}
theorem sc103 : FnScope ["_law_lanes", "_law_books_here", "_law_yards_here", "_law_found", "_law_x", "_law_plugged_here", "_law_at", "_law_yard"] ["_law_lanes", "_law_books_here"] (defScope (topS 103)) := ⟨rfl, rfl, rfl, by decide +kernel, rfl, by decide +kernel, by decide +kernel⟩
theorem fk_lposts (E : Tops K mg cC cW) : Fk P w K mg base "_law_posts" 3 ["_law_lanes", "_law_books_here"] (Sp2 LOk lPosts) :=
  fk2 (N := ["_law_lanes", "_law_books_here", "_law_yards_here", "_law_found", "_law_x", "_law_plugged_here", "_law_at", "_law_yard"]) E.d103 sc103 fun f cd A ou s H EX v1 v2 B ls bs Q hr sb r1 r2 ok q => by
    refine rb_par 2 3 (rdA_EF (x := lYards ls) (ys := ([] : List Nat)) (ev_call1 (x := ls) (fk_lyards E) (hr.mono (by decide)) (eva1 (ev_var 0 rfl r1)) ok.n) ev_lst0 sb fun v3 q0 ws B1 H1 hl n1 r3 h0 hb hq lr => ⟨_, _, rfl, ?_⟩) sc103.nd
    have g1 : Gr B H q0 ([] : List Nat) B1 H1 := ⟨ws, n1, h0, hb, hq, lr⟩
    refine rb_forS (B := B1) (xs := lYards ls) (fun i σ' B2 H2 => ∃ y4 y5 y6 y7, σ' = [some v1, some v2, some v3, some (.ref q0), y4, y5, y6, y7] ∧ Same B1 B2 ∧ Gr B H q0 (((lYards ls).take i).filter fun x => !lPlugHere ls bs x) B2 H2)
      (ei_list (ev_var 2 rfl r3)) (fun i σ B H B' H' ⟨a1, a2, a3, a4, e, s, N⟩ n => ⟨a1, a2, a3, a4, e, s.trans n.bb, N.step n⟩) (fun i σ B H ⟨_, _, _, _, _, _, N⟩ => N.nw.bh) ⟨none, none, none, none, rfl, Same.refl _, g1⟩ PassesOwn.never rfl ?_ ?_
    · rintro B2 s2 i x vx σ' B3 H3 hx s3 ⟨y4, y5, y6, y7, rfl, s13, G⟩ rx
      have hxm : x ∈ lYards ls := List.mem_of_getElem? hx
      refine rg_name 4 (rb_set 5 (B := B3) (x := false) ev_bl G.nw.bh (fun v5 B4 H4 hl4 n4 r5 => ?_) sc103.nd) sc103.nd
      cases (show v5 = _ from r5)
      have g4 := G.step n4
      refine rb_forS (B := B4) (xs := enum (lYards ls)) (fun j σ' B5 H5 => ∃ y6 y7, σ' = [some v1, some v2, some v3, some (.ref q0), some vx, some (.bl (((enum (lYards ls)).take j).foldl (postStep ls bs x) false)), y6, y7] ∧ Same B4 B5 ∧ Gr B H q0 (((lYards ls).take i).filter fun x => !lPlugHere ls bs x) B5 H5)
        (ei_enum (ev_var (x := lYards ls) 2 rfl (Rp.mono (s13.trans n4.bb) r3)) E.bt.enumerate) (fun i σ B H B' H' ⟨a1, a2, e, s, N⟩ n => ⟨a1, a2, e, s.trans n.bb, N.step n⟩) (fun i σ B H ⟨_, _, _, _, N⟩ => N.nw.bh) ⟨y6, y7, rfl, Same.refl _, g4⟩ PassesOwn.never rfl ?_ ?_
      · rintro B5 s5 j ⟨at', yd⟩ vz σ' B6 H6 hj s6 ⟨y6, y7, rfl, s46, G6⟩ rz
        have hen := enum_mem (List.mem_of_getElem? hj)
        have hym : yd ∈ lYards ls := List.mem_of_getElem? hen
        have hat : at' < bs.length := by rw [ok.len]; exact lt_of_at hen
        have hst : ((enum (lYards ls)).take (j + 1)).foldl (postStep ls bs x) false = postStep ls bs x (((enum (lYards ls)).take j).foldl (postStep ls bs x) false) (at', yd) := by rw [take_snoc hj, List.foldl_append]; rfl
        rw [hst]
        generalize ((enum (lYards ls)).take j).foldl (postStep ls bs x) false = acc
        refine rg_pair 6 7 rz G6.nw.bh (fun va vy ra ry => ?_) sc103.nd
        refine rb_if (B := B6) (!decide (yd = x) && !acc) (et_and2 (Cm.et (cm_ne (ev_var 7 rfl ry) (ev_var 4 rfl (show R B6 x vx from rx)))) fun _ => et_not (et_val (ev_var (x := acc) 5 rfl rfl))) G6.nw.bh (fun ht H7 s7 => ?_) fun ht H7 s7 => ?_
        · have hne : yd ≠ x := by
            intro e
            rw [decide_eq_true e] at ht
            cases ht
          have hway := ok.way yd hym x (yards_places hxm) hne
          have hb2 := ok.bk _ (List.mem_of_getElem? (getD_at (d := ([] : Book)) hat))
          refine rb_set 5 (B := B6) (x := lPlugTo ls bs x (at', yd)) (ev_call4 (x := ls) (y := bs.getD at' []) (z := yd) (w := lStep ls yd x) (fk_plugged E) (hr.mono (by decide)) (eva4 (ev_var 0 rfl (Rp.mono G6.nw.bb r1)) (ev_ix (xs := bs) (i := at') (ev_var 1 rfl (Rp.mono G6.nw.bb r2)) (ev_var 6 rfl ra) (getD_at hat)) (ev_var 7 rfl ry)
            (ev_ix (xs := lWay ls yd x) (i := 1) (ev_call3 (x := ls) (y := yd) (z := x) (fk_way E) (hr.mono (by decide)) (eva3 (ev_var 0 rfl (Rp.mono G6.nw.bb r1)) (ev_var 7 rfl ry) (ev_var 4 rfl (show R B6 x vx from rx))) ⟨ok.n, hway.1⟩) (ev_nat 1) (getD_at hway.2))) ⟨hb2.1, hb2.2, Nat.le_trans (List.length_filter_le _ _) (ok.deg yd hym)⟩) (G6.grow s7).nw.bh (fun v8 B8 H8 hl8 n8 r8 => ?_) sc103.nd
          cases (show v8 = _ from r8)
          have e : postStep ls bs x acc (at', yd) = lPlugTo ls bs x (at', yd) := by unfold postStep; rw [if_pos ht]
          rw [e]
          exact rb_nil (rb_nil ⟨B8, s6.trans n8.bb, some va, some vy, rfl, s46.trans n8.bb, (G6.grow s7).step n8⟩)
        · have e : postStep ls bs x acc (at', yd) = acc := by unfold postStep; rw [if_neg (by show ¬ (!decide (yd = x) && !acc) = true; rw [ht]; decide)]
          rw [e]
          exact rb_nil (rb_nil ⟨B6, s6, some va, some vy, rfl, s46, G6.grow s7⟩)
      · rintro σ' B5 H5 s5 ⟨y6, y7, rfl, s45, G5⟩
        rw [take_all]
        refine rb_if (B := B5) (!lPlugHere ls bs x) (et_not (et_val (ev_var (x := lPlugHere ls bs x) 5 rfl rfl))) G5.nw.bh (fun ht H6 s6 => ?_) fun ht H6 s6 => ?_
        · refine rb_appendGr 3 (x := x) (G5.grow s6) (ev_var 4 rfl (show R B5 x vx from rx)) rfl ?_ fun B7 H7 s7 g7 _ _ => ?_
          · have h1 := List.length_filter_le (fun x => !lPlugHere ls bs x) ((lYards ls).take i)
            have h2 : ((lYards ls).take i).length ≤ (lYards ls).length := by rw [List.length_take]; exact Nat.min_le_right _ _
            have h3 := ok.yn
            exact Nat.lt_of_le_of_lt (Nat.le_trans h1 (Nat.le_trans h2 h3)) (by decide)
          · refine rb_nil (rb_nil ⟨B7, s3.trans (n4.bb.trans (s45.trans s7)), _, _, _, _, rfl, s13.trans (n4.bb.trans (s45.trans s7)), ?_⟩)
            rw [take_snoc hx, List.filter_append, List.filter_cons_of_pos (by exact ht), List.filter_nil]
            exact g7
        · refine rb_nil (rb_nil ⟨B5, s3.trans (n4.bb.trans s45), _, _, _, _, rfl, s13.trans (n4.bb.trans s45), ?_⟩)
          rw [take_snoc hx, List.filter_append, List.filter_cons_of_neg (by rw [ht]; decide), List.filter_nil, List.append_nil]
          exact G5.grow s6
    · rintro σ' B2 H2 s2 ⟨y4, y5, y6, y7, rfl, s12, G⟩
      rw [take_all] at G
      exact rb_retGr 3 G rfl q
theorem sc104 : FnScope ["_law_lanes", "_law_books_here", "_law_gate", "_law_at", "_law_yard"] ["_law_lanes", "_law_books_here", "_law_gate"] (defScope (topS 104)) := ⟨rfl, rfl, rfl, by decide +kernel, rfl, by decide +kernel, by decide +kernel⟩
theorem fk_lclear (E : Tops K mg cC cW) : Fk P w K mg base "_law_is_clear" 3 ["_law_lanes", "_law_books_here", "_law_gate"] (Sp3 (fun ls bs (g : Nat) => LOk ls bs ∧ g ∈ lPlaces ls ∧ g ∉ lYards ls) lIsClear) :=
  fk3 (N := ["_law_lanes", "_law_books_here", "_law_gate", "_law_at", "_law_yard"]) E.d104 sc104 fun f cd A ou s H EX v1 v2 v3 B ls bs g Q hr sb r1 r2 r3 ⟨ok, hg, hgy⟩ q => by
    refine rb_forS (B := B) (xs := enum (lYards ls)) (fun i σ' B2 H2 => ∃ y3 y4, σ' = [some v1, some v2, some v3, y3, y4] ∧ Nw B H B2 H2 ∧ lIsClear ls bs g = !((enum (lYards ls)).drop i).any (lPlugTo ls bs g))
      (ei_enum (ev_call1 (x := ls) (fk_lyards E) (hr.mono (by decide)) (eva1 (ev_var 0 rfl r1)) ok.n) E.bt.enumerate) (fun i σ B H B' H' ⟨a1, a2, e, N, z⟩ n => ⟨a1, a2, e, N.trans n, z⟩) (fun i σ B H ⟨_, _, _, N, _⟩ => N.bh) ⟨none, none, rfl, Nw.refl sb, rfl⟩ PassesOwn.never rfl ?_ ?_
    · rintro B1 s1 j ⟨at', yd⟩ vz σ' B2 H2 hj s2 ⟨y3, y4, rfl, N, hw⟩ rz
      have hen := enum_mem (List.mem_of_getElem? hj)
      have hym : yd ∈ lYards ls := List.mem_of_getElem? hen
      have hat : at' < bs.length := by rw [ok.len]; exact lt_of_at hen
      have hne : yd ≠ g := fun e => hgy (e ▸ hym)
      have hway := ok.way yd hym g hg hne
      have hb2 := ok.bk _ (List.mem_of_getElem? (getD_at (d := ([] : Book)) hat))
      rw [drop_at hj, List.any_cons] at hw
      refine rg_pair 3 4 rz N.bh (fun va vy ra ry => ?_) sc104.nd
      refine rb_if (B := B2) (lPlugTo ls bs g (at', yd)) (et_val (ev_call4 (x := ls) (y := bs.getD at' []) (z := yd) (w := lStep ls yd g) (fk_plugged E) (hr.mono (by decide)) (eva4 (ev_var 0 rfl (Rp.mono N.bb r1)) (ev_ix (xs := bs) (i := at') (ev_var 1 rfl (Rp.mono N.bb r2)) (ev_var 3 rfl ra) (getD_at hat)) (ev_var 4 rfl ry)
            (ev_ix (xs := lWay ls yd g) (i := 1) (ev_call3 (x := ls) (y := yd) (z := g) (fk_way E) (hr.mono (by decide)) (eva3 (ev_var 0 rfl (Rp.mono N.bb r1)) (ev_var 4 rfl ry) (ev_var 2 rfl (show R B2 g v3 from r3))) ⟨ok.n, hway.1⟩) (ev_nat 1) (getD_at hway.2))) ⟨hb2.1, hb2.2, Nat.le_trans (List.length_filter_le _ _) (ok.deg yd hym)⟩)) N.bh (fun ht H3 s3 => ?_) fun ht H3 s3 => ?_
      · have N3 := N.trans (Nw.grow N.bh s3)
        refine rb_ret (B := B2) (x := false) ev_bl N3.bh fun v' B' H' n r => q v' B' H' (N3.trans n) ?_
        have : lIsClear ls bs g = false := by rw [hw, ht]; rfl
        rw [this]
        exact r
      · refine rb_nil (rb_nil ⟨B2, s2, _, _, rfl, N.trans (Nw.grow N.bh s3), ?_⟩)
        rw [hw, ht]
        rfl
    · rintro σ' B1 H1 s1 ⟨y3, y4, rfl, N, hw⟩
      rw [List.drop_length] at hw
      refine rb_ret (B := B1) (x := true) ev_bl N.bh fun v' B' H' n r => q v' B' H' (N.trans n) ?_
      rw [hw]
      exact r
theorem sc105 : FnScope ["_law_lanes", "_law_books_here", "_law_gate"] ["_law_lanes", "_law_books_here", "_law_gate"] (defScope (topS 105)) := ⟨rfl, rfl, rfl, by decide +kernel, rfl, by decide +kernel, by decide +kernel⟩
theorem fk_lkind (E : Tops K mg cC cW) : Fk P w K mg base "_law_kind" 4 ["_law_lanes", "_law_books_here", "_law_gate"] (Sp3 (fun ls bs (g : Nat) => LOk ls bs ∧ g ∈ lPlaces ls ∧ g ∉ lYards ls) lKind) :=
  fk3 (N := ["_law_lanes", "_law_books_here", "_law_gate"]) E.d105 sc105 fun f cd A ou s H EX v1 v2 v3 B ls bs g Q hr sb r1 r2 r3 hp q =>
    rb_if (B := B) (lIsClear ls bs g) (et_val (ev_call3 (x := ls) (y := bs) (z := g) (fk_lclear E) (hr.mono (by decide)) (eva3 (ev_var 0 rfl r1) (ev_var 1 rfl r2) (ev_var 2 rfl r3)) hp)) sb (fun ht H1 s1 =>
      rb_ret (B := B) (x := Kd.clear) (ev_kd .clear) (sb.trans s1) fun v' B' H' n r => q v' B' H' ((Nw.grow sb s1).trans n) (by
        have : lKind ls bs g = .clear := by unfold lKind; rw [if_pos ht]
        rw [this]; exact r)) fun ht H1 s1 =>
      rb_nil (rb_ret (B := B) (x := if (!(lPosts ls bs).isEmpty) = true then Kd.own else Kd.bad) (ev_ifExp (!(lPosts ls bs).isEmpty) (Cm.et (cm_neNil (ev_call2 (x := ls) (y := bs) (fk_lposts E) (hr.mono (by decide)) (eva2 (ev_var 0 rfl r1) (ev_var 1 rfl r2)) hp.1) hr.units)) (fun h => Ev.to (ev_kd .own) (by rw [if_pos h])) fun h => Ev.to (ev_kd .bad) (by rw [if_neg (by rw [h]; decide)])) (sb.trans s1) fun v' B' H' n r => q v' B' H' ((Nw.grow sb s1).trans n) (by
        have : lKind ls bs g = if (!(lPosts ls bs).isEmpty) = true then Kd.own else Kd.bad := by unfold lKind; rw [if_neg (by rw [ht]; decide)]
        rw [this]; exact r))
end
end LK
/-! ## F26 -/
namespace LK
open PySem PySem.Spec PyProof.Rows L2
open Rp (R)
/-! ### whole numbers of any size -/
section
variable {X : Cx} {e a b c : Expr} {σ : L2.St} {B B' H : Hp} {pos p : Pos} {m n : Nat} {i j : Int}
theorem ev_opI {op : Operator} {g : Int → Int → Int} {C : Int → Int → Prop} (ho : OpR X (binaryOp op) (rI C fun i j => .int (g i j))) (ha : Ev X a σ B i) (hb : Ev X b σ B j) (h : C i j) : Ev X (.BinOp a op b pos) σ B (g i j) :=
  ev_two (f := fun t _ => t) ha hb (fun H Q h => rd_op ho h) fun B1 H1 hl s _ u v ru rv Q q => ⟨i, j, ru, rv, h, q _ B1 H1 hl (Nw.refl s) rfl⟩
theorem ev_opI0 {op : Operator} {g : Int → Int → Int} (ho : OpR X (binaryOp op) (rI0 fun i j => .int (g i j))) (ha : Ev X a σ B i) (hb : Ev X b σ B j) : Ev X (.BinOp a op b pos) σ B (g i j) :=
  ev_two (f := fun t _ => t) ha hb (fun H Q h => rd_op ho h) fun B1 H1 hl s _ u v ru rv Q q => ⟨i, j, ru, rv, q _ B1 H1 hl (Nw.refl s) rfl⟩
theorem ev_toI (h : Ev X e σ B n) : Ev X e σ B (n : Int) := fun H s Q q => h H s Q fun v B' H' hl n r => q v B' H' hl n r
theorem ev_toN (h : Ev X e σ B i) (w : i = (n : Int)) : Ev X e σ B n := fun H s Q q => h H s Q fun v B' H' hl n r => q v B' H' hl n (by rw [w] at r; exact r)
theorem cm_gtI (ha : Ev X a σ B i) (hb : Ev X b σ B j) : Cm X (.Compare a [.Gt] [b] pos) σ B (decide (j < i)) :=
  cm_two op_gt (nomark _) ha hb fun B1 H1 s u v ru rv Q q => ⟨i, j, ru, rv, q⟩
theorem ev_intI (h : Ev X e σ B i) (hm : X.mg "int" = none) (hg : Gl X "int" := by rfl) (h1 : NS X e [] := by rfl) : Ev X (.Call (.Name "int" p) [e] [] pos) σ B i := fun H s Q q =>
  rd_ty call_int1 hm PySem.Pv.boot_int (rdA1 h s (fun v B' H' _ n r => .inl ⟨i, by rw [show v = .int i from r], fun hl => q _ B' H' hl n rfl⟩) h1) hg (by decide) (by decide) h1
theorem ev_intB {k : Bool} (h : Ev X e σ B k) (hm : X.mg "int" = none) (hg : Gl X "int" := by rfl) (h1 : NS X e [] := by rfl) : Ev X (.Call (.Name "int" p) [e] [] pos) σ B (if k then 1 else 0 : Nat) := fun H s Q q =>
  rd_ty call_int1 hm PySem.Pv.boot_int (rdA1 h s (fun v B' H' _ n r => .inr ⟨k, by rw [show v = .bl k from r], fun hl => q _ B' H' hl n (by cases k <;> rfl)⟩) h1) hg (by decide) (by decide) h1
theorem ev_absI (h : Ev X e σ B i) (hm : X.mg "abs" = none) (hg : Gl X "abs" := by rfl) (h1 : NS X e [] := by rfl) : Ev X (.Call (.Name "abs" p) [e] [] pos) σ B (if i < 0 then -i else i) := fun H s Q q =>
  rd_blt call_abs hm (by rfl) (rdA1 h s (fun v B' H' _ n r => ⟨i, by rw [show v = .int i from r], fun hl => q _ B' H' hl n rfl⟩) h1) hg (by decide) (by decide) h1
theorem ev_maxI (ha : Ev X a σ B i) (hb : Ev X b σ B j) (hm : X.mg "max" = none) (hc : X.calm = true := by rfl) (hg : Gl X "max" := by rfl) (h1 : NS X a [b] := by rfl) (h2 : NS X b [] := by rfl) (hpl : (backTo pos (starEach [b] X.env)).any (·.1) = false := by rfl) : Ev X (.Call (.Name "max" p) [a, b] [] pos) σ B (if j > i then j else i) := fun H s Q q =>
  rd_blt (call_max2 hc) hm (by rfl) (rdA2 ha hb s (fun v w B' H' _ n r1 r2 => ⟨i, j, by rw [show v = .int i from r1, show w = .int j from r2], fun hl => q _ B' H' hl n rfl⟩) h1 h2) hg (by decide) (by decide) h1 hpl
end
/-! ### the pot -/
def Pot (p : Addr) (H : Hp) : Prop := ∃ a b : Int, H p = some (.lst [.int a, .int b])
def potB (p : Addr) (a b : Int) : Hp := upd (fun _ => none) p (.lst [.int a, .int b])
theorem potB_same {p : Addr} {a b : Int} {H : Hp} (h : H p = some (.lst [.int a, .int b])) : Same (potB p a b) H := fun c o e => by
  unfold potB at e
  by_cases hc : c = p
  · subst hc; rw [upd_same] at e; cases e; exact h
  · rw [upd_ne hc] at e; cases e
theorem potB_R {p : Addr} {a b : Int} : R (potB p a b) ([a, b] : List Int) (.ref p) := ⟨p, _, rfl, upd_same, LR.cons (a := a) rfl (LR.cons (a := b) rfl LR.nil)⟩
def SpDraw : Sp := fun vs H Q _ => ∃ (p : Addr) (n : Nat), vs = [.ref p, .int (n : Int)] ∧ Pot p H ∧ 1 ≤ n ∧ n ≤ 1000 ∧ ∀ (d : Nat) H', d < n → (∀ b o, b ≠ p → H b = some o → H' b = some o) → Pot p H' → Q (.int (d : Int)) H'
section
variable {P : Program} {w : World} {K : PySem.W.Frag} {mg : Str → Option Value} {base : Heap} {cC cW : Addr}
theorem sc94 : FnScope ["_law_pot_here", "_law_size", "_law_digit"] ["_law_pot_here", "_law_size"] (defScope (topS 94)) := ⟨rfl, rfl, rfl, by decide +kernel, rfl, by decide +kernel, by decide +kernel⟩
theorem fk_draw (E : Tops K mg cC cW) : Fk P w K mg base "_law_draw" 1 ["_law_pot_here", "_law_size"] SpDraw :=
  fk_mk (N := ["_law_pot_here", "_law_size", "_law_digit"]) E.d94 sc94 (fun vs H Q E ⟨_, _, e, _⟩ => by rw [e]; rfl) fun f cd A ou s H vs Q EX hr ⟨p, n, e, ⟨a, b, hp⟩, hn1, hn2, q⟩ => by
    subst e
    have hn0 : (0 : Int) < (n : Int) := by omega
    refine rb_if (B := potB p a b) (decide (0 < a)) (Cm.et (cm_gtI (ev_ix (xs := [a, b]) (i := 0) (ev_var 0 rfl potB_R) (ev_nat 0) rfl) (ev_int))) (potB_same hp) (fun ht H1 s1 => ?_) fun ht H1 s1 => ?_
    · refine rdB_mk (pss_cons (ps_asg pe_rd (pg_tup (n := 2) rfl (pgs_cons (pg_sub (pe_var (i := 0) rfl (Or.inl rfl) (by decide) (by decide)) pe_int set_list (by intro _; rfl)) (pgs_cons (pg_name (i := 2) sc94.nd rfl (Or.inl rfl)) pgs_nil))) (by rfl) (by rfl) (by rfl)) pss_rd) ?_
      refine rd_blt call_divmod E.bt.divmod (by rfl) (rdA2 (x := a) (y := (n : Int)) (ev_ix (xs := [a, b]) (i := 0) (ev_var 0 rfl potB_R) (ev_nat 0) rfl) (ev_toI (ev_var (x := n) 1 rfl rfl)) (potB_same (s1 p _ hp)) fun v u B2 H2 hl2 n2 r1 r2 => ?_)
      cases (show v = _ from r1)
      cases (show u = _ from r2)
      refine ⟨a, n, rfl, ⟨hn0, by omega⟩, fun t ht0 hl3 => ?_⟩
      have hp2 : H2 p = some (.lst [.int a, .int b]) := n2.hh p _ (s1 p _ hp)
      have hnt : p ≠ t := fun e => by rw [← e, hp2] at ht0; cases ht0
      refine ⟨t, [.int (a / n), .int (a % n)], rfl, .inl (.inl upd_same), rfl, .int (a / n), [.int (a % n)], rfl, ⟨.ref p, rfl, p, [.int a, .int b], 0, 0, rfl, rfl, by rw [upd_ne hnt]; exact hp2, (show ixN 2 0 = some 0 by decide), ?_⟩⟩
      refine ⟨.int (a % n), [], rfl, rfl, ?_⟩
      have hd : 0 ≤ a % (n : Int) := Int.emod_nonneg _ (by omega)
      have hd2 : a % (n : Int) < n := Int.emod_lt_of_pos _ hn0
      refine rb_ret (B := fun _ => none) (ev_toN (n := (a % (n : Int)).toNat) (ev_var (x := a % (n : Int)) 2 rfl rfl) (by omega)) (fun c o e => by cases e) fun v' B' H' n3 r3 => ?_
      cases (show v' = _ from r3)
      refine q (a % (n : Int)).toNat H' (by omega) (fun c o hc ho => n3.hh c o ?_) ⟨a / n, b, n3.hh p _ upd_same⟩
      rw [upd_ne hc]
      have hc2 : c ≠ t := fun e => by
        rw [e] at ho
        have := n2.hh t o (s1 t o ho)
        rw [ht0] at this
        cases this
      rw [upd_ne hc2]
      exact n2.hh c o (s1 c o ho)
    · have hp1 := s1 p _ hp
      refine rb_nil (rdB_mk (pss_cons (ps_asg pe_rd (pg_sub (pe_var (i := 0) rfl (Or.inl rfl) (by decide) (by decide)) pe_int set_list (by intro _; rfl)) (by rfl) (by rfl) (by rfl)) pss_rd) ?_)
      refine ev_opI (j := 2147483587) op_mod (ev_intI (ev_opI0 (j := 3733) op_add (ev_opI (j := 39373) op_mul (ev_ix (xs := [a, b]) (i := 1) (ev_var 0 rfl potB_R) (ev_nat 1) rfl) ev_int (.inr ⟨by decide, by decide⟩)) ev_int) E.bt.int) ev_int (by decide) H1 (potB_same hp1) _ fun v B2 H2 hl2 n2 r2 => ?_
      cases (show v = _ from r2)
      have hp2 : H2 p = some (.lst [.int a, .int b]) := n2.hh p _ hp1
      refine ⟨.ref p, rfl, p, [.int a, .int b], 1, 1, rfl, rfl, hp2, (show ixN 2 1 = some 1 by decide), ?_⟩
      generalize hc : (b * 39373 + 3733) % 2147483587 = c
      have hc0 : 0 ≤ c := by rw [← hc]; exact Int.emod_nonneg _ (by decide)
      have hc1 : c < 2147483587 := by rw [← hc]; exact Int.emod_lt_of_pos _ (by decide)
      have hd0 : 0 ≤ c * c % 2147483563 / 17 % (n : Int) := Int.emod_nonneg _ (by omega)
      have hd1 : c * c % 2147483563 / 17 % (n : Int) < n := Int.emod_lt_of_pos _ hn0
      have hp3 : (upd H2 p (.lst [.int a, .int c])) p = some (.lst [.int a, .int c]) := upd_same
      refine rb_ret (B := potB p a c) (ev_toN (n := (c * c % 2147483563 / 17 % (n : Int)).toNat) (ev_opI op_mod (ev_intI (ev_opI (j := 17) op_fdiv (ev_opI (j := 2147483563) op_mod (ev_intI (ev_opI op_mul (ev_ix (xs := [a, c]) (i := 1) (ev_var 0 rfl potB_R) (ev_nat 1) rfl) (ev_ix (xs := [a, c]) (i := 1) (ev_var 0 rfl potB_R) (ev_nat 1) rfl) (.inl ⟨by omega, by omega⟩)) E.bt.int) ev_int (by decide)) ev_int ⟨by decide, by decide⟩) E.bt.int) (ev_toI (ev_var (x := n) 1 rfl rfl)) hn0) (by omega)) (potB_same hp3) fun v' B' H' n3 r3 => ?_
      cases (show v' = _ from r3)
      refine q _ H' (by omega) (fun d o hd ho => n3.hh d o ?_) ⟨a, c, n3.hh p _ hp3⟩
      show (upd H2 p (.lst [.int a, .int c])) d = some o
      rw [upd_ne hd]
      exact n2.hh d o (s1 d o ho)
end
end LK
/-! ## F27 -/
namespace LK
open PySem PySem.Spec PyProof.Rows L2
open Rp (R)
/-! ### steps that may draw: the pot at p changes, nothing else does -/
structure NwP (p : Addr) (B H B' H' : Hp) : Prop where
  bb : Same B B'
  bh : Same B' H'
  hh : ∀ b o, b ≠ p → H b = some o → H' b = some o
  hid : ∀ b, H b ≠ none → B b = none → B' b = none
  bp : B' p = none
  pot : Pot p H'
theorem Nw.toP {p : Addr} {B H B' H' : Hp} (n : Nw B H B' H') (hb : B p = none) (hp : Pot p H) : NwP p B H B' H' := by
  obtain ⟨a, b, h⟩ := hp
  exact ⟨n.bb, n.bh, fun c o _ e => n.hh c o e, n.hid, n.hid p (by rw [h]; intro z; cases z) hb, ⟨a, b, n.hh p _ h⟩⟩
theorem NwP.trans {p : Addr} {B H B1 H1 B2 H2 : Hp} (m : NwP p B H B1 H1) (n : NwP p B1 H1 B2 H2) : NwP p B H B2 H2 :=
  ⟨m.bb.trans n.bb, n.bh, fun c o hc e => n.hh c o hc (m.hh c o hc e), fun c h1 h2 => by
    by_cases hc : c = p
    · subst hc; exact n.bp
    · exact n.hid c (fun e => by
        cases q : H c with
        | none => exact h1 q
        | some o => rw [m.hh c o hc q] at e; cases e) (m.hid c h1 h2), n.bp, n.pot⟩
theorem NwP.then {p : Addr} {B H B1 H1 B2 H2 : Hp} (m : NwP p B H B1 H1) (n : Nw B1 H1 B2 H2) : NwP p B H B2 H2 := m.trans (n.toP m.bp m.pot)
section
variable {α β γ δ : Type} [Rp α] [Rp β] [Rp γ] [Rp δ]
variable {X : Cx} {e a b c tg iter : Expr} {es : List Expr} {σ : L2.St} {B B' H H' B0 H0 : Hp} {x : α} {y : β} {z : γ} {pos p p2 p3 p4 : Pos} {D : Ends} {rest body els : List Stmt} {st : Stmt} {l pt : Addr} {ys : List α}
def EvP (X : Cx) (e : Expr) (σ : L2.St) (B : Hp) (pt : Addr) (S : α → Prop) : Prop := ∀ H, Same B H → B pt = none → Pot pt H → ∀ Q : VK, (∀ x v B' H', HLen H' → NwP pt B H B' H' → S x → R B' x v → Q v H') → rd X e σ H Q
theorem evp_ev (h : Ev X e σ B x) : EvP X e σ B pt (· = x) := fun H s hb hp Q q => h H s Q fun v B' H' hl n r => q x v B' H' hl (n.toP hb hp) rfl r
theorem EvP.imp {S S' : α → Prop} (h : EvP X e σ B pt S) (k : ∀ x, S x → S' x) : EvP X e σ B pt S' := fun H s hb hp Q q => h H s hb hp Q fun x v B' H' hl n sx r => q x v B' H' hl n (k x sx) r
theorem EvP.map {S : α → Prop} {S' : β → Prop} (f : α → β) (h : EvP X e σ B pt S) (k : ∀ x, S x → S' (f x)) (hr : ∀ B x v, R B x v → R B (f x) v) : EvP X e σ B pt S' := fun H s hb hp Q q => h H s hb hp Q fun x v B' H' hl n sx r => q (f x) v B' H' hl n (k x sx) (hr B' x v r)
/-- calls -/
def SpP0 (S : β → Prop) : Sp := fun vs H Q _ => ∃ (B : Hp) (p : Addr), vs = [.ref p] ∧ Same B H ∧ B p = none ∧ Pot p H ∧ ∀ x v' B' H', NwP p B H B' H' → S x → R B' x v' → Q v' H'
def SpP1 (pre : α → Prop) (S : α → β → Prop) : Sp := fun vs H Q _ => ∃ (B : Hp) (p : Addr) (a : α) (v : V), vs = [.ref p, v] ∧ Same B H ∧ B p = none ∧ Pot p H ∧ R B a v ∧ pre a ∧ ∀ x v' B' H', NwP p B H B' H' → S a x → R B' x v' → Q v' H'
theorem evp_call0 {n m : Str} {k : Nat} {ps : List Str} {S : β → Prop} (i : Nat) (G : Fk X.prog X.w X.K X.mg X.base n k ps (SpP0 S)) (hr : Room k X.A) (hσ : σ[i]? = some (some (.ref pt)))
    (hN : X.N[i]? = some m := by rfl) (hv : Vis X.env.scope m := by first | exact Or.inl rfl | exact Or.inr (Or.inl rfl)) (hd : (m == ("__debug__" : Str)) = false := by decide) (hcd : (m == ("__classdict__" : Str)) = false := by decide)
    (hg : Gl X n := by rfl) (hdb : (n == ("__debug__" : Str)) = false := by decide) (he : NS X (.Name m p2) [] := by rfl) (hpl : (backTo pos (starEach [] X.env)).any (·.1) = false := by rfl) : EvP X (.Call (.Name n p) [.Name m p2] [] pos) σ B pt S := fun H s hb hp Q q =>
  rd_call G hr (rdA_mk (pa_cons (pe_var hN hv hd hcd) pa_nil he) ⟨_, hσ, B, pt, rfl, s, hb, hp, fun x v' B' H' n sx r hl => q x v' B' H' hl n sx r⟩) hg hdb he hpl
theorem evp_call1 {n m : Str} {k : Nat} {ps : List Str} {pre : α → Prop} {S : α → β → Prop} (i : Nat) (G : Fk X.prog X.w X.K X.mg X.base n k ps (SpP1 pre S)) (hr : Room k X.A) (hσ : σ[i]? = some (some (.ref pt))) (h : Ev X e σ B x) (hpre : pre x)
    (hN : X.N[i]? = some m := by rfl) (hv : Vis X.env.scope m := by first | exact Or.inl rfl | exact Or.inr (Or.inl rfl)) (hd : (m == ("__debug__" : Str)) = false := by decide) (hcd : (m == ("__classdict__" : Str)) = false := by decide)
    (hg : Gl X n := by rfl) (hdb : (n == ("__debug__" : Str)) = false := by decide) (he : NS X (.Name m p2) [e] := by rfl) (he2 : NS X e [] := by rfl) (hpl : (backTo pos (starEach [e] X.env)).any (·.1) = false := by rfl) : EvP X (.Call (.Name n p) [.Name m p2, e] [] pos) σ B pt (S x) := fun H s hb hp Q q =>
  rd_call G hr (rdA_mk (pa_cons (pe_var hN hv hd hcd) (pa_cons pe_rd pa_nil he2) he) ⟨_, hσ, h H s _ fun v B1 H1 _ n1 r1 => by
    have nP := n1.toP hb hp
    exact ⟨B1, pt, x, v, rfl, n1.bh, nP.bp, nP.pot, r1, hpre, fun y v' B' H' n sx r hl => q y v' B' H' hl (nP.trans n) sx r⟩⟩) hg hdb he hpl
/-- a draw -/
theorem evp_draw {m : Str} {n : Nat} {k : Nat} {ps : List Str} (i : Nat) (G : Fk X.prog X.w X.K X.mg X.base "_law_draw" k ps SpDraw) (hr : Room k X.A) (hσ : σ[i]? = some (some (.ref pt))) (h : Ev X e σ B n) (h1 : 1 ≤ n) (h2 : n ≤ 1000)
    (hN : X.N[i]? = some m := by rfl) (hv : Vis X.env.scope m := by first | exact Or.inl rfl | exact Or.inr (Or.inl rfl)) (hd : (m == ("__debug__" : Str)) = false := by decide) (hcd : (m == ("__classdict__" : Str)) = false := by decide)
    (hg : Gl X "_law_draw" := by rfl) (he : NS X (.Name m p2) [e] := by rfl) (he2 : NS X e [] := by rfl) (hpl : (backTo pos (starEach [e] X.env)).any (·.1) = false := by rfl) : EvP X (.Call (.Name "_law_draw" p) [.Name m p2, e] [] pos) σ B pt (fun d : Nat => d < n) := fun H s hb hp Q q =>
  rd_call G hr (rdA_mk (pa_cons (pe_var hN hv hd hcd) (pa_cons pe_rd pa_nil he2) he) ⟨_, hσ, h H s _ fun v B1 H1 _ n1 r1 => by
    have nP := n1.toP hb hp
    cases (show v = _ from r1)
    exact ⟨pt, n, rfl, nP.pot, h1, h2, fun d H' hd hh hpot hl => q d _ B1 H' hl (nP.trans ⟨Same.refl _, fun b o eb => hh b o (fun z => by rw [z, nP.bp] at eb; cases eb) (n1.bh b o eb), hh, fun _ _ h => h, nP.bp, hpot⟩) hd rfl⟩⟩) hg (by decide) he hpl
theorem evp_add {m : Nat} {S : Nat → Prop} (ha : Ev X a σ B m) (hb : ∀ B1, Same B B1 → EvP X b σ B1 pt S) : EvP X (.BinOp a .Add b pos) σ B pt (fun k => ∃ d, S d ∧ k = m + d) := fun H s hb0 hp Q q =>
  rd_op op_add (ha H s _ fun u B1 H1 _ n1 r1 => by
    have nP := n1.toP hb0 hp
    refine hb B1 n1.bb H1 n1.bh nP.bp nP.pot _ fun d v B2 H2 hl2 n2 sd r2 => ⟨m, d, r1, r2, ?_⟩
    exact q (m + d) _ B2 H2 hl2 (nP.trans n2) ⟨d, sd, rfl⟩ (by show V.int _ = V.int _; rw [Int.natCast_add]))
theorem rdA2P {S : α → Prop} {T : β → Prop} {Q : List V → Hp → Prop} (h : EvP X a σ B pt S) (h' : ∀ B1, Same B B1 → EvP X b σ B1 pt T) (s : Same B H) (hb : B pt = none) (hp : Pot pt H) (k : ∀ x y v w B' H', HLen H' → NwP pt B H B' H' → S x → T y → R B' x v → R B' y w → Q [v, w] H') (h1 : NS X a [b] := by rfl) (h2 : NS X b [] := by rfl) : rdA X [a, b] σ H Q :=
  rdA_mk (pa_cons pe_rd (pa_cons pe_rd pa_nil h2) h1) (h H s hb hp _ fun x v B1 H1 hl n sx r => h' B1 n.bb H1 n.bh n.bp n.pot _ fun y w B' H' hl n2 sy r2 => k x y v w B' H' hl (n.trans n2) sx sy (Rp.mono n2.bb r) r2)
theorem evp_tup2 {S : α → Prop} {T : β → Prop} {k} (h : EvP X a σ B pt S) (h' : ∀ B1, Same B B1 → EvP X b σ B1 pt T) (h1 : NS X a [b] := by rfl) (h2 : NS X b [] := by rfl) : EvP X (.Tuple [a, b] k pos) σ B pt (fun u : α × β => S u.1 ∧ T u.2) := fun H s hb hp Q q =>
  rd_mkL (pe_tup pa_rd) (rdA2P h h' s hb hp (fun x y v w B1 H1 _ n1 sx sy r1 r2 => by
    refine ⟨by show 2 ≤ sizeLine; decide, fun p hp hl => ?_⟩
    have n2 := Nw.new (o := .tup [v, w]) n1.bh hp
    exact q (x, y) _ _ _ hl (n1.then n2) ⟨sx, sy⟩ ⟨p, v, w, rfl, upd_same, Rp.mono n2.bb r1, Rp.mono n2.bb r2⟩) h1 h2)
theorem evp_tup3 {S : α → Prop} {T : β → Prop} {U : γ → Prop} {k} (h : EvP X a σ B pt S) (h' : ∀ B1, Same B B1 → EvP X b σ B1 pt T) (h'' : ∀ B1, Same B B1 → EvP X c σ B1 pt U) (h1 : NS X a [b, c] := by rfl) (h2 : NS X b [c] := by rfl) (h3 : NS X c [] := by rfl) :
    EvP X (.Tuple [a, b, c] k pos) σ B pt (fun u : T3 α β γ => S u.a ∧ T u.b ∧ U u.c) := fun H s hb hp Q q =>
  rd_mkL (pe_tup pa_rd) (rdA_mk (pa_cons pe_rd (pa_cons pe_rd (pa_cons pe_rd pa_nil h3) h2) h1) (h H s hb hp _ fun x v B1 H1 _ n1 sx r1 => h' B1 n1.bb H1 n1.bh n1.bp n1.pot _ fun y w B2 H2 _ n2 sy r2 => h'' B2 (n1.bb.trans n2.bb) H2 n2.bh n2.bp n2.pot _ fun z u B3 H3 _ n3 sz r3 => by
    refine ⟨by show 3 ≤ sizeLine; decide, fun p hp hl => ?_⟩
    have n4 := Nw.new (o := .tup [v, w, u]) n3.bh hp
    exact q (T3.mk x y z) _ _ _ hl ((n1.trans (n2.trans n3)).then n4) ⟨sx, sy, sz⟩ ⟨p, v, w, u, rfl, upd_same, Rp.mono ((n2.trans n3).bb.trans n4.bb) r1, Rp.mono (n3.bb.trans n4.bb) r2, Rp.mono n4.bb r3⟩))
theorem evp_lst1 {S : α → Prop} (h : EvP X a σ B pt S) (h1 : NS X a [] := by rfl) : EvP X (.List [a] pos) σ B pt (fun u : List α => ∃ x, S x ∧ u = [x]) := fun H s hb hp Q q =>
  rd_mkL (pe_lst pa_rd) (rdA_mk (pa_cons pe_rd pa_nil h1) (h H s hb hp _ fun x v B1 H1 _ n1 sx r1 => by
    refine ⟨by show 1 ≤ sizeLine; decide, fun p hp hl => ?_⟩
    have n2 := Nw.new (o := .lst [v]) n1.bh hp
    exact q [x] _ _ _ hl (n1.then n2) ⟨x, sx, rfl⟩ ⟨p, [v], rfl, upd_same, LR.cons (a := x) (Rp.mono n2.bb r1) LR.nil⟩))
/-- (draw) == k, as a value -/
theorem evp_eq {n : Nat} {S : Nat → Prop} (ha : EvP X a σ B pt S) (hb : ∀ B1, Same B B1 → Ev X b σ B1 n) : EvP X (.Compare a [.Eq] [b] pos) σ B pt (fun t : Bool => ∃ d, S d ∧ t = decide (d = n)) := fun H s hb0 hp Q q =>
  rd_mkL (pe_cmpR op_eq pe_rd pe_rd (nomark _)) (ha H s hb0 hp _ fun d u B1 H1 _ n1 sd r1 => hb B1 n1.bb H1 n1.bh _ fun v B2 H2 _ n2 r2 => by
    cases (show u = _ from r1)
    cases (show v = _ from r2)
    exact ⟨rfl, fun hl => q _ _ B2 H2 hl (n1.then n2) ⟨d, sd, rfl⟩ (by show V.bl _ = V.bl _; rw [dec_nat])⟩)
theorem rb_ifEqP {n : Nat} {S : Nat → Prop} (ha : EvP X a σ B pt S) (hb : ∀ B1, Same B B1 → Ev X b σ B1 n) (s : Same B H) (hb0 : B pt = none) (hp : Pot pt H) (h1 : S n → ∀ B' H', NwP pt B H B' H' → rdB X body { D with nx := rdB X rest D } σ H') (h2 : ∀ B' H', NwP pt B H B' H' → rdB X els { D with nx := rdB X rest D } σ H') :
    rdB X (.If (.Compare a [.Eq] [b] pos) body els p2 :: rest) D σ H :=
  rdB_mk (pss_cons (ps_if pt_rd pss_rd pss_rd) pss_rd) (rdT_mk (pt_cmpR op_eq pe_rd pe_rd (nomark _)) (ha H s hb0 hp _ fun d u B1 H1 _ n1 sd r1 => hb B1 n1.bb H1 n1.bh _ fun v B2 H2 _ n2 r2 => by
    cases (show u = _ from r1)
    cases (show v = _ from r2)
    refine ⟨rfl, decide (d = n), by rw [dec_nat], ?_⟩
    by_cases hd : d = n
    · subst hd
      rw [decide_eq_true rfl]
      exact iteT (h1 sd B2 H2 (n1.then n2))
    · rw [decide_eq_false hd]
      exact iteF (h2 B2 H2 (n1.then n2))))
theorem evp_intB {S : Bool → Prop} (h : EvP X e σ B pt S) (hm : X.mg "int" = none) (hg : Gl X "int" := by rfl) (h1 : NS X e [] := by rfl) : EvP X (.Call (.Name "int" p) [e] [] pos) σ B pt (fun n : Nat => n ≤ 1) := fun H s hb hp Q q =>
  rd_ty call_int1 hm PySem.Pv.boot_int (rdA_mk (pa_cons pe_rd pa_nil h1) (h H s hb hp _ fun k v B' H' _ n sk r => .inr ⟨k, by rw [show v = .bl k from r], fun hl => q (if k then 1 else 0) _ B' H' hl n (by cases k <;> decide) (by cases k <;> rfl)⟩)) hg (by decide) (by decide) h1
/-! statements -/
theorem rb_setP {S : α → Prop} (i : Nat) {n : Str} {p : Pos} (h : EvP X e σ B pt S) (s : Same B H) (hb : B pt = none) (hp : Pot pt H) (k : ∀ x v B' H', HLen H' → NwP pt B H B' H' → S x → R B' x v → rdB X rest D (σ.set i (some v)) H')
    (hN : X.N.Nodup) (hi : X.N[i]? = some n := by rfl) (hx : Loc X.env.scope n := by first | exact Or.inl rfl | exact Or.inr rfl) (hs : swapsWith e (some (.Name n p)) pos.line X.env = pure false := by rfl)
    (hf : X.fn n = true ∨ X.env.scope.names.lookup n = some .local := by first | exact .inl rfl | exact .inr rfl) : rdB X (.Assign [.Name n p] e pos :: rest) D σ H :=
  rdB_mk (pss_cons (ps_set hN hi hx pe_rd hs hf) pss_rd) (h H s hb hp _ fun x v B' H' hl n sx r => k x v B' H' hl n sx r)
theorem rb_retP {S : α → Prop} (h : EvP X e σ B pt S) (s : Same B H) (hb : B pt = none) (hp : Pot pt H) (k : ∀ x v B' H', NwP pt B H B' H' → S x → R B' x v → D.rt v H') : rdB X (.Return (some e) pos :: rest) D σ H :=
  rdB_mk (pss_cons (ps_ret pe_rd) pss_rd) (h H s hb hp _ fun x v B' H' _ n sx r => k x v B' H' n sx r)
/-- a list that grows beside the pot -/
def GrP (pt : Addr) (B0 H0 : Hp) (l : Addr) (ys : List α) (B H : Hp) : Prop := ∃ ws, NwP pt B0 H0 B H ∧ H0 l = none ∧ l ≠ pt ∧ B l = none ∧ H l = some (.lst ws) ∧ LR B ys ws
theorem GrP.nw (g : GrP pt B0 H0 l ys B H) : NwP pt B0 H0 B H := g.choose_spec.1
theorem GrP.step (g : GrP pt B0 H0 l ys B H) (n : NwP pt B H B' H') : GrP pt B0 H0 l ys B' H' := by
  obtain ⟨ws, N, h0, ne, hb, hl, lr⟩ := g
  exact ⟨ws, N.trans n, h0, ne, n.hid l (by rw [hl]; intro z; cases z) hb, n.hh l _ ne hl, lr.mono n.bb⟩
theorem GrP.stepN (g : GrP pt B0 H0 l ys B H) (n : Nw B H B' H') : GrP pt B0 H0 l ys B' H' := g.step (n.toP g.nw.bp g.nw.pot)
theorem grP_new {ws : List V} (N : NwP pt B0 H0 B H) (h0 : H0 l = none) (hp0 : Pot pt H0) (hb : B l = none) (hl : H l = some (.lst ws)) (lr : LR B ys ws) : GrP pt B0 H0 l ys B H := by
  refine ⟨ws, N, h0, fun e => ?_, hb, hl, lr⟩
  obtain ⟨a, b, h⟩ := hp0
  rw [← e, h0] at h
  cases h
theorem rb_appendGrP {S : α → Prop} (i : Nat) {n : Str} (g : GrP pt B0 H0 l ys B H) (h : EvP X e σ B pt S) (hσ : σ[i]? = some (some (.ref l))) (hz : ys.length < 100000) (k : ∀ x B' H', Same B B' → S x → GrP pt B0 H0 l (ys ++ [x]) B' H' → (∀ b o, b ≠ l → b ≠ pt → H b = some o → H' b = some o) → (∀ b, H b ≠ none → B b = none → B' b = none) → rdB X rest D σ H')
    (hN : X.N[i]? = some n := by rfl) (hv : Vis X.env.scope n := by first | exact Or.inl rfl | exact Or.inr (Or.inl rfl)) (hd : (n == ("__debug__" : Str)) = false := by decide) (hcd : (n == ("__classdict__" : Str)) = false := by decide)
    (hb : attributeBase (.Name n p) "append" X.env (eval (.Name n p) X.env) = eval (.Name n p) X.env := by rfl) (hfew : ((backTo p3 (starEach [e] X.env)).all (fun x => !x.1) && (backToKw p3 (keywordEach [] X.env)).all (fun x => x.1.isSome)
      && decide ([e].length + ([] : List Keyword).length + (if ([] : List Keyword).isEmpty then 0 else 1) < 30)) = true := by rfl)
    (hline : (p2.endLine == p3.line) = true := by rfl) (hs : NS X e [] := by rfl) (hsw : swapsWith (.Call (.Attribute (.Name n p) "append" p2) [e] [] p3) none pos.line X.env = pure false := by rfl) :
    rdB X (.Expr (.Call (.Attribute (.Name n p) "append" p2) [e] [] p3) pos :: rest) D σ H := by
  obtain ⟨ws, N, h0, ne, hbl, hl, lr⟩ := g
  refine rdB_mk (pss_cons (ps_expr (pe_bm PySem.F.plainAttrs_list PySem.F.slot_list_append PySem.F.type_list_append mt_append (pe_var hN hv hd hcd) (pa_cons pe_rd pa_nil hs) hb hfew hline hs rfl) hsw) pss_rd)
    ⟨.ref l, hσ, tyL hl, h H N.bh N.bp N.pot _ fun x v B' H' _ n sx r => ⟨l, ws, v, rfl, rfl, n.hh l _ ne hl, by rw [lr.1]; exact Nat.lt_of_lt_of_le hz (by decide), ?_⟩⟩
  have hbl' := n.hid l (by rw [hl]; intro z; cases z) hbl
  have N' := N.trans n
  obtain ⟨pa, pb, hpot⟩ := N'.pot
  refine k x B' _ n.bb sx ⟨_, ⟨N'.bb, same_upd2 N'.bh hbl', fun b o hb e => by rw [upd_ne (ne_of_none e h0)]; exact N'.hh b o hb e, N'.hid, N'.bp, ⟨pa, pb, by rw [upd_ne (Ne.symm ne)]; exact hpot⟩⟩, h0, ne, hbl', upd_same, (lr.mono n.bb).snoc r⟩ (fun b o nb np eb => by rw [upd_ne nb]; exact n.hh b o np eb) n.hid
theorem GrP.told (g : GrP pt B0 H0 l ys B H) : ∃ B2, Same B B2 ∧ NwP pt B0 H0 B2 H ∧ R B2 ys (.ref l) ∧ (∀ b, b ≠ l → B b = none → B2 b = none) := by
  obtain ⟨ws, N, h0, ne, hbl, hl, lr⟩ := g
  exact ⟨upd B l (.lst ws), same_new hbl, ⟨N.bb.trans (same_new hbl), same_tell N.bh hl, N.hh, fun b h1 h2 => by
    rw [upd_ne (fun e => h1 (by rw [e]; exact h0))]; exact N.hid b h1 h2, by rw [upd_ne (Ne.symm ne)]; exact N.bp, N.pot⟩, R_tell hbl lr, fun b nb e => by rw [upd_ne nb]; exact e⟩
theorem GrP.tell2 {q : Addr} {zs : List β} (g : GrP pt B0 H0 l ys B H) (g' : GrP pt B0 H0 q zs B H) (ne : l ≠ q) : ∃ B2, Same B B2 ∧ GrP pt B0 H0 l ys B2 H ∧ R B2 zs (.ref q) := by
  obtain ⟨B2, s, N2, r, k⟩ := g'.told
  obtain ⟨ws, N, h0, nep, hbl, hl, lr⟩ := g
  exact ⟨B2, s, ⟨ws, N2, h0, nep, k l ne hbl, hl, lr.mono s⟩, r⟩
theorem GrP.other {q : Addr} {zs : List β} (g : GrP pt B0 H0 l ys B H) (g' : GrP pt B0 H0 q zs B' H') (s : Same B B') (hh : ∀ b o, b ≠ q → b ≠ pt → H b = some o → H' b = some o) (hid : ∀ b, H b ≠ none → B b = none → B' b = none) (ne : l ≠ q) : GrP pt B0 H0 l ys B' H' := by
  obtain ⟨ws, N, h0, nep, hbl, hl, lr⟩ := g
  exact ⟨ws, g'.nw, h0, nep, hid l (by rw [hl]; intro z; cases z) hbl, hh l _ ne nep hl, lr.mono s⟩
/-- for: over range of what was drawn; over anything -/
theorem rb_forRP {S : Nat → Prop} (I : Nat → Nat → L2.St → Hp → Hp → Prop) (h : EvP X e σ B pt S) (hz : ∀ n, S n → n ≤ 1000) (s : Same B H) (hb : B pt = none) (hpt : Pot pt H) (st : ∀ n i σ B H B' H', I n i σ B H → Nw B H B' H' → I n i σ B' H') (bh : ∀ n i σ B H, I n i σ B H → Same B H)
    (i0 : ∀ n B1 H1, S n → NwP pt B H B1 H1 → I n 0 σ B1 H1) (hp : PassesOwn (model X.prog X.w) X.A X.env X.xe) (hc : X.calm = true) (hm : X.mg "range" = none)
    (turn : ∀ n B1, S n → Same B B1 → ∀ i σ' B2 H2, i < n → Same B1 B2 → I n i σ' B2 H2 →
      rdG X tg (.int (i : Nat)) σ' H2 fun σ3 H3 => rdB X body { D with nx := fun σ' H' => ∃ B', Same B1 B' ∧ I n (i + 1) σ' B' H', ct := fun σ' H' => ∃ B', Same B1 B' ∧ I n (i + 1) σ' B' H', bk := rdB X rest D } σ3 H3)
    (done : ∀ n σ' B2 H2, S n → Same B B2 → I n n σ' B2 H2 → rdB X rest D σ' H2)
    (hg : Gl X "range" := by rfl) (hn1 : NS X e [] := by rfl) (hs : starEach [e] X.env = [(false, eval e X.env)] := by rfl)
    (hs2 : ∀ x, foldedSetIterable (.Call (.Name "range" p) [e] [] p2) X.env x = pure x := by intro _; rfl) : rdB X (.For tg (.Call (.Name "range" p) [e] [] p2) body [] pos :: rest) D σ H :=
  rb_forI (α := Nat) (rdI_mkL (pi_range1 hg hm (pa_cons pe_rd pa_nil hn1) hs) (h H s hb hpt _ fun n v B1 H1 _ n1 sn r => by
    have hn := hz n sn
    refine ⟨n, by cases (show v = _ from r); rfl, by omega, by omega, fun hl => ⟨B1, List.range n, ?_, ?_⟩⟩
    · have e : (List.range n).length = ((n : Nat) : Int).toNat := by rw [List.length_range]; simp
      refine ⟨by rw [List.length_range, sizeLine_eq]; omega, fun _ => True, fun i H2 v H3 => i < n ∧ H3 = H2 ∧ v = .int ((0 : Int) + (i : Nat)), (by
        rw [e]
        exact walk_range.mono (fun _ h => h) fun i H2 v H3 hi _ y => ⟨by simpa using hi, y.1, y.2⟩), fun _ _ => trivial, fun i H2 v H3 s2 y => ?_⟩
      obtain ⟨hi, rfl, rfl⟩ := y
      exact ⟨B1, i, by rw [List.getElem?_range hi], Nw.refl s2, by show V.int _ = V.int _; rw [Int.zero_add]⟩
    · refine ⟨fun i σ' B2 H2 => Same B1 B2 ∧ I n i σ' B2 H2, ⟨Same.refl _, i0 n B1 H1 sn n1⟩, fun i σ' B2 H2 ⟨s, g2⟩ => ⟨s, bh _ _ _ _ _ g2⟩, fun i a v σ' B2 H2 B4 H3 ha ⟨s, g2⟩ n4 r4 => ?_, fun σ' B2 H2 ⟨s, g2⟩ => ?_⟩
      · have hi : i < n := by have := lt_of_at ha; rw [List.length_range] at this; exact this
        rw [List.getElem?_range hi] at ha
        cases ha
        cases (show v = _ from r4)
        exact turn n B1 sn n1.bb i σ' B4 H3 hi (s.trans n4.bb) (st _ _ _ _ _ _ _ g2 n4)
      · rw [List.length_range] at g2
        exact done n σ' B2 H2 sn (n1.bb.trans s) g2)) hp hc hs2
end
end LK
/-! ## F28 -/
namespace LK
open PySem PySem.Spec PyProof.Rows L2
open Rp (R)
def bndIn (near : List Nat) (b : Bnd) : Prop := b.c ≤ 2 ∧ endOk near b.a = true ∧ endOk near b.b = true ∧ b.a ≠ b.b
def altIn (near : List Nat) (a : Alt) : Prop := 1 ≤ a.1 ∧ a.1 ≤ 3 ∧ a.2.length ≤ 2 ∧ ∀ z ∈ a.2, bndIn near z
def goodBook (near : List Nat) (b : Book) : Prop := 1 ≤ b.length ∧ b.length ≤ 3 ∧ (∀ a ∈ b, altIn near a) ∧ ∀ q ∈ pairsAt near, lLets b [q] = true
def nearOk (near : List Nat) : Prop := near ≠ [] ∧ near.length ≤ 100 ∧ ∀ x ∈ near, (near.filter fun y => !decide (y = x)) ≠ []
def smalls : List (List Lane) := [[(0, 1), (1, 2)], [(0, 1), (1, 2), (2, 3)], [(0, 1), (0, 2), (0, 3)], [(0, 1), (1, 2), (1, 3), (3, 4)], [(0, 2), (1, 2)]]
section
variable {P : Program} {w : World} {K : PySem.W.Frag} {mg : Str → Option Value} {base : Heap} {cC cW : Addr}
theorem sc95 : FnScope ["_law_pot_here", "_law_some"] ["_law_pot_here", "_law_some"] (defScope (topS 95)) := ⟨rfl, rfl, rfl, by decide +kernel, rfl, by decide +kernel, by decide +kernel⟩
theorem fk_pick {α : Type} [Rp α] (E : Tops K mg cC cW) : Fk P w K mg base "_law_pick" 2 ["_law_pot_here", "_law_some"] (SpP1 (fun xs : List α => xs ≠ [] ∧ xs.length ≤ 1000) fun xs x => x ∈ xs) :=
  fk_mk (N := ["_law_pot_here", "_law_some"]) E.d95 sc95 (fun vs H Q E ⟨_, _, _, _, e, _⟩ => by rw [e]; rfl) fun f cd A ou s H vs Q EX hr ⟨B, p, xs, v, e, sb, hb, hp, r, ⟨hne, hz⟩, q⟩ => by
    subst e
    have hl : 1 ≤ xs.length := List.length_pos_iff.mpr hne
    refine rb_retR (rd_ix ix_list (fun _ _ => rfl) ((ev_var (x := xs) 1 rfl r) H sb _ fun u B1 H1 _ n1 r1 => ?_))
    have nP := n1.toP hb hp
    refine (show EvP _ _ _ B1 p (fun d : Nat => d < xs.length) from evp_draw (pt := p) 0 (fk_draw E) (hr.mono (by decide)) rfl (ev_len (ev_var (x := xs) 1 rfl (Rp.mono n1.bb r)) E.bt.len) hl hz) H1 n1.bh nP.bp nP.pot _ fun d v2 B2 H2 hl2 n2 hd r2 => ?_
    cases (show v2 = _ from r2)
    obtain ⟨a, ws, rfl, ha, lr⟩ := Rp.mono n2.bb r1
    obtain ⟨x, hx⟩ : ∃ x, xs[d]? = some x := ⟨_, List.getElem?_eq_getElem hd⟩
    obtain ⟨vx, hv, rx⟩ := lr.2 d x hx
    exact ⟨a, ws, (d : Int), vx, rfl, rfl, .inl (.inl (n2.bh a _ ha)), atI_nat hv, q x vx B2 H2 (nP.trans n2) (List.mem_of_getElem? hx) rx⟩
theorem sc106 : FnScope ["_law_pot_here", "_law_near", "_law_way_here", "_law_most", "_law_one", "_law_other", "_law_place"] ["_law_pot_here", "_law_near"] (defScope (topS 106)) := ⟨rfl, rfl, rfl, by decide +kernel, rfl, by decide +kernel, by decide +kernel⟩
theorem fk_bound (E : Tops K mg cC cW) : Fk P w K mg base "_law_bound" 3 ["_law_pot_here", "_law_near"] (SpP1 nearOk bndIn) :=
  fk_mk (N := ["_law_pot_here", "_law_near", "_law_way_here", "_law_most", "_law_one", "_law_other", "_law_place"]) E.d106 sc106 (fun vs H Q E ⟨_, _, _, _, e, _⟩ => by rw [e]; rfl) fun f cd A ou s H vs Q EX hr ⟨B, p, near, v, e, sb, hb, hp, r, ⟨hne, hz, hot⟩, q⟩ => by
    subst e
    refine rb_par 2 3 (rdA2P (pt := p) (evp_draw (pt := p) 0 (fk_draw E) (hr.mono (by decide)) rfl (ev_nat 3) (by decide) (by decide)) (fun B1 s1 => evp_draw (pt := p) 0 (fk_draw E) (hr.mono (by decide)) rfl (ev_nat 3) (by decide) (by decide)) sb hb hp fun d1 d2 v1 v2 B1 H1 hl1 n1 hd1 hd2 r1 r2 => ⟨_, _, rfl, ?_⟩) sc106.nd
    cases (show v1 = _ from r1)
    cases (show v2 = _ from r2)
    refine rb_setP (pt := p) 4 (B := B1) (evp_call1 (pt := p) (x := near) 0 (fk_pick (α := Nat) E) (hr.mono (by decide)) rfl (ev_var 1 rfl (Rp.mono n1.bb r)) ⟨hne, Nat.le_trans hz (by decide)⟩) n1.bh n1.bp n1.pot (fun one v4 B2 H2 hl2 n2 h1 r4 => ?_) sc106.nd
    cases (show v4 = _ from r4)
    have n12 := n1.trans n2
    refine rb_setP (pt := p) 5 (B := B2) (evp_call1 (pt := p) (x := near.filter fun y => !decide (y = one)) 0 (fk_pick (α := Nat) E) (hr.mono (by decide)) rfl (Ev.to (EvF.ev (evf_lc (p := fun y => !decide (y = one)) (g := fun y => y) [("_law_place", 6)] (ei_list (ev_var (x := near) 1 rfl (Rp.mono n12.bb r)))
      (turnN 6 (fun u => rfl) (fun B3 y vy s3 _ ry s H0 C cl fp => ⟨ets_one (Cm.et (cm_ne (ev_var 6 rfl ry) (ev_var 4 rfl rfl))), fun _ => ev_var 6 rfl ry⟩) sc106.nd) sc106.nd)) (List.map_id' _)) ⟨hot one h1, Nat.le_trans (List.length_filter_le _ _) (Nat.le_trans hz (by decide))⟩) n2.bh n2.bp n2.pot (fun oth v5 B3 H3 hl3 n3 h2 r5 => ?_) sc106.nd
    cases (show v5 = _ from r5)
    have n13 := n12.trans n3
    have hoth := List.mem_filter.mp h2
    have hno : oth ≠ one := fun e => by have := hoth.2; rw [decide_eq_true e] at this; cases this
    refine rb_ret (B := B3) (x := (if d1 = 0 then T3.mk none (some one) d2 else if d1 = 1 then T3.mk (some one) none d2 else T3.mk (some one) (some oth) d2 : Bnd)) (ev_ifExp (decide (d1 = 0)) (Cm.et (cm_eq (ev_var 2 rfl rfl) (ev_nat 0))) (fun h => Ev.to (ev_tup3 (eva3 (x := (none : Option Nat)) (y := some one) (z := d2) ev_non (ev_some (ev_var 4 rfl rfl)) (ev_var 3 rfl rfl))) (by rw [if_pos (of_decide_eq_true h)]))
      fun h => ev_ifExp (decide (d1 = 1)) (Cm.et (cm_eq (ev_var 2 rfl rfl) (ev_nat 1))) (fun h' => Ev.to (ev_tup3 (eva3 (x := some one) (y := (none : Option Nat)) (z := d2) (ev_some (ev_var 4 rfl rfl)) ev_non (ev_var 3 rfl rfl))) (by rw [if_neg (of_decide_eq_false h), if_pos (of_decide_eq_true h')]))
        fun h' => Ev.to (ev_tup3 (eva3 (x := some one) (y := some oth) (z := d2) (ev_some (ev_var 4 rfl rfl)) (ev_some (ev_var 5 rfl rfl)) (ev_var 3 rfl rfl))) (by rw [if_neg (of_decide_eq_false h), if_neg (of_decide_eq_false h')])) n3.bh fun v' B' H' n r' => q _ v' B' H' (n13.then n) ?_ r'
    have e1 : endOk near (some one) = true := decide_eq_true h1
    have e2 : endOk near (some oth) = true := decide_eq_true hoth.1
    have e3 : endOk near none = true := rfl
    split
    · exact ⟨by show d2 ≤ 2; omega, e3, e1, by simp⟩
    · split
      · exact ⟨by show d2 ≤ 2; omega, e1, e3, by simp⟩
      · exact ⟨by show d2 ≤ 2; omega, e1, e2, by simp; exact fun e => hno e.symm⟩
theorem ev_lane {X : Cx} {σ : L2.St} {B : Hp} (i j : Nat) {p1 p2 p3 : Pos} {k1 k2 k3} {u v : Int} (h1 : NS X (.Constant (.int u) k1 p1) [.Constant (.int v) k2 p2] := by rfl) (h2 : NS X (.Constant (.int v) k2 p2) [] := by rfl) (hu : u = (i : Int) := by rfl) (hv : v = (j : Int) := by rfl) : Ev X (.Tuple [.Constant (.int u) k1 p1, .Constant (.int v) k2 p2] k3 p3) σ B ((i, j) : Lane) := ev_tup2 (eva2 (x := i) (y := j) (ev_nat i hu) (ev_nat j hv) h1 h2)
theorem lets_single (near : List Nat) (n x : Nat) (hn : 2 ≤ n) (q : Nat × Nat) : lLets [(n, [⟨none, some x, n - 1⟩])] [q] = true := by
  unfold lLets letsFits
  simp only [List.any_cons, List.any_nil, Bool.or_false, List.foldl_cons, List.foldl_nil, Bool.and_eq_true, decide_eq_true_eq]
  refine ⟨by show 1 ≤ n; omega, ?_⟩
  have := List.length_filter_le (lHit ⟨none, some x, n - 1⟩) [q]
  rw [List.length_singleton] at this
  omega
theorem lets_app (b c : Book) (l : List (Nat × Nat)) : lLets (b ++ c) l = (lLets b l || lLets c l) := List.any_append
theorem sc108 : FnScope ["_law_pot_here", "_law_some"] ["_law_pot_here"] (defScope (topS 108)) := ⟨rfl, rfl, rfl, by decide +kernel, rfl, by decide +kernel, by decide +kernel⟩
theorem fk_small (E : Tops K mg cC cW) : Fk P w K mg base "_law_small" 3 ["_law_pot_here"] (SpP0 fun x => x ∈ smalls) :=
  fk_mk (N := ["_law_pot_here", "_law_some"]) E.d108 sc108 (fun vs H Q E ⟨_, _, e, _⟩ => by rw [e]; rfl) fun f cd A ou s H vs Q EX hr ⟨B, p, e, sb, hb, hp, q⟩ => by
    subst e
    refine rb_set 1 (B := B) (x := ([[(0, 1), (1, 2)], [(0, 1), (1, 2), (2, 3)], [(0, 1), (0, 2), (0, 3)]] : List (List Lane))) (EvF.ev (ev_lst (xs := ([[(0, 1), (1, 2)], [(0, 1), (1, 2), (2, 3)], [(0, 1), (0, 2), (0, 3)]] : List (List Lane))) (eva3 (EvF.ev (ev_lst (xs := ([(0, 1), (1, 2)] : List Lane)) (eva2 (ev_lane 0 1) (ev_lane 1 2))))
      (EvF.ev (ev_lst (xs := ([(0, 1), (1, 2), (2, 3)] : List Lane)) (eva3 (ev_lane 0 1) (ev_lane 1 2) (ev_lane 2 3)))) (EvF.ev (ev_lst (xs := ([(0, 1), (0, 2), (0, 3)] : List Lane)) (eva3 (ev_lane 0 1) (ev_lane 0 2) (ev_lane 0 3))))))) sb (fun v1 B1 H1 hl1 n1 r1 => ?_) sc108.nd
    have nP := n1.toP hb hp
    exact rb_retP (pt := p) (B := B1) (evp_call1 (pt := p) (x := smalls) 0 (fk_pick (α := List Lane) E) (hr.mono (by decide)) rfl (EvF.ev (evf_cat (xs := ([[(0, 1), (1, 2)], [(0, 1), (1, 2), (2, 3)], [(0, 1), (0, 2), (0, 3)]] : List (List Lane))) (ys := ([[(0, 1), (1, 2), (1, 3), (3, 4)], [(0, 2), (1, 2)]] : List (List Lane))) (ev_var 1 rfl r1)
      (EvF.ev (ev_lst (xs := ([[(0, 1), (1, 2), (1, 3), (3, 4)], [(0, 2), (1, 2)]] : List (List Lane))) (eva2 (EvF.ev (ev_lst (xs := ([(0, 1), (1, 2), (1, 3), (3, 4)] : List Lane)) (eva4 (ev_lane 0 1) (ev_lane 1 2) (ev_lane 1 3) (ev_lane 3 4)))) (EvF.ev (ev_lst (xs := ([(0, 2), (1, 2)] : List Lane)) (eva2 (ev_lane 0 2) (ev_lane 1 2))))))) (by decide))) ⟨by decide, by decide⟩) n1.bh nP.bp nP.pot fun x v B' H' n sx r => q x v B' H' (nP.trans n) sx r
end
end LK
/-! ## F29 -/
namespace LK
open PySem PySem.Spec PyProof.Rows L2
open Rp (R)
section
variable {P : Program} {w : World} {K : PySem.W.Frag} {mg : Str → Option Value} {base : Heap} {cC cW : Addr}
theorem pairs_len {near : List Nat} (h : near.length ≤ 100) (xs : List Nat) : (xs.flatMap fun a => (near.filter fun b => !decide (b = a)).map fun b => (a, b)).length ≤ 100 * xs.length := flat_le xs fun a _ => by
  rw [List.length_map]
  exact Nat.le_trans (List.length_filter_le _ _) h
theorem sc107 : FnScope ["_law_pot_here", "_law_near", "_law_places", "_law_found", "_law_turn", "_law_bounds", "_law_again", "_law_singles", "_law_a", "_law_b", "_law_pair"] ["_law_pot_here", "_law_near"] (defScope (topS 107)) := ⟨rfl, rfl, rfl, by decide +kernel, rfl, by decide +kernel, by decide +kernel⟩
theorem fk_lbook (E : Tops K mg cC cW) : Fk P w K mg base "_law_book" 4 ["_law_pot_here", "_law_near"] (SpP1 nearOk goodBook) :=
  fk_mk (N := ["_law_pot_here", "_law_near", "_law_places", "_law_found", "_law_turn", "_law_bounds", "_law_again", "_law_singles", "_law_a", "_law_b", "_law_pair"]) E.d107 sc107 (fun vs H Q E ⟨_, _, _, _, e, _⟩ => by rw [e]; rfl) fun f cd A ou s H vs Q EX hr ⟨B, p, near, v, e, sb, hb, hp, r, hok, q⟩ => by
    subst e
    obtain ⟨hne, hz, hot⟩ := id hok
    have hp' := hp
    refine rb_ifEqP (pt := p) (B := B) (evp_draw (pt := p) 0 (fk_draw E) (hr.mono (by decide)) rfl (ev_nat 2) (by decide) (by decide)) (fun B1 s1 => ev_nat 0) sb hb hp (fun _ B1 H1 n1 => ?_) fun B1 H1 n1 => ?_
    · refine rb_setP (pt := p) 2 (B := B1) (evp_add (pt := p) (ev_nat 2) fun B2 s2 => evp_draw (pt := p) 0 (fk_draw E) (hr.mono (by decide)) rfl (ev_nat 2) (by decide) (by decide)) n1.bh n1.bp n1.pot (fun x v2 B2 H2 hl2 n2 ⟨d, hd, hx⟩ r2 => ?_) sc107.nd
      cases (show v2 = _ from r2)
      have n12 := n1.trans n2
      refine rb_retP (pt := p) (B := B2) (evp_lst1 (pt := p) (evp_tup2 (pt := p) (evp_ev (ev_var (x := x) 2 rfl rfl)) fun B3 s3 => evp_lst1 (pt := p) (evp_tup3 (pt := p) (evp_ev (x := (none : Option Nat)) ev_non) (fun B4 s4 => EvP.map (S' := fun u : Option Nat => ∃ z, u = some z ∧ z ∈ near) some (evp_call1 (pt := p) (x := near) 0 (fk_pick (α := Nat) E) (hr.mono (by decide)) rfl (ev_var 1 rfl (Rp.mono (n12.bb.trans (s3.trans s4)) r)) ⟨hne, Nat.le_trans hz (by decide)⟩) (fun y hy => ⟨y, rfl, hy⟩) fun _ _ _ r => r)
        fun B4 s4 => evp_ev (ev_sub (ev_var (x := x) 2 rfl rfl) (ev_nat 1) (by omega))))) n2.bh n2.bp n2.pot fun bk v' B' H' n3 sbk r' => q bk v' B' H' (n12.trans n3) ?_ r'
      obtain ⟨⟨y, bs⟩, ⟨hy, ⟨b, ⟨hba, ⟨z, hbb, hz2⟩, hbc⟩, hbs⟩⟩, rfl⟩ := sbk
      obtain ⟨b1, b2, b3⟩ := b
      simp only at hy hba hbb hbc hbs
      subst hy hba hbb hbc hbs hx
      refine ⟨Nat.le_refl _, by show 1 ≤ 3; decide, fun a ha => ?_, fun qq _ => lets_single near (2 + d) z (by omega) qq⟩
      cases List.mem_singleton.mp ha
      refine ⟨by show 1 ≤ 2 + d; omega, by show 2 + d ≤ 3; omega, by show 1 ≤ 2; decide, fun b hb => ?_⟩
      cases List.mem_singleton.mp hb
      exact ⟨by show 2 + d - 1 ≤ 2; omega, rfl, decide_eq_true hz2, by simp⟩
    · refine rb_nil ?_
      refine rb_setF 3 (B := B1) (xs := ([] : Book)) ev_lst0 n1.bh (fun qf ws B2 H2 hl2 n2 h0 hbq hq lr => ?_) sc107.nd
      have nP2 := n2.toP n1.bp n1.pot
      have gf : GrP p B1 H1 qf ([] : Book) B2 H2 := grP_new nP2 h0 n1.pot hbq hq lr
      refine rb_forRP (pt := p) (B := B2) (fun n i σ' B3 H3 => ∃ (fnd : Book) (y2 y4 y5 y6 y7 y8 y9 y10 : Option V), σ' = [some (.ref p), some v, y2, some (.ref qf), y4, y5, y6, y7, y8, y9, y10] ∧ GrP p B1 H1 qf fnd B3 H3 ∧ fnd.length = i ∧ ∀ a ∈ fnd, altIn near a)
        (evp_add (pt := p) (ev_nat 1) fun B3 s3 => evp_intB (pt := p) (evp_eq (pt := p) (evp_draw (pt := p) 0 (fk_draw E) (hr.mono (by decide)) rfl (ev_nat 3) (by decide) (by decide)) fun B4 s4 => ev_nat 0) E.bt.int) (fun n ⟨d, hd, hn⟩ => by omega) nP2.bh nP2.bp nP2.pot
        (fun n i σ B H B' H' ⟨a0, a1, a2, a3, a4, a5, a6, a7, a8, e, g, h⟩ n => ⟨a0, a1, a2, a3, a4, a5, a6, a7, a8, e, g.stepN n, h⟩) (fun n i σ B H ⟨_, _, _, _, _, _, _, _, _, _, g, _⟩ => g.nw.bh) (fun n B3 H3 hn n3 => ⟨[], none, none, none, none, none, none, none, none, rfl, gf.step n3, rfl, fun a ha => by cases ha⟩) PassesOwn.never rfl E.bt.range ?_ ?_
      · rintro n B3 ⟨d0, hd0, hn0⟩ s3 i σ' B4 H4 hi s4 ⟨fnd, y2, y4, y5, y6, y7, y8, y9, y10, rfl, g4, hfl, hfa⟩
        refine rg_name 4 (rb_par 2 5 (rdA_mk (pa_cons pe_rd (pa_cons pe_rd pa_nil)) ((show EvP _ _ _ B4 p (fun k : Nat => ∃ d, d < 3 ∧ k = 1 + d) from evp_add (pt := p) (ev_nat 1) fun B5 s5 => evp_draw (pt := p) 0 (fk_draw E) (hr.mono (by decide)) rfl (ev_nat 3) (by decide) (by decide)) H4 g4.nw.bh g4.nw.bp g4.nw.pot _ fun x v2 B5 H5 _ n5 hx r2 => (show EvF _ _ _ B5 ([] : List Bnd) from ev_lst0) H5 n5.bh _ fun qb ws B6 H6 hl6 n6 h06 hb6 hq6 lr6 => ⟨_, _, rfl, ?_⟩)) sc107.nd) sc107.nd
        cases (show v2 = _ from r2)
        obtain ⟨d, hd, rfl⟩ := hx
        have g5 := g4.step n5
        have g6 := g5.stepN n6
        have nP6 := n6.toP n5.bp n5.pot
        have gb : GrP p B1 H1 qb ([] : List Bnd) B6 H6 := by
          obtain ⟨ws5, N5, h05, nep5, hbl5, hl5, lr5⟩ := g5
          refine grP_new (N5.trans nP6) ?_ n1.pot hb6 hq6 lr6
          cases hz : H1 qb with
          | none => rfl
          | some o =>
            by_cases hqp : qb = p
            · obtain ⟨a, b, hpp⟩ := n5.pot
              rw [hqp, hpp] at h06
              cases h06
            · rw [N5.hh qb o hqp hz] at h06
              cases h06
        have hne6 : qf ≠ qb := by
          intro e
          obtain ⟨ws5, N5, h05, nep5, hbl5, hl5, lr5⟩ := g5
          rw [e, h06] at hl5
          cases hl5
        refine rb_forRP (pt := p) (B := B6) (fun n j σ' B7 H7 => ∃ (bs : List Bnd) (y6 y7 y8 y9 y10 : Option V), σ' = [some (.ref p), some v, some (.int ((1 + d : Nat) : Int)), some (.ref qf), some (.int (i : Nat)), some (.ref qb), y6, y7, y8, y9, y10] ∧ GrP p B1 H1 qf fnd B7 H7 ∧ GrP p B1 H1 qb bs B7 H7 ∧ bs.length = j ∧ ∀ z ∈ bs, bndIn near z)
          (evp_draw (pt := p) 0 (fk_draw E) (hr.mono (by decide)) rfl (ev_nat 3) (by decide) (by decide)) (fun n hn => Nat.le_trans (Nat.le_of_lt hn) (by decide)) g6.nw.bh g6.nw.bp g6.nw.pot
          (fun n i σ B H B' H' ⟨a0, a1, a2, a3, a4, a5, e, g, g', h⟩ n => ⟨a0, a1, a2, a3, a4, a5, e, g.stepN n, g'.stepN n, h⟩) (fun n i σ B H ⟨_, _, _, _, _, _, _, g, _⟩ => g.nw.bh) (fun n B7 H7 hn n7 => ⟨[], y6, y7, y8, y9, y10, rfl, g6.step n7, gb.step n7, rfl, fun z hz => by cases hz⟩) PassesOwn.never rfl E.bt.range ?_ ?_
        · rintro m B7 hm s7 j σ' B8 H8 hj s8 ⟨bs, y6, y7, y8, y9, y10, rfl, g8, gb8, hbl, hba⟩
          refine rg_name 6 (rb_appendGrP (pt := p) 5 gb8 (evp_call1 (pt := p) (x := near) 0 (fk_bound E) (hr.mono (by decide)) rfl (ev_var 1 rfl (Rp.mono (n1.bb.trans g8.nw.bb) r)) hok) rfl (by omega) fun z B9 H9 s9 hzz g9 hh9 hid9 => ?_) sc107.nd
          refine rb_nil ⟨B9, s8.trans s9, bs ++ [z], _, _, _, _, _, rfl, g8.other g9 s9 hh9 hid9 hne6, g9, by rw [List.length_append, hbl]; rfl, fun z' hz' => ?_⟩
          rcases List.mem_append.mp hz' with h | h
          · exact hba z' h
          · cases List.mem_singleton.mp h; exact hzz
        · rintro m σ' B7 H7 hm s7 ⟨bs, y6, y7, y8, y9, y10, rfl, g7, gb7, hbl, hba⟩
          obtain ⟨B8, s8, g8, r8⟩ := g7.tell2 gb7 hne6
          refine rb_appendGrP (pt := p) 3 (S := fun a : Alt => a = (1 + d, bs)) g8 (evp_ev (ev_tup2 (eva2 (x := 1 + d) (y := bs) (ev_var 2 rfl rfl) (ev_var 5 rfl r8)))) rfl (by omega) fun a B9 H9 s9 ha g9 _ _ => ?_
          cases ha
          refine rb_nil ⟨B9, s4.trans (n5.bb.trans (n6.bb.trans (s7.trans (s8.trans s9)))), fnd ++ [(1 + d, bs)], _, _, _, _, _, _, _, _, rfl, g9, by rw [List.length_append, hfl]; rfl, fun a ha => ?_⟩
          rcases List.mem_append.mp ha with h | h
          · exact hfa a h
          · cases List.mem_singleton.mp h
            exact ⟨by show 1 ≤ 1 + d; omega, by show 1 + d ≤ 3; omega, by show bs.length ≤ 2; omega, hba⟩
      · rintro n σ' B3 H3 ⟨d0, hd0, hn0⟩ s3 ⟨fnd, y2, y4, y5, y6, y7, y8, y9, y10, rfl, g3, hfl, hfa⟩
        obtain ⟨B4, s4, N4, r4, _⟩ := g3.told
        have n14 := n1.trans N4
        refine rb_setGr 7 (B := B4) (xs := ([] : List (Nat × Nat))) ev_lst0 (Nw.refl N4.bh) (fun qs B5 H5 hl5 n5 g5 _ => ?_) sc107.nd
        refine rb_forS (B := B5) (xs := near) (fun i σ' B6 H6 => ∃ y8 y9 y10, σ' = [some (.ref p), some v, y2, some (.ref qf), y4, y5, y6, some (.ref qs), y8, y9, y10] ∧ Gr B4 H3 qs ((near.take i).flatMap fun a => (near.filter fun b => !decide (b = a)).map fun b => (a, b)) B6 H6)
          (ei_list (ev_var 1 rfl (Rp.mono (n14.bb.trans n5.bb) r))) (fun i σ B H B' H' ⟨a1, a2, a3, e, N⟩ n => ⟨a1, a2, a3, e, N.step n⟩) (fun i σ B H ⟨_, _, _, _, N⟩ => N.nw.bh) ⟨y8, y9, y10, rfl, g5⟩ PassesOwn.never rfl ?_ ?_
        · rintro B6 s6 i a va σ' B7 H7 ha s7 ⟨y8, y9, y10, rfl, G⟩ ra
          refine rg_name 8 (rb_extendGr 7 (zs := (near.filter fun b => !decide (b = a)).map fun b => (a, b)) G (evf_lc (p := fun b => !decide (b = a)) (g := fun b => (a, b)) [("_law_b", 9)] (ei_list (ev_var (x := near) 1 rfl (Rp.mono (n14.bb.trans G.nw.bb) r)))
            (turnN 9 (fun u => rfl) (fun B8 b vb s8 _ rb s H0 C cl fp => ⟨ets_one (Cm.et (cm_ne (ev_var 9 rfl rb) (ev_var 8 rfl (Rp.mono s8 ra)))), fun _ => ev_tup2 (eva2 (ev_var 8 rfl (Rp.mono s8 ra)) (ev_var 9 rfl rb))⟩) sc107.nd) sc107.nd) rfl ?_ fun B8 H8 s8 g8 _ _ => ?_) sc107.nd
          · have h1 := pairs_len hz (near.take i)
            have h2 : (near.take i).length ≤ 100 := by rw [List.length_take]; exact Nat.le_trans (Nat.min_le_right _ _) hz
            have h3 : ((near.filter fun b => !decide (b = a)).map fun b => (a, b)).length ≤ 100 := by rw [List.length_map]; exact Nat.le_trans (List.length_filter_le _ _) hz
            omega
          · refine rb_nil ⟨B8, s7.trans s8, _, _, _, rfl, ?_⟩
            rw [take_snoc ha, List.flatMap_append, List.flatMap_singleton]
            exact g8
        · rintro σ' B6 H6 s6 ⟨y8, y9, y10, rfl, G⟩
          rw [take_all] at G
          obtain ⟨B7, s7, N7, r7, _⟩ := G.told
          have r4' := Rp.mono N7.bb r4
          have hsing : (near.flatMap fun a => (near.filter fun b => !decide (b = a)).map fun b => (a, b)) = pairsAt near := rfl
          rw [hsing] at r7
          refine rb_ret (B := B7) (x := if ((pairsAt near).map fun qq => lLets fnd [qq]).all id = true then fnd else fnd ++ [(1, [])]) (ev_ifExp (((pairsAt near).map fun qq => lLets fnd [qq]).all id) (EvT.to (et_val (ev_all (EvF.ev (evf_lc (p := fun _ : Nat × Nat => true) (g := fun qq => lLets fnd [qq]) [("_law_pair", 10)] (ei_list (ev_var (x := pairsAt near) 7 rfl r7))
            (turnN 10 (fun u => rfl) (fun B8 qq vq s8 _ rq s H0 C cl fp => ⟨ets_nil, fun _ => ev_call2 (x := fnd) (y := [qq]) (fk_lets E) (hr.mono (by decide)) (eva2 (ev_var 3 rfl (Rp.mono s8 r4')) (EvF.ev (ev_lst (xs := [qq]) (eva1 (ev_var 10 rfl rq))))) trivial⟩) sc107.nd) sc107.nd)) E.bt.all)) (by rw [filt_true]))
            (fun h => Ev.to (ev_var (x := fnd) 3 rfl r4') (by rw [if_pos h])) fun h => Ev.to (EvF.ev (evf_cat (ev_var (x := fnd) 3 rfl r4') (EvF.ev (ev_lst (xs := ([(1, [])] : Book)) (eva1 (ev_tup2 (eva2 (x := 1) (y := ([] : List Bnd)) (ev_nat 1) (EvF.ev ev_lst0)))))) (by rw [hfl, List.length_singleton]; omega))) (by rw [if_neg (by rw [h]; decide)])) N7.bh fun v' B' H' n r' => q _ v' B' H' ((n14.then N7).then n) ?_ r'
          split
          · rename_i h
            refine ⟨by omega, by omega, hfa, fun qq hqq => ?_⟩
            have := List.all_eq_true.mp h (lLets fnd [qq]) (List.mem_map.mpr ⟨qq, hqq, rfl⟩)
            exact this
          · refine ⟨by rw [List.length_append]; show 1 ≤ fnd.length + 1; omega, by rw [List.length_append]; show fnd.length + 1 ≤ 3; omega, fun a ha => ?_, fun qq _ => ?_⟩
            · rcases List.mem_append.mp ha with h | h
              · exact hfa a h
              · cases List.mem_singleton.mp h
                exact ⟨by show 1 ≤ 1; decide, by show 1 ≤ 3; decide, by show 0 ≤ 2; decide, fun z hz => by cases hz⟩
            · rw [lets_app, show lLets [(1, [])] [qq] = true from rfl, Bool.or_true]
end
end LK
/-! ## F30 -/
namespace LK
open PySem PySem.Spec PyProof.Rows L2
open Rp (R)
def goodBooks (ls : List Lane) (bs : List Book) : Prop := bs.length = (lYards ls).length ∧ ∀ (i : Nat) (y : Nat) (b : Book), (lYards ls)[i]? = some y → bs[i]? = some b → goodBook (lBeside ls y) b
section
variable {P : Program} {w : World} {K : PySem.W.Frag} {mg : Str → Option Value} {base : Heap} {cC cW : Addr}
theorem sc109 : FnScope ["_law_pot_here", "_law_lanes", "_law_found", "_law_yard"] ["_law_pot_here", "_law_lanes"] (defScope (topS 109)) := ⟨rfl, rfl, rfl, by decide +kernel, rfl, by decide +kernel, by decide +kernel⟩
theorem fk_lbooks (E : Tops K mg cC cW) : Fk P w K mg base "_law_books" 5 ["_law_pot_here", "_law_lanes"] (SpP1 (fun ls : List Lane => ls.length < 30 ∧ (lYards ls).length ≤ 1000 ∧ ∀ y ∈ lYards ls, nearOk (lBeside ls y)) goodBooks) :=
  fk_mk (N := ["_law_pot_here", "_law_lanes", "_law_found", "_law_yard"]) E.d109 sc109 (fun vs H Q E ⟨_, _, _, _, e, _⟩ => by rw [e]; rfl) fun f cd A ou s H vs Q EX hr ⟨B, p, ls, v, e, sb, hb, hp, r, ⟨hls, hyl, hok⟩, q⟩ => by
    subst e
    refine rb_setF 2 (B := B) (xs := ([] : List Book)) ev_lst0 sb (fun qf ws B2 H2 hl2 n2 h0 hbq hq lr => ?_) sc109.nd
    have gf : GrP p B H qf ([] : List Book) B2 H2 := grP_new (n2.toP hb hp) h0 hp hbq hq lr
    refine rb_forS (B := B2) (xs := lYards ls) (fun i σ' B3 H3 => ∃ (fnd : List Book) (y3 : Option V), σ' = [some (.ref p), some v, some (.ref qf), y3] ∧ GrP p B H qf fnd B3 H3 ∧ fnd.length = i ∧ ∀ (j : Nat) (y : Nat) (b : Book), (lYards ls)[j]? = some y → fnd[j]? = some b → goodBook (lBeside ls y) b)
      (ei_list (ev_call1 (x := ls) (fk_lyards E) (hr.mono (by decide)) (eva1 (ev_var 1 rfl (Rp.mono n2.bb r))) hls)) (fun i σ B H B' H' ⟨a1, a2, e, g, h⟩ n => ⟨a1, a2, e, g.stepN n, h⟩) (fun i σ B H ⟨_, _, _, g, _⟩ => g.nw.bh) ⟨[], none, rfl, gf, rfl, fun j y b _ h => by cases h⟩ PassesOwn.never rfl ?_ ?_
    · rintro B3 s3 i y va σ' B4 H4 ha s4 ⟨fnd, y3, rfl, g4, hfl, hfa⟩ ra
      have hym := List.mem_of_getElem? ha
      have hiy := lt_of_at ha
      refine rg_name 3 (rb_appendGrP (pt := p) 2 g4 (evp_call1 (pt := p) (x := lBeside ls y) 0 (fk_lbook E) (hr.mono (by decide)) rfl (ev_call2 (x := ls) (y := y) (fk_lbeside E) (hr.mono (by decide)) (eva2 (ev_var 1 rfl (Rp.mono g4.nw.bb r)) (ev_var 3 rfl ra)) trivial) (hok y hym)) rfl (by omega) fun b B5 H5 s5 hb5 g5 _ _ => ?_) sc109.nd
      refine rb_nil ⟨B5, s4.trans s5, fnd ++ [b], _, rfl, g5, by rw [List.length_append, hfl]; rfl, fun j y' b' hy' hb' => ?_⟩
      by_cases hj : j < i
      · rw [List.getElem?_append_left (by omega)] at hb'
        exact hfa j y' b' hy' hb'
      · have hji : j = i := by
          have := lt_of_at hb'
          rw [List.length_append, hfl, List.length_singleton] at this
          omega
        subst hji
        rw [List.getElem?_append_right (by omega), hfl, Nat.sub_self] at hb'
        rw [ha] at hy'
        cases hy'
        cases hb'
        exact hb5
    · rintro σ' B3 H3 s3 ⟨fnd, y3, rfl, g3, hfl, hfa⟩
      obtain ⟨B4, s4, N4, r4, _⟩ := g3.told
      exact rb_ret (B := B4) (ev_var (x := fnd) 2 rfl r4) N4.bh fun v' B' H' n r' => q fnd v' B' H' (N4.then n) ⟨hfl, hfa⟩ r'
theorem sql_mono {K : PySem.W.Frag} {H H' : Hp} {a : Addr} {xs : List V} (s : Same H H') (h : SqL K H a xs) : SqL K H' a xs := by
  rcases h with (h | ⟨o, h⟩) | h
  · exact .inl (.inl (s a _ h))
  · exact .inl (.inr ⟨o, s a _ h⟩)
  · exact .inr h
/-- the pot from the script -/
def SpPot (K : PySem.W.Frag) : Sp := fun vs H Q _ => ∃ (a : Addr) (ns : List Int), vs = [.ref a, .int 0] ∧ SqL K H a (ns.map V.int) ∧ ∀ p H', H p = none → Same H H' → Pot p H' → Q (.ref p) H'
theorem sc93 : FnScope ["_law_script", "_law_k", "_law_cell", "_law_late"] ["_law_script", "_law_k"] (defScope (topS 93)) := ⟨rfl, rfl, rfl, by decide +kernel, rfl, by decide +kernel, by decide +kernel⟩
theorem fk_pot (E : Tops K mg cC cW) : Fk P w K mg base "_law_pot" 1 ["_law_script", "_law_k"] (SpPot K) :=
  fk_mk (N := ["_law_script", "_law_k", "_law_cell", "_law_late"]) E.d93 sc93 (fun vs H Q E ⟨_, _, e, _⟩ => by rw [e]; rfl) fun f cd A ou s H vs Q EX hr ⟨a, ns, e, hs, q⟩ => by
    subst e
    have s0 : Same (fun _ => none : Hp) H := fun c o e => by cases e
    refine rb_set 2 (B := fun _ => none) (x := (673 * 0 + 467 : Int)) (ev_opI0 (i := 673 * 0) (j := 467) op_add (ev_opI (i := 673) (j := 0) op_mul ev_int (ev_var (x := (0 : Int)) 1 rfl rfl) (.inl ⟨by decide, by decide⟩)) ev_int) s0 (fun v2 B1 H1 hl1 n1 r2 => ?_) sc93.nd
    cases (show v2 = _ from r2)
    have fin : ∀ (cell : Int) H2, Same H H2 → rdB (cxD P w K mg base ["_law_script", "_law_k", "_law_cell", "_law_late"] "_law_pot" (defScope (topS 93)) f cd A ou s H EX) ((defBody (topS 93)).drop 2) { nx := fun _ H' => Q .non H', rt := Q } [some (.ref a), some (.int 0), some (.int cell), none] H2 := by
      intro cell H2 s2
      have s02 : Same (fun _ => none : Hp) H2 := fun c o e => by cases e
      refine rb_set 3 (B := fun _ => none) (x := (cell % 2147483549 * 48271 + 3733 * 0 + 17) % 2147483563 + 1) (ev_opI0 (j := 1) op_add (ev_opI (j := 2147483563) op_mod (ev_intI (ev_opI0 (j := 17) op_add (ev_opI0 (j := 3733 * 0) op_add (ev_opI (j := 48271) op_mul (ev_opI (j := 2147483549) op_mod (ev_intI (ev_var (x := cell) 2 rfl rfl) E.bt.int) ev_int (by decide)) ev_int (.inr ⟨by decide, by decide⟩)) (ev_opI (i := 3733) (j := 0) op_mul ev_int (ev_var (x := (0 : Int)) 1 rfl rfl) (.inl ⟨by decide, by decide⟩))) ev_int) E.bt.int) ev_int (by decide)) ev_int) s02 (fun v3 B3 H3 hl3 n3 r3 => ?_) sc93.nd
      cases (show v3 = _ from r3)
      refine rb_retR ((ev_lst (xs := ([if cell - 10 ^ 18 > 0 then cell - 10 ^ 18 else 0, (cell % 2147483549 * 48271 + 3733 * 0 + 17) % 2147483563 + 1] : List Int)) (eva2 (ev_maxI (i := 0) (j := cell - 10 ^ 18) ev_int (ev_opI0 (i := cell) (j := 10 ^ 18) op_sub (ev_var (x := cell) 2 rfl rfl) (ev_opI (i := 10) (j := 18) (g := fun i j => i ^ j.toNat) op_pow ev_int ev_int ⟨by decide, by decide, by decide⟩)) E.bt.max) (ev_var (x := (cell % 2147483549 * 48271 + 3733 * 0 + 17) % 2147483563 + 1) 3 rfl rfl))) H3 n3.bh _ fun p vs B4 H4 hl4 n4 h0 hb hq lr => ?_)
      have s4 : Same H H4 := s2.trans (n3.hh.trans n4.hh)
      refine q p H4 (by
        cases hz : H p with
        | none => rfl
        | some o => rw [n3.hh p o (s2 p o hz)] at h0; cases h0) s4 ?_
      obtain ⟨v0, w0, rfl⟩ : ∃ v0 w0, vs = [v0, w0] := by
        have := lr.1
        match vs, this with
        | [v0, w0], _ => exact ⟨v0, w0, rfl⟩
      have h1 := lr.tail
      have h2 := h1.2.tail
      cases (show v0 = _ from h1.1)
      cases (show w0 = _ from h2.1)
      exact ⟨_, _, hq⟩
    have s1 : Same H H1 := n1.hh
    have hs1 : SqL K H1 a (ns.map V.int) := sql_mono s1 hs
    refine rdB_mk (pss_cons (ps_if (pt_cmpR op_lt pe_rd pe_rd (nomark _)) pss_rd pss_rd) pss_rd) ((ev_var (B := fun _ => none) (x := (0 : Int)) 1 rfl rfl) H1 (fun c o e => by cases e) _ fun u B2 H2 _ n2 r2 => ?_)
    cases (show u = _ from r2)
    have hs2 : SqL K H2 a (ns.map V.int) := sql_mono n2.hh hs1
    refine rd_blt call_len E.bt.len boot_len (rdA_mk (pa_cons (pe_var (i := 0) rfl (Or.inl rfl) (by decide) (by decide)) pa_nil (by rfl)) ⟨_, rfl, .ref a, _, rfl, .inl ⟨_, hs2, rfl⟩, fun hl2 => ⟨0, _, rfl, rfl, _, rfl, ?_⟩⟩)
    by_cases hlt : (0 : Int) < ((ns.map V.int).length : Nat)
    · rw [decide_eq_true hlt]
      have hl0 : 0 < ns.length := by rw [List.length_map] at hlt; omega
      refine iteT (rdB_mk (pss_cons (ps_set (i := 2) sc93.nd rfl (Or.inl rfl) pe_rd (by rfl)) pss_rd) ?_)
      refine rd_blt call_abs E.bt.abs (by rfl) (rdA_mk (pa_cons (pe_ix ix_list (pe_var (i := 0) rfl (Or.inl rfl) (by decide) (by decide)) (pe_var (i := 1) rfl (Or.inl rfl) (by decide) (by decide)) (fun _ _ => rfl)) pa_nil (by rfl)) ⟨_, rfl, _, rfl, a, _, 0, .int ns[0], rfl, rfl, hs2, ?_, ns[0], rfl, fun hl3 => ?_⟩)
      · exact atI_nat (j := 0) (by rw [List.getElem?_map, List.getElem?_eq_getElem hl0]; rfl)
      · exact rb_nil (fin _ H2 (s1.trans n2.hh))
    · rw [decide_eq_false hlt]
      exact iteF (rb_nil (fin _ H2 (s1.trans n2.hh)))
end
end LK
/-! ## L9 -/
namespace LK
open PySem PySem.Spec PyProof.Rows L2
open Rp (R)
/-! ### dicts whose keys and values are numbers or None -/
def leafOf : Option Nat → PySem.Leaf
  | none => .none
  | some n => .num (n : Int)
theorem leafOf_inj {a b : Option Nat} (h : leafOf a = leafOf b) : a = b := by
  cases a <;> cases b <;> simp [leafOf] at h ⊢
  omega
abbrev Mp := Option Nat → Option (Option Nat)
abbrev optV : Option Nat → V := Fl.tv
def ValOk (f : Option (Option Nat)) (u : Option Value) : Prop := match u with
  | none => f = none
  | some u => ∃ w, f = some w ∧ RelV (optV w) u
def DnR (P : Program) (w : World) (h : Heap) (a : Addr) (f : Mp) (n : Nat) : Prop := (a == sysModules) = false ∧ ∃ kvs, h.DictOf (leafKind P w) a kvs ∧ kvs.length ≤ n ∧ ∀ k, ValOk (f k) (valueAt kvs (leafOf k))
def DnO (P : Program) (w : World) (a : Addr) (f : Mp) (n : Nat) : HO := .ext fun h => DnR P w h a f n
theorem dnO_new {P : Program} {w : World} {H : Hp} {h : Heap} {a : Addr} {f : Mp} {n : Nat} (r : DnR P w h a f n) : ObjOk P w H h a (DnO P w a f n) := by
  refine ⟨r, ?_, fun h1 h2 ⟨e, kvs, p, q⟩ k => ⟨e, kvs, p.at' k, q⟩⟩
  obtain ⟨_, kvs, ⟨o, es, ep, ho, _⟩, _⟩ := r
  exact ⟨o, ho⟩
theorem dnO_get {X : Cx} {pins : List (Addr × Obj)} {σ : L2.St} {H : Hp} {s : Shared} {a : Addr} {f : Mp} {n : Nat} (I : L2.Inv X pins σ H s) (h : H a = some (DnO X.prog X.w a f n)) : DnR X.prog X.w s.heap a f n := (I.hok a _ h).1
theorem leaf_is {P : Program} {w : World} {k : Option Nat} {u : Value} (r : RelV (optV k) u) : (leafKind P w).is (leafOf k) u = true := by
  cases k with
  | none => cases (show u = Value.none from r); rfl
  | some n => obtain ⟨t, rfl⟩ := r; exact decide_eq_true rfl
/-- a told dict -/
structure Md (P : Program) (w : World) where
  f : Mp
  n : Nat
instance {P : Program} {w : World} : Rp (Md P w) := ⟨fun B d v => ∃ a, v = .ref a ∧ B a = some (DnO P w a d.f d.n), fun s ⟨a, e, h⟩ => ⟨a, e, s a _ h⟩⟩
section
variable {X : Cx} {e a b o i : Expr} {σ : L2.St} {B H : Hp} {pos p p2 p3 : Pos} {d : Md X.prog X.w} {k : Option Nat} {w : Option Nat}
/-- d[k] -/
theorem ev_dnGet (ho : Ev X o σ B d) (hi : Ev X i σ B k) (hk : d.f k = some w) (hs : NoSl i := by exact fun _ _ => rfl) : Ev X (.Subscript o i pos) σ B w := fun H s Q q =>
  rd_mkL (te := fun σ H Q => rd X o σ H fun x H1 => rd X i σ H1 fun y H2 => ∃ a f n k w, x = .ref a ∧ H2 a = some (DnO X.prog X.w a f n) ∧ y = optV k ∧ f k = some w ∧ Q (optV w) H2)
    ⟨fun pins s σ H Q I h => by
      refine subD_of PySem.F.slot_dict_getitem.lookup hs (thn (pe_rd.run pins s σ H _ I h) fun u s1 ⟨x, H1, I1, rx, q1⟩ => thn (pe_rd.run pins s1 σ H1 _ I1 q1) fun iv s2 ⟨y, H2, I2, ry, q2⟩ => ?_)
      obtain ⟨a, f, n, k, w, rfl, ha, rfl, hk, q2⟩ := q2
      obtain rfl : u = Value.ref a := rx
      obtain ⟨_, kvs, hd, _, hv⟩ := dnO_get I2 ha
      have h1 := hv k
      rw [hk] at h1
      cases hu : valueAt kvs (leafOf k) with
      | none => rw [hu] at h1; cases h1
      | some u =>
        rw [hu] at h1
        obtain ⟨w', ew, rw'⟩ := h1
        cases ew
        exact ⟨hd.typeIs, wpAny_getItem_of (leaf_is ry) hd.mapOf hu ⟨optV w, H2, I2.tok _, rw', q2⟩⟩⟩
    (ho H s _ fun x B1 H1 _ n1 r1 => (hi.mono n1.bb) H1 n1.bh _ fun y B2 H2 _ n2 r2 => by
      obtain ⟨a, rfl, ha⟩ := Rp.mono n2.bb r1
      have ey := Fl.eq r2
      subst ey
      exact ⟨a, d.f, d.n, k, w, rfl, n2.bh a _ ha, rfl, hk, fun hl => q _ B2 H2 hl (n1.trans n2) (by cases w <;> rfl)⟩)
end
/-- what a list of pairs says at k: the first -/
def mpO (m : List (Option Nat × Option Nat)) : Mp := fun k => (m.find? fun z => decide (z.1 = k)).map fun z => z.2
def soP (ps : List (Nat × Nat)) : List (Option Nat × Option Nat) := ps.map fun z => (some z.1, some z.2)
/-- a dict's entries beside what they are worth -/
def KvR (kvs : List (PySem.Leaf × Value)) (m : List (Option Nat × Option Nat)) : Prop := Paired (fun kv z => kv.1 = leafOf z.1 ∧ RelV (optV z.2) kv.2) kvs m
theorem kvr_val {kvs : List (PySem.Leaf × Value)} {m : List (Option Nat × Option Nat)} (h : KvR kvs m) (k : Option Nat) : ValOk (mpO m k) (valueAt kvs (leafOf k)) := by
  unfold KvR at h
  induction h with
  | nil => rfl
  | @cons kv z kvs m h1 h2 ih =>
    rw [valueAt_cons]
    unfold mpO
    rw [List.find?_cons]
    by_cases hk : z.1 = k
    · rw [if_pos (by rw [h1.1, hk]), decide_eq_true hk]
      exact ⟨z.2, rfl, h1.2⟩
    · rw [if_neg (by rw [h1.1]; exact fun e => hk (leafOf_inj e)), decide_eq_false hk]
      exact ih
theorem kvr_len {kvs : List (PySem.Leaf × Value)} {m : List (Option Nat × Option Nat)} (h : KvR kvs m) : kvs.length = m.length := by
  unfold KvR at h
  induction h with
  | nil => rfl
  | cons _ _ ih => rw [List.length_cons, List.length_cons, ih]
theorem kvr_rev {kvs : List (PySem.Leaf × Value)} {m : List (Option Nat × Option Nat)} (h : KvR kvs m) : KvR kvs.reverse m.reverse := by
  have app : ∀ {a b : List (PySem.Leaf × Value)} {c d : List (Option Nat × Option Nat)}, KvR a c → KvR b d → KvR (a ++ b) (c ++ d) := by
    intro a b c d h1 h2
    unfold KvR at *
    induction h1 with
    | nil => exact h2
    | cons x _ ih => exact .cons x ih
  unfold KvR at h
  induction h with
  | nil => exact .nil
  | cons x _ ih =>
    rw [List.reverse_cons, List.reverse_cons]
    exact app ih (.cons x .nil)
theorem val_rev {kvs : List (PySem.Leaf × Value)} (hn : (kvs.map (·.1)).Nodup) (k : PySem.Leaf) : valueAt kvs.reverse k = valueAt kvs k := by
  have hn' : (kvs.reverse.map (·.1)).Nodup := by rw [List.map_reverse]; exact List.pairwise_reverse.mpr (hn.imp fun h => Ne.symm h)
  cases h : valueAt kvs k with
  | some v => exact valueAt_of_mem hn' (List.mem_reverse.mpr (valueAt_mem h))
  | none =>
    rw [valueAt_none] at h ⊢
    rw [List.map_reverse]
    exact fun z => h (List.mem_reverse.mp z)
theorem dict_nodup {P : Program} {w : World} {h : Heap} {a : Addr} {kvs : List (PySem.Leaf × Value)} (d : h.DictOf (leafKind P w) a kvs) : (kvs.map (·.1)).Nodup := by
  obtain ⟨_, _, _, _, _, _, _, _, hn⟩ := d
  exact hn
section
variable {X : Cx} {e a b o i : Expr} {σ : L2.St} {B H : Hp} {pos p p2 p3 : Pos}
theorem pairs_at {pins : List (Addr × Obj)} {s : Shared} (I : L2.Inv X pins σ H s) (sb : Same B H) : ∀ {ps : List (Nat × Nat)} {vs : List V} {its : List Value}, LR B ps vs → Vals vs its →
    ∃ L : List ((Nat × Nat) × Addr × Value × Value), L.map (·.1) = ps ∧ its = L.map (fun t => Value.ref t.2.1) ∧ ∀ t ∈ L, PairAt s.heap t.2.1 t.2.2.1 t.2.2.2 ∧ RelV (.int (t.1.1 : Nat)) t.2.2.1 ∧ RelV (.int (t.1.2 : Nat)) t.2.2.2
  | [], vs, its, l, r => by
    have : vs = [] := List.eq_nil_of_length_eq_zero l.1
    subst this; cases r; exact ⟨[], rfl, rfl, fun t h => by cases h⟩
  | z :: ps, [], its, l, r => by have := l.1; cases this
  | z :: ps, v :: vs, its, l, r => by
    cases r with
    | @cons _ u _ us r1 r2 =>
      obtain ⟨L, e1, e2, e3⟩ := pairs_at I sb l.tail.2 r2
      obtain ⟨q, v1, v2, rfl, hq, h1, h2⟩ := l.tail.1
      cases (show v1 = _ from h1)
      cases (show v2 = _ from h2)
      obtain rfl : u = Value.ref q := r1
      obtain ⟨its2, rv, ht, _⟩ := I.tuple (SqT.of (K := X.K) (sb q _ hq))
      obtain ⟨u1, u2, rfl, k1, k2⟩ := vals2 rv
      refine ⟨(z, q, u1, u2) :: L, by rw [List.map_cons, e1], by rw [List.map_cons, e2], fun t ht' => ?_⟩
      rcases List.mem_cons.mp ht' with rfl | h
      · refine ⟨.inl ?_, k1, k2⟩
        obtain ⟨o, ho, hc, n, hd⟩ := ht
        exact ⟨o, ho, hc, n, hd⟩
      · exact e3 t h
theorem cr_dictN (hc : X.calm = true) : CallR X (.type "dict") (fun xs H Q => ∃ (B : Hp) (l : Addr) (ps : List (Nat × Nat)), xs = [V.ref l] ∧ Same B H ∧ R B ps (.ref l) ∧ ps.length ≤ 1000 ∧
    ∀ q, H q = none → Q (.ref q) (upd H q (DnO X.prog X.w q (mpO (soP ps).reverse) ps.length))) := by
  intro pins s σ H xs us Q I r h
  obtain ⟨B, l, ps, rfl, sb, ⟨l', vs, e, hl, lr⟩, hz, q⟩ := h
  cases e
  rw [Vals.ref1 r]
  obtain ⟨its, rv, pl, _⟩ := I.list (SqL.of (sb l _ hl))
  obtain ⟨L, e1, e2, e3⟩ := pairs_at I sb lr rv
  obtain ⟨ol, n, ho, hcl, hd, hdat⟩ := pl
  have hLl : L.length = ps.length := by rw [← e1, List.length_map]
  have hkv : KvR (L.map fun t => (PySem.Leaf.num (t.1.1 : Nat), t.2.2.2)) (soP ps) := by
    rw [← e1]
    clear e1 e2 hLl
    unfold KvR soP
    induction L with
    | nil => exact .nil
    | cons t L ih => exact .cons ⟨rfl, (e3 t (List.mem_cons_self ..)).2.2⟩ (ih fun t h => e3 t (List.mem_cons_of_mem _ h))
  refine call_dict_pairs (knd := leafKind X.prog X.w) (kvs := L.map fun t => (PySem.Leaf.num (t.1.1 : Nat), t.2.2.2)) (PairArg.list l its.toArray (fun j => (L.map fun t => t.2.1).getD j 0) (L.map fun t => (t.2.2.1, t.2.2.2))) (I.ok.hd hc) ⟨⟨ol, n, ho, hcl, hd, hdat⟩, ?_, ?_⟩ ⟨by simp, ?_⟩ ?_ fun h' tk hd' k => ?_
  · rw [e2]; simp
  · intro j k v hj
    rw [List.getElem?_map] at hj
    cases ht : L[j]? with
    | none => rw [ht] at hj; cases hj
    | some t =>
      rw [ht] at hj
      cases hj
      refine ⟨?_, ?_⟩
      · rw [e2]
        simp [ht, List.getD_eq_getElem?_getD]
      · have : (L.map fun t => t.2.1).getD j 0 = t.2.1 := by simp [ht, List.getD_eq_getElem?_getD]
        show PairAt s.heap ((L.map fun t => t.2.1).getD j 0) _ _
        rw [this]
        exact (e3 t (List.mem_of_getElem? ht)).1
  · intro j key v hj
    have hj : (L.map fun t => (t.2.2.1, t.2.2.2))[j]? = some (key, v) := hj
    rw [List.getElem?_map] at hj
    cases ht : L[j]? with
    | none => rw [ht] at hj; cases hj
    | some t =>
      rw [ht] at hj
      cases hj
      refine ⟨.num (t.1.1 : Nat), by rw [List.getElem?_map, ht]; rfl, ?_⟩
      exact leaf_is (k := some t.1.1) (e3 t (List.mem_of_getElem? ht)).2.1
  · rw [List.length_map, hLl]; exact Nat.le_trans hz (by decide)
  · have hm : (s.heap.objs.size == sysModules) = false := beq_eq_false_iff_ne.mpr (Nat.ne_of_gt I.big)
    have hr : DnR X.prog X.w h' s.heap.objs.size (mpO (soP ps).reverse) ps.length := by
      refine ⟨hm, _, hd', ?_, fun k => ?_⟩
      · refine Nat.le_trans (merged_length _ _) ?_
        rw [List.length_map, hLl]; simp
      · have h1 := kvr_val (kvr_rev hkv) k
        rw [valueAt_merged]
        cases hv : valueAt (L.map fun t => (PySem.Leaf.num (t.1.1 : Nat), t.2.2.2)).reverse (leafOf k) with
        | some u => rw [hv] at h1; exact h1
        | none => rw [hv] at h1; exact h1
    exact ⟨.ref s.heap.objs.size, _, I.laid (t' := tk) (fun b o e => k b o (by simp) e) (Nat.le_refl _) (dnO_new hr), rfl, q _ (I.hok.fresh (Nat.le_refl _))⟩
theorem carriesN : ∀ {m : List (Option Nat × Option Nat)} {ws : List (Value × Value)}, VV (m.map fun z => (optV z.1, optV z.2)) ws → ∃ rs, Carries (leafKind X.prog X.w) ws rs ∧ KvR rs m
  | [], _, r => by rw [List.map_nil] at r; cases r; exact ⟨[], True.intro, .nil⟩
  | z :: m, _, r => by
    rw [List.map_cons] at r
    cases r with
    | @cons a b as bs h t =>
      obtain ⟨rs, c, q⟩ := carriesN t
      obtain ⟨b1, b2⟩ := b
      exact ⟨(leafOf z.1, b2) :: rs, ⟨leaf_is h.1, rfl, c⟩, .cons ⟨rfl, h.2⟩ q⟩
/-- {k: v, ..}, keys and values numbers or None -/
def tDispN (X : Cx) (trs : List (TE × TE)) : TE := fun σ H Q => ∀ p, H p = none → tPairs trs σ (upd H p (DnO X.prog X.w p (mpO []) 0)) fun ps H2 => H2 p = some (DnO X.prog X.w p (mpO []) 0) ∧ ∃ m : List (Option Nat × Option Nat), ps = m.map (fun z => (optV z.1, optV z.2)) ∧ m.length ≤ 15 ∧ Q (.ref p) (upd H2 p (DnO X.prog X.w p (mpO m.reverse) m.length))
theorem pe_dispN {keys : List (Option Expr)} {values : List Expr} {trs : List (TE × TE)} (h : PPs X pos keys values trs) (hall : keys.all (·.isSome) = true) (hl : keys.length = values.length) (h0 : keys ≠ []) (h15 : keys.length ≤ 15) : PE X (.Dict keys values pos) (tDispN X trs) := by
  refine ⟨fun pins s σ H Q I q => ?_⟩
  have hn := I.hok.fresh (Nat.le_refl s.heap.objs.size)
  have hm : (s.heap.objs.size == sysModules) = false := beq_eq_false_iff_ne.mpr (Nat.ne_of_gt I.big)
  have I1 := I.laid (a := s.heap.objs.size) (o := DnO X.prog X.w s.heap.objs.size (mpO []) 0) (h' := s.heap.push { cls := .type "dict", data := .dict #[] }) (t' := s.toks) (fun _ _ q => Heap.get?_push_of_some _ q) (Nat.le_refl _)
    (dnO_new ⟨hm, [], Heap.DictOf.new s.heap, Nat.le_refl _, fun k => rfl⟩)
  refine wpAny_Dict_walk (knd := leafKind X.prog X.w) hall hl h0 h15 (thn (h.run pins _ σ _ _ I1 (q _ hn)) fun ws s2 ⟨ps, H2, I2, rel, e, m, ep, lk, q2⟩ => ?_)
  subst ep
  obtain ⟨rs, c, rk⟩ := carriesN rel
  obtain ⟨hd, kvs0, dd, hz0, _⟩ := dnO_get I2 e
  have hk0 : kvs0 = [] := List.eq_nil_of_length_eq_zero (Nat.le_zero.mp hz0)
  subst hk0
  refine ⟨rs, c, dd, fun h' dd' hs => ⟨.ref s.heap.objs.size, _, ?_, rfl, q2⟩⟩
  have he : ∃ q, h'.get? s.heap.objs.size = some q := let ⟨q, _, _, hq, _⟩ := dd'; ⟨q, hq⟩
  have hr : DnR X.prog X.w h' s.heap.objs.size (mpO m.reverse) m.length := by
    refine ⟨hm, _, dd', ?_, fun k => ?_⟩
    · refine Nat.le_trans (merged_length _ _) ?_
      rw [kvr_len rk]; simp
    · have h1 := kvr_val (kvr_rev rk) k
      rw [valueAt_merged]
      cases hv : valueAt rs.reverse (leafOf k) with
      | some u => rw [hv] at h1; exact h1
      | none => rw [hv] at h1; exact h1
  exact I2.write (e := s.heap.objs.size) (by rw [e]; trivial) (.inl rfl) (fun b u hb hu => (hs.2 b hb).trans hu) he (dnO_new hr)
def updF (f f2 : Mp) : Mp := fun k => match f2 k with
  | some w => some w
  | none => f k
/-- d.update(d2) -/
def tUpdN (X : Cx) (to te : TE) : TE := fun σ H Q => to σ H fun x H1 => ∃ a f n, x = .ref a ∧ H1 a = some (DnO X.prog X.w a f n) ∧ te σ H1 fun y H2 => ∃ b f2 n2, y = .ref b ∧ b ≠ a ∧ H2 a = some (DnO X.prog X.w a f n) ∧ H2 b = some (DnO X.prog X.w b f2 n2) ∧ n + n2 ≤ 10000 ∧
  Q .non (upd H2 a (DnO X.prog X.w a (updF f f2) (n + n2)))
theorem pe_updN {to te : TE} (ho : PE X o to) (ha : PE X e te)
    (hbase : attributeBase o "update" X.env (eval o X.env) = eval o X.env := by rfl)
    (hfew : ((backTo p3 (starEach [e] X.env)).all (fun x => !x.1) && (backToKw p3 (keywordEach [] X.env)).all (fun x => x.1.isSome)
      && decide ([e].length + ([] : List Keyword).length + (if ([] : List Keyword).isEmpty then 0 else 1) < 30)) = true := by rfl)
    (hline : (p2.endLine == p3.line) = true := by rfl) (hs : NS X e [] := by rfl) (hpl : (backTo p3 (starEach [e] X.env)).any (·.1) = false := by rfl) :
    PE X (.Call (.Attribute o "update" p2) [e] [] p3) (tUpdN X to te) := by
  refine ⟨fun pins s σ H Q I h => ?_⟩
  refine wpAny_Call_method_late hbase hfew hline rfl (thn (ho.run pins s σ H _ I h) fun v s1 ⟨x, H1, I1, r1, q1⟩ => ?_)
  obtain ⟨a, f, n, rfl, hka, q1⟩ := q1
  cases r1
  obtain ⟨_, kvs, hd, _, _⟩ := dnO_get I1 hka
  refine ⟨"dict", "dict.update", PySem.F.plainAttrs_dict, PySem.F.slot_dict_update, PySem.F.type_dict_update, hd.typeIs, hd.mapOf.noDict, ?_⟩
  have hA := (pa_cons ha pa_nil hs).run p3 pins s1 σ H1 (fun vs H2 => match vs with
    | [y] => ∃ b f2 n2, y = .ref b ∧ b ≠ a ∧ H2 a = some (DnO X.prog X.w a f n) ∧ H2 b = some (DnO X.prog X.w b f2 n2) ∧ n + n2 ≤ 10000 ∧ Q .non (upd H2 a (DnO X.prog X.w a (updF f f2) (n + n2)))
    | _ => False) I1 q1
  have hs' : starEach [e] X.env = (false, eval e X.env) :: starEach [] X.env := hs
  rw [hs'] at hA hpl ⊢
  refine Calls.callWith_builtin hpl (Calls.evalArgs_plain ?_)
  refine thn hA fun us s2 ⟨vs, H2, I2, r2, q2⟩ => ?_
  match vs, q2, r2 with
  | [y], q2, r2 =>
    obtain ⟨b, f2, n2, rfl, hba, ha2, hb2, hz, q2⟩ := q2
    rw [Vals.ref1 r2]
    obtain ⟨hma, kvs, da, hza, hva⟩ := dnO_get I2 ha2
    obtain ⟨hmb, more, db, hzb, hvb⟩ := dnO_get I2 hb2
    have hzz : kvs.length + more.length ≤ 10000 := Nat.le_trans (Nat.add_le_add hza hzb) hz
    refine call_meetsIn PySem.F.slot_dict_update da.typeIs PySem.F.entry_dict_update (PySem.F.args_dict_update_2 _ _) (meets_dict_update (leafKind X.prog X.w) a b (Ne.symm hba) hmb) ⟨kvs, more, da, db, Nat.le_trans hzz (by decide), fun h' d' _ hs' => ?_⟩
    have he : ∃ q, h'.get? a = some q := let ⟨q, _, _, hq, _⟩ := d'; ⟨q, hq⟩
    have hr : DnR X.prog X.w h' a (updF f f2) (n + n2) := by
      refine ⟨hma, _, d', Nat.le_trans (merged_length _ _) (Nat.add_le_add hza hzb), fun k => ?_⟩
      rw [valueAt_merged, val_rev (dict_nodup db)]
      have h1 := hva k
      have h2 := hvb k
      unfold updF
      cases hv : valueAt more (leafOf k) with
      | some u =>
        rw [hv] at h2
        obtain ⟨w, ew, rw'⟩ := h2
        rw [ew]
        exact ⟨w, rfl, rw'⟩
      | none =>
        rw [hv] at h2
        rw [show f2 k = none from h2]
        exact h1
    exact ⟨.non, _, I2.write (e := a) (by rw [ha2]; trivial) (.inl rfl) (fun c u hb hu => (hs'.2 c hb).trans hu) he (dnO_new hr), rfl, q2⟩
end
end LK
/-! ## L10 -/
namespace LK
open PySem PySem.Spec PyProof.Rows L2
open Rp (R)
/-! ### min, max of a pair -/
section
variable {prog : Program} {w : World} {A : Around} {E : Value → Shared → Prop} {s : Shared} {l : Addr} {a b : Int} {t u : Tok} {Q : Value → Shared → Prop}
theorem two_at {i : Nat} {v : Value} (h : (#[Value.int a t, Value.int b u] : Array Value)[i]? = some v) : ∃ k, v = .int (if i = 0 then a else b) k := by
  match i, h with
  | 0, h => cases h; exact ⟨t, rfl⟩
  | 1, h => cases h; exact ⟨u, rfl⟩
  | n + 2, h => simp at h
theorem max_pairT (hh : A.handled = none) (hl : s.heap.IsTuple l #[.int a t, .int b u]) (h : ∀ h' tk k, (∀ c o, s.heap.get? c = some o → h'.get? c = some o) → Q (.int (if b > a then b else a) k) { s with heap := h', toks := tk }) :
    wpAny (model prog w) A (call (.builtin "max") [.ref l]) Q E s := by
  have hlt : l < s.heap.objs.size := by obtain ⟨o, e, _⟩ := hl; exact Heap.lt_size e
  refine call_max_walk (wpAny_pyIter_tuple hl ?_)
  refine ⟨_, [_, l], [_], _, _, _, _, rfl, Walks.tuple (A := A.in1) hh _ l (Nat.ne_of_lt hlt) #[.int a t, .int b u], ⟨⟨_, Heap.get?_push_size _ rfl, rfl, rfl⟩, hl.push _⟩, fun d hd => ?_, by simp, CmpOf.ints_gt (fun i => if i = 0 then a else b) (fun i v hv => two_at hv), fun v h' tk hP hk => ?_⟩
  · show d < (s.heap.push _).objs.size
    rw [Heap.size_push]
    rcases List.mem_cons.mp hd with rfl | hd
    · exact Nat.lt_succ_self _
    · cases List.mem_singleton.mp hd
      exact Nat.lt_succ_of_lt hlt
  · have hk' : ∀ c o, s.heap.get? c = some o → h'.get? c = some o := fun c o e => hk c o (by simpa using Nat.ne_of_lt (Heap.lt_size e)) (Heap.get?_push_of_some _ e)
    by_cases hab : b > a
    · have : v = .int b u := by simpa [argBest, hab] using hP.symm
      rw [this]
      have := h h' tk u hk'
      rw [if_pos hab] at this
      exact this
    · have : v = .int a t := by simpa [argBest, hab] using hP.symm
      rw [this]
      have := h h' tk t hk'
      rw [if_neg hab] at this
      exact this
theorem min_pairT (hh : A.handled = none) (hl : s.heap.IsTuple l #[.int a t, .int b u]) (h : ∀ h' tk k, (∀ c o, s.heap.get? c = some o → h'.get? c = some o) → Q (.int (if b < a then b else a) k) { s with heap := h', toks := tk }) :
    wpAny (model prog w) A (call (.builtin "min") [.ref l]) Q E s := by
  have hlt : l < s.heap.objs.size := by obtain ⟨o, e, _⟩ := hl; exact Heap.lt_size e
  refine call_min_walk (wpAny_pyIter_tuple hl ?_)
  refine ⟨_, [_, l], [_], _, _, _, _, rfl, Walks.tuple (A := A.in1) hh _ l (Nat.ne_of_lt hlt) #[.int a t, .int b u], ⟨⟨_, Heap.get?_push_size _ rfl, rfl, rfl⟩, hl.push _⟩, fun d hd => ?_, by simp, CmpOf.ints_lt (fun i => if i = 0 then a else b) (fun i v hv => two_at hv), fun v h' tk hP hk => ?_⟩
  · show d < (s.heap.push _).objs.size
    rw [Heap.size_push]
    rcases List.mem_cons.mp hd with rfl | hd
    · exact Nat.lt_succ_self _
    · cases List.mem_singleton.mp hd
      exact Nat.lt_succ_of_lt hlt
  · have hk' : ∀ c o, s.heap.get? c = some o → h'.get? c = some o := fun c o e => hk c o (by simpa using Nat.ne_of_lt (Heap.lt_size e)) (Heap.get?_push_of_some _ e)
    by_cases hab : b < a
    · have : v = .int b u := by simpa [argBest, hab] using hP.symm
      rw [this]
      have := h h' tk u hk'
      rw [if_pos hab] at this
      exact this
    · have : v = .int a t := by simpa [argBest, hab] using hP.symm
      rw [this]
      have := h h' tk t hk'
      rw [if_neg hab] at this
      exact this
end
section
variable {X : Cx} {e : Expr} {σ : L2.St} {B H : Hp} {pos p : Pos} {z : Nat × Nat}
theorem cr_maxP (hc : X.calm = true) : CallR X (.builtin "max") (fun xs H Q => ∃ (q : Addr) (a b : Nat), xs = [.ref q] ∧ H q = some (.tup [.int a, .int b]) ∧ Q (.int ((max a b : Nat) : Int)) H) := by
  intro pins s σ H xs us Q I r h
  obtain ⟨q, a, b, rfl, hq, k⟩ := h
  rw [Vals.ref1 r]
  obtain ⟨its, rv, ht, _⟩ := I.tuple (SqT.of (K := X.K) hq)
  obtain ⟨u1, u2, rfl, ⟨t1, rfl⟩, ⟨t2, rfl⟩⟩ := vals2 rv
  refine max_pairT (a := (a : Int)) (b := (b : Int)) (t := t1) (u := t2) (I.ok.hd hc) (by obtain ⟨o, ho, hc, n, hd⟩ := ht; exact ⟨o, ho, hc, n, hd⟩) fun h' tk k' hk => ⟨.int (if (b : Int) > (a : Int) then (b : Int) else (a : Int)), H, I.kept hk, ⟨k', rfl⟩, ?_⟩
  have : (if (b : Int) > (a : Int) then (b : Int) else (a : Int)) = ((max a b : Nat) : Int) := by split <;> omega
  rw [this]
  exact k
theorem cr_minP (hc : X.calm = true) : CallR X (.builtin "min") (fun xs H Q => ∃ (q : Addr) (a b : Nat), xs = [.ref q] ∧ H q = some (.tup [.int a, .int b]) ∧ Q (.int ((min a b : Nat) : Int)) H) := by
  intro pins s σ H xs us Q I r h
  obtain ⟨q, a, b, rfl, hq, k⟩ := h
  rw [Vals.ref1 r]
  obtain ⟨its, rv, ht, _⟩ := I.tuple (SqT.of (K := X.K) hq)
  obtain ⟨u1, u2, rfl, ⟨t1, rfl⟩, ⟨t2, rfl⟩⟩ := vals2 rv
  refine min_pairT (a := (a : Int)) (b := (b : Int)) (t := t1) (u := t2) (I.ok.hd hc) (by obtain ⟨o, ho, hc, n, hd⟩ := ht; exact ⟨o, ho, hc, n, hd⟩) fun h' tk k' hk => ⟨.int (if (b : Int) < (a : Int) then (b : Int) else (a : Int)), H, I.kept hk, ⟨k', rfl⟩, ?_⟩
  have : (if (b : Int) < (a : Int) then (b : Int) else (a : Int)) = ((min a b : Nat) : Int) := by split <;> omega
  rw [this]
  exact k
theorem ev_maxP (h : Ev X e σ B z) (hm : X.mg "max" = none) (hc : X.calm = true := by rfl) (hg : Gl X "max" := by rfl) (h1 : NS X e [] := by rfl) : Ev X (.Call (.Name "max" p) [e] [] pos) σ B (max z.1 z.2) := fun H s Q q =>
  rd_blt (cr_maxP hc) hm (by rfl) (rdA1 h s (fun v B' H' _ n r => by
    obtain ⟨t, v1, v2, rfl, ht, r1, r2⟩ := r
    cases (show v1 = _ from r1)
    cases (show v2 = _ from r2)
    exact ⟨t, z.1, z.2, rfl, n.bh t _ ht, fun hl => q _ B' H' hl n rfl⟩) h1) hg (by decide) (by decide) h1
theorem ev_minP (h : Ev X e σ B z) (hm : X.mg "min" = none) (hc : X.calm = true := by rfl) (hg : Gl X "min" := by rfl) (h1 : NS X e [] := by rfl) : Ev X (.Call (.Name "min" p) [e] [] pos) σ B (min z.1 z.2) := fun H s Q q =>
  rd_blt (cr_minP hc) hm (by rfl) (rdA1 h s (fun v B' H' _ n r => by
    obtain ⟨t, v1, v2, rfl, ht, r1, r2⟩ := r
    cases (show v1 = _ from r1)
    cases (show v2 = _ from r2)
    exact ⟨t, z.1, z.2, rfl, n.bh t _ ht, fun hl => q _ B' H' hl n rfl⟩) h1) hg (by decide) (by decide) h1
end
end LK
/-! ## F31 -/
namespace LK
open PySem PySem.Spec PyProof.Rows L2
open Rp (R)
/-! ### told dicts that change -/
section
variable {X : Cx} {e a b c : Expr} {es : List Expr} {σ : L2.St} {B B' H H' B0 H0 : Hp} {pos p p2 p3 p4 p5 : Pos} {D : Ends} {rest : List Stmt} {l q : Addr} {o : HO} {φ : Heap → Prop}
theorem ev_unsome {n : Nat} (h : Ev X e σ B (some n)) : Ev X e σ B n := fun H s Q k => h H s Q fun v B' H' hl n r => k v B' H' hl n r
theorem kp_pair {z : Nat × Nat} {v : V} (r : R B z v) (hq : B q = some (.ext φ)) : R (upd B q o) z v := by
  obtain ⟨t, v1, v2, e, h, r1, r2⟩ := r
  exact ⟨t, v1, v2, e, by rw [upd_ne (fun z => by rw [z, hq] at h; cases h)]; exact h, r1, r2⟩
theorem kp_lr {xs : List (Nat × Nat)} {vs : List V} (r : LR B xs vs) (hq : B q = some (.ext φ)) : LR (upd B q o) xs vs := ⟨r.1, fun i a ha => by
  obtain ⟨v, hv, rv⟩ := r.2 i a ha
  exact ⟨v, hv, kp_pair rv hq⟩⟩
theorem kp_nats {xs : List Nat} {v : V} (r : R B xs v) (hq : B q = some (.ext φ)) : R (upd B q o) xs v := by
  obtain ⟨t, vs, e, h, lr⟩ := r
  exact ⟨t, vs, e, by rw [upd_ne (fun z => by rw [z, hq] at h; cases h)]; exact h, lr.1, fun i a ha => lr.2 i a ha⟩
theorem nw_kp (n : Nw B0 H0 B H) (h0 : H0 q = none) (b0 : B0 q = none) : Nw B0 H0 (upd B q o) (upd H q o) :=
  ⟨same_upd2 n.bb b0, same_both n.bh, same_upd2 n.hh h0, fun b h1 h2 => by rw [upd_ne (fun e => h1 (by rw [e]; exact h0))]; exact n.hid b h1 h2⟩
theorem gr_kp {ys : List (Nat × Nat)} (g : Gr B0 H0 l ys B H) (hq : B q = some (.ext φ)) (h0 : H0 q = none) (b0 : B0 q = none) : Gr B0 H0 l ys (upd B q o) (upd H q o) := by
  obtain ⟨ws, N, h00, hbl, hl, lr⟩ := g
  have ne : l ≠ q := fun e => by rw [e, hq] at hbl; cases hbl
  exact ⟨ws, nw_kp N h0 b0, h00, by rw [upd_ne ne]; exact hbl, by rw [upd_ne ne]; exact hl, kp_lr lr hq⟩
/-- name = dict(pairs) -/
theorem rb_setDict (j : Nat) {n : Str} {ps : List (Nat × Nat)} {px : Pos} (h : Ev X e σ B ps) (hz : ps.length ≤ 1000) (s : Same B H) (hm : X.mg "dict" = none)
    (k : ∀ t B' H', HLen H' → Nw B H B' H' → H t = none → B' t = some (DnO X.prog X.w t (mpO (soP ps).reverse) ps.length) → rdB X rest D (σ.set j (some (.ref t))) H')
    (hN : X.N.Nodup) (hc : X.calm = true := by rfl) (hi : X.N[j]? = some n := by rfl) (hx : Loc X.env.scope n := by first | exact Or.inl rfl | exact Or.inr rfl) (hs : swapsWith (.Call (.Name "dict" p) [e] [] p2) (some (.Name n px)) pos.line X.env = pure false := by rfl)
    (hf : X.fn n = true ∨ X.env.scope.names.lookup n = some .local := by first | exact .inl rfl | exact .inr rfl) (hg : Gl X "dict" := by rfl) (h1 : NS X e [] := by rfl) : rdB X (.Assign [.Name n px] (.Call (.Name "dict" p) [e] [] p2) pos :: rest) D σ H :=
  rb_setR j (rd_ty (cr_dictN hc) hm (by rfl) (rdA1 h s (fun v B' H' _ n r => by
    obtain ⟨l, vs, rfl, hl, lr⟩ := id r
    refine ⟨B', l, ps, rfl, n.bh, r, hz, fun t ht hl2 => ?_⟩
    have n2 := Nw.new (o := DnO X.prog X.w t (mpO (soP ps).reverse) ps.length) n.bh ht
    exact k t _ _ hl2 (n.trans n2) (n.hh.free ht) upd_same) h1) hg (by decide) (by decide) h1) hN hi hx hs hf
/-- a dict, as a value -/
theorem ev_dict {ps : List (Nat × Nat)} (h : Ev X e σ B ps) (hz : ps.length ≤ 1000) (hm : X.mg "dict" = none) (hc : X.calm = true := by rfl) (hg : Gl X "dict" := by rfl) (h1 : NS X e [] := by rfl) : Ev X (.Call (.Name "dict" p) [e] [] p2) σ B (Md.mk (mpO (soP ps).reverse) ps.length : Md X.prog X.w) := fun H s Q k =>
  rd_ty (cr_dictN hc) hm (by rfl) (rdA1 h s (fun v B' H' _ n r => by
    obtain ⟨l, vs, rfl, hl, lr⟩ := id r
    refine ⟨B', l, ps, rfl, n.bh, r, hz, fun t ht hl2 => ?_⟩
    have n2 := Nw.new (o := DnO X.prog X.w t (mpO (soP ps).reverse) ps.length) n.bh ht
    exact k _ _ _ hl2 (n.trans n2) ⟨t, rfl, upd_same⟩) h1) hg (by decide) (by decide) h1
/-- d.update({k: v, None: None}) -/
theorem rb_update (i : Nat) {n : Str} {f : Mp} {m k v : Nat} {j1 j2 : Nat} {q1 q2 : Pos} {kx vx : Expr} (hσ : σ[i]? = some (some (.ref q))) (s : Same B H) (hq : B q = some (DnO X.prog X.w q f m)) (hz : m ≤ 1000) (hk : Ev X kx σ B k) (hv : Ev X vx σ B v)
    (c : ∀ B' H', Nw B H B' H' → B' q = some (DnO X.prog X.w q f m) → rdB X rest D σ (upd H' q (DnO X.prog X.w q (updF f (mpO [(none, none), (some k, some v)])) (m + 2))))
    (hN : X.N[i]? = some n := by rfl) (hvs : Vis X.env.scope n := by first | exact Or.inl rfl | exact Or.inr (Or.inl rfl)) (hd : (n == ("__debug__" : Str)) = false := by decide) (hcd : (n == ("__classdict__" : Str)) = false := by decide)
    (hb : attributeBase (.Name n p) "update" X.env (eval (.Name n p) X.env) = eval (.Name n p) X.env := by rfl) (hfew : ((backTo p3 (starEach [.Dict [some kx, some (.Constant .none j1 q1)] [vx, .Constant .none j2 q2] p4] X.env)).all (fun x => !x.1) && (backToKw p3 (keywordEach [] X.env)).all (fun x => x.1.isSome)
      && decide ([Expr.Dict [some kx, some (.Constant .none j1 q1)] [vx, .Constant .none j2 q2] p4].length + ([] : List Keyword).length + (if ([] : List Keyword).isEmpty then 0 else 1) < 30)) = true := by rfl)
    (hline : (p2.endLine == p3.line) = true := by rfl) (hs : NS X (.Dict [some kx, some (.Constant .none j1 q1)] [vx, .Constant .none j2 q2] p4) [] := by rfl) (hpl : (backTo p3 (starEach [.Dict [some kx, some (.Constant .none j1 q1)] [vx, .Constant .none j2 q2] p4] X.env)).any (·.1) = false := by rfl)
    (hsw : swapsWith (.Call (.Attribute (.Name n p) "update" p2) [.Dict [some kx, some (.Constant .none j1 q1)] [vx, .Constant .none j2 q2] p4] [] p3) none pos.line X.env = pure false := by rfl) :
    rdB X (.Expr (.Call (.Attribute (.Name n p) "update" p2) [.Dict [some kx, some (.Constant .none j1 q1)] [vx, .Constant .none j2 q2] p4] [] p3) pos :: rest) D σ H :=
  rdB_mk (pss_cons (ps_expr (pe_updN (pe_var hN hvs hd hcd) (pe_dispN (pps_cons pe_rd pe_rd (pps_cons pe_non pe_non pps_nil)) (by rfl) (by rfl) (by simp) (by show 2 ≤ 15; decide)) hb hfew hline hs hpl) hsw) pss_rd)
    ⟨.ref q, hσ, q, f, m, rfl, s q _ hq, fun t ht => by
      have n0 := Nw.new (o := DnO X.prog X.w t (mpO []) 0) s ht
      refine hk.mono n0.bb _ n0.bh _ fun u B1 H1 _ n1 r1 => (hv.mono (n0.bb.trans n1.bb)) H1 n1.bh _ fun w B2 H2 _ n2 r2 => ?_
      cases (show u = _ from r1)
      cases (show w = _ from r2)
      have N := n0.trans (n1.trans n2)
      have ht2 : H2 t = some (DnO X.prog X.w t (mpO []) 0) := n2.hh t _ (n1.hh t _ upd_same)
      have hBt : B2 t = some (DnO X.prog X.w t (mpO []) 0) := n2.bb t _ (n1.bb t _ upd_same)
      have hq2 : H2 q = some (DnO X.prog X.w q f m) := N.bH q _ hq
      have ne : t ≠ q := fun e => by rw [e, s q _ hq] at ht; cases ht
      refine ⟨ht2, [(some k, some v), (none, none)], rfl, (show 2 ≤ 15 by decide), t, mpO [(none, none), (some k, some v)], 2, rfl, ne, ?_, upd_same, by omega, ?_⟩
      · rw [upd_ne (Ne.symm ne)]; exact hq2
      · have N0 : Nw B H (upd B t (DnO X.prog X.w t (mpO []) 0)) (upd H t (DnO X.prog X.w t (mpO []) 0)) := n0
        have bt : B t = none := s.free ht
        have N' : Nw B H (upd B2 t (DnO X.prog X.w t (mpO [(none, none), (some k, some v)]) 2)) (upd H2 t (DnO X.prog X.w t (mpO [(none, none), (some k, some v)]) 2)) := nw_kp N ht bt
        exact c _ _ N' (by rw [upd_ne (Ne.symm ne)]; exact N.bb q _ hq)⟩
end
end LK
set_option maxHeartbeats 1000000
/-! ## F32 -/
namespace LK
open PySem PySem.Spec PyProof.Rows L2
open Rp (R)
/-! ### the law's joining -/
def numsOf (xs : List Nat) (k : Nat) : List (Nat × Nat) := (enum xs).map fun z => (z.2, k + z.1)
def nmF (xs : List Nat) (k : Nat) : Mp := mpO (soP (numsOf xs k)).reverse
def nmAt (xs : List Nat) (k a : Nat) : Nat := ((nmF xs k (some a)).getD none).getD 0
def ledF (f : Mp) (o : Option Nat) : Option Nat := (f o).getD none
def ledB (f : Mp) (b : Bnd) : Bnd := ⟨ledF f b.a, ledF f b.b, b.c⟩
def ledA (f : Mp) (a : Alt) : Alt := (a.1, a.2.map (ledB f))
section
variable (ls : List Lane) (bs : List Book) (g : Nat) (os : List Lane) (ms : List Book) (d : Nat)
def jNear : List Nat := (lPlaces ls).filter fun p => !decide (p = g)
def jOne : Nat := (lBeside ls g).getD 0 0
def jFst : Mp := nmF (jNear ls g) 0
def jSnd : Mp := nmF (jNear os d) (jNear ls g).length
def jN1 (a : Nat) : Nat := nmAt (jNear ls g) 0 a
def jN2 (a : Nat) : Nat := nmAt (jNear os d) (jNear ls g).length a
def jTied : List Lane := ((ls.filter fun z => !decide (g ∈ [z.1, z.2])).map fun z => (jN1 ls g z.1, jN1 ls g z.2)) ++ ((os.filter fun z => !decide (d ∈ [z.1, z.2])).map fun z => (jN2 ls g os d z.1, jN2 ls g os d z.2)) ++ [(jN1 ls g (jOne ls g), jN2 ls g os d (jOne os d))]
def jFst' : Mp := updF (jFst ls g) (mpO [(none, none), (some g, some (jN2 ls g os d (jOne os d)))])
def jSnd' : Mp := updF (jSnd ls g os d) (mpO [(none, none), (some d, some (jN1 ls g (jOne ls g)))])
def lJoinLanes : List Lane := lsort ((jTied ls g os d).map fun z => (min z.1 z.2, max z.1 z.2))
def lJoinBooks : List Book := (bs.map fun b => b.map (ledA (jFst' ls g os d))) ++ ms.map fun b => b.map (ledA (jSnd' ls g os d))
end
theorem find_rev {ps : List (Nat × Nat)} {a : Nat} (h : a ∈ ps.map (·.1)) : ∃ n, mpO (soP ps).reverse (some a) = some (some n) := by
  unfold mpO
  cases hf : (soP ps).reverse.find? fun z => decide (z.1 = some a) with
  | none =>
    obtain ⟨z, hz, rfl⟩ := List.mem_map.mp h
    have := List.find?_eq_none.mp hf (some z.1, some z.2) (List.mem_reverse.mpr (List.mem_map.mpr ⟨z, hz, rfl⟩))
    simp at this
  | some z =>
    obtain ⟨y, _, rfl⟩ := List.mem_map.mp (List.mem_reverse.mp (List.mem_of_find?_eq_some hf))
    exact ⟨y.2, rfl⟩
theorem nmF_at {xs : List Nat} {k a : Nat} (h : a ∈ xs) : nmF xs k (some a) = some (some (nmAt xs k a)) := by
  have : a ∈ (numsOf xs k).map (·.1) := by
    obtain ⟨i, hi⟩ := List.mem_iff_getElem?.mp h
    refine List.mem_map.mpr ⟨(a, k + i), List.mem_map.mpr ⟨(i, a), ?_, rfl⟩, rfl⟩
    unfold enum
    refine List.mem_map.mpr ⟨(a, i), ?_, rfl⟩
    rw [List.mem_zipIdx_iff_getElem?]
    exact hi
  obtain ⟨n, hn⟩ := find_rev this
  unfold nmAt nmF
  rw [hn]
  rfl
theorem numsOf_len (xs : List Nat) (k : Nat) : (numsOf xs k).length = xs.length := by
  unfold numsOf enum
  rw [List.length_map, List.length_map, List.length_zipIdx]
/-- an end that a side's dict knows -/
def endKn (near : List Nat) (g : Nat) (o : Option Nat) : Prop := ∀ a, o = some a → a = g ∨ a ∈ near
theorem updF_at {near : List Nat} {k g v : Nat} {o : Option Nat} (h : endKn near g o) : ∃ w, updF (nmF near k) (mpO [(none, none), (some g, some v)]) o = some w := by
  unfold updF
  cases o with
  | none => exact ⟨none, rfl⟩
  | some a =>
    by_cases hag : a = g
    · subst hag
      refine ⟨some v, ?_⟩
      simp [mpO]
    · rcases h a rfl with e | hm
      · exact absurd e hag
      · refine ⟨some (nmAt near k a), ?_⟩
        have : mpO [(none, none), (some g, some v)] (some a) = none := by
          simp [mpO, Ne.symm hag]
        rw [this]
        exact nmF_at hm
structure LJOk (ls : List Lane) (bs : List Book) (g : Nat) : Prop where
  n : ls.length < 30
  pl : (lPlaces ls).length ≤ 100
  gt : 0 < (lBeside ls g).length
  one : jOne ls g ∈ jNear ls g
  lan : ∀ z ∈ ls, (!decide (g ∈ [z.1, z.2])) = true → z.1 ∈ jNear ls g ∧ z.2 ∈ jNear ls g
  bks : bs.length ≤ 100 ∧ ∀ b ∈ bs, b.length ≤ 100 ∧ ∀ a ∈ b, ∀ z ∈ a.2, endKn (jNear ls g) g z.a ∧ endKn (jNear ls g) g z.b
def SpJ : Sp := fun vs H Q _ => ∃ (B : Hp) (ls : List Lane) (bs : List Book) (g : Nat) (os : List Lane) (ms : List Book) (d : Nat) (v1 v2 v3 v4 v5 v6 : V), vs = [v1, v2, v3, v4, v5, v6] ∧ Same B H ∧ R B ls v1 ∧ R B bs v2 ∧ R B g v3 ∧ R B os v4 ∧ R B ms v5 ∧ R B d v6 ∧
  LJOk ls bs g ∧ LJOk os ms d ∧ ∀ v' B' H', Nw B H B' H' → R B' ((lJoinLanes ls g os d, lJoinBooks ls bs g os ms d) : List Lane × List Book) v' → Q v' H'
theorem rdB_at {X : Cx} {b : List Stmt} {D : Ends} {σ : L2.St} {H : Hp} (σ' : L2.St) (e : σ = σ') (h : rdB X b D σ' H) : rdB X b D σ H := by
  rw [e]; exact h
section
variable {P : Program} {w : World} {K : PySem.W.Frag} {mg : Str → Option Value} {base : Heap} {cC cW : Addr}
abbrev nmsJ : List Str := ["_law_lanes", "_law_books_here", "_law_gate", "_law_others", "_law_more", "_law_door", "_law_near", "_law_far", "_law_one", "_law_two", "_law_first", "_law_second", "_law_tied", "_law_told", "_law_names", "_law_some", "_law_book_here", "_law_late", "_law_places", "_law_bounds", "_law_a", "_law_b", "_law_place", "_law_at", "_law_o", "_law_t", "_law_most", "_law_lane"]
theorem sc110 : FnScope nmsJ ["_law_lanes", "_law_books_here", "_law_gate", "_law_others", "_law_more", "_law_door"] (defScope (topS 110)) := ⟨rfl, rfl, rfl, by decide +kernel, rfl, by decide +kernel, by decide +kernel⟩
theorem fk_ljoined (E : Tops K mg cC cW) : Fk P w K mg base "_law_joined" 3 ["_law_lanes", "_law_books_here", "_law_gate", "_law_others", "_law_more", "_law_door"] SpJ :=
  fk_mk (N := nmsJ) E.d110 sc110 (fun vs H Q E ⟨_, _, _, _, _, _, _, _, _, _, _, _, _, e, _⟩ => by rw [e]; rfl) fun f cd A ou s H vs Q EX hr ⟨B, ls, bs, g, os, ms, d, v1, v2, v3, v4, v5, v6, e, sb, r1, r2, r3, r4, r5, r6, o1, o2, q⟩ => by
    subst e
    cases (show v3 = _ from r3)
    cases (show v6 = _ from r6)
    refine rb_set 6 (B := B) (x := lPlaces ls) (EvF.ev (evf_sortedSet (xs := ls.map (fun z => z.1) ++ ls.map fun z => z.2) (Ev.to (EvF.ev (evf_cat (xs := (ls.filter fun _ => true).map fun z => z.1) (ys := (ls.filter fun _ => true).map fun z => z.2)
      (EvF.ev (evf_lc (p := fun _ : Lane => true) (g := fun z : Lane => z.1) [("_law_a", 20), ("_law_b", 21)] (ei_list (ev_var (x := ls) 0 rfl r1)) (turnP 20 21 (fun u w => rfl) (fun B1 z va vb s1 _ ra rb s H0 C cl fp => ⟨ets_nil, fun _ => ev_var 20 rfl ra⟩) sc110.nd) sc110.nd))
      (EvF.ev (evf_lc (p := fun _ : Lane => true) (g := fun z : Lane => z.2) [("_law_a", 20), ("_law_b", 21)] (ei_list (ev_var (x := ls) 0 rfl r1)) (turnP 20 21 (fun u w => rfl) (fun B1 z va vb s1 _ ra rb s H0 C cl fp => ⟨ets_nil, fun _ => ev_var 21 rfl rb⟩) sc110.nd) sc110.nd))
      (by rw [filt_true, List.length_map, List.length_map]; exact Nat.le_trans (Nat.add_le_add (Nat.le_of_lt o1.n) (Nat.le_of_lt o1.n)) (show 60 ≤ 100000 by decide)))) (by rw [filt_true])) (by rw [List.length_append, List.length_map, List.length_map]; have := o1.n; omega) E.bt.sorted E.bt.set)) sb (fun w7 B1 H1 hl1 n1 k7 => ?_) sc110.nd
    have r4a := Rp.mono n1.bb r4
    refine rb_set 7 (B := B1) (x := lPlaces os) (EvF.ev (evf_sortedSet (xs := os.map (fun z => z.1) ++ os.map fun z => z.2) (Ev.to (EvF.ev (evf_cat (xs := (os.filter fun _ => true).map fun z => z.1) (ys := (os.filter fun _ => true).map fun z => z.2)
      (EvF.ev (evf_lc (p := fun _ : Lane => true) (g := fun z : Lane => z.1) [("_law_a", 20), ("_law_b", 21)] (ei_list (ev_var (x := os) 3 rfl r4a)) (turnP 20 21 (fun u w => rfl) (fun B1 z va vb s1 _ ra rb s H0 C cl fp => ⟨ets_nil, fun _ => ev_var 20 rfl ra⟩) sc110.nd) sc110.nd))
      (EvF.ev (evf_lc (p := fun _ : Lane => true) (g := fun z : Lane => z.2) [("_law_a", 20), ("_law_b", 21)] (ei_list (ev_var (x := os) 3 rfl r4a)) (turnP 20 21 (fun u w => rfl) (fun B1 z va vb s1 _ ra rb s H0 C cl fp => ⟨ets_nil, fun _ => ev_var 21 rfl rb⟩) sc110.nd) sc110.nd))
      (by rw [filt_true, List.length_map, List.length_map]; exact Nat.le_trans (Nat.add_le_add (Nat.le_of_lt o2.n) (Nat.le_of_lt o2.n)) (show 60 ≤ 100000 by decide)))) (by rw [filt_true])) (by rw [List.length_append, List.length_map, List.length_map]; have := o2.n; omega) E.bt.sorted E.bt.set)) n1.bh (fun w8 B2 H2 hl2 n2 k8 => ?_) sc110.nd
    have n12 := n1.trans n2
    refine rb_unpack 6 7 (B := B2) (u := (jNear ls g, jNear os d)) (ev_tup2 (eva2 (x := jNear ls g) (y := jNear os d)
      (Ev.to (EvF.ev (evf_lc (p := fun p => !decide (p = g)) (g := fun p => p) [("_law_place", 22)] (ei_list (ev_var (x := lPlaces ls) 6 rfl (Rp.mono n2.bb k7))) (turnN 22 (fun u => rfl) (fun B3 p vp s3 _ rp s H0 C cl fp => ⟨ets_one (Cm.et (cm_ne (ev_var 22 rfl rp) (ev_var 2 rfl rfl))), fun _ => ev_var 22 rfl rp⟩) sc110.nd) sc110.nd)) (List.map_id' _))
      (Ev.to (EvF.ev (evf_lc (p := fun p => !decide (p = d)) (g := fun p => p) [("_law_place", 22)] (ei_list (ev_var (x := lPlaces os) 7 rfl k8)) (turnN 22 (fun u => rfl) (fun B3 p vp s3 _ rp s H0 C cl fp => ⟨ets_one (Cm.et (cm_ne (ev_var 22 rfl rp) (ev_var 5 rfl rfl))), fun _ => ev_var 22 rfl rp⟩) sc110.nd) sc110.nd)) (List.map_id' _)))) n2.bh (fun w7 w8 B3 H3 hl3 n3 k7 k8 => ?_) sc110.nd
    have n13 := n12.trans n3
    have k7 : R B3 (jNear ls g) w7 := k7
    have k8 : R B3 (jNear os d) w8 := k8
    refine rb_par 8 9 (rdA2 (B := B3) (x := jOne ls g) (y := jOne os d) (ev_ix (xs := lBeside ls g) (i := 0) (ev_call2 (x := ls) (y := g) (fk_lbeside E) (hr.mono (by decide)) (eva2 (ev_var 0 rfl (Rp.mono n13.bb r1)) (ev_var 2 rfl rfl)) trivial) (ev_nat 0) (getD_at o1.gt))
      (ev_ix (xs := lBeside os d) (i := 0) (ev_call2 (x := os) (y := d) (fk_lbeside E) (hr.mono (by decide)) (eva2 (ev_var 3 rfl (Rp.mono n13.bb r4)) (ev_var 5 rfl rfl)) trivial) (ev_nat 0) (getD_at o2.gt)) n3.bh fun w9 w10 B4 H4 hl4 n4 k9 k10 => ⟨_, _, rfl, ?_⟩) sc110.nd
    cases (show w9 = _ from k9)
    cases (show w10 = _ from k10)
    have n14 := n13.trans n4
    have k7 := Rp.mono n4.bb k7
    have k8 := Rp.mono n4.bb k8
    have hz1 : (numsOf (jNear ls g) 0).length ≤ 100 := by rw [numsOf_len]; exact Nat.le_trans (List.length_filter_le _ _) o1.pl
    have hz2 : (numsOf (jNear os d) (jNear ls g).length).length ≤ 100 := by rw [numsOf_len]; exact Nat.le_trans (List.length_filter_le _ _) o2.pl
    -- the two dicts
    refine rdB_at [some v1, some v2, some (.int (g : Nat)), some v4, some v5, some (.int (d : Nat)), some w7, some w8, some (.int (jOne ls g : Nat)), some (.int (jOne os d : Nat)), none, none, none, none, none, none, none, none, none, none, none, none, none, none, none, none, none, none] rfl ?_
    refine rb_setDict 10 (B := B4) (ps := numsOf (jNear ls g) 0) (Ev.to (EvF.ev (evf_lc (p := fun _ : Nat × Nat => true) (g := fun z : Nat × Nat => (z.2, z.1)) [("_law_at", 23), ("_law_place", 22)] (ei_enum (ev_var (x := jNear ls g) 6 rfl k7) E.bt.enumerate)
      (turnP 23 22 (fun u w => rfl) (fun B5 z va vb s5 _ ra rb s H0 C cl fp => ⟨ets_nil, fun _ => ev_tup2 (eva2 (ev_var 22 rfl rb) (ev_var 23 rfl ra))⟩) sc110.nd) sc110.nd)) (by rw [filt_true]; unfold numsOf enum; refine List.map_congr_left fun z _ => ?_; rw [Nat.zero_add])) (Nat.le_trans hz1 (by decide)) n4.bh E.bt.dict (fun q1 B5 H5 hl5 n5 h05 b5 => ?_) sc110.nd
    refine rdB_at [some v1, some v2, some (.int (g : Nat)), some v4, some v5, some (.int (d : Nat)), some w7, some w8, some (.int (jOne ls g : Nat)), some (.int (jOne os d : Nat)), some (.ref q1), none, none, none, none, none, none, none, none, none, none, none, none, none, none, none, none, none] rfl ?_
    have n15 := n14.trans n5
    have k7 := Rp.mono n5.bb k7
    have k8 := Rp.mono n5.bb k8
    refine rb_setDict 11 (B := B5) (ps := numsOf (jNear os d) (jNear ls g).length) (Ev.to (EvF.ev (evf_lc (p := fun _ : Nat × Nat => true) (g := fun z : Nat × Nat => (z.2, (jNear ls g).length + z.1)) [("_law_at", 23), ("_law_place", 22)] (ei_enum (ev_var (x := jNear os d) 7 rfl k8) E.bt.enumerate)
      (turnP 23 22 (fun u w => rfl) (fun B6 z va vb s6 _ ra rb s H0 C cl fp => ⟨ets_nil, fun _ => ev_tup2 (eva2 (ev_var 22 rfl rb) (ev_add (ev_len (ev_var (x := jNear ls g) 6 rfl (Rp.mono s6 k7)) E.bt.len) (ev_var 23 rfl ra)))⟩) sc110.nd) sc110.nd)) (by rw [filt_true]; rfl)) (Nat.le_trans hz2 (by decide)) n5.bh E.bt.dict (fun q2 B6 H6 hl6 n6 h06 b6 => ?_) sc110.nd
    refine rdB_at [some v1, some v2, some (.int (g : Nat)), some v4, some v5, some (.int (d : Nat)), some w7, some w8, some (.int (jOne ls g : Nat)), some (.int (jOne os d : Nat)), some (.ref q1), some (.ref q2), none, none, none, none, none, none, none, none, none, none, none, none, none, none, none, none] rfl ?_
    have n16 := n15.trans n6
    have k7 := Rp.mono n6.bb k7
    have k8 := Rp.mono n6.bb k8
    have b61 := n6.bb q1 _ b5
    have h0q1 : H q1 = none := n14.hh.free h05
    have h0q2 : H q2 = none := n15.hh.free h06
    have b0q1 : B q1 = none := sb.free h0q1
    have b0q2 : B q2 = none := sb.free h0q2
    have ne12 : q1 ≠ q2 := fun e => by
      have := n5.bh q1 _ b5
      rw [e, h06] at this
      cases this
    have d1 : ∀ {B7}, Same B6 B7 → R B7 (Md.mk (jFst ls g) (numsOf (jNear ls g) 0).length : Md P w) (.ref q1) := fun s7 => ⟨q1, rfl, s7 q1 _ b61⟩
    have d2 : ∀ {B7}, Same B6 B7 → R B7 (Md.mk (jSnd ls g os d) (numsOf (jNear os d) (jNear ls g).length).length : Md P w) (.ref q2) := fun s7 => ⟨q2, rfl, s7 q2 _ b6⟩
    -- tied
    refine rb_setLc 12 (B := B6) (p := fun z : Lane => !decide (g ∈ [z.1, z.2])) (g := fun z : Lane => (jN1 ls g z.1, jN1 ls g z.2)) [("_law_a", 20), ("_law_b", 21)] (ei_list (ev_var (x := ls) 0 rfl (Rp.mono n16.bb r1)))
      (turnP 20 21 (fun u w => rfl) (fun B7 z va vb s7 hz ra rb s H0 C cl fp => ⟨ets_one (Cm.et (cm_nin (xs := [z.1, z.2]) (ev_var 2 rfl rfl) (EvF.ev (ev_lst (xs := [z.1, z.2]) (eva2 (ev_var 20 rfl ra) (ev_var 21 rfl rb)))))), fun hp => ev_tup2 (eva2
        (ev_unsome (ev_dnGet (k := some z.1) (ev_var 10 rfl (d1 s7)) (ev_some (ev_var 20 rfl ra)) (nmF_at (o1.lan z hz hp).1))) (ev_unsome (ev_dnGet (k := some z.2) (ev_var 10 rfl (d1 s7)) (ev_some (ev_var 21 rfl rb)) (nmF_at (o1.lan z hz hp).2))))⟩) sc110.nd) n6.bh (fun qt ws B7 H7 hl7 n7 h07 b7 hq7 lr7 => ?_) sc110.nd
    refine rdB_at [some v1, some v2, some (.int (g : Nat)), some v4, some v5, some (.int (d : Nat)), some w7, some w8, some (.int (jOne ls g : Nat)), some (.int (jOne os d : Nat)), some (.ref q1), some (.ref q2), some (.ref qt), none, none, none, none, none, none, none, none, none, none, none, none, none, none, none] rfl ?_
    have n17 := n16.trans n7
    have g7 : Gr B H qt ((ls.filter fun z => !decide (g ∈ [z.1, z.2])).map fun z => (jN1 ls g z.1, jN1 ls g z.2)) B7 H7 := ⟨ws, n17, n16.hh.free h07, b7, hq7, lr7⟩
    have hlz : ((ls.filter fun z => !decide (g ∈ [z.1, z.2])).map fun z => (jN1 ls g z.1, jN1 ls g z.2)).length ≤ 30 := by
      rw [List.length_map]
      exact Nat.le_trans (List.length_filter_le _ _) (Nat.le_of_lt o1.n)
    have hoz : ((os.filter fun z => !decide (d ∈ [z.1, z.2])).map fun z => (jN2 ls g os d z.1, jN2 ls g os d z.2)).length ≤ 30 := by
      rw [List.length_map]
      exact Nat.le_trans (List.length_filter_le _ _) (Nat.le_of_lt o2.n)
    refine rb_extendGr 12 (zs := (os.filter fun z => !decide (d ∈ [z.1, z.2])).map fun z => (jN2 ls g os d z.1, jN2 ls g os d z.2)) g7 ?_ rfl ?_ fun B8 H8 s8 g8 _ _ => ?_
    · refine EvF.to (evf_lc (p := fun z : Lane => !decide (d ∈ [z.1, z.2])) (g := fun z : Lane => (jN2 ls g os d z.1, jN2 ls g os d z.2)) [("_law_a", 20), ("_law_b", 21)] (ei_list (ev_var (x := os) 3 rfl (Rp.mono n17.bb r4))) ?_ sc110.nd) rfl
      exact turnP 20 21 (fun u w => rfl) (fun B8 z va vb s8 hz ra rb s H0 C cl fp => ⟨ets_one (Cm.et (cm_nin (xs := [z.1, z.2]) (ev_var 5 rfl rfl) (EvF.ev (ev_lst (xs := [z.1, z.2]) (eva2 (ev_var 20 rfl ra) (ev_var 21 rfl rb)))))), fun hp => ev_tup2 (eva2
        (ev_unsome (ev_dnGet (k := some z.1) (ev_var 11 rfl (d2 (n7.bb.trans s8))) (ev_some (ev_var 20 rfl ra)) (nmF_at (o2.lan z hz hp).1))) (ev_unsome (ev_dnGet (k := some z.2) (ev_var 11 rfl (d2 (n7.bb.trans s8))) (ev_some (ev_var 21 rfl rb)) (nmF_at (o2.lan z hz hp).2))))⟩) sc110.nd
    · have e : 30 + 30 ≤ 100000 := Nat.le_of_ble_eq_true rfl
      exact Nat.le_trans (Nat.add_le_add hlz hoz) e
    refine rb_appendGr 12 (x := (jN1 ls g (jOne ls g), jN2 ls g os d (jOne os d))) g8 (ev_tup2 (eva2 (ev_unsome (ev_dnGet (k := some (jOne ls g)) (ev_var 10 rfl (d1 (n7.bb.trans s8))) (ev_some (ev_var 8 rfl rfl)) (nmF_at o1.one))) (ev_unsome (ev_dnGet (k := some (jOne os d)) (ev_var 11 rfl (d2 (n7.bb.trans s8))) (ev_some (ev_var 9 rfl rfl)) (nmF_at o2.one))))) rfl ?_ fun B9 H9 s9 g9 _ _ => ?_
    · rw [List.length_append]
      have e : 30 + 30 < 100000 := Nat.le_of_ble_eq_true rfl
      exact Nat.lt_of_le_of_lt (Nat.add_le_add hlz hoz) e
    have s69 : Same B6 B9 := n7.bb.trans (s8.trans s9)
    refine rb_update 10 (B := B9) (f := jFst ls g) (m := (numsOf (jNear ls g) 0).length) (k := g) (v := jN2 ls g os d (jOne os d)) rfl g9.nw.bh (s69 q1 _ b61) (Nat.le_trans hz1 (by decide)) (ev_var 2 rfl rfl) (ev_unsome (ev_dnGet (k := some (jOne os d)) (ev_var 11 rfl (d2 s69)) (ev_some (ev_var 9 rfl rfl)) (nmF_at o2.one))) fun B10 H10 n10 bq10 => ?_
    have g11 := gr_kp (o := DnO P w q1 (jFst' ls g os d) ((numsOf (jNear ls g) 0).length + 2)) (g9.step n10) bq10 h0q1 b0q1
    have c1 : (upd B10 q1 (DnO P w q1 (jFst' ls g os d) ((numsOf (jNear ls g) 0).length + 2))) q1 = some (DnO P w q1 (jFst' ls g os d) ((numsOf (jNear ls g) 0).length + 2)) := upd_same
    have c2 : (upd B10 q1 (DnO P w q1 (jFst' ls g os d) ((numsOf (jNear ls g) 0).length + 2))) q2 = some (DnO P w q2 (jSnd ls g os d) (numsOf (jNear os d) (jNear ls g).length).length) := by
      rw [upd_ne (Ne.symm ne12)]; exact (s69.trans n10.bb) q2 _ b6
    have k7' : R (upd B10 q1 (DnO P w q1 (jFst' ls g os d) ((numsOf (jNear ls g) 0).length + 2))) (jNear ls g) w7 := kp_nats (Rp.mono (s69.trans n10.bb) k7) bq10
    generalize hB11 : upd B10 q1 (DnO P w q1 (jFst' ls g os d) ((numsOf (jNear ls g) 0).length + 2)) = B11 at g11 c1 c2 k7'
    show rdB _ _ _ _ (upd H10 q1 (DnO P w q1 (jFst' ls g os d) ((numsOf (jNear ls g) 0).length + 2)))
    generalize upd H10 q1 (DnO P w q1 (jFst' ls g os d) ((numsOf (jNear ls g) 0).length + 2)) = H11 at g11 ⊢
    refine rb_update 11 (B := B11) (f := jSnd ls g os d) (m := (numsOf (jNear os d) (jNear ls g).length).length) (k := d) (v := jN1 ls g (jOne ls g)) rfl g11.nw.bh c2 (Nat.le_trans hz2 (by decide)) (ev_var 5 rfl rfl) (ev_unsome (ev_dnGet (d := Md.mk (jFst ls g) (numsOf (jNear ls g) 0).length) (k := some (jOne ls g)) (ev_dict (Ev.to (EvF.ev (evf_lc (p := fun _ : Nat × Nat => true) (g := fun z : Nat × Nat => (z.2, z.1)) [("_law_at", 23), ("_law_place", 22)] (ei_enum (ev_var (x := jNear ls g) 6 rfl k7') E.bt.enumerate)
      (turnP 23 22 (fun u w => rfl) (fun B5 z va vb s5 _ ra rb s H0 C cl fp => ⟨ets_nil, fun _ => ev_tup2 (eva2 (ev_var 22 rfl rb) (ev_var 23 rfl ra))⟩) sc110.nd) sc110.nd)) (by rw [filt_true]; unfold numsOf enum; refine List.map_congr_left fun z _ => ?_; rw [Nat.zero_add])) (Nat.le_trans hz1 (by decide)) E.bt.dict) (ev_some (ev_var 8 rfl rfl)) (nmF_at o1.one))) fun B12 H12 n12' bq12 => ?_
    have g13 := gr_kp (o := DnO P w q2 (jSnd' ls g os d) ((numsOf (jNear os d) (jNear ls g).length).length + 2)) (g11.step n12') bq12 h0q2 b0q2
    have e2 : (upd B12 q2 (DnO P w q2 (jSnd' ls g os d) ((numsOf (jNear os d) (jNear ls g).length).length + 2))) q2 = some (DnO P w q2 (jSnd' ls g os d) ((numsOf (jNear os d) (jNear ls g).length).length + 2)) := upd_same
    have e1 : (upd B12 q2 (DnO P w q2 (jSnd' ls g os d) ((numsOf (jNear os d) (jNear ls g).length).length + 2))) q1 = some (DnO P w q1 (jFst' ls g os d) ((numsOf (jNear ls g) 0).length + 2)) := by
      rw [upd_ne ne12]; exact n12'.bb q1 _ c1
    generalize upd B12 q2 (DnO P w q2 (jSnd' ls g os d) ((numsOf (jNear os d) (jNear ls g).length).length + 2)) = B13 at g13 e1 e2
    show rdB _ _ _ _ (upd H12 q2 (DnO P w q2 (jSnd' ls g os d) ((numsOf (jNear os d) (jNear ls g).length).length + 2)))
    generalize upd H12 q2 (DnO P w q2 (jSnd' ls g os d) ((numsOf (jNear os d) (jNear ls g).length).length + 2)) = H13 at g13 ⊢
    obtain ⟨B14, s14, N14, rT, _⟩ := g13.told
    have rT : R B14 (jTied ls g os d) (.ref qt) := rT
    have f1 : R B14 (Md.mk (jFst' ls g os d) ((numsOf (jNear ls g) 0).length + 2) : Md P w) (.ref q1) := ⟨q1, rfl, s14 q1 _ e1⟩
    have f2 : R B14 (Md.mk (jSnd' ls g os d) ((numsOf (jNear os d) (jNear ls g).length).length + 2) : Md P w) (.ref q2) := ⟨q2, rfl, s14 q2 _ e2⟩
    have rbs := Rp.mono N14.bb r2
    have rms := Rp.mono N14.bb r5
    clear s14 e1 e2 g13 c1 c2 g11 g9 g8 g7
    refine rb_setGr 13 (B := B14) (xs := ([] : List Book)) ev_lst0 N14 (fun ql B15 H15 hl15 n15' g15 _ => ?_) sc110.nd
    have s1415 := n15'.bb
    refine rdB_at [some v1, some v2, some (.int (g : Nat)), some v4, some v5, some (.int (d : Nat)), some w7, some w8, some (.int (jOne ls g : Nat)), some (.int (jOne os d : Nat)), some (.ref q1), some (.ref q2), some (.ref qt), some (.ref ql), none, none, none, none, none, none, none, none, none, none, none, none, none, none] rfl ?_
    generalize hxs : ([(Md.mk (jFst' ls g os d) ((numsOf (jNear ls g) 0).length + 2), bs), (Md.mk (jSnd' ls g os d) ((numsOf (jNear os d) (jNear ls g).length).length + 2), ms)] : List (Md P w × List Book)) = xs
    have hx : ∀ z ∈ xs, z.2.length ≤ 100 ∧ ∀ b ∈ z.2, b.length ≤ 100 ∧ ∀ a ∈ b, ∀ c ∈ a.2, (∃ u, z.1.f c.a = some u) ∧ ∃ u, z.1.f c.b = some u := by
      rw [← hxs]
      intro z hz
      rcases List.mem_cons.mp hz with rfl | hz
      · exact ⟨o1.bks.1, fun b hb => ⟨(o1.bks.2 b hb).1, fun a ha c hc => ⟨updF_at ((o1.bks.2 b hb).2 a ha c hc).1, updF_at ((o1.bks.2 b hb).2 a ha c hc).2⟩⟩⟩
      · cases List.mem_singleton.mp hz
        exact ⟨o2.bks.1, fun b hb => ⟨(o2.bks.2 b hb).1, fun a ha c hc => ⟨updF_at ((o2.bks.2 b hb).2 a ha c hc).1, updF_at ((o2.bks.2 b hb).2 a ha c hc).2⟩⟩⟩
    have hxl : xs.length = 2 := by rw [← hxs]; rfl
    have hres : (xs.flatMap fun z : Md P w × List Book => z.2.map fun b : Book => b.map (ledA z.1.f)) = lJoinBooks ls bs g os ms d := by rw [← hxs]; simp [lJoinBooks]
    refine rb_forS (B := B15) (xs := xs) (fun i σ' B16 H16 => ∃ y14 y15 y16 y17 y18 y19, σ' = [some v1, some v2, some (.int (g : Nat)), some v4, some v5, some (.int (d : Nat)), some w7, some w8, some (.int (jOne ls g : Nat)), some (.int (jOne os d : Nat)), some (.ref q1), some (.ref q2), some (.ref qt), some (.ref ql), y14, y15, y16, y17, y18, y19, none, none, none, none, none, none, none, none] ∧ Same B15 B16 ∧ Gr B H ql ((xs.take i).flatMap fun z : Md P w × List Book => z.2.map fun b : Book => b.map (ledA z.1.f)) B16 H16)
      (ei_list ?_) (fun i σ B H B' H' ⟨a1, a2, a3, a4, a5, a6, e, s, N⟩ n => ⟨a1, a2, a3, a4, a5, a6, e, s.trans n.bb, N.step n⟩) (fun i σ B H ⟨_, _, _, _, _, _, _, _, N⟩ => N.nw.bh) ⟨none, none, none, none, none, none, rfl, Same.refl _, g15⟩ PassesOwn.never rfl ?_ ?_
    · rw [← hxs]
      exact EvF.ev (ev_lst (xs := ([(Md.mk (jFst' ls g os d) ((numsOf (jNear ls g) 0).length + 2), bs), (Md.mk (jSnd' ls g os d) ((numsOf (jNear os d) (jNear ls g).length).length + 2), ms)] : List (Md P w × List Book))) (eva2 (ev_tup2 (eva2 (ev_var 10 rfl (Rp.mono s1415 f1)) (ev_var (x := bs) 1 rfl (Rp.mono s1415 rbs)))) (ev_tup2 (eva2 (ev_var 11 rfl (Rp.mono s1415 f2)) (ev_var (x := ms) 4 rfl (Rp.mono s1415 rms))))))
    · rintro B16 s16 i z vz σ' B17 H17 hz s17 ⟨y14, y15, y16, y17, y18, y19, rfl, s15, G⟩ rz
      obtain ⟨hz1, hz2⟩ := hx z (List.mem_of_getElem? hz)
      have hpre : ((xs.take i).flatMap fun z : Md P w × List Book => z.2.map fun b : Book => b.map (ledA z.1.f)).length ≤ 200 := by
        have h1 := flat_le (f := fun z : Md P w × List Book => z.2.map fun b : Book => b.map (ledA z.1.f)) (k := 100) (xs.take i) fun z hz => by rw [List.length_map]; exact (hx z (List.mem_of_mem_take hz)).1
        have h2 : (xs.take i).length ≤ 2 := by rw [List.length_take, hxl]; exact Nat.min_le_right _ _
        exact Nat.le_trans h1 (Nat.mul_le_mul_left 100 h2)
      refine rg_pair 14 15 rz G.nw.bh (fun vn vs rn rs => ?_) sc110.nd
      generalize hP : ((xs.take i).flatMap fun z : Md P w × List Book => z.2.map fun b : Book => b.map (ledA z.1.f)) = pre at G hpre
      refine rdB_at [some v1, some v2, some (.int (g : Nat)), some v4, some v5, some (.int (d : Nat)), some w7, some w8, some (.int (jOne ls g : Nat)), some (.int (jOne os d : Nat)), some (.ref q1), some (.ref q2), some (.ref qt), some (.ref ql), some vn, some vs, y16, y17, y18, y19, none, none, none, none, none, none, none, none] rfl ?_
      refine rb_forS (B := B17) (xs := z.2) (fun j σ' B18 H18 => ∃ y16 y17 y18 y19, σ' = [some v1, some v2, some (.int (g : Nat)), some v4, some v5, some (.int (d : Nat)), some w7, some w8, some (.int (jOne ls g : Nat)), some (.int (jOne os d : Nat)), some (.ref q1), some (.ref q2), some (.ref qt), some (.ref ql), some vn, some vs, y16, y17, y18, y19, none, none, none, none, none, none, none, none] ∧ Same B17 B18 ∧ Gr B H ql (pre ++ (z.2.take j).map fun b : Book => b.map (ledA z.1.f)) B18 H18)
        (ei_list (ev_var (x := z.2) 15 rfl rs)) (fun i σ B H B' H' ⟨a1, a2, a3, a4, e, s, N⟩ n => ⟨a1, a2, a3, a4, e, s.trans n.bb, N.step n⟩) (fun i σ B H ⟨_, _, _, _, _, _, N⟩ => N.nw.bh) ⟨y16, y17, y18, y19, rfl, Same.refl _, by rw [List.take_zero, List.map_nil, List.append_nil]; exact G⟩ PassesOwn.never rfl ?_ ?_
      · rintro B18 s18 j b vb σ' B19 H19 hb s19 ⟨y16, y17, y18, y19, rfl, s1719, G19⟩ rb
        obtain ⟨hb1, hb2⟩ := hz2 b (List.mem_of_getElem? hb)
        refine rg_name 16 (rb_setGr 17 (B := B19) (xs := ([] : Book)) ev_lst0 G19.nw (fun qe B20 H20 hl20 n20 g20 g20' => ?_) sc110.nd) sc110.nd
        have hne := G19.ne g20'
        have rn20 := Rp.mono (s1719.trans n20.bb) rn
        refine rdB_at [some v1, some v2, some (.int (g : Nat)), some v4, some v5, some (.int (d : Nat)), some w7, some w8, some (.int (jOne ls g : Nat)), some (.int (jOne os d : Nat)), some (.ref q1), some (.ref q2), some (.ref qt), some (.ref ql), some vn, some vs, some vb, some (.ref qe), y18, y19, none, none, none, none, none, none, none, none] rfl ?_
        refine rb_forS (B := B20) (xs := b) (fun k σ' B21 H21 => ∃ y18 y19, σ' = [some v1, some v2, some (.int (g : Nat)), some v4, some v5, some (.int (d : Nat)), some w7, some w8, some (.int (jOne ls g : Nat)), some (.int (jOne os d : Nat)), some (.ref q1), some (.ref q2), some (.ref qt), some (.ref ql), some vn, some vs, some vb, some (.ref qe), y18, y19, none, none, none, none, none, none, none, none] ∧ Same B20 B21 ∧ Gr B H ql (pre ++ (z.2.take j).map fun b : Book => b.map (ledA z.1.f)) B21 H21 ∧ Gr B H qe ((b.take k).map (ledA z.1.f)) B21 H21)
          (ei_list (ev_var (x := b) 16 rfl (Rp.mono n20.bb rb))) (fun i σ B H B' H' ⟨a1, a2, e, s, N, M⟩ n => ⟨a1, a2, e, s.trans n.bb, N.step n, M.step n⟩) (fun i σ B H ⟨_, _, _, _, N, _⟩ => N.nw.bh) ⟨y18, y19, rfl, Same.refl _, G19.step n20, g20⟩ PassesOwn.never rfl ?_ ?_
        · rintro B21 s21 k a va σ' B22 H22 ha s22 ⟨y18, y19, rfl, s2022, G22, M22⟩ ra
          have hab := hb2 a (List.mem_of_getElem? ha)
          refine rg_pair 18 19 ra G22.nw.bh (fun vp vbn rp rbn => ?_) sc110.nd
          refine rdB_at [some v1, some v2, some (.int (g : Nat)), some v4, some v5, some (.int (d : Nat)), some w7, some w8, some (.int (jOne ls g : Nat)), some (.int (jOne os d : Nat)), some (.ref q1), some (.ref q2), some (.ref qt), some (.ref ql), some vn, some vs, some vb, some (.ref qe), some vp, some vbn, none, none, none, none, none, none, none, none] rfl ?_
          have rn22 := Rp.mono s2022 rn20
          refine rb_appendGr 17 (x := ledA z.1.f a) M22 ?_ rfl ?_ fun B23 H23 s23 g23 hh23 hid23 => ?_
          · refine ev_tup2 (eva2 (x := a.1) (y := a.2.map (ledB z.1.f)) (ev_var 18 rfl rp) ?_)
            refine Ev.to (EvF.ev (evf_lc (p := fun _ : Bnd => true) (g := ledB z.1.f) [("_law_o", 24), ("_law_t", 25), ("_law_most", 26)] (ei_list (ev_var (x := a.2) 19 rfl rbn)) ?_ sc110.nd)) (by rw [filt_true])
            exact turnT 24 25 26 (fun u w z => rfl) (fun B24 c vx vy vw s24 hc rx ry rw' s H0 C cl fp => ⟨ets_nil, fun _ => ev_tup3 (eva3
              (ev_dnGet (d := z.1) (k := c.a) (ev_var 14 rfl (Rp.mono s24 rn22)) (ev_var 24 rfl rx) (by obtain ⟨u, hu⟩ := (hab c hc).1; unfold ledF; rw [hu]; rfl))
              (ev_dnGet (d := z.1) (k := c.b) (ev_var 14 rfl (Rp.mono s24 rn22)) (ev_var 25 rfl ry) (by obtain ⟨u, hu⟩ := (hab c hc).2; unfold ledF; rw [hu]; rfl)) (ev_var 26 rfl rw'))⟩) sc110.nd
          · rw [List.length_map, List.length_take]
            have e : 100 < 100000 := Nat.lt_of_sub_ne_zero (by decide)
            exact Nat.lt_of_le_of_lt (Nat.le_trans (Nat.min_le_right _ _) hb1) e
          · refine rb_nil ⟨B23, s22.trans s23, some vp, some vbn, rfl, s2022.trans s23, G22.other g23 s23 hh23 hid23 hne, ?_⟩
            rw [take_snoc ha, List.map_append]
            exact g23
        · rintro σ' B21 H21 s21 ⟨y18, y19, rfl, s2021, G21, M21⟩
          rw [take_all] at M21
          obtain ⟨B22, s22, G22, r22⟩ := G21.tell2 M21 hne
          refine rb_appendGr 13 (x := b.map (ledA z.1.f)) G22 (ev_var 17 rfl r22) rfl ?_ fun B23 H23 s23 g23 _ _ => ?_
          · rw [List.length_append, List.length_map, List.length_take]
            have e : 200 + 100 < 100000 := Nat.lt_of_sub_ne_zero (by decide)
            exact Nat.lt_of_le_of_lt (Nat.add_le_add hpre (Nat.le_trans (Nat.min_le_right _ _) hz1)) e
          · refine rb_nil ⟨B23, s19.trans (n20.bb.trans (s2021.trans (s22.trans s23))), some vb, some (.ref qe), y18, y19, rfl, s1719.trans (n20.bb.trans (s2021.trans (s22.trans s23))), ?_⟩
            rw [take_snoc hb, List.map_append, ← List.append_assoc]
            exact g23
      · rintro σ' B18 H18 s18 ⟨y16, y17, y18, y19, rfl, s1718, G18⟩
        rw [take_all] at G18
        refine rb_nil ⟨B18, s17.trans s1718, some vn, some vs, y16, y17, y18, y19, rfl, s15.trans s1718, ?_⟩
        rw [take_snoc hz, List.flatMap_append, List.flatMap_singleton, hP]
        exact G18
    · rintro σ' B16 H16 s16 ⟨y14, y15, y16, y17, y18, y19, rfl, s1516, G⟩
      rw [take_all, hres] at G
      obtain ⟨B17, s17, N17, rD, _⟩ := G.told
      have rT' := Rp.mono (s1415.trans (s1516.trans s17)) rT
      refine rb_ret (B := B17) (x := ((lJoinLanes ls g os d, lJoinBooks ls bs g os ms d) : List Lane × List Book)) ?_ N17.bh fun v' B' H' n r => q v' B' H' (N17.trans n) r
      refine ev_tup2 (eva2 (x := lJoinLanes ls g os d) (y := lJoinBooks ls bs g os ms d) ?_ (ev_var 13 rfl rD))
      refine Ev.to (EvF.ev (evf_sorted (xs := (jTied ls g os d).map fun z : Lane => (min z.1 z.2, max z.1 z.2)) (Ev.to (EvF.ev (evf_lc (p := fun _ : Lane => true) (g := fun z : Lane => (min z.1 z.2, max z.1 z.2)) [("_law_lane", 27)] (ei_list (ev_var (x := jTied ls g os d) 12 rfl rT')) ?_ sc110.nd)) (by rw [filt_true])) hr.units E.bt.sorted)) (srt_lane _)
      exact turnN 27 (fun u => rfl) (fun B18 z vz s18 _ rz s H0 C cl fp => ⟨ets_nil, fun _ => ev_tup2 (eva2 (ev_minP (z := z) (ev_var 27 rfl rz) E.bt.min) (ev_maxP (z := z) (ev_var 27 rfl rz) E.bt.max))⟩) sc110.nd
end
end LK
set_option maxHeartbeats 4000000
/-! ## G1 -/
namespace LK
/-! ### the small shapes -/
theorem small_cty : ∀ ls ∈ smalls, ctyOk ls = true := by decide +kernel
theorem small_facts : ∀ ls ∈ smalls, ls.length < 30 ∧ (lYards ls).length ≤ 100 ∧ (∀ y ∈ lYards ls, ∀ x ∈ lPlaces ls, y ≠ x → (wayLoop ls x 200 [[y]]).isSome = true ∧ 1 < (lWay ls y x).length) ∧ (∀ y ∈ lYards ls, (lBeside ls y).length ≤ 3) ∧ (∀ g ∈ lGates ls, g ∈ lPlaces ls ∧ g ∉ lYards ls) ∧ lGates ls ≠ [] ∧ (lGates ls).length ≤ 1000 := by decide +kernel
theorem small_near : ∀ ls ∈ smalls, ∀ y ∈ lYards ls, lBeside ls y ≠ [] ∧ (lBeside ls y).length ≤ 100 ∧ ∀ x ∈ lBeside ls y, ((lBeside ls y).filter fun z => !decide (z = x)) ≠ [] := by decide +kernel
theorem small_yards : ∀ ls ∈ smalls, yardsIn (cTies ls) = lYards ls ∧ ∀ y ∈ lYards ls, y < (cTies ls).length ∧ rowAt (cTies ls) y = lBeside ls y := by decide +kernel
theorem own_kind : lKind [(0, 1), (1, 2)] [[(2, [])]] 2 = .own := by decide +kernel
theorem clear_kind : lKind [(0, 1), (1, 2)] [[(2, [⟨none, some 2, 1⟩])]] 2 = .clear := by decide +kernel
theorem bad_kind : lKind [(0, 1), (1, 2), (2, 3)] [[(2, [])], [(2, [])]] 3 = .bad := by decide +kernel
theorem lmax_le {k : Nat} {xs : List Nat} (h : ∀ x ∈ xs, x ≤ k) : lmax xs ≤ k := by
  unfold lmax
  have h5 : ∀ (ys : List Nat) (m : Nat), (∀ y ∈ ys, y ≤ k) → m ≤ k → ys.foldl max m ≤ k := by
    intro ys
    induction ys with
    | nil => intro m _ hm; exact hm
    | cons y ys ih => intro m hy hm; exact ih _ (fun z hz => hy z (List.mem_cons_of_mem _ hz)) (Nat.max_le.mpr ⟨hm, hy y (List.mem_cons_self ..)⟩)
  exact h5 xs 0 h (Nat.zero_le _)
theorem good_at {ls : List Lane} {bs : List Book} (h : goodBooks ls bs) {b : Book} (hb : b ∈ bs) : ∃ y ∈ lYards ls, goodBook (lBeside ls y) b := by
  obtain ⟨i, hi⟩ := List.mem_iff_getElem?.mp hb
  have hl : i < (lYards ls).length := by rw [← h.1]; exact lt_of_at hi
  exact ⟨(lYards ls)[i], List.getElem_mem hl, h.2 i _ b (List.getElem?_eq_getElem hl) hi⟩
theorem small_lok {ls : List Lane} (hs : ls ∈ smalls) {bs : List Book} (h : goodBooks ls bs) : LOk ls bs := by
  obtain ⟨f1, f2, f3, f4, _⟩ := small_facts ls hs
  refine ⟨f1, h.1, f2, f3, fun b hb => ?_, f4⟩
  obtain ⟨y, _, g⟩ := good_at h hb
  refine ⟨fun e => by rw [e] at g; exact absurd g.1 (by decide), ?_⟩
  refine lmax_le fun x hx => ?_
  obtain ⟨a, ha, rfl⟩ := List.mem_map.mp hx
  exact Nat.le_trans (g.2.2.1 a ha).2.1 (by decide)
end LK
/-! ## G2 -/
namespace LK
/-! ### loads as lists of carts -/
def ex (l : Load) : List (Nat × Nat) := l.flatMap fun r => List.replicate r.c (r.a, r.b)
theorem fold_and {α : Type} (p : α → Bool) : ∀ (xs : List α) (t : Bool), xs.foldl (fun f b => f && p b) t = (t && xs.all p)
  | [], t => by simp
  | x :: xs, t => by rw [List.foldl_cons, fold_and p xs, List.all_cons, Bool.and_assoc]
theorem fits_eq (a : Alt) (l : List (Nat × Nat)) : letsFits a l = (decide (l.length ≤ a.1) && a.2.all fun b => decide ((l.filter (lHit b)).length ≤ b.c)) := by
  unfold letsFits
  exact fold_and _ _ _
theorem weight_ex : ∀ l : Load, weight l = (ex l).length
  | [] => rfl
  | r :: l => by
    have := weight_ex l
    unfold weight ex at *
    rw [List.map_cons, List.sum_cons, List.flatMap_cons, List.length_append, List.length_replicate, this]
theorem many_ex (b : Bnd) : ∀ (l : Load) (n : Nat), l.foldl (fun n r => if hits b.a b.b r then n + r.c else n) n = n + ((ex l).filter (lHit b)).length
  | [], n => rfl
  | r :: l, n => by
    rw [List.foldl_cons, many_ex b l]
    unfold ex
    rw [List.flatMap_cons, List.filter_append, List.length_append, List.filter_replicate]
    have e : lHit b (r.a, r.b) = hits b.a b.b r := rfl
    rw [e]
    cases hits b.a b.b r with
    | true => rw [if_pos rfl, if_pos rfl, List.length_replicate]; omega
    | false => rw [if_neg (by decide), if_neg (by decide), List.length_nil]; omega
theorem stands_one (a : Alt) (l : Load) : standsOne a l = letsFits a (ex l) := by
  rw [fits_eq]
  unfold standsOne
  rw [weight_ex]
  congr 1
  · rw [Bool.eq_iff_iff]; simp
  · rw [List.all_map]
    congr 1
    funext b
    show keeps b l = _
    unfold keeps manyOf
    rw [many_ex, Nat.zero_add]
theorem stands_ex (b : Book) (l : Load) : standsBy b l = lLets b (ex l) := by
  unfold standsBy lLets
  congr 1
  funext a
  exact stands_one a l
theorem fits_perm {a : Alt} {l l' : List (Nat × Nat)} (h : l.Perm l') : letsFits a l = letsFits a l' := by
  rw [fits_eq, fits_eq, h.length_eq]
  congr 2
  funext b
  rw [(h.filter _).length_eq]
theorem lets_perm {b : Book} {l l' : List (Nat × Nat)} (h : l.Perm l') : lLets b l = lLets b l' := by
  unfold lLets
  congr 1
  funext a
  exact fits_perm h
/-- fewer carts fit all the more -/
theorem fits_app {a : Alt} {l m : List (Nat × Nat)} (h : letsFits a (l ++ m) = true) : letsFits a l = true := by
  rw [fits_eq] at h ⊢
  simp only [Bool.and_eq_true, decide_eq_true_eq, List.all_eq_true, List.length_append, List.filter_append] at h ⊢
  exact ⟨by omega, fun b hb => by have := h.2 b hb; omega⟩
theorem lets_app_left {b : Book} {l m : List (Nat × Nat)} (h : lLets b (l ++ m) = true) : lLets b l = true := by
  unfold lLets at h ⊢
  rw [List.any_eq_true] at h ⊢
  obtain ⟨a, ha, h⟩ := h
  exact ⟨a, ha, fits_app h⟩
theorem lets_most {b : Book} {l : List (Nat × Nat)} (h : lLets b l = true) : l.length ≤ lMost b := by
  unfold lLets at h
  rw [List.any_eq_true] at h
  obtain ⟨a, ha, h⟩ := h
  rw [fits_eq] at h
  simp only [Bool.and_eq_true, decide_eq_true_eq] at h
  exact Nat.le_trans h.1 ((le_foldl_max (b.map fun a => a.1) 0).2 _ (List.mem_map.mpr ⟨a, ha, rfl⟩))
/-- one cart more -/
theorem ex_append (l m : Load) : ex (l ++ m) = ex l ++ ex m := List.flatMap_append
theorem count_fold (o t : Nat) : ∀ (l : Load) (n : Nat), l.foldl (fun n r => if isPair o t r then n + r.c else n) n = n + ((l.filter (isPair o t)).map fun r => r.c).sum
  | [], n => rfl
  | r :: l, n => by
    rw [List.foldl_cons, count_fold o t l]
    cases h : isPair o t r with
    | true => rw [if_pos rfl, List.filter_cons_of_pos h, List.map_cons, List.sum_cons]; omega
    | false => rw [if_neg (by decide), List.filter_cons_of_neg (by rw [h]; decide)]
theorem ex_pairs (o t : Nat) : ∀ l : Load, ex (l.filter (isPair o t)) = List.replicate ((l.filter (isPair o t)).map fun r => r.c).sum (o, t)
  | [] => rfl
  | r :: l => by
    cases h : isPair o t r with
    | true =>
      have e : (r.a, r.b) = (o, t) := of_decide_eq_true h
      rw [List.filter_cons_of_pos h, List.map_cons, List.sum_cons, ← List.replicate_append_replicate, ← ex_pairs o t l]
      show List.replicate r.c (r.a, r.b) ++ ex (l.filter (isPair o t)) = _
      rw [e]
    | false => rw [List.filter_cons_of_neg (by rw [h]; decide)]; exact ex_pairs o t l
theorem ex_perm {l m : Load} (h : l.Perm m) : (ex l).Perm (ex m) := h.flatMap_right _
theorem filter_perm {α : Type} (p : α → Bool) : ∀ l : List α, (l.filter p ++ l.filter fun x => !p x).Perm l
  | [] => List.Perm.nil
  | x :: l => by
    cases h : p x with
    | true =>
      rw [List.filter_cons_of_pos h, List.filter_cons_of_neg (by rw [h]; decide), List.cons_append]
      exact (filter_perm p l).cons x
    | false =>
      rw [List.filter_cons_of_neg (by rw [h]; decide), List.filter_cons_of_pos (by rw [h]; rfl)]
      exact List.perm_middle.trans ((filter_perm p l).cons x)
theorem ex_plusRaw (l : Load) (o t : Nat) : (ex (plusRaw l o t)).Perm (ex l ++ [(o, t)]) := by
  unfold plusRaw
  rw [ex_append, count_fold]
  have e1 : ex [(⟨o, t, 1 + ((l.filter (isPair o t)).map fun r => r.c).sum⟩ : T3 Nat Nat Nat)] = ex (l.filter (isPair o t)) ++ [(o, t)] := by
    rw [ex_pairs]
    show List.replicate (1 + _) (o, t) ++ [] = _
    rw [List.append_nil, Nat.add_comm, ← List.replicate_append_replicate]
    rfl
  rw [e1, ← List.append_assoc]
  refine List.Perm.append_right _ ?_
  rw [← ex_append]
  exact ex_perm (List.perm_append_comm.trans (filter_perm (isPair o t) l))
theorem ex_plusCart (l : Load) (o t : Nat) : (ex (plusCart l o t)).Perm (ex l ++ [(o, t)]) := (ex_perm (srt_perm _)).trans (ex_plusRaw l o t)
end LK
/-! ## G3 -/
namespace LK
/-! ### drawn books are taken -/
theorem bookOk_good {near : List Nat} {b : Book} (h : goodBook near b) : bookOk near b = true := by
  obtain ⟨h1, h2, h3, h4⟩ := h
  unfold bookOk
  simp only [Bool.and_eq_true, decide_eq_true_eq, List.all_eq_true]
  refine ⟨⟨⟨h1, by omega⟩, fun a ha => ?_⟩, fun q hq => ?_⟩
  · obtain ⟨a1, a2, a3, a4⟩ := h3 a ha
    unfold altOk
    simp only [Bool.and_eq_true, decide_eq_true_eq, List.all_eq_true]
    refine ⟨⟨⟨a1, by omega⟩, by omega⟩, fun z hz => ?_⟩
    obtain ⟨b1, b2, b3, b4⟩ := a4 z hz
    unfold bndOk
    simp only [Bool.and_eq_true, decide_eq_true_eq]
    exact ⟨⟨⟨by omega, b2⟩, b3⟩, b4⟩
  · rw [stands_ex]
    exact h4 q hq
theorem good_booksOk {ls : List Lane} (hs : ls ∈ smalls) {bs : List Book} (h : goodBooks ls bs) : booksOk (cTies ls) bs = true := by
  obtain ⟨e, hy⟩ := small_yards ls hs
  unfold booksOk
  rw [e]
  simp only [Bool.and_eq_true, decide_eq_true_eq, List.all_eq_true]
  refine ⟨h.1, fun z hz => ?_⟩
  obtain ⟨i, hi⟩ := List.mem_iff_getElem?.mp hz
  rw [List.getElem?_zip_eq_some] at hi
  obtain ⟨f1, f2⟩ := hy z.1 (List.mem_of_getElem? hi.1)
  rw [f2]
  exact ⟨⟨f1, (small_near ls hs z.1 (List.mem_of_getElem? hi.1)).2.1⟩, bookOk_good (h.2 i _ _ hi.1 hi.2)⟩
/-! ### what it is to be plugged -/
def Plug (b : Book) (oth : List Nat) (t : Nat) : Prop := ∃ lot : List Nat, lot ≠ [] ∧ (∀ o ∈ lot, o ∈ oth) ∧ lLets b (lot.map fun o => (o, t)) = true ∧ ∃ z ∈ oth, lLets b ((lot.map fun o => (o, t)) ++ [(t, z)]) = false
theorem lots_mem {oth : List Nat} : ∀ (n : Nat), ∀ l ∈ lots oth n, ∀ o ∈ l, o ∈ oth
  | 0, l, h, o, ho => by cases List.mem_singleton.mp h; cases ho
  | n + 1, l, h, o, ho => by
    unfold lots lotsStep at h
    obtain ⟨lot, h1, h2⟩ := List.mem_flatMap.mp h
    obtain ⟨t, ht, rfl⟩ := List.mem_map.mp h2
    rcases List.mem_append.mp ho with h3 | h3
    · exact lots_mem n lot h1 o h3
    · cases List.mem_singleton.mp h3
      exact (List.mem_filter.mp ht).1
theorem lots_all {oth : List Nat} : ∀ (n : Nat) (l : List Nat), l.length = n → l.Pairwise (· ≤ ·) → (∀ o ∈ l, o ∈ oth) → l ∈ lots oth n
  | 0, l, hl, _, _ => by rw [List.eq_nil_of_length_eq_zero hl]; exact List.mem_singleton.mpr rfl
  | n + 1, l, hl, hp, hm => by
    have hne : l ≠ [] := by intro e; rw [e] at hl; cases hl
    obtain ⟨init, x, rfl⟩ : ∃ init x, l = init ++ [x] := ⟨l.dropLast, l.getLast hne, (List.dropLast_concat_getLast hne).symm⟩
    rw [List.length_append, List.length_singleton] at hl
    rw [List.pairwise_append] at hp
    unfold lots lotsStep
    refine List.mem_flatMap.mpr ⟨init, lots_all n init (by omega) hp.1 (fun o ho => hm o (List.mem_append_left _ ho)), List.mem_map.mpr ⟨x, List.mem_filter.mpr ⟨hm x (List.mem_append_right _ (List.mem_singleton.mpr rfl)), ?_⟩, rfl⟩⟩
    cases hi : init with
    | nil => rfl
    | cons a r =>
      have hl2 : (a :: r).getLast?.getD 0 ∈ init := by rw [List.getLast?_eq_some_getLast (List.cons_ne_nil a r), hi]; exact List.getLast_mem _
      rw [Bool.or_eq_true]
      exact .inr (decide_eq_true (hp.2.2 _ hl2 x (List.mem_singleton.mpr rfl)))
theorem nsort_sorted (xs : List Nat) : (nsort xs).Pairwise (· ≤ ·) := by
  have h := isort_sorted (le := nle) (fun a b c h1 h2 => by unfold nle at *; simp only [decide_eq_true_eq] at *; omega) (fun a b => by unfold nle; simp only [Bool.or_eq_true, decide_eq_true_eq]; omega) xs
  exact h.imp fun h => of_decide_eq_true h
theorem lPlug_iff {b : Book} {oth : List Nat} {t : Nat} : lPlugIn b oth t = true ↔ Plug b oth t := by
  unfold lPlugIn
  constructor
  · intro h
    rw [List.any_eq_true] at h
    obtain ⟨n, hn, h⟩ := h
    rw [List.any_eq_true] at h
    obtain ⟨lot, hlot, h⟩ := h
    obtain ⟨k, _, rfl⟩ := List.mem_map.mp hn
    unfold lPlugAt at h
    simp only [Bool.and_eq_true, Bool.not_eq_true'] at h
    have hlen := lots_each _ lot hlot
    refine ⟨lot, fun e => by rw [e] at hlen; simp at hlen; omega, lots_mem _ lot hlot, h.1, ?_⟩
    have h2 := h.2
    rw [List.all_map, List.all_eq_false] at h2
    obtain ⟨z, hz, h3⟩ := h2
    exact ⟨z, hz, by simpa using h3⟩
  · rintro ⟨lot, hne, hm, h1, z, hz, h2⟩
    have hp : (nsort lot).Perm lot := isort_perm nle lot
    have hpm : ((nsort lot).map fun o => (o, t)).Perm (lot.map fun o => (o, t)) := hp.map _
    have hl := lets_most h1
    rw [List.length_map] at hl
    have hpos : 0 < lot.length := List.length_pos_iff.mpr hne
    rw [List.any_eq_true]
    refine ⟨lot.length, List.mem_map.mpr ⟨lot.length - 1, List.mem_range.mpr (by omega), by omega⟩, ?_⟩
    rw [List.any_eq_true]
    refine ⟨nsort lot, lots_all _ _ hp.length_eq (nsort_sorted lot) (fun o ho => hm o (hp.mem_iff.mp ho)), ?_⟩
    unfold lPlugAt
    simp only [Bool.and_eq_true, Bool.not_eq_true']
    refine ⟨by rw [lets_perm hpm]; exact h1, ?_⟩
    rw [List.all_map, List.all_eq_false]
    refine ⟨z, hz, ?_⟩
    show ¬ id (lLets b (((nsort lot).map fun o => (o, t)) ++ [(t, z)])) = true
    rw [lets_perm (hpm.append_right _), h2]
    decide
end LK
/-! ## G4 -/
namespace LK
/-! ### the program's plugs -/
section
variable {b : Book} {ps : List (Nat × Nat)}
def levs (b : Book) (ps : List (Nat × Nat)) : Nat → List (Load × Nat) → List (Load × Nat)
  | 0, l => l
  | n + 1, l => levs b ps n (nextAll srt b ps l)
theorem levs_succ : ∀ (n : Nat) (l : List (Load × Nat)), levs b ps (n + 1) l = nextAll srt b ps (levs b ps n l)
  | 0, l => rfl
  | n + 1, l => levs_succ n (nextAll srt b ps l)
theorem levs_nil : ∀ n : Nat, levs b ps n [] = []
  | 0 => rfl
  | n + 1 => levs_nil n
theorem stand_rest : ∀ (m : Nat) (fnd : List Load) (lst : List (Load × Nat)) (res : List Load), standLoop srt b ps m fnd lst = some res → ∃ rest, res = fnd ++ rest ∧ ∀ l, l ∈ rest ↔ ∃ k at', (l, at') ∈ levs b ps (k + 1) lst
  | m, fnd, [], res, h => by
    have e : fnd = res := by cases m <;> (unfold standLoop at h; exact Option.some.inj h)
    refine ⟨[], by rw [e, List.append_nil], fun l => ⟨(fun h => by cases h), fun ⟨k, a, h⟩ => ?_⟩⟩
    rw [levs_nil] at h
    cases h
  | 0, fnd, x :: xs, res, h => by unfold standLoop at h; cases h
  | m + 1, fnd, x :: xs, res, h => by
    unfold standLoop at h
    obtain ⟨rest, e, hr⟩ := stand_rest m _ _ res h
    refine ⟨(nextAll srt b ps (x :: xs)).map (·.1) ++ rest, by rw [e, List.append_assoc], fun l => ?_⟩
    rw [List.mem_append, hr]
    constructor
    · rintro (h | ⟨k, a, h⟩)
      · obtain ⟨⟨l', a⟩, h', rfl⟩ := List.mem_map.mp h
        exact ⟨0, a, h'⟩
      · exact ⟨k + 1, a, h⟩
    · rintro ⟨k, a, h⟩
      cases k with
      | zero => exact .inl (List.mem_map.mpr ⟨(l, a), h, rfl⟩)
      | succ k => exact .inr ⟨k, a, h⟩
abbrev prAt (ps : List (Nat × Nat)) (j : Nat) : Nat × Nat := ps.getD j (0, 0)
theorem next_mem {z : Load × Nat} {last : List (Load × Nat)} : z ∈ nextAll srt b ps last ↔ ∃ l a j, (l, a) ∈ last ∧ a ≤ j ∧ j < ps.length ∧ lLets b (ex l ++ [prAt ps j]) = true ∧ z = (plusCart l (prAt ps j).1 (prAt ps j).2, j) := by
  have key : ∀ (l : Load) (j : Nat), standsBy b (srt (plusRaw l (prAt ps j).1 (prAt ps j).2)) = lLets b (ex l ++ [prAt ps j]) := fun l j => by
    rw [stands_ex]
    exact lets_perm (ex_plusCart l _ _)
  unfold nextAll
  rw [List.mem_flatMap]
  constructor
  · rintro ⟨⟨l, a⟩, h1, h2⟩
    unfold nextOf at h2
    obtain ⟨j, hj, h3⟩ := List.mem_filterMap.mp h2
    obtain ⟨i, hi, rfl⟩ := List.mem_map.mp hj
    have hi := List.mem_range.mp hi
    unfold nextOne at h3
    split at h3
    · rename_i hs
      cases h3
      exact ⟨l, a, a + i, h1, Nat.le_add_right _ _, by simp only at hi; omega, by rw [← key]; exact hs, rfl⟩
    · cases h3
  · rintro ⟨l, a, j, h1, h2, h3, h4, rfl⟩
    refine ⟨(l, a), h1, ?_⟩
    unfold nextOf
    refine List.mem_filterMap.mpr ⟨j, List.mem_map.mpr ⟨j - a, List.mem_range.mpr (by show j - a < ps.length - a; omega), by show a + (j - a) = j; omega⟩, ?_⟩
    unfold nextOne
    rw [if_pos (by show standsBy b (srt (plusRaw l (prAt ps j).1 (prAt ps j).2)) = true; rw [key]; exact h4)]
    rfl
theorem lev_sound : ∀ (k : Nat) (l : Load) (a : Nat), (l, a) ∈ levs b ps k [([], 0)] → ∃ js : List Nat, js.length = k ∧ (∀ j ∈ js, j < ps.length) ∧ (ex l).Perm (js.map (prAt ps)) ∧ (0 < k → lLets b (ex l) = true)
  | 0, l, a, h => by
    cases List.mem_singleton.mp h
    exact ⟨[], rfl, (fun j h => by cases h), List.Perm.nil, fun h => absurd h (by decide)⟩
  | k + 1, l, a, h => by
    rw [levs_succ] at h
    obtain ⟨l', a', j, h1, h2, h3, h4, e⟩ := next_mem.mp h
    cases e
    obtain ⟨js, g1, g2, g3, g4⟩ := lev_sound k l' a' h1
    have hp := ex_plusCart l' (prAt ps a).1 (prAt ps a).2
    refine ⟨js ++ [a], by rw [List.length_append, g1]; rfl, fun i hi => ?_, ?_, fun _ => ?_⟩
    · rcases List.mem_append.mp hi with h | h
      · exact g2 i h
      · cases List.mem_singleton.mp h; exact h3
    · rw [List.map_append]
      exact hp.trans (g3.append_right _)
    · rw [lets_perm hp]; exact h4
theorem lev_complete : ∀ (k : Nat) (js : List Nat), js.length = k → js.Pairwise (· ≤ ·) → (∀ j ∈ js, j < ps.length) → lLets b (js.map (prAt ps)) = true → ∃ l, (l, js.getLast?.getD 0) ∈ levs b ps k [([], 0)] ∧ (ex l).Perm (js.map (prAt ps))
  | 0, js, hl, _, _, _ => by
    rw [List.eq_nil_of_length_eq_zero hl]
    exact ⟨[], List.mem_singleton.mpr rfl, List.Perm.nil⟩
  | k + 1, js, hl, hp, hm, hs => by
    have hne : js ≠ [] := by intro e; rw [e] at hl; cases hl
    obtain ⟨init, x, rfl⟩ : ∃ init x, js = init ++ [x] := ⟨js.dropLast, js.getLast hne, (List.dropLast_concat_getLast hne).symm⟩
    rw [List.length_append, List.length_singleton] at hl
    rw [List.pairwise_append] at hp
    rw [List.map_append] at hs
    obtain ⟨l, h1, h2⟩ := lev_complete k init (by omega) hp.1 (fun j hj => hm j (List.mem_append_left _ hj)) (lets_app_left hs)
    have hlast : init.getLast?.getD 0 ≤ x := by
      cases hi : init with
      | nil => exact Nat.zero_le _
      | cons a r =>
        have hl2 : (a :: r).getLast?.getD 0 ∈ init := by rw [List.getLast?_eq_some_getLast (List.cons_ne_nil a r), hi]; exact List.getLast_mem _
        exact hp.2.2 _ hl2 x (List.mem_singleton.mpr rfl)
    have hperm : (ex l ++ [prAt ps x]).Perm (init.map (prAt ps) ++ [x].map (prAt ps)) := h2.append_right _
    refine ⟨plusCart l (prAt ps x).1 (prAt ps x).2, ?_, ?_⟩
    · rw [levs_succ]
      refine next_mem.mpr ⟨l, init.getLast?.getD 0, x, h1, hlast, hm x (List.mem_append_right _ (List.mem_singleton.mpr rfl)), by rw [lets_perm hperm]; exact hs, ?_⟩
      rw [List.getLast?_append]
      rfl
    · rw [List.map_append]
      exact (ex_plusCart l _ _).trans hperm
end
theorem mem_pairsTo {near : List Nat} {t : Nat} (ht : t ∈ near) {q : Nat × Nat} : q ∈ pairsTo near t ↔ q.2 = t ∧ q.1 ∈ others near t := by
  unfold pairsTo pairsAt others
  rw [List.mem_filter, List.mem_flatMap]
  simp only [List.mem_map, List.mem_filter, Bool.not_eq_true', decide_eq_false_iff_not, decide_eq_true_eq]
  constructor
  · rintro ⟨⟨o, ho, x, ⟨hx, hne⟩, rfl⟩, h2⟩
    exact ⟨h2, ho, fun e => hne (by rw [show x = t from h2]; exact e.symm)⟩
  · rintro ⟨h1, h2, h3⟩
    exact ⟨⟨q.1, h2, t, ⟨ht, fun e => h3 e.symm⟩, by rw [← h1]⟩, h1⟩
theorem toLoads_iff {b : Book} {near : List Nat} {t : Nat} (ht : t ∈ near) (hst : (standing srt b (pairsTo near t)).isSome = true) (P : List (Nat × Nat) → Prop) (hP : ∀ l m : List (Nat × Nat), l.Perm m → (P l ↔ P m)) :
    (∃ l ∈ toLoads b near t, P (ex l)) ↔ ∃ lot : List Nat, lot ≠ [] ∧ (∀ o ∈ lot, o ∈ others near t) ∧ lLets b (lot.map fun o => (o, t)) = true ∧ P (lot.map fun o => (o, t)) := by
  obtain ⟨res, hres⟩ := Option.isSome_iff_exists.mp hst
  obtain ⟨rest, e, hr⟩ := stand_rest 8 _ _ res hres
  have hmem : ∀ l, l ∈ toLoads b near t ↔ ∃ k a, (l, a) ∈ levs b (pairsTo near t) (k + 1) [([], 0)] := fun l => by
    unfold toLoads
    rw [(srt_perm _).mem_iff, hres]
    show l ∈ res.drop 1 ↔ _
    rw [e]
    exact hr l
  constructor
  · rintro ⟨l, hl, hp⟩
    obtain ⟨k, a, h⟩ := (hmem l).mp hl
    obtain ⟨js, g1, g2, g3, g4⟩ := lev_sound (k + 1) l a h
    have hj : ∀ j ∈ js, prAt (pairsTo near t) j ∈ pairsTo near t := fun j hj => List.mem_of_getElem? (getD_at (d := (0, 0)) (g2 j hj))
    have em : js.map (prAt (pairsTo near t)) = (js.map fun j => (prAt (pairsTo near t) j).1).map fun o => (o, t) := by
      rw [List.map_map]
      refine List.map_congr_left fun j hj' => ?_
      have := (mem_pairsTo ht).mp (hj j hj')
      exact Prod.ext rfl this.1
    rw [em] at g3
    refine ⟨js.map fun j => (prAt (pairsTo near t) j).1, fun e => ?_, fun o ho => ?_, by rw [← lets_perm g3]; exact g4 (Nat.succ_pos k), (hP _ _ g3).mp hp⟩
    · rw [List.map_eq_nil_iff.mp e] at g1; cases g1
    · obtain ⟨j, hj', rfl⟩ := List.mem_map.mp ho
      exact ((mem_pairsTo ht).mp (hj j hj')).2
  · rintro ⟨lot, hne, hm, hl, hp⟩
    have hix : ∀ o ∈ lot, (pairsTo near t).idxOf (o, t) < (pairsTo near t).length := fun o ho => List.idxOf_lt_length_of_mem ((mem_pairsTo ht).mpr ⟨rfl, hm o ho⟩)
    have hget : ∀ o ∈ lot, prAt (pairsTo near t) ((pairsTo near t).idxOf (o, t)) = (o, t) := fun o ho => by
      show (pairsTo near t).getD _ (0, 0) = _
      rw [List.getD_eq_getElem?_getD, List.getElem?_eq_getElem (hix o ho), List.getElem_idxOf]
      rfl
    have hp1 : (nsort (lot.map fun o => (pairsTo near t).idxOf (o, t))).Perm (lot.map fun o => (pairsTo near t).idxOf (o, t)) := isort_perm nle _
    have hp2 : ((nsort (lot.map fun o => (pairsTo near t).idxOf (o, t))).map (prAt (pairsTo near t))).Perm (lot.map fun o => (o, t)) := by
      refine (hp1.map _).trans ?_
      have e2 : (lot.map fun o => (pairsTo near t).idxOf (o, t)).map (prAt (pairsTo near t)) = lot.map fun o => (o, t) := by
        rw [List.map_map]
        exact List.map_congr_left fun o ho => hget o ho
      rw [e2]
    obtain ⟨l, h1, h2⟩ := lev_complete (b := b) (ps := pairsTo near t) lot.length (nsort (lot.map fun o => (pairsTo near t).idxOf (o, t))) (by rw [hp1.length_eq, List.length_map]) (nsort_sorted _) (fun j hj => by
      obtain ⟨o, ho, rfl⟩ := List.mem_map.mp (hp1.mem_iff.mp hj)
      exact hix o ho) (by rw [lets_perm hp2]; exact hl)
    have hpos : 0 < lot.length := List.length_pos_iff.mpr hne
    refine ⟨l, (hmem l).mpr ⟨lot.length - 1, _, by rw [Nat.sub_add_cancel hpos]; exact h1⟩, (hP _ _ (h2.trans hp2)).mpr hp⟩
theorem hasPlug_iff {b : Book} {near : List Nat} {t : Nat} (ht : t ∈ near) (hst : (standing srt b (pairsTo near t)).isSome = true) : hasPlug b near t = true ↔ Plug b (others near t) t := by
  have h := toLoads_iff ht hst (fun m => ∃ z ∈ others near t, lLets b (m ++ [(t, z)]) = false) (fun l m hp => by
    constructor
    · rintro ⟨z, hz, h⟩; exact ⟨z, hz, by rw [← lets_perm (hp.append_right _)]; exact h⟩
    · rintro ⟨z, hz, h⟩; exact ⟨z, hz, by rw [lets_perm (hp.append_right _)]; exact h⟩)
  unfold Plug
  rw [← h]
  unfold hasPlug
  simp only [List.any_eq_true]
  have hs : ∀ (l : Load) (p : Nat), isShut b t l p = true ↔ lLets b (ex l ++ [(t, p)]) = false := fun l p => by
    unfold isShut
    rw [stands_ex, lets_perm (ex_plusCart l t p)]
    simp
  simp only [hs]
theorem witness_iff {b : Book} {near : List Nat} {t : Nat} : (witness b near t).isSome = hasPlug b near t := by
  rw [Bool.eq_iff_iff]
  unfold witness hasPlug
  rw [List.findSome?_isSome_iff]
  simp only [List.any_eq_true]
  constructor
  · rintro ⟨z, hz, h⟩
    obtain ⟨l, hl, rfl⟩ := List.mem_map.mp ((srt_perm _).mem_iff.mp hz)
    unfold shutAt at h
    rw [Option.isSome_map, List.find?_isSome] at h
    exact ⟨l, hl, h⟩
  · rintro ⟨l, hl, h⟩
    refine ⟨(weight l, l), (srt_perm _).mem_iff.mpr (List.mem_map.mpr ⟨l, hl, rfl⟩), ?_⟩
    unfold shutAt
    rw [Option.isSome_map, List.find?_isSome]
    exact h
end LK
/-! ## G5 -/
namespace LK
/-! ### all that a web of a known shape asks -/
theorem stand_some {b : Book} {ps : List (Nat × Nat)} : ∀ (m : Nat) (fnd : List Load) (lst : List (Load × Nat)), levs b ps m lst = [] → (standLoop srt b ps m fnd lst).isSome = true
  | 0, fnd, lst, h => by
    rw [show lst = [] from h]
    rfl
  | m + 1, fnd, [], h => rfl
  | m + 1, fnd, x :: xs, h => by
    unfold standLoop
    exact stand_some m _ _ h
theorem standing_some {b : Book} {ps : List (Nat × Nat)} (h : lMost b < 8) : (standing srt b ps).isSome = true := by
  refine stand_some 8 _ _ ?_
  cases he : levs b ps 8 [([], 0)] with
  | nil => rfl
  | cons z r =>
    obtain ⟨js, g1, g2, g3, g4⟩ := lev_sound (b := b) (ps := ps) 8 z.1 z.2 (by rw [he]; exact List.mem_cons_self ..)
    have h1 := lets_most (g4 (by decide))
    rw [g3.length_eq, List.length_map, g1] at h1
    omega
/-- what is asked of lanes alone -/
def geo (ls : List Lane) : Bool :=
  decide ((cTies ls).length ≤ 100) && ((cTies ls).all fun r => decide (r.length ≤ 4) && r.all fun p => decide (p < (cTies ls).length)) &&
  ((yardsIn (cTies ls)).all fun y => (rowAt (cTies ls) y).all fun t => decide ((pairsTo (rowAt (cTies ls) y) t).length ≤ 3)) &&
  ((yardSides (cTies ls)).all fun s => behindOk (cTies ls) s.1 s.2) &&
  ((yardsIn (cTies ls)).all fun y => (List.range (cTies ls).length).all fun g => decide (g = y) || (decide (g < (cAhead ls).length) && decide (y < ((cAhead ls).getD g []).length) && decide (((cAhead ls).getD g []).getD y 0 ∈ rowAt (cTies ls) y)))
theorem wok_of {C W : PySem.Addr} {ls : List Lane} {bs : List Book} (h : geo ls = true) (hl : bs.length = (yardsIn (cTies ls)).length) (hb : ∀ b ∈ bs, lMost b < 8) : WOk (mkWb W (mkCty C ls) bs) := by
  unfold geo at h
  simp only [Bool.and_eq_true, decide_eq_true_eq, List.all_eq_true, Bool.or_eq_true, List.mem_range] at h
  obtain ⟨⟨⟨⟨h1, h2⟩, h3⟩, h4⟩, h5⟩ := h
  refine ⟨hl, h1, fun r hr => (h2 r hr).1, fun r hr => (h2 r hr).2, h3, fun y hy t ht => standing_some ?_, h4, fun y hy g hg hne => ?_⟩
  · have hi : (yardsIn (cTies ls)).idxOf y < bs.length := by rw [hl]; exact List.idxOf_lt_length_of_mem hy
    exact hb _ (List.mem_of_getElem? (getD_at (d := ([] : Book)) hi))
  · rcases h5 y hy g hg with e | e
    · exact absurd e hne
    · exact ⟨e.1.1, e.1.2, e.2⟩
theorem small_geo : ∀ ls ∈ smalls, geo ls = true := by decide +kernel
theorem good_most {ls : List Lane} {bs : List Book} (h : goodBooks ls bs) : ∀ b ∈ bs, lMost b ≤ 3 := fun b hb => by
  obtain ⟨y, _, g⟩ := good_at h hb
  refine lmax_le fun x hx => ?_
  obtain ⟨a, ha, rfl⟩ := List.mem_map.mp hx
  exact (g.2.2.1 a ha).2.1
theorem small_wok {C W : PySem.Addr} {ls : List Lane} (hs : ls ∈ smalls) {bs : List Book} (h : goodBooks ls bs) : WOk (mkWb W (mkCty C ls) bs) :=
  wok_of (small_geo ls hs) (by rw [(small_yards ls hs).1]; exact h.1) fun b hb => Nat.lt_of_le_of_lt (good_most h b hb) (by decide)
theorem plug_eq {b : Book} {near : List Nat} {t : Nat} (ht : t ∈ near) (hm : lMost b < 8) : hasPlug b near t = lPlugIn b (others near t) t := by
  rw [Bool.eq_iff_iff, hasPlug_iff ht (standing_some hm), lPlug_iff]
end LK
/-! ## G6 -/
namespace LK
/-! ### the program's answers are the law's -/
def geo2 (ls : List Lane) : Bool :=
  decide (yardsIn (cTies ls) = lYards ls) && ((lYards ls).all fun y => decide (rowAt (cTies ls) y = lBeside ls y)) && decide (lYards ls).Nodup &&
  ((yardSides (cTies ls)).all fun s => (lYards ls).all fun x => decide (x ∈ yardsBehind (cTies ls) s.1 s.2) == (decide (x = s.1) || !decide (lStep ls s.1 x = s.2))) &&
  ((lYards ls).all fun y => (lYards ls).all fun x => decide (y = x) || decide ((y, lStep ls y x) ∈ yardSides (cTies ls))) &&
  ((lYards ls).all fun y => (lGates ls).all fun g => decide (stepTo (cAhead ls) y g = lStep ls y g) && decide (lStep ls y g ∈ lBeside ls y))
theorem small_geo2 : ∀ ls ∈ smalls, geo2 ls = true := by decide +kernel
def PP (ls : List Lane) (bs : List Book) (y t : Nat) : Bool := lPlugIn (bs.getD ((lYards ls).idxOf y) []) (others (lBeside ls y) t) t
theorem enum_idx {xs : List Nat} (hn : xs.Nodup) {z : Nat × Nat} (h : z ∈ enum xs) : xs.idxOf z.2 = z.1 := by
  have h1 := enum_mem h
  obtain ⟨hi, e⟩ := List.getElem?_eq_some_iff.mp h1
  rw [← e]
  exact hn.idxOf_getElem _ hi
theorem mem_enum {xs : List Nat} {y : Nat} (h : y ∈ xs) : (xs.idxOf y, y) ∈ enum xs := by
  unfold enum
  refine List.mem_map.mpr ⟨(y, xs.idxOf y), ?_, rfl⟩
  rw [List.mem_zipIdx_iff_getElem?]
  have hi := List.idxOf_lt_length_of_mem h
  rw [List.getElem?_eq_getElem hi, List.getElem_idxOf]
section
variable {ls : List Lane} {bs : List Book}
theorem lPlugTo_eq (hn : (lYards ls).Nodup) {z : Nat × Nat} (hz : z ∈ enum (lYards ls)) (x : Nat) : lPlugTo ls bs x z = PP ls bs z.2 (lStep ls z.2 x) := by
  unfold lPlugTo lPlugged PP
  rw [enum_idx hn hz]
  rfl
theorem fold_post (x : Nat) : ∀ (zs : List (Nat × Nat)) (t : Bool), zs.foldl (postStep ls bs x) t = (t || zs.any fun z => !decide (z.2 = x) && lPlugTo ls bs x z)
  | [], t => by simp
  | z :: zs, t => by
    rw [List.foldl_cons, fold_post x zs, List.any_cons]
    unfold postStep
    cases t with
    | true => simp
    | false => cases decide (z.2 = x) <;> simp
theorem lClear_iff (h : geo2 ls = true) (g : Nat) : lIsClear ls bs g = true ↔ ∀ y ∈ lYards ls, PP ls bs y (lStep ls y g) = false := by
  unfold geo2 at h
  simp only [Bool.and_eq_true, decide_eq_true_eq] at h
  have hn := h.1.1.1.2
  unfold lIsClear
  rw [Bool.not_eq_true', List.any_eq_false]
  constructor
  · intro h y hy
    have := h _ (mem_enum hy)
    rw [lPlugTo_eq hn (mem_enum hy)] at this
    simpa using this
  · intro h z hz
    rw [lPlugTo_eq hn hz, h z.2 (List.mem_of_getElem? (enum_mem hz))]
    decide
theorem lPost_iff (h : geo2 ls = true) (x : Nat) : lPlugHere ls bs x = false ↔ ∀ y ∈ lYards ls, y ≠ x → PP ls bs y (lStep ls y x) = false := by
  unfold geo2 at h
  simp only [Bool.and_eq_true, decide_eq_true_eq] at h
  have hn := h.1.1.1.2
  unfold lPlugHere
  rw [fold_post, Bool.false_or, List.any_eq_false]
  constructor
  · intro h y hy hne
    have := h _ (mem_enum hy)
    rw [lPlugTo_eq hn (mem_enum hy)] at this
    simpa [hne] using this
  · intro h z hz
    rw [lPlugTo_eq hn hz]
    by_cases hzx : z.2 = x
    · simp [hzx]
    · rw [h z.2 (List.mem_of_getElem? (enum_mem hz)) hzx]
      simp
theorem plugOf_eq (h : geo2 ls = true) (hl : bs.length = (lYards ls).length) (hb : ∀ b ∈ bs, lMost b < 8) {y t : Nat} (hy : y ∈ lYards ls) (ht : t ∈ lBeside ls y) : hasPlug (bookAt (cTies ls) bs y) (rowAt (cTies ls) y) t = PP ls bs y t := by
  unfold geo2 at h
  simp only [Bool.and_eq_true, decide_eq_true_eq, List.all_eq_true] at h
  have e1 := h.1.1.1.1.1
  have e2 := h.1.1.1.1.2 y hy
  unfold bookAt
  rw [e1, e2, plug_eq ht]
  · rfl
  · have hi : (lYards ls).idxOf y < bs.length := by rw [hl]; exact List.idxOf_lt_length_of_mem hy
    exact hb _ (List.mem_of_getElem? (getD_at (d := ([] : Book)) hi))
theorem posts_eq (h : geo2 ls = true) (hl : bs.length = (lYards ls).length) (hb : ∀ b ∈ bs, lMost b < 8) : postsOf (cTies ls) bs = lPosts ls bs := by
  have hh := h
  unfold geo2 at hh
  simp only [Bool.and_eq_true, decide_eq_true_eq, List.all_eq_true, Bool.or_eq_true, beq_iff_eq] at hh
  obtain ⟨⟨⟨⟨⟨e1, e2⟩, hn⟩, hbeh⟩, hside⟩, _⟩ := hh
  unfold postsOf commonYards lPosts
  rw [e1]
  refine List.filter_congr fun x hx => ?_
  rw [Bool.eq_iff_iff, Bool.not_eq_true', lPost_iff h, List.map_map, List.all_map, List.all_eq_true]
  constructor
  · intro hall y hy hne
    rcases hside y hy x hx with e | hs
    · exact absurd e hne
    · cases hp : PP ls bs y (lStep ls y x) with
      | false => rfl
      | true =>
        have ht := (side_mem hs).2
        rw [e2 y hy] at ht
        have := hall (y, lStep ls y x) (List.mem_filter.mpr ⟨hs, by
          show hasPlug _ _ _ = true
          rw [plugOf_eq h hl hb hy ht]; exact hp⟩)
        have h2 := hbeh _ hs x hx
        have h3 : decide (x ∈ yardsBehind (cTies ls) y (lStep ls y x)) = true := this
        rw [h3] at h2
        simp [Ne.symm hne] at h2
  · intro hall s hs
    obtain ⟨hs1, hs2⟩ := List.mem_filter.mp hs
    have hy := (side_mem hs1).1
    rw [e1] at hy
    have ht := (side_mem hs1).2
    rw [e2 _ hy] at ht
    have hp : PP ls bs s.1 s.2 = true := by
      rw [← plugOf_eq h hl hb hy ht]; exact hs2
    show decide (x ∈ yardsBehind (cTies ls) s.1 s.2) = true
    rw [hbeh s hs1 x hx]
    by_cases hxs : x = s.1
    · simp [hxs]
    · have h4 := hall s.1 hy (Ne.symm hxs)
      have : lStep ls s.1 x ≠ s.2 := fun e => by rw [e, hp] at h4; cases h4
      simp [this]
end
end LK
/-! ## G7 -/
namespace LK
section
variable {ls : List Lane} {bs : List Book}
theorem clear_eq (h : geo2 ls = true) (hl : bs.length = (lYards ls).length) (hb : ∀ b ∈ bs, lMost b < 8) {g : Nat} (hg : g ∈ lGates ls) : isClearTo (cTies ls) (cAhead ls) bs g = lIsClear ls bs g := by
  have hh := h
  unfold geo2 at hh
  simp only [Bool.and_eq_true, decide_eq_true_eq, List.all_eq_true, Bool.or_eq_true, beq_iff_eq] at hh
  obtain ⟨⟨⟨⟨⟨e1, e2⟩, hn⟩, hbeh⟩, hside⟩, hgate⟩ := hh
  rw [Bool.eq_iff_iff, lClear_iff h]
  unfold isClearTo
  rw [e1, List.all_eq_true]
  have key : ∀ y ∈ lYards ls, (witness (bookAt (cTies ls) bs y) (rowAt (cTies ls) y) (stepTo (cAhead ls) y g)).isNone = !PP ls bs y (lStep ls y g) := fun y hy => by
    obtain ⟨s1, s2⟩ := hgate y hy g hg
    rw [s1, ← plugOf_eq h hl hb hy s2, ← witness_iff, Option.not_isSome]
  constructor
  · intro hall y hy
    have := hall y hy
    rw [key y hy] at this
    simpa using this
  · intro hall y hy
    rw [key y hy, hall y hy]
    rfl
theorem kind_eq (h : geo2 ls = true) (hl : bs.length = (lYards ls).length) (hb : ∀ b ∈ bs, lMost b < 8) {g : Nat} (hg : g ∈ lGates ls) : kindBy (cTies ls) (cAhead ls) bs g = lKind ls bs g := by
  unfold kindBy lKind
  rw [clear_eq h hl hb hg, posts_eq h hl hb]
  cases lIsClear ls bs g <;> cases lPosts ls bs <;> simp
end
/-! ### joined with a lone web: shapes alone -/
/-- the joined lanes, by the law's numbers and by the program's -/
def jl (ls : List Lane) (g : Nat) : List Lane := lJoinLanes loneLs 2 ls g
def jp (ls : List Lane) (g : Nat) : List Lane := jLanes (cLanes loneLs) (numsBoth (cTies loneLs) 2 (cTies ls) g).1 (cLanes ls) (numsBoth (cTies loneLs) 2 (cTies ls) g).2 g
def shapes : List (List Lane × Nat) := smalls.flatMap fun ls => (lGates ls).map fun g => (ls, g)
theorem shapes_ok : ∀ z ∈ shapes, cLanes (jp z.1 z.2) = jl z.1 z.2 ∧ ctyOk (jp z.1 z.2) = true ∧ geo (jp z.1 z.2) = true ∧ geo2 (jl z.1 z.2) = true := by decide +kernel
end LK
/-! ## G8 -/
namespace LK
theorem small_cl : ∀ ls ∈ smalls, cLanes ls = ls := by decide +kernel
theorem lone_small : loneLs ∈ smalls := by decide +kernel
theorem books_in_order {t : List (List Nat)} {bs : List Book} (hn : (yardsIn t).Nodup) (hl : bs.length = (yardsIn t).length) : (yardsIn t).map (bookAt t bs) = bs := by
  refine List.ext_getElem? fun i => ?_
  rw [List.getElem?_map]
  by_cases hi : i < (yardsIn t).length
  · rw [List.getElem?_eq_getElem hi, List.getElem?_eq_getElem (by omega)]
    show some (bookAt t bs (yardsIn t)[i]) = _
    unfold bookAt
    rw [hn.idxOf_getElem _ hi, List.getD_eq_getElem?_getD, List.getElem?_eq_getElem (by omega)]
    rfl
  · rw [List.getElem?_eq_none (by omega), List.getElem?_eq_none (by omega)]
    rfl
/-- the two ways to renumber agree on the places of a side -/
def nmOk (places nums : List Nat) (f : Mp) : Bool := places.all fun p => decide (ledF f (some p) = some (nums.getD p 0))
theorem led_eq {near nums : List Nat} {g : Nat} {f : Mp} (h : nmOk (g :: near) nums f = true) (h0 : f none = some none) {o : Option Nat} (ho : endKn near g o) : ledEnd nums o = ledF f o := by
  unfold nmOk at h
  rw [List.all_eq_true] at h
  cases o with
  | none => unfold ledF; rw [h0]; rfl
  | some a =>
    have : a ∈ g :: near := by
      rcases ho a rfl with e | e
      · rw [e]; exact List.mem_cons_self ..
      · exact List.mem_cons_of_mem _ e
    have := of_decide_eq_true (h a this)
    rw [this]
    rfl
theorem ledBook_eq {near nums : List Nat} {g : Nat} {f : Mp} (h : nmOk (g :: near) nums f = true) (h0 : f none = some none) {b : Book} (hb : ∀ a ∈ b, ∀ z ∈ a.2, endKn near g z.a ∧ endKn near g z.b) : ledBook b nums = b.map (ledA f) := by
  unfold ledBook
  refine List.map_congr_left fun a ha => ?_
  unfold ledAlt ledA
  congr 1
  refine List.map_congr_left fun z hz => ?_
  unfold ledBnd ledB
  rw [led_eq h h0 (hb a ha z hz).1, led_eq h h0 (hb a ha z hz).2]
theorem shapes_nm : ∀ z ∈ shapes, nmOk (2 :: jNear loneLs 2) (numsBoth (cTies loneLs) 2 (cTies z.1) z.2).1 (jFst' loneLs 2 z.1 z.2) = true ∧ nmOk (z.2 :: jNear z.1 z.2) (numsBoth (cTies loneLs) 2 (cTies z.1) z.2).2 (jSnd' loneLs 2 z.1 z.2) = true ∧
    jFst' loneLs 2 z.1 z.2 none = some none ∧ jSnd' loneLs 2 z.1 z.2 none = some none := by decide +kernel
theorem mem_shapes {ls : List Lane} (hs : ls ∈ smalls) {g : Nat} (hg : g ∈ lGates ls) : (ls, g) ∈ shapes := List.mem_flatMap.mpr ⟨ls, hs, List.mem_map.mpr ⟨g, hg, rfl⟩⟩
/-- a drawn book's ends are places of its web -/
theorem shapes_ends : ∀ z ∈ shapes, ∀ y ∈ lYards z.1, ∀ p ∈ lBeside z.1 y, p = z.2 ∨ p ∈ jNear z.1 z.2 := by decide +kernel
theorem good_ends {ls : List Lane} (hs : ls ∈ smalls) {g : Nat} (hg : g ∈ lGates ls) {bs : List Book} (h : goodBooks ls bs) : ∀ b ∈ bs, ∀ a ∈ b, ∀ z ∈ a.2, endKn (jNear ls g) g z.a ∧ endKn (jNear ls g) g z.b := fun b hb a ha z hz => by
  obtain ⟨y, hy, gb⟩ := good_at h hb
  obtain ⟨_, h1, h2, _⟩ := (gb.2.2.1 a ha).2.2.2 z hz
  have key : ∀ o : Option Nat, endOk (lBeside ls y) o = true → endKn (jNear ls g) g o := fun o ho p hp => by
    subst hp
    exact shapes_ends _ (mem_shapes hs hg) y hy p (of_decide_eq_true ho)
  exact ⟨key _ h1, key _ h2⟩
end LK
/-! ## G9 -/
namespace LK
theorem lone_gate : 2 ∈ lGates loneLs := by decide +kernel
theorem small_nodup : ∀ ls ∈ smalls, (yardsIn (cTies ls)).Nodup := by decide +kernel
theorem side_books {ls : List Lane} (hs : ls ∈ smalls) {bs : List Book} (h : goodBooks ls bs) {g : Nat} (hg : g ∈ lGates ls) {nums : List Nat} {f : Mp} (hn : nmOk (g :: jNear ls g) nums f = true) (h0 : f none = some none) :
    ((yardsIn (cTies ls)).map fun y => ledBook (bookAt (cTies ls) bs y) nums) = bs.map fun b => b.map (ledA f) := by
  have e : ((yardsIn (cTies ls)).map fun y => ledBook (bookAt (cTies ls) bs y) nums) = ((yardsIn (cTies ls)).map (bookAt (cTies ls) bs)).map fun b => ledBook b nums := by rw [List.map_map]; rfl
  rw [e, books_in_order (small_nodup ls hs) (by rw [(small_yards ls hs).1]; exact h.1)]
  exact List.map_congr_left fun b hb => ledBook_eq hn h0 (good_ends hs hg h b hb)
theorem jbooks_eq {ls : List Lane} (hs : ls ∈ smalls) {bs : List Book} (h : goodBooks ls bs) {g : Nat} (hg : g ∈ lGates ls) {lb : List Book} (hl : goodBooks loneLs lb) :
    jBooks (cTies loneLs) lb (numsBoth (cTies loneLs) 2 (cTies ls) g).1 (cTies ls) bs (numsBoth (cTies loneLs) 2 (cTies ls) g).2 = lJoinBooks loneLs lb 2 ls bs g := by
  obtain ⟨n1, n2, z1, z2⟩ := shapes_nm _ (mem_shapes hs hg)
  unfold jBooks lJoinBooks
  rw [side_books lone_small hl lone_gate n1 z1, side_books hs h hg n2 z2]
theorem shapes_more : ∀ z ∈ shapes, cTies (jp z.1 z.2) = cTies (jl z.1 z.2) ∧ (lYards (jl z.1 z.2)).length = (lYards loneLs).length + (lYards z.1).length ∧ (lYards (jl z.1 z.2)).length ≤ 4 := by decide +kernel
theorem most_led (f : Mp) (b : Book) : lMost (b.map (ledA f)) = lMost b := by
  unfold lMost
  rw [List.map_map]
  rfl
theorem jbooks_len {ls : List Lane} (hs : ls ∈ smalls) {bs : List Book} (h : goodBooks ls bs) {g : Nat} (hg : g ∈ lGates ls) {lb : List Book} (hl : goodBooks loneLs lb) : (lJoinBooks loneLs lb 2 ls bs g).length = (lYards (jl ls g)).length := by
  rw [(shapes_more _ (mem_shapes hs hg)).2.1]
  unfold lJoinBooks
  rw [List.length_append, List.length_map, List.length_map, hl.1, h.1]
theorem jbooks_most {ls : List Lane} {bs : List Book} (h : goodBooks ls bs) {g : Nat} {lb : List Book} (hl : goodBooks loneLs lb) : ∀ b ∈ lJoinBooks loneLs lb 2 ls bs g, lMost b ≤ 3 := fun b hb => by
  unfold lJoinBooks at hb
  rcases List.mem_append.mp hb with hb | hb
  · obtain ⟨c, hc, rfl⟩ := List.mem_map.mp hb
    rw [most_led]
    exact good_most hl c hc
  · obtain ⟨c, hc, rfl⟩ := List.mem_map.mp hb
    rw [most_led]
    exact good_most h c hc
/-- the program's posts of the joined web are the law's -/
theorem joined_posts {ls : List Lane} (hs : ls ∈ smalls) {bs : List Book} (h : goodBooks ls bs) {g : Nat} (hg : g ∈ lGates ls) {lb : List Book} (hl : goodBooks loneLs lb) :
    postsOf (cTies (jp ls g)) (lJoinBooks loneLs lb 2 ls bs g) = lPosts (jl ls g) (lJoinBooks loneLs lb 2 ls bs g) := by
  rw [(shapes_more _ (mem_shapes hs hg)).1]
  exact posts_eq (shapes_ok _ (mem_shapes hs hg)).2.2.2 (jbooks_len hs h hg hl) fun b hb => Nat.lt_of_le_of_lt (jbooks_most h hl b hb) (by decide)
theorem lone_own : goodBooks loneLs [[(2, [])]] := by
  refine ⟨by decide +kernel, fun i y b hy hb => ?_⟩
  have hi : i = 0 := by have := lt_of_at hb; simp at this; omega
  subst hi
  cases hb
  have hy2 : (lYards loneLs)[0]? = some 1 := by decide +kernel
  rw [hy2] at hy
  cases hy
  refine ⟨by decide, by decide, fun a ha => ?_, by decide +kernel⟩
  cases List.mem_singleton.mp ha
  exact ⟨by decide, by decide, by decide, fun z hz => by cases hz⟩
theorem lone_clear : goodBooks loneLs [[(2, [⟨none, some 2, 1⟩])]] := by
  refine ⟨by decide +kernel, fun i y b hy hb => ?_⟩
  have hi : i = 0 := by have := lt_of_at hb; simp at this; omega
  subst hi
  cases hb
  have hy2 : (lYards loneLs)[0]? = some 1 := by decide +kernel
  rw [hy2] at hy
  cases hy
  refine ⟨by decide, by decide, fun a ha => ?_, by decide +kernel⟩
  cases List.mem_singleton.mp ha
  refine ⟨by decide, by decide, by decide, fun z hz => ?_⟩
  cases List.mem_singleton.mp hz
  exact ⟨by decide, by decide +kernel, by decide +kernel, by decide⟩
end LK
/-! ## G10 -/
namespace LK
/-! ### renumbering -/
structure Ren (near : List Nat) (f : Mp) (φ : Nat → Nat) : Prop where
  inj : ∀ p ∈ near, ∀ q ∈ near, φ p = φ q → p = q
  at' : ∀ p ∈ near, ledF f (some p) = some (φ p)
  none' : ledF f none = none
def endNr (near : List Nat) (o : Option Nat) : Prop := ∀ p, o = some p → p ∈ near
def bookNr (near : List Nat) (b : Book) : Prop := ∀ a ∈ b, ∀ z ∈ a.2, endNr near z.a ∧ endNr near z.b
section
variable {near : List Nat} {f : Mp} {φ : Nat → Nat}
theorem end_ren (r : Ren near f φ) {o : Option Nat} (ho : endNr near o) {p : Nat} (hp : p ∈ near) : decide (ledF f o ∈ [none, some (φ p)]) = decide (o ∈ [none, some p]) := by
  rw [decide_eq_decide]
  cases o with
  | none => rw [r.none']; simp
  | some a =>
    have ha := ho a rfl
    rw [r.at' a ha]
    simp only [List.mem_cons, List.not_mem_nil, or_false, reduceCtorEq, false_or, Option.some.injEq]
    exact ⟨fun h => r.inj a ha p hp h, fun h => by rw [h]⟩
theorem hit_ren (r : Ren near f φ) {z : Bnd} (h1 : endNr near z.a) (h2 : endNr near z.b) {q : Nat × Nat} (q1 : q.1 ∈ near) (q2 : q.2 ∈ near) : lHit (ledB f z) (φ q.1, φ q.2) = lHit z q := by
  unfold lHit
  show (decide (ledF f z.a ∈ [none, some (φ q.1)]) && decide (ledF f z.b ∈ [none, some (φ q.2)])) = _
  rw [end_ren r h1 q1, end_ren r h2 q2]
abbrev mv (φ : Nat → Nat) (q : Nat × Nat) : Nat × Nat := (φ q.1, φ q.2)
theorem lets_ren (r : Ren near f φ) {b : Book} (hb : bookNr near b) {l : List (Nat × Nat)} (hl : ∀ q ∈ l, q.1 ∈ near ∧ q.2 ∈ near) : lLets (b.map (ledA f)) (l.map (mv φ)) = lLets b l := by
  unfold lLets
  rw [List.any_map]
  rw [Bool.eq_iff_iff, List.any_eq_true, List.any_eq_true]
  have key : ∀ a ∈ b, letsFits (ledA f a) (l.map (mv φ)) = letsFits a l := fun a ha => by
    rw [fits_eq, fits_eq]
    unfold ledA
    rw [List.length_map, List.all_map]
    congr 1
    rw [Bool.eq_iff_iff, List.all_eq_true, List.all_eq_true]
    have k2 : ∀ z ∈ a.2, ((l.map (mv φ)).filter (lHit (ledB f z))).length = (l.filter (lHit z)).length := fun z hz => by
      rw [List.filter_map, List.length_map]
      congr 1
      refine List.filter_congr fun q hq => ?_
      exact hit_ren r (hb a ha z hz).1 (hb a ha z hz).2 (hl q hq).1 (hl q hq).2
    constructor
    · intro h z hz
      have := h z hz
      simp only [Function.comp] at this
      rw [k2 z hz] at this
      exact this
    · intro h z hz
      simp only [Function.comp]
      rw [k2 z hz]
      exact h z hz
  constructor
  · rintro ⟨a, ha, h⟩; exact ⟨a, ha, by rw [← key a ha]; exact h⟩
  · rintro ⟨a, ha, h⟩; exact ⟨a, ha, by show letsFits (ledA f a) (l.map (mv φ)) = true; rw [key a ha]; exact h⟩
theorem plug_ren (r : Ren near f φ) {b : Book} (hb : bookNr near b) {oth : List Nat} (ho : ∀ o ∈ oth, o ∈ near) {t : Nat} (ht : t ∈ near) {oth' : List Nat} (hoth : oth'.Perm (oth.map φ)) : Plug (b.map (ledA f)) oth' (φ t) ↔ Plug b oth t := by
  unfold Plug
  constructor
  · rintro ⟨lot, hne, hm, h1, z, hz, h2⟩
    obtain ⟨lot0, rfl, hm0⟩ : ∃ lot0 : List Nat, lot = lot0.map φ ∧ ∀ o ∈ lot0, o ∈ oth := by
      clear hne h1 h2
      induction lot with
      | nil => exact ⟨[], rfl, fun o h => by cases h⟩
      | cons x xs ih =>
        obtain ⟨l0, e, h0⟩ := ih fun o ho => hm o (List.mem_cons_of_mem _ ho)
        obtain ⟨y, hy, e2⟩ := List.mem_map.mp (hoth.mem_iff.mp (hm x (List.mem_cons_self ..)))
        refine ⟨y :: l0, by rw [List.map_cons, e2, e], fun o ho => ?_⟩
        rcases List.mem_cons.mp ho with rfl | ho
        · exact hy
        · exact h0 o ho
    obtain ⟨z0, hz0, rfl⟩ := List.mem_map.mp (hoth.mem_iff.mp hz)
    have e1 : (lot0.map φ).map (fun o => (o, φ t)) = (lot0.map fun o => (o, t)).map (mv φ) := by rw [List.map_map, List.map_map]; rfl
    have e2 : (lot0.map φ).map (fun o => (o, φ t)) ++ [(φ t, φ z0)] = ((lot0.map fun o => (o, t)) ++ [(t, z0)]).map (mv φ) := by rw [List.map_append, ← e1]; rfl
    have hl0 : ∀ q ∈ lot0.map (fun o => (o, t)), q.1 ∈ near ∧ q.2 ∈ near := fun q hq => by
      obtain ⟨o, ho', rfl⟩ := List.mem_map.mp hq
      exact ⟨ho o (hm0 o ho'), ht⟩
    rw [e1, lets_ren r hb hl0] at h1
    rw [e2, lets_ren r hb (fun q hq => by
      rcases List.mem_append.mp hq with h | h
      · exact hl0 q h
      · cases List.mem_singleton.mp h; exact ⟨ht, ho z0 hz0⟩)] at h2
    exact ⟨lot0, fun e => hne (by rw [e]; rfl), hm0, h1, z0, hz0, h2⟩
  · rintro ⟨lot0, hne, hm0, h1, z0, hz0, h2⟩
    have e1 : (lot0.map φ).map (fun o => (o, φ t)) = (lot0.map fun o => (o, t)).map (mv φ) := by rw [List.map_map, List.map_map]; rfl
    have e2 : (lot0.map φ).map (fun o => (o, φ t)) ++ [(φ t, φ z0)] = ((lot0.map fun o => (o, t)) ++ [(t, z0)]).map (mv φ) := by rw [List.map_append, ← e1]; rfl
    have hl0 : ∀ q ∈ lot0.map (fun o => (o, t)), q.1 ∈ near ∧ q.2 ∈ near := fun q hq => by
      obtain ⟨o, ho', rfl⟩ := List.mem_map.mp hq
      exact ⟨ho o (hm0 o ho'), ht⟩
    refine ⟨lot0.map φ, fun e => hne (List.map_eq_nil_iff.mp e), fun o ho' => ?_, by rw [e1, lets_ren r hb hl0]; exact h1, φ z0, hoth.mem_iff.mpr (List.mem_map.mpr ⟨z0, hz0, rfl⟩), ?_⟩
    · obtain ⟨y, hy, rfl⟩ := List.mem_map.mp ho'
      exact hoth.mem_iff.mpr (List.mem_map.mpr ⟨y, hm0 y hy, rfl⟩)
    · rw [e2, lets_ren r hb (fun q hq => by
        rcases List.mem_append.mp hq with h | h
        · exact hl0 q h
        · cases List.mem_singleton.mp h; exact ⟨ht, ho z0 hz0⟩)]
      exact h2
end
end LK
/-! ## G11 -/
namespace LK
/-! ### the two sides of a joined web -/
def ph1 (ls : List Lane) (g : Nat) (p : Nat) : Nat := (ledF (jFst' loneLs 2 ls g) (some p)).getD 0
def ph2 (ls : List Lane) (g : Nat) (p : Nat) : Nat := (ledF (jSnd' loneLs 2 ls g) (some p)).getD 0
def renB (near : List Nat) (f : Mp) (φ : Nat → Nat) : Bool := (near.all fun p => near.all fun q => decide (φ p = φ q → p = q)) && (near.all fun p => decide (ledF f (some p) = some (φ p))) && decide (ledF f none = none)
theorem ren_of {near : List Nat} {f : Mp} {φ : Nat → Nat} (h : renB near f φ = true) : Ren near f φ := by
  unfold renB at h
  simp only [Bool.and_eq_true, decide_eq_true_eq, List.all_eq_true] at h
  exact ⟨fun p hp q hq e => h.1.1 p hp q hq e, h.1.2, h.2⟩
/-- per shape: the yards, their order, their neighbours, the steps -/
def sideB (os ls : List Lane) (g : Nat) (off : Nat) (f : Mp) (φ : Nat → Nat) : Bool :=
  renB (lPlaces os) f φ && ((lYards os).all fun y => decide (φ y ∈ lYards (jl ls g)) && decide ((lYards (jl ls g)).idxOf (φ y) = off + (lYards os).idxOf y) && decide (lBeside (jl ls g) (φ y) = nsort ((lBeside os y).map φ)) && decide (y ∈ lPlaces os) && (lBeside os y).all fun p => decide (p ∈ lPlaces os))
theorem shapes_side : ∀ z ∈ shapes, sideB loneLs z.1 z.2 0 (jFst' loneLs 2 z.1 z.2) (ph1 z.1 z.2) = true ∧ sideB z.1 z.1 z.2 (lYards loneLs).length (jSnd' loneLs 2 z.1 z.2) (ph2 z.1 z.2) = true ∧
    lYards (jl z.1 z.2) = nsort ((lYards loneLs).map (ph1 z.1 z.2) ++ (lYards z.1).map (ph2 z.1 z.2)) := by decide +kernel
theorem shapes_steps : ∀ z ∈ shapes,
    (∀ y ∈ lYards loneLs, ∀ x ∈ lYards z.1, lStep (jl z.1 z.2) (ph1 z.1 z.2 y) (ph2 z.1 z.2 x) = ph1 z.1 z.2 (lStep loneLs y 2)) ∧
    (∀ y ∈ lYards z.1, ∀ x ∈ lYards loneLs, lStep (jl z.1 z.2) (ph2 z.1 z.2 y) (ph1 z.1 z.2 x) = ph2 z.1 z.2 (lStep z.1 y z.2)) ∧
    (∀ y ∈ lYards z.1, ∀ x ∈ lYards z.1, y ≠ x → lStep (jl z.1 z.2) (ph2 z.1 z.2 y) (ph2 z.1 z.2 x) = ph2 z.1 z.2 (lStep z.1 y x)) ∧
    (∀ y ∈ lYards loneLs, ∀ x ∈ lYards loneLs, y = x) ∧ lYards loneLs = [1] ∧ lStep loneLs 1 2 = 2 := by decide +kernel
end LK
/-! ## G12 -/
namespace LK
theorem others_ren {near : List Nat} {f : Mp} {φ : Nat → Nat} (r : Ren near f φ) {l : List Nat} (hl : ∀ p ∈ l, p ∈ near) {t : Nat} (ht : t ∈ near) : (others (nsort (l.map φ)) (φ t)).Perm ((others l t).map φ) := by
  unfold others
  have h1 : ((nsort (l.map φ)).filter fun p => !decide (p = φ t)).Perm ((l.map φ).filter fun p => !decide (p = φ t)) := (isort_perm nle (l.map φ)).filter _
  refine h1.trans ?_
  rw [List.filter_map]
  have e : l.filter ((fun p => !decide (p = φ t)) ∘ φ) = l.filter fun p => !decide (p = t) := List.filter_congr fun p hp => by
    show (!decide (φ p = φ t)) = !decide (p = t)
    congr 1
    rw [decide_eq_decide]
    exact ⟨fun h => r.inj p (hl p hp) t ht h, fun h => by rw [h]⟩
  rw [e]
theorem PP_side {os ls : List Lane} {g off : Nat} {f : Mp} {φ : Nat → Nat} (h : sideB os ls g off f φ = true) {bs B : List Book} (hB : ∀ i, i < bs.length → B.getD (off + i) [] = (bs.getD i []).map (ledA f)) (hlen : bs.length = (lYards os).length)
    (hb : ∀ b ∈ bs, bookNr (lPlaces os) b) {y t : Nat} (hy : y ∈ lYards os) (ht : t ∈ lBeside os y) : PP (jl ls g) B (φ y) (φ t) = PP os bs y t := by
  unfold sideB at h
  simp only [Bool.and_eq_true, decide_eq_true_eq, List.all_eq_true] at h
  obtain ⟨hr, hs⟩ := h
  have r := ren_of hr
  obtain ⟨⟨⟨⟨_, hi⟩, hbs⟩, hyp⟩, hnear⟩ := hs y hy
  have hiy : (lYards os).idxOf y < bs.length := by rw [hlen]; exact List.idxOf_lt_length_of_mem hy
  unfold PP
  rw [hi, hB _ hiy, hbs, Bool.eq_iff_iff, lPlug_iff, lPlug_iff]
  exact plug_ren r (hb _ (List.mem_of_getElem? (getD_at hiy))) (fun o ho => hnear o (List.mem_filter.mp ho).1) (hnear t ht) (others_ren r hnear (hnear t ht))
theorem shapes_pl : ∀ z ∈ shapes, ∀ y ∈ lYards z.1, ∀ p ∈ lBeside z.1 y, p ∈ lPlaces z.1 := by decide +kernel
theorem good_nr {ls : List Lane} (hs : ls ∈ smalls) {g : Nat} (hg : g ∈ lGates ls) {bs : List Book} (h : goodBooks ls bs) : ∀ b ∈ bs, bookNr (lPlaces ls) b := fun b hb a ha z hz => by
  obtain ⟨y, hy, gb⟩ := good_at h hb
  obtain ⟨_, h1, h2, _⟩ := (gb.2.2.1 a ha).2.2.2 z hz
  have key : ∀ o : Option Nat, endOk (lBeside ls y) o = true → endNr (lPlaces ls) o := fun o ho p hp => by
    subst hp
    exact shapes_pl _ (mem_shapes hs hg) y hy p (of_decide_eq_true ho)
  exact ⟨key _ h1, key _ h2⟩
section
variable {ls : List Lane} {bs lb : List Book} {g : Nat}
theorem PP_lone (hs : ls ∈ smalls) (hg : g ∈ lGates ls) (h : goodBooks ls bs) (hl : goodBooks loneLs lb) {y t : Nat} (hy : y ∈ lYards loneLs) (ht : t ∈ lBeside loneLs y) :
    PP (jl ls g) (lJoinBooks loneLs lb 2 ls bs g) (ph1 ls g y) (ph1 ls g t) = PP loneLs lb y t := by
  refine PP_side (shapes_side _ (mem_shapes hs hg)).1 (fun i hi => ?_) hl.1 (good_nr lone_small lone_gate hl) hy ht
  unfold lJoinBooks
  rw [Nat.zero_add, List.getD_eq_getElem?_getD, List.getElem?_append_left (by rw [List.length_map]; exact hi), List.getElem?_map, List.getD_eq_getElem?_getD, List.getElem?_eq_getElem hi]
  rfl
theorem PP_web (hs : ls ∈ smalls) (hg : g ∈ lGates ls) (h : goodBooks ls bs) (hl : goodBooks loneLs lb) {y t : Nat} (hy : y ∈ lYards ls) (ht : t ∈ lBeside ls y) :
    PP (jl ls g) (lJoinBooks loneLs lb 2 ls bs g) (ph2 ls g y) (ph2 ls g t) = PP ls bs y t := by
  refine PP_side (shapes_side _ (mem_shapes hs hg)).2.1 (fun i hi => ?_) h.1 (good_nr hs hg h) hy ht
  unfold lJoinBooks
  rw [← hl.1, List.getD_eq_getElem?_getD, List.getElem?_append_right (by rw [List.length_map]; omega), List.length_map, Nat.add_sub_cancel_left, List.getElem?_map, List.getD_eq_getElem?_getD, List.getElem?_eq_getElem hi]
  rfl
end
end LK
/-! ## G13 -/
namespace LK
theorem shapes_apart : ∀ z ∈ shapes, ∀ y ∈ lYards z.1, ph2 z.1 z.2 y ≠ ph1 z.1 z.2 1 ∧ lStep z.1 y z.2 ∈ lBeside z.1 y ∧ ∀ x ∈ lYards z.1, (y ≠ x → ph2 z.1 z.2 y ≠ ph2 z.1 z.2 x ∧ lStep z.1 y x ∈ lBeside z.1 y) := by decide +kernel
theorem lone_beside : 2 ∈ lBeside loneLs 1 := by decide +kernel
theorem nsort_perm (xs : List Nat) : (nsort xs).Perm xs := isort_perm nle xs
theorem posts_mem {ls : List Lane} {bs : List Book} {x : Nat} : x ∈ lPosts ls bs ↔ x ∈ lYards ls ∧ lPlugHere ls bs x = false := by
  unfold lPosts
  rw [List.mem_filter, Bool.not_eq_true']
section
variable {ls : List Lane} {bs lb : List Book} {g : Nat}
theorem joined_iff (hs : ls ∈ smalls) (hg : g ∈ lGates ls) (h : goodBooks ls bs) (hl : goodBooks loneLs lb) :
    lPosts (jl ls g) (lJoinBooks loneLs lb 2 ls bs g) ≠ [] ↔ lIsClear ls bs g = true ∨ (PP loneLs lb 1 2 = false ∧ lPosts ls bs ≠ []) := by
  have hz := mem_shapes hs hg
  have hj := (shapes_ok _ hz).2.2.2
  obtain ⟨_, _, hyards⟩ := shapes_side _ hz
  obtain ⟨st1, st2, st3, _, hone, st6⟩ := shapes_steps _ hz
  have hap := shapes_apart _ hz
  have one_in : 1 ∈ lYards loneLs := by rw [hone]; exact List.mem_singleton.mpr rfl
  have memY : ∀ x, x ∈ lYards (jl ls g) ↔ x = ph1 ls g 1 ∨ ∃ x0 ∈ lYards ls, x = ph2 ls g x0 := fun x => by
    rw [hyards, (nsort_perm _).mem_iff, List.mem_append, hone]
    constructor
    · rintro (h | h)
      · exact .inl (List.mem_singleton.mp h)
      · obtain ⟨y, hy, e⟩ := List.mem_map.mp h
        exact .inr ⟨y, hy, e.symm⟩
    · rintro (h | ⟨y, hy, e⟩)
      · exact .inl (List.mem_singleton.mpr h)
      · exact .inr (List.mem_map.mpr ⟨y, hy, e.symm⟩)
  have p1 : PP (jl ls g) (lJoinBooks loneLs lb 2 ls bs g) (ph1 ls g 1) (ph1 ls g 2) = PP loneLs lb 1 2 := PP_lone hs hg h hl one_in lone_beside
  have c1 : lPlugHere (jl ls g) (lJoinBooks loneLs lb 2 ls bs g) (ph1 ls g 1) = false ↔ lIsClear ls bs g = true := by
    rw [lPost_iff hj, lClear_iff (small_geo2 ls hs)]
    constructor
    · intro hall y hy
      have := hall (ph2 ls g y) ((memY _).mpr (.inr ⟨y, hy, rfl⟩)) (hap y hy).1
      rw [st2 y hy 1 one_in, PP_web hs hg h hl hy (hap y hy).2.1] at this
      exact this
    · intro hall y hy hne
      rcases (memY y).mp hy with e | ⟨y0, hy0, rfl⟩
      · exact absurd e hne
      · rw [st2 y0 hy0 1 one_in, PP_web hs hg h hl hy0 (hap y0 hy0).2.1]
        exact hall y0 hy0
  have c2 : ∀ x0 ∈ lYards ls, lPlugHere (jl ls g) (lJoinBooks loneLs lb 2 ls bs g) (ph2 ls g x0) = false ↔ PP loneLs lb 1 2 = false ∧ lPlugHere ls bs x0 = false := fun x0 hx0 => by
    rw [lPost_iff hj, lPost_iff (small_geo2 ls hs)]
    constructor
    · intro hall
      refine ⟨?_, fun y hy hne => ?_⟩
      · have := hall (ph1 ls g 1) ((memY _).mpr (.inl rfl)) (Ne.symm (hap x0 hx0).1)
        rw [st1 1 one_in x0 hx0, st6, p1] at this
        exact this
      · have hh := (hap y hy).2.2 x0 hx0 hne
        have := hall (ph2 ls g y) ((memY _).mpr (.inr ⟨y, hy, rfl⟩)) hh.1
        rw [st3 y hy x0 hx0 hne, PP_web hs hg h hl hy hh.2] at this
        exact this
    · rintro ⟨a1, a2⟩ y hy hne
      rcases (memY y).mp hy with rfl | ⟨y0, hy0, rfl⟩
      · rw [st1 1 one_in x0 hx0, st6, p1]
        exact a1
      · have hne0 : y0 ≠ x0 := fun e => hne (by rw [e])
        have hh := (hap y0 hy0).2.2 x0 hx0 hne0
        rw [st3 y0 hy0 x0 hx0 hne0, PP_web hs hg h hl hy0 hh.2]
        exact a2 y0 hy0 hne0
  constructor
  · intro hne
    obtain ⟨x, hx⟩ := List.exists_mem_of_ne_nil _ hne
    obtain ⟨hx1, hx2⟩ := posts_mem.mp hx
    rcases (memY x).mp hx1 with rfl | ⟨x0, hx0, rfl⟩
    · exact .inl (c1.mp hx2)
    · obtain ⟨b1, b2⟩ := (c2 x0 hx0).mp hx2
      exact .inr ⟨b1, List.ne_nil_of_mem (posts_mem.mpr ⟨hx0, b2⟩)⟩
  · rintro (hc | ⟨b1, b2⟩)
    · exact List.ne_nil_of_mem (posts_mem.mpr ⟨(memY _).mpr (.inl rfl), c1.mpr hc⟩)
    · obtain ⟨x0, hx0⟩ := List.exists_mem_of_ne_nil _ b2
      obtain ⟨h1, h2⟩ := posts_mem.mp hx0
      exact List.ne_nil_of_mem (posts_mem.mpr ⟨(memY _).mpr (.inr ⟨x0, h1, rfl⟩), (c2 x0 h1).mpr ⟨b1, h2⟩⟩)
theorem lone_plugged : PP loneLs [[(2, [])]] 1 2 = true := by decide +kernel
theorem lone_free : PP loneLs [[(2, [⟨none, some 2, 1⟩])]] 1 2 = false := by decide +kernel
end
end LK
/-! ## G14 -/
namespace LK
theorem shapes_lok : ∀ z ∈ shapes, (jl z.1 z.2).length < 30 ∧ (lYards (jl z.1 z.2)).length ≤ 100 ∧ (∀ y ∈ lYards (jl z.1 z.2), ∀ x ∈ lPlaces (jl z.1 z.2), y ≠ x → (wayLoop (jl z.1 z.2) x 200 [[y]]).isSome = true ∧ 1 < (lWay (jl z.1 z.2) y x).length) ∧ (∀ y ∈ lYards (jl z.1 z.2), (lBeside (jl z.1 z.2) y).length ≤ 3) := by decide +kernel
section
variable {ls : List Lane} {bs lb : List Book} {g : Nat}
theorem joined_lok (hs : ls ∈ smalls) (hg : g ∈ lGates ls) (h : goodBooks ls bs) (hl : goodBooks loneLs lb) : LOk (jl ls g) (lJoinBooks loneLs lb 2 ls bs g) := by
  obtain ⟨f1, f2, f3, f4⟩ := shapes_lok _ (mem_shapes hs hg)
  refine ⟨f1, jbooks_len hs h hg hl, f2, f3, fun b hb => ⟨fun e => ?_, Nat.le_trans (jbooks_most h hl b hb) (by decide)⟩, f4⟩
  unfold lJoinBooks at hb
  rcases List.mem_append.mp hb with hb | hb
  · obtain ⟨c, hc, e2⟩ := List.mem_map.mp hb
    obtain ⟨y, _, gb⟩ := good_at hl hc
    have : c = [] := List.map_eq_nil_iff.mp (e2.trans e)
    rw [this] at gb
    exact absurd gb.1 (by decide)
  · obtain ⟨c, hc, e2⟩ := List.mem_map.mp hb
    obtain ⟨y, _, gb⟩ := good_at h hc
    have : c = [] := List.map_eq_nil_iff.mp (e2.trans e)
    rw [this] at gb
    exact absurd gb.1 (by decide)
theorem kinds {k : Kd} : lKind ls bs g = k ↔ (k = .clear ∧ lIsClear ls bs g = true) ∨ (k = .own ∧ lIsClear ls bs g = false ∧ lPosts ls bs ≠ []) ∨ (k = .bad ∧ lIsClear ls bs g = false ∧ lPosts ls bs = []) := by
  unfold lKind
  cases lIsClear ls bs g <;> cases lPosts ls bs <;> cases k <;> simp
end
end LK
/-! ## G15 -/
namespace LK
theorem pairs_mem {near : List Nat} {q : Nat × Nat} : q ∈ pairsAt near ↔ q.1 ∈ near ∧ q.2 ∈ near ∧ q.2 ≠ q.1 := by
  unfold pairsAt
  rw [List.mem_flatMap]
  simp only [List.mem_map, List.mem_filter, Bool.not_eq_true', decide_eq_false_iff_not]
  constructor
  · rintro ⟨o, ho, x, ⟨hx, hne⟩, rfl⟩
    exact ⟨ho, hx, hne⟩
  · rintro ⟨h1, h2, h3⟩
    exact ⟨q.1, h1, q.2, ⟨h2, h3⟩, rfl⟩
/-- a good book, renumbered, is taken -/
theorem bookOk_ren {all near near' : List Nat} {f : Mp} {φ : Nat → Nat} (r : Ren all f φ) (hn : ∀ p ∈ near, p ∈ all) (hp : near'.Perm (near.map φ)) {b : Book} (h : goodBook near b) : bookOk near' (b.map (ledA f)) = true := by
  obtain ⟨h1, h2, h3, h4⟩ := h
  have hnr : ∀ o : Option Nat, endOk near o = true → endNr all o := fun o ho p hp => by
    subst hp
    exact hn p (of_decide_eq_true ho)
  have hb : bookNr all b := fun a ha z hz => by
    obtain ⟨_, e1, e2, _⟩ := (h3 a ha).2.2.2 z hz
    exact ⟨hnr _ e1, hnr _ e2⟩
  have hend : ∀ o : Option Nat, endOk near o = true → endOk near' (ledF f o) = true := fun o ho => by
    cases o with
    | none => rw [r.none']; rfl
    | some p =>
      have hpn : p ∈ near := of_decide_eq_true ho
      rw [r.at' p (hn p hpn)]
      exact decide_eq_true (hp.mem_iff.mpr (List.mem_map.mpr ⟨p, hpn, rfl⟩))
  unfold bookOk
  simp only [Bool.and_eq_true, decide_eq_true_eq, List.all_eq_true, List.length_map]
  refine ⟨⟨⟨h1, by omega⟩, fun a' ha' => ?_⟩, fun q hq => ?_⟩
  · obtain ⟨a, ha, rfl⟩ := List.mem_map.mp ha'
    obtain ⟨a1, a2, a3, a4⟩ := h3 a ha
    unfold altOk ledA
    simp only [Bool.and_eq_true, decide_eq_true_eq, List.all_eq_true, List.length_map]
    refine ⟨⟨⟨a1, by omega⟩, by omega⟩, fun z' hz' => ?_⟩
    obtain ⟨z, hz, rfl⟩ := List.mem_map.mp hz'
    obtain ⟨b1, b2, b3, b4⟩ := a4 z hz
    unfold bndOk ledB
    simp only [Bool.and_eq_true, decide_eq_true_eq]
    refine ⟨⟨⟨by omega, hend _ b2⟩, hend _ b3⟩, fun e => b4 ?_⟩
    cases ha0 : z.a with
    | none =>
      cases hb0 : z.b with
      | none => rfl
      | some p =>
        rw [ha0, hb0, r.none', r.at' p (hnr _ b3 p hb0)] at e
        cases e
    | some p =>
      cases hb0 : z.b with
      | none =>
        rw [ha0, hb0, r.none', r.at' p (hnr _ b2 p ha0)] at e
        cases e
      | some p2 =>
        rw [ha0, hb0, r.at' p (hnr _ b2 p ha0), r.at' p2 (hnr _ b3 p2 hb0)] at e
        rw [r.inj p (hnr _ b2 p ha0) p2 (hnr _ b3 p2 hb0) (Option.some.inj e)]
  · obtain ⟨q1, q2, q3⟩ := pairs_mem.mp hq
    obtain ⟨p1, hp1, e1⟩ := List.mem_map.mp (hp.mem_iff.mp q1)
    obtain ⟨p2, hp2, e2⟩ := List.mem_map.mp (hp.mem_iff.mp q2)
    rw [stands_ex]
    have e : ex [(⟨q.1, q.2, 1⟩ : T3 Nat Nat Nat)] = [(p1, p2)].map (mv φ) := by
      show [(q.1, q.2)] = [(φ p1, φ p2)]
      rw [e1, e2]
    rw [e, lets_ren r hb (fun x hx => by cases List.mem_singleton.mp hx; exact ⟨hn p1 hp1, hn p2 hp2⟩)]
    exact h4 (p1, p2) (pairs_mem.mpr ⟨hp1, hp2, fun e3 => q3 (by rw [← e1, ← e2]; show φ p2 = φ p1; rw [show p2 = p1 from e3])⟩)
end LK
/-! ## G16 -/
namespace LK
section
variable {ls os : List Lane} {bs lb ms : List Book} {g off : Nat} {f : Mp} {φ : Nat → Nat}
theorem side_bookOk (h : sideB os ls g off f φ = true) (hnd : (lYards os).Nodup) (hm : goodBooks os ms) {i : Nat} (hi : i < ms.length) {y' : Nat} (hy' : (lYards (jl ls g))[off + i]? = some y') : bookOk (lBeside (jl ls g) y') ((ms.getD i []).map (ledA f)) = true := by
  unfold sideB at h
  simp only [Bool.and_eq_true, decide_eq_true_eq, List.all_eq_true] at h
  obtain ⟨hr, hs⟩ := h
  have hil : i < (lYards os).length := by rw [← hm.1]; exact hi
  obtain ⟨⟨⟨⟨hin, hix⟩, hbs⟩, hyp⟩, hnear⟩ := hs _ (List.getElem_mem hil)
  rw [hnd.idxOf_getElem _ hil] at hix
  have hy : y' = φ (lYards os)[i] := by
    have hlt := List.idxOf_lt_length_of_mem hin
    have h2 : (lYards (jl ls g))[(lYards (jl ls g)).idxOf (φ (lYards os)[i])]? = some (φ (lYards os)[i]) := by rw [List.getElem?_eq_getElem hlt, List.getElem_idxOf]
    rw [hix, hy'] at h2
    exact Option.some.inj h2
  rw [hy, hbs]
  have hg2 : goodBook (lBeside os (lYards os)[i]) (ms.getD i []) := hm.2 i _ _ (List.getElem?_eq_getElem hil) (getD_at hi)
  exact bookOk_ren (ren_of hr) hnear (nsort_perm _) hg2
theorem joined_booksOk (hs : ls ∈ smalls) (hg : g ∈ lGates ls) (h : goodBooks ls bs) (hl : goodBooks loneLs lb) : booksOk (cTies (jp ls g)) (lJoinBooks loneLs lb 2 ls bs g) = true := by
  have hz := mem_shapes hs hg
  have hj := (shapes_ok _ hz).2.2.2
  obtain ⟨s1, s2, _⟩ := shapes_side _ hz
  rw [(shapes_more _ hz).1]
  have hh := hj
  unfold geo2 at hh
  simp only [Bool.and_eq_true, decide_eq_true_eq, List.all_eq_true] at hh
  have e1 : yardsIn (cTies (jl ls g)) = lYards (jl ls g) := hh.1.1.1.1.1
  have e2 := hh.1.1.1.1.2
  unfold booksOk
  simp only [Bool.and_eq_true, decide_eq_true_eq, List.all_eq_true]
  refine ⟨by rw [e1]; exact jbooks_len hs h hg hl, fun z hzz => ?_⟩
  obtain ⟨i, hi⟩ := List.mem_iff_getElem?.mp hzz
  rw [List.getElem?_zip_eq_some, e1] at hi
  obtain ⟨i1, i2⟩ := hi
  have hym : z.1 ∈ lYards (jl ls g) := List.mem_of_getElem? i1
  have hrow : rowAt (cTies (jl ls g)) z.1 = lBeside (jl ls g) z.1 := e2 z.1 hym
  rw [hrow]
  refine ⟨⟨(mem_yards (by rw [e1]; exact hym)).1, Nat.le_trans ((shapes_lok _ hz).2.2.2 z.1 hym) (by decide)⟩, ?_⟩
  unfold lJoinBooks at i2
  by_cases hlt : i < lb.length
  · rw [List.getElem?_append_left (by rw [List.length_map]; exact hlt), List.getElem?_map, List.getElem?_eq_getElem hlt] at i2
    have e : z.2 = (lb.getD i []).map (ledA (jFst' loneLs 2 ls g)) := by
      rw [List.getD_eq_getElem?_getD, List.getElem?_eq_getElem hlt]
      exact (Option.some.inj i2).symm
    rw [e]
    exact side_bookOk (off := 0) s1 (by decide +kernel) hl hlt (by rw [Nat.zero_add]; exact i1)
  · rw [List.getElem?_append_right (by rw [List.length_map]; omega), List.length_map, List.getElem?_map] at i2
    have hlt2 : i - lb.length < bs.length := by
      cases hb : bs[i - lb.length]? with
      | none => rw [hb] at i2; cases i2
      | some b => exact lt_of_at hb
    rw [List.getElem?_eq_getElem hlt2] at i2
    have e : z.2 = (bs.getD (i - lb.length) []).map (ledA (jSnd' loneLs 2 ls g)) := by
      rw [List.getD_eq_getElem?_getD, List.getElem?_eq_getElem hlt2]
      exact (Option.some.inj i2).symm
    rw [e]
    have hn := small_geo2 ls hs
    unfold geo2 at hn
    simp only [Bool.and_eq_true, decide_eq_true_eq] at hn
    refine side_bookOk (off := (lYards loneLs).length) s2 hn.1.1.1.2 h hlt2 ?_
    rw [← hl.1, Nat.add_sub_cancel' (by omega)]
    exact i1
end
end LK
/-! ## G17 -/
namespace LK
theorem shapes_lj : ∀ z ∈ shapes, z.1.length < 30 ∧ (lPlaces z.1).length ≤ 100 ∧ 0 < (lBeside z.1 z.2).length ∧ jOne z.1 z.2 ∈ jNear z.1 z.2 ∧ ∀ w ∈ z.1, (!decide (z.2 ∈ [w.1, w.2])) = true → w.1 ∈ jNear z.1 z.2 ∧ w.2 ∈ jNear z.1 z.2 := by decide +kernel
theorem small_ljok {ls : List Lane} (hs : ls ∈ smalls) {g : Nat} (hg : g ∈ lGates ls) {bs : List Book} (h : goodBooks ls bs) : LJOk ls bs g := by
  obtain ⟨f1, f2, f3, f4, f5⟩ := shapes_lj _ (mem_shapes hs hg)
  refine ⟨f1, f2, f3, f4, f5, by rw [h.1]; exact (small_facts ls hs).2.1, fun b hb => ⟨?_, good_ends hs hg h b hb⟩⟩
  obtain ⟨y, _, gb⟩ := good_at h hb
  exact Nat.le_trans gb.2.1 (by decide)
theorem joined_wok {C W : PySem.Addr} {ls : List Lane} (hs : ls ∈ smalls) {g : Nat} (hg : g ∈ lGates ls) {bs : List Book} (h : goodBooks ls bs) {lb : List Book} (hl : goodBooks loneLs lb) : WOk (mkWb W (mkCty C (jp ls g)) (lJoinBooks loneLs lb 2 ls bs g)) := by
  have hz := mem_shapes hs hg
  have hh := (shapes_ok _ hz).2.2.2
  unfold geo2 at hh
  simp only [Bool.and_eq_true, decide_eq_true_eq] at hh
  have e1 : yardsIn (cTies (jl ls g)) = lYards (jl ls g) := hh.1.1.1.1.1
  refine wok_of (shapes_ok _ hz).2.2.1 ?_ fun b hb => Nat.lt_of_le_of_lt (jbooks_most h hl b hb) (by decide)
  rw [show cTies (jp ls g) = cTies (jl ls g) from (shapes_more _ hz).1, e1]
  exact jbooks_len hs h hg hl
end LK
/-! ## F33 -/
namespace LK
open PySem PySem.Spec PyProof.Rows L2
open Rp (R)
/-! ### the table of kinds: a web and a gate for each -/
structure Tb (C W : Addr) where
  o : Wb C W × Nat
  c : Wb C W × Nat
  b : Wb C W × Nat
def tbV (vo vc vb : V) : List (Key × V) := [(.inr Kd.own.str, vo), (.inr Kd.clear.str, vc), (.inr Kd.bad.str, vb)]
def Tb.of {C W : Addr} (t : Tb C W) : Kd → Wb C W × Nat
  | .own => t.o
  | .clear => t.c
  | .bad => t.b
instance {C W : Addr} : Rp (Tb C W) := ⟨fun B t v => ∃ a vo vc vb, v = .ref a ∧ B a = some (.dK (tbV vo vc vb)) ∧ R B t.o vo ∧ R B t.c vc ∧ R B t.b vb,
  fun s ⟨a, vo, vc, vb, e, h, r1, r2, r3⟩ => ⟨a, vo, vc, vb, e, s a _ h, Rp.mono s r1, Rp.mono s r2, Rp.mono s r3⟩⟩
theorem putK_hit {kvs : List (Key × V)} {k : Key} {v : V} (h : (kvs.any fun kv => decide (kv.1 = k)) = true) : putK kvs k v = kvs.map (fun kv => if kv.1 = k then (kv.1, v) else kv) := if_pos h
theorem kstr_inj {k l : Kd} (h : k.str = l.str) : k = l := by
  have := kd_inj k l
  rw [decide_eq_true h] at this
  exact of_decide_eq_true this.symm
theorem kstr_iff {k l : Kd} : k.str = l.str ↔ k = l := ⟨kstr_inj, fun h => by rw [h]⟩
theorem kkey {k l : Kd} : ((.inr k.str : Key) = .inr l.str) ↔ k = l := ⟨fun h => kstr_inj (Sum.inr.inj h), fun h => by rw [h]⟩
theorem putK_tb (vo vc vb v : V) (k : Kd) : putK (tbV vo vc vb) (.inr k.str) v = tbV (if k = .own then v else vo) (if k = .clear then v else vc) (if k = .bad then v else vb) := by
  unfold putK tbV
  cases k <;> simp [kstr_iff]
theorem putK_bad (vo vc v : V) : putK [(.inr Kd.own.str, vo), (.inr Kd.clear.str, vc)] (.inr Kd.bad.str) v = tbV vo vc v := by
  unfold putK tbV
  simp [kstr_iff]
theorem merge_two (vo vc : V) : mergeK [] [(.inr Kd.own.str, vo), (.inr Kd.clear.str, vc)] = [(.inr Kd.own.str, vo), (.inr Kd.clear.str, vc)] := by
  unfold mergeK
  simp [putK, kstr_iff]
section
variable {α β γ δ : Type} [Rp α] [Rp β] [Rp γ] [Rp δ]
variable {X : Cx} {e a b c k1 k2 tg iter : Expr} {es : List Expr} {σ : L2.St} {B B' H H' B0 H0 : Hp} {x : α} {y : β} {z : γ} {pos p p2 p3 p4 : Pos} {D : Ends} {rest body els : List Stmt} {st : Stmt} {l pt : Addr}
/-- {k1: a, k2: b} -/
theorem rd_disp2 (hk1 : Ev X k1 σ B Kd.own) (hk2 : Ev X k2 σ B Kd.clear) (ha : Ev X a σ B x) (hb : Ev X b σ B y) (s : Same B H) {Q : VK} (q : ∀ d v1 v2 B' H', HLen H' → Nw B H B' H' → H d = none → B' d = none → H' d = some (.dK [(.inr Kd.own.str, v1), (.inr Kd.clear.str, v2)]) → R B' x v1 → R B' y v2 → Q (.ref d) H') :
    rd X (.Dict [some k1, some k2] [a, b] pos) σ H Q :=
  rd_mkL (pe_disp (pps_cons pe_rd pe_rd (pps_cons pe_rd pe_rd pps_nil)) rfl rfl (by simp) (Nat.le_of_ble_eq_true rfl)) (by
    intro d hd
    have s0 : Same B (upd H d (.dK [])) := s.trans (same_new hd)
    refine hk1 _ s0 _ fun w1 B1 H1 _ n1 r1 => ha.mono n1.bb H1 n1.bh _ fun v1 B2 H2 _ n2 rv1 => hk2.mono (n1.trans n2).bb H2 n2.bh _ fun w2 B3 H3 _ n3 r2 => hb.mono (n1.trans (n2.trans n3)).bb H3 n3.bh _ fun v2 B4 H4 _ n4 rv2 => ?_
    cases (show w1 = _ from r1)
    cases (show w2 = _ from r2)
    have N := n1.trans (n2.trans (n3.trans n4))
    have h4 : H4 d = some (.dK []) := N.hh d _ upd_same
    have b0 : B d = none := s.free hd
    have b4 : B4 d = none := N.hid d (by rw [upd_same]; intro z; cases z) b0
    refine ⟨h4, [(.inr Kd.own.str, v1), (.inr Kd.clear.str, v2)], rfl, Nat.le_of_ble_eq_true rfl, fun hl => ?_⟩
    rw [merge_two] at hl ⊢
    have N1 : Nw B H B4 (upd H4 d (.dK [(.inr Kd.own.str, v1), (.inr Kd.clear.str, v2)])) := ((Nw.grow s (same_new hd)).trans N).mut hd b4
    exact q d v1 v2 B4 _ hl N1 hd b4 upd_same (Rp.mono (n3.bb.trans n4.bb) rv1) rv2)
/-- d[k] = x -/
theorem rb_putD (i : Nat) {kvs : List (Key × V)} {n : Str} {k : Kd} {pt : Pos} (hu : X.A.units + 1 < cLine) (h : Ev X e σ B x) (hj : Ev X b σ B k) (s : Same B H) (hσ : σ[i]? = some (some (.ref l))) (hl : H l = some (.dK kvs)) (hz : kvs.length ≤ 100) (q : ∀ v B' H', Nw B H B' H' → R B' x v → rdB X rest D σ (upd H' l (.dK (putK kvs (.inr k.str) v))))
    (hN : X.N[i]? = some n := by rfl) (hv : Vis X.env.scope n := by first | exact Or.inl rfl | exact Or.inr (Or.inl rfl)) (hd : (n == ("__debug__" : Str)) = false := by decide) (hcd : (n == ("__classdict__" : Str)) = false := by decide)
    (ha : ∀ v, assign (.Subscript (.Name n p) b pt) X.env v = (do
      let ov ← holding [v] (eval (.Name n p) X.env)
      let iv ← holding [v, ov] (eval b X.env)
      standAt pt
      holding [v, ov, iv] (setItem ov iv v)
      release [v, ov, iv] []) := by intro _; rfl)
    (hs : swapsWithSole [.Subscript (.Name n p) b pt] e pos.line X.env = pure false := by rfl) (hw : swappedStores [.Subscript (.Name n p) b pt] e X.env = pure none := by rfl) (h1 : (assignEach [.Subscript (.Name n p) b pt] X.env).map (·.2) = [assign (.Subscript (.Name n p) b pt) X.env] := by rfl) :
    rdB X (.Assign [.Subscript (.Name n p) b pt] e pos :: rest) D σ H :=
  rdB_mk (pss_cons (ps_asg pe_rd (pg_sub (pe_var hN hv hd hcd) pe_rd (set_dict hu) ha) hs hw h1) pss_rd) (h H s _ fun v B1 H1 _ n1 r1 => ⟨.ref l, hσ, hj.mono n1.bb H1 n1.bh _ fun w B' H' _ n2 r2 => by
    cases (show w = _ from r2)
    refine ⟨l, _, rfl, DPut.k (k := .inr k.str) (v := v) (n2.hh l _ (n1.hh l _ hl)) (Nat.lt_of_le_of_lt hz (by decide)), q v B' H' (n1.trans n2) (Rp.mono n2.bb r1)⟩⟩)
/-- the table beside the pot, while it changes -/
def GrT {C W : Addr} (pt : Addr) (B0 H0 : Hp) (l : Addr) (t : Tb C W) (B H : Hp) : Prop := ∃ vo vc vb, NwP pt B0 H0 B H ∧ H0 l = none ∧ l ≠ pt ∧ B l = none ∧ H l = some (.dK (tbV vo vc vb)) ∧ R B t.o vo ∧ R B t.c vc ∧ R B t.b vb
variable {C W : Addr} {t : Tb C W}
theorem GrT.nw (g : GrT pt B0 H0 l t B H) : NwP pt B0 H0 B H := by obtain ⟨_, _, _, N, _⟩ := g; exact N
theorem GrT.step (g : GrT pt B0 H0 l t B H) (n : NwP pt B H B' H') : GrT pt B0 H0 l t B' H' := by
  obtain ⟨vo, vc, vb, N, h0, ne, hb, hl, r1, r2, r3⟩ := g
  exact ⟨vo, vc, vb, N.trans n, h0, ne, n.hid l (by rw [hl]; intro z; cases z) hb, n.hh l _ ne hl, Rp.mono n.bb r1, Rp.mono n.bb r2, Rp.mono n.bb r3⟩
theorem GrT.stepN (g : GrT pt B0 H0 l t B H) (n : Nw B H B' H') : GrT pt B0 H0 l t B' H' := g.step (n.toP g.nw.bp g.nw.pot)
theorem NwP.mutD {o : HO} (N : NwP pt B0 H0 B H) (h0 : H0 l = none) (ne : l ≠ pt) (hb : B l = none) : NwP pt B0 H0 B (upd H l o) := by
  obtain ⟨pa, pb, hpot⟩ := N.pot
  exact ⟨N.bb, same_upd2 N.bh hb, fun b o hb e => by rw [upd_ne (ne_of_none e h0)]; exact N.hh b o hb e, N.hid, N.bp, ⟨pa, pb, by rw [upd_ne (Ne.symm ne)]; exact hpot⟩⟩
def Tb.put (t : Tb C W) (k : Kd) (e : Wb C W × Nat) : Tb C W := ⟨if k = .own then e else t.o, if k = .clear then e else t.c, if k = .bad then e else t.b⟩
theorem GrT.put (g : GrT pt B0 H0 l t B H) {k : Kd} {u : Wb C W × Nat} {v : V} (r : R B u v) {kvs : List (Key × V)} (hl : H l = some (.dK kvs)) : GrT pt B0 H0 l (t.put k u) B (upd H l (.dK (putK kvs (.inr k.str) v))) := by
  obtain ⟨vo, vc, vb, N, h0, ne, hb, hl', r1, r2, r3⟩ := g
  rw [hl'] at hl
  cases hl
  refine ⟨_, _, _, N.mutD h0 ne hb, h0, ne, hb, by rw [putK_tb]; exact upd_same, ?_, ?_, ?_⟩
  · show R B (if k = .own then u else t.o) (if k = .own then v else vo)
    split
    · exact r
    · exact r1
  · show R B (if k = .clear then u else t.c) (if k = .clear then v else vc)
    split
    · exact r
    · exact r2
  · show R B (if k = .bad then u else t.b) (if k = .bad then v else vb)
    split
    · exact r
    · exact r3
theorem GrT.told (g : GrT pt B0 H0 l t B H) : ∃ B2, NwP pt B0 H0 B2 H ∧ R B2 t (.ref l) := by
  obtain ⟨vo, vc, vb, N, h0, ne, hbl, hl, r1, r2, r3⟩ := g
  have s := same_new (o := .dK (tbV vo vc vb)) hbl
  exact ⟨upd B l (.dK (tbV vo vc vb)), ⟨N.bb.trans s, same_tell N.bh hl, N.hh, fun b h1 h2 => by
    rw [upd_ne (fun e => h1 (by rw [e]; exact h0))]; exact N.hid b h1 h2, by rw [upd_ne (Ne.symm ne)]; exact N.bp, N.pot⟩, ⟨l, vo, vc, vb, rfl, upd_same, Rp.mono s r1, Rp.mono s r2, Rp.mono s r3⟩⟩
end
/-! ### what each web of the table is -/
def EntOk {C W : Addr} (k : Kd) (e : Wb C W × Nat) : Prop := ∃ ls bs, ls ∈ smalls ∧ goodBooks ls bs ∧ e.2 ∈ lGates ls ∧ e.1 = mkWb W (mkCty C ls) bs ∧ lKind ls bs e.2 = k
def TbOk {C W : Addr} (t : Tb C W) : Prop := ∀ k, EntOk k (t.of k)
theorem TbOk.put {C W : Addr} {t : Tb C W} (h : TbOk t) {k : Kd} {e : Wb C W × Nat} (he : EntOk k e) : TbOk (t.put k e) := fun j => by
  have h1 := h j
  cases k <;> cases j <;> first | exact he | exact h1
def rowLs : List Lane := [(0, 1), (1, 2), (2, 3)]
theorem row_small : rowLs ∈ smalls := by decide +kernel
theorem row_gate : 3 ∈ lGates rowLs := by decide +kernel
theorem row_good : goodBooks rowLs [[(2, [])], [(2, [])]] := by
  refine ⟨by decide +kernel, fun i y b hy hb => ?_⟩
  have key : ∀ y ∈ lYards rowLs, ∀ q ∈ pairsAt (lBeside rowLs y), lLets [(2, [])] [q] = true := by decide +kernel
  have hb2 : b = [(2, [])] := by
    match i, hb with
    | 0, hb => cases hb; rfl
    | 1, hb => cases hb; rfl
    | i + 2, hb => cases hb
  subst hb2
  refine ⟨by decide, by decide, fun a ha => ?_, key y (List.mem_of_getElem? hy)⟩
  cases List.mem_singleton.mp ha
  exact ⟨by decide, by decide, by decide, fun z hz => by cases hz⟩
theorem ent_own {C W : Addr} : EntOk .own (mkWb W (mkCty C loneLs) [[(2, [])]], 2) := ⟨loneLs, _, lone_small, lone_own, lone_gate, rfl, own_kind⟩
theorem ent_clear {C W : Addr} : EntOk .clear (mkWb W (mkCty C loneLs) [[(2, [⟨none, some 2, 1⟩])]], 2) := ⟨loneLs, _, lone_small, lone_clear, lone_gate, rfl, clear_kind⟩
theorem ent_bad {C W : Addr} : EntOk .bad (mkWb W (mkCty C rowLs) [[(2, [])], [(2, [])]], 3) := ⟨rowLs, _, row_small, row_good, row_gate, rfl, bad_kind⟩
section
variable {P : Program} {w : World} {K : PySem.W.Frag} {mg : Str → Option Value} {base : Heap} {cC cW : Addr}
theorem sc111 : FnScope ["_law_pot_here", "_law_short", "_law_row", "_law_found", "_law_turn", "_law_lanes", "_law_books_here", "_law_gate"] ["_law_pot_here"] (defScope (topS 111)) := ⟨rfl, rfl, rfl, by decide +kernel, rfl, by decide +kernel, by decide +kernel⟩
theorem fk_by_kinds (E : Tops K mg cC cW) : Fk P w K mg base "_law_by_kinds" 10 ["_law_pot_here"] (SpP0 (fun t : Tb cC cW => TbOk t)) :=
  fk_mk (N := ["_law_pot_here", "_law_short", "_law_row", "_law_found", "_law_turn", "_law_lanes", "_law_books_here", "_law_gate"]) E.d111 sc111 (fun vs H Q E ⟨_, _, e, _⟩ => by rw [e]; rfl) fun f cd A ou s H vs Q EX hr ⟨B, p, e, sb, hb, hp, q⟩ => by
    subst e
    refine rb_par 1 2 (rdA2 (B := B) (x := mkCty cC loneLs) (y := mkCty cC rowLs) (ev_mkC (ls := loneLs) E (hr.mono (by decide)) (eva1 (EvF.ev (ev_lst (xs := loneLs) (eva2 (ev_lane 0 1) (ev_lane 1 2))))) (small_cty _ lone_small))
      (ev_mkC (ls := rowLs) E (hr.mono (by decide)) (eva1 (EvF.ev (ev_lst (xs := rowLs) (eva3 (ev_lane 0 1) (ev_lane 1 2) (ev_lane 2 3))))) (small_cty _ row_small)) sb fun v1 v2 B1 H1 hl1 n1 r1 r2 => ⟨_, _, rfl, ?_⟩) sc111.nd
    refine rb_setR 3 (rd_disp2 (B := B1) (x := (mkWb cW (mkCty cC loneLs) [[(2, [])]], 2)) (y := (mkWb cW (mkCty cC loneLs) [[(2, [⟨none, some 2, 1⟩])]], 2)) (ev_kd .own) (ev_kd .clear) ?_ ?_ n1.bh fun d v3 v4 B2 H2 hl2 n2 h0 hb2 hd r3 r4 => ?_) sc111.nd
    · exact ev_tup2 (eva2 (x := mkWb cW (mkCty cC loneLs) [[(2, [])]]) (y := 2) (ev_mkW (c := mkCty cC loneLs) (bs := [[(2, [])]]) E (hr.mono (by decide)) (eva2 (ev_var 1 rfl r1) (EvF.ev (ev_lst (xs := ([[(2, [])]] : List Book)) (eva1 (EvF.ev (ev_lst (xs := ([(2, [])] : Book)) (eva1 (ev_tup2 (eva2 (x := 2) (y := ([] : List Bnd)) (ev_nat 2) (EvF.ev ev_lst0))))))))))
        (good_booksOk lone_small lone_own)) (ev_nat 2))
    · exact ev_tup2 (eva2 (x := mkWb cW (mkCty cC loneLs) [[(2, [⟨none, some 2, 1⟩])]]) (y := 2) (ev_mkW (c := mkCty cC loneLs) (bs := [[(2, [⟨none, some 2, 1⟩])]]) E (hr.mono (by decide)) (eva2 (ev_var 1 rfl r1) (EvF.ev (ev_lst (xs := ([[(2, [⟨none, some 2, 1⟩])]] : List Book)) (eva1 (EvF.ev (ev_lst (xs := ([(2, [⟨none, some 2, 1⟩])] : Book)) (eva1 (ev_tup2 (eva2 (x := 2) (y := ([⟨none, some 2, 1⟩] : List Bnd)) (ev_nat 2)
        (EvF.ev (ev_lst (xs := ([⟨none, some 2, 1⟩] : List Bnd)) (eva1 (ev_tup3 (eva3 (x := (none : Option Nat)) (y := some 2) (z := 1) ev_non (ev_some (ev_nat 2)) (ev_nat 1))))))))))))))) (good_booksOk lone_small lone_clear)) (ev_nat 2))
    have n12 := n1.trans n2
    refine rb_putD 3 (B := B2) (x := (mkWb cW (mkCty cC rowLs) [[(2, [])], [(2, [])]], 3)) (k := .bad) (hu_of hr) ?_ (ev_kd .bad) n2.bh rfl hd (Nat.le_of_ble_eq_true rfl) fun v5 B3 H3 n3 r5 => ?_
    · exact ev_tup2 (eva2 (x := mkWb cW (mkCty cC rowLs) [[(2, [])], [(2, [])]]) (y := 3) (ev_mkW (c := mkCty cC rowLs) (bs := [[(2, [])], [(2, [])]]) E (hr.mono (by decide)) (eva2 (ev_var 2 rfl (Rp.mono n2.bb r2)) (EvF.ev (ev_lst (xs := ([[(2, [])], [(2, [])]] : List Book)) (eva2 (EvF.ev (ev_lst (xs := ([(2, [])] : Book)) (eva1 (ev_tup2 (eva2 (x := 2) (y := ([] : List Bnd)) (ev_nat 2) (EvF.ev ev_lst0))))))
        (EvF.ev (ev_lst (xs := ([(2, [])] : Book)) (eva1 (ev_tup2 (eva2 (x := 2) (y := ([] : List Bnd)) (ev_nat 2) (EvF.ev ev_lst0)))))))))) (good_booksOk row_small row_good)) (ev_nat 3))
    have nP := (n12.trans n3).toP hb hp
    have h0d : H d = none := n1.hh.free h0
    have b3 : B3 d = none := n3.hid d (by rw [hd]; intro z; cases z) hb2
    have hdp : d ≠ p := fun e => by
      obtain ⟨a, b, h⟩ := hp
      rw [← e, h0d] at h
      cases h
    have g3 : GrT p B H d (⟨(mkWb cW (mkCty cC loneLs) [[(2, [])]], 2), (mkWb cW (mkCty cC loneLs) [[(2, [⟨none, some 2, 1⟩])]], 2), (mkWb cW (mkCty cC rowLs) [[(2, [])], [(2, [])]], 3)⟩ : Tb cC cW) B3 (upd H3 d (.dK (putK [(.inr Kd.own.str, v3), (.inr Kd.clear.str, v4)] (.inr Kd.bad.str) v5))) :=
      ⟨v3, v4, v5, nP.mutD h0d hdp b3, h0d, hdp, b3, by rw [putK_bad]; exact upd_same, Rp.mono n3.bb r3, Rp.mono n3.bb r4, r5⟩
    have t3 : TbOk (⟨(mkWb cW (mkCty cC loneLs) [[(2, [])]], 2), (mkWb cW (mkCty cC loneLs) [[(2, [⟨none, some 2, 1⟩])]], 2), (mkWb cW (mkCty cC rowLs) [[(2, [])], [(2, [])]], 3)⟩ : Tb cC cW) := fun k => by
      cases k
      · exact ent_clear
      · exact ent_own
      · exact ent_bad
    generalize upd H3 d (.dK (putK [(.inr Kd.own.str, v3), (.inr Kd.clear.str, v4)] (.inr Kd.bad.str) v5)) = H4 at g3
    generalize (⟨(mkWb cW (mkCty cC loneLs) [[(2, [])]], 2), (mkWb cW (mkCty cC loneLs) [[(2, [⟨none, some 2, 1⟩])]], 2), (mkWb cW (mkCty cC rowLs) [[(2, [])], [(2, [])]], 3)⟩ : Tb cC cW) = t0 at g3 t3
    refine rb_forS (B := B3) (xs := List.range 2) (fun i σ' B5 H5 => ∃ (t : Tb cC cW) (y4 y5 y6 y7 : Option V), σ' = [some (.ref p), some v1, some v2, some (.ref d), y4, y5, y6, y7] ∧ GrT p B H d t B5 H5 ∧ TbOk t)
      (ei_range1 (ev_nat 2) (by decide) E.bt.range) (fun i σ B H B' H' ⟨t, a1, a2, a3, a4, e, g, h⟩ n => ⟨t, a1, a2, a3, a4, e, g.stepN n, h⟩) (fun i σ B H ⟨_, _, _, _, _, _, g, _⟩ => g.nw.bh) ⟨t0, none, none, none, none, rfl, g3, t3⟩ PassesOwn.never rfl ?_ ?_
    · rintro B5 s5 i a va σ' B6 H6 ha s6 ⟨t, y4, y5, y6, y7, rfl, g6, t6⟩ ra
      refine rg_name 4 (rb_setP (pt := p) 5 (B := B6) (evp_call0 (pt := p) (S := fun x => x ∈ smalls) 0 (fk_small E) (hr.mono (by decide)) rfl) g6.nw.bh g6.nw.bp g6.nw.pot (fun ls v5 B7 H7 hl7 n7 hls r7 => ?_) sc111.nd) sc111.nd
      obtain ⟨f1, f2, f3, f4, f5, f6, f7⟩ := small_facts ls hls
      have g7 := g6.step n7
      refine rb_setP (pt := p) 6 (B := B7) (evp_call1 (pt := p) (x := ls) 0 (fk_lbooks E) (hr.mono (by decide)) rfl (ev_var 5 rfl r7) ⟨f1, Nat.le_trans f2 (by decide), fun y hy => small_near ls hls y hy⟩) g7.nw.bh g7.nw.bp g7.nw.pot (fun bs v6 B8 H8 hl8 n8 hbs r8 => ?_) sc111.nd
      have g8 := g7.step n8
      refine rb_setP (pt := p) 7 (B := B8) (evp_call1 (pt := p) (x := lGates ls) 0 (fk_pick (α := Nat) E) (hr.mono (by decide)) rfl (ev_call1 (x := ls) (fk_lgates E) (hr.mono (by decide)) (eva1 (ev_var 5 rfl (Rp.mono n8.bb r7))) f1) ⟨f6, f7⟩) g8.nw.bh g8.nw.bp g8.nw.pot (fun g v7 B9 H9 hl9 n9 hg r9 => ?_) sc111.nd
      have g9 := g8.step n9
      have r5 := Rp.mono (n8.bb.trans n9.bb) r7
      have r6 := Rp.mono n9.bb r8
      obtain ⟨wo, wc, wb, _, _, _, _, hd9, _⟩ := id g9
      refine rb_putD 3 (B := B9) (x := (mkWb cW (mkCty cC ls) bs, g)) (k := lKind ls bs g) (hu_of hr) (ev_tup2 (eva2 (x := mkWb cW (mkCty cC ls) bs) (y := g) (ev_mkW (c := mkCty cC ls) (bs := bs) E (hr.mono (by decide)) (eva2 (ev_mkC (ls := ls) E (hr.mono (by decide)) (eva1 (ev_var 5 rfl r5)) (small_cty ls hls)) (ev_var 6 rfl r6)) (good_booksOk hls hbs)) (ev_var 7 rfl r9)))
        (ev_call3 (x := ls) (y := bs) (z := g) (fk_lkind E) (hr.mono (by decide)) (eva3 (ev_var 5 rfl r5) (ev_var 6 rfl r6) (ev_var 7 rfl r9)) ⟨small_lok hls hbs, (f5 g hg).1, (f5 g hg).2⟩) g9.nw.bh rfl hd9 (Nat.le_of_ble_eq_true rfl) fun v10 B10 H10 n10 r10 => ?_
      have g10 := g9.stepN n10
      have hd10 : H10 d = some (.dK (tbV wo wc wb)) := n10.hh d _ hd9
      refine rb_nil ⟨B10, s6.trans (n7.bb.trans (n8.bb.trans (n9.bb.trans n10.bb))), t.put (lKind ls bs g) (mkWb cW (mkCty cC ls) bs, g), some va, some v5, some v6, some v7, rfl, g10.put r10 hd10, t6.put ⟨ls, bs, hls, hbs, hg, rfl, rfl⟩⟩
    · rintro σ' B5 H5 s5 ⟨t, y4, y5, y6, y7, rfl, g5, t5⟩
      obtain ⟨B6, N6, r6⟩ := g5.told
      exact rb_ret (B := B6) (ev_var (x := t) 3 rfl r6) N6.bh fun v' B' H' n r' => q t v' B' H' (N6.then n) t5 r'
end
end LK
/-! ## G18 -/
namespace LK
/-! ### what joining asks of the two sides -/
def n1Of (ls : List Lane) (g : Nat) : List Nat := (numsBoth (cTies loneLs) 2 (cTies ls) g).1
def n2Of (ls : List Lane) (g : Nat) : List Nat := (numsBoth (cTies loneLs) 2 (cTies ls) g).2
theorem shapes_jok : ∀ z ∈ shapes, ((∀ w ∈ cLanes loneLs, w.1 < (n1Of z.1 z.2).length ∧ w.2 < (n1Of z.1 z.2).length) ∧ (∀ p ∈ lPlaces loneLs, p < (n1Of z.1 z.2).length)) ∧
    ((∀ w ∈ cLanes z.1, w.1 < (n2Of z.1 z.2).length ∧ w.2 < (n2Of z.1 z.2).length) ∧ (∀ p ∈ lPlaces z.1, p < (n2Of z.1 z.2).length)) ∧
    ((cTies z.1).length ≤ 100 ∧ z.2 < (cTies z.1).length ∧ (rowAt (cTies z.1) z.2).length = 1) ∧ (yardsIn (cTies loneLs)).length + (yardsIn (cTies z.1)).length ≤ 7 ∧ (cLanes z.1).length ≤ 100 := by decide +kernel
theorem lone_shape : (loneLs, 2) ∈ shapes := mem_shapes lone_small lone_gate
section
variable {C W : PySem.Addr} {ls : List Lane} {bs lb : List Book} {g : Nat}
theorem side_in (hs : ls ∈ smalls) (hg : g ∈ lGates ls) (h : goodBooks ls bs) {ns : List Nat} (h1 : ∀ w ∈ cLanes ls, w.1 < ns.length ∧ w.2 < ns.length) (h2 : ∀ p ∈ lPlaces ls, p < ns.length) (h3 : (cLanes ls).length ≤ 100) : sideIn (mkWb W (mkCty C ls) bs) ns := by
  have e := (small_yards ls hs).1
  have hl : bs.length = (yardsIn (cTies ls)).length := by rw [e]; exact h.1
  refine ⟨⟨h3, h1⟩, hl, by show (yardsIn (cTies ls)).length ≤ 100; rw [e]; exact (small_facts ls hs).2.1, fun y hy => ?_⟩
  have hi : (yardsIn (cTies ls)).idxOf y < bs.length := by rw [hl]; exact List.idxOf_lt_length_of_mem hy
  have hm : bookAt (cTies ls) bs y ∈ bs := List.mem_of_getElem? (getD_at (d := ([] : Book)) hi)
  obtain ⟨y0, _, gb⟩ := good_at h hm
  refine ⟨Nat.le_trans gb.2.1 (by decide), fun a ha z hz => ?_⟩
  obtain ⟨e1, e2⟩ := good_nr hs hg h _ hm a ha z hz
  exact ⟨fun p hp => h2 p (e1 p hp), fun p hp => h2 p (e2 p hp)⟩
theorem jok (hs : ls ∈ smalls) (hg : g ∈ lGates ls) (h : goodBooks ls bs) (hl : goodBooks loneLs lb) : JOk (mkWb W (mkCty C loneLs) lb) 2 (mkWb W (mkCty C ls) bs) g := by
  have hz := mem_shapes hs hg
  obtain ⟨⟨a1, a2⟩, ⟨b1, b2⟩, ⟨c1, c2, c3⟩, _, c5⟩ := shapes_jok _ hz
  obtain ⟨_, _, ⟨d1, d2, d3⟩, _, d5⟩ := shapes_jok _ lone_shape
  refine ⟨⟨d1, d2, by show 0 < (rowAt (cTies loneLs) 2).length; rw [d3]; decide⟩, ⟨c1, c2, by show 0 < (rowAt (cTies ls) g).length; rw [c3]; decide⟩, side_in lone_small lone_gate hl a1 a2 d5, side_in hs hg h b1 b2 c5, (shapes_ok _ hz).2.1, ?_⟩
  show booksOk (cTies (jp ls g)) (jBooks (cTies loneLs) lb (numsBoth (cTies loneLs) 2 (cTies ls) g).1 (cTies ls) bs (numsBoth (cTies loneLs) 2 (cTies ls) g).2) = true
  rw [jbooks_eq hs h hg hl]
  exact joined_booksOk hs hg h hl
theorem joined_is (hs : ls ∈ smalls) (hg : g ∈ lGates ls) (h : goodBooks ls bs) (hl : goodBooks loneLs lb) : joinedWeb (mkWb W (mkCty C loneLs) lb) 2 (mkWb W (mkCty C ls) bs) g = mkWb W (mkCty C (jp ls g)) (lJoinBooks loneLs lb 2 ls bs g) := by
  rw [← jbooks_eq hs h hg hl]
  rfl
theorem gates_ok (hs : ls ∈ smalls) (hg : g ∈ lGates ls) : g < (cTies ls).length ∧ (rowAt (cTies ls) g).length = 1 := (shapes_jok _ (mem_shapes hs hg)).2.2.1.2
theorem few_yards (hs : ls ∈ smalls) (hg : g ∈ lGates ls) : (yardsIn (cTies loneLs)).length + (yardsIn (cTies ls)).length ≤ 7 := (shapes_jok _ (mem_shapes hs hg)).2.2.2.1
end
/-! ### the parting parts -/
theorem part_good (a b : Kd) : goodBooks loneLs [[(2, partBnds a b)]] := by
  unfold partBnds
  split
  · exact lone_clear
  · exact lone_own
def freeOf (a b : Kd) : Kd → Bool
  | .clear => true
  | .own => decide (Kd.bad ∈ [a, b])
  | .bad => false
theorem free_eq {ls : List Lane} {bs : List Book} {g : Nat} (hs : ls ∈ smalls) (hg : g ∈ lGates ls) (h : goodBooks ls bs) (a b : Kd) : (!(lPosts (jl ls g) (lJoinBooks loneLs [[(2, partBnds a b)]] 2 ls bs g)).isEmpty) = freeOf a b (lKind ls bs g) := by
  have e : (!(lPosts (jl ls g) (lJoinBooks loneLs [[(2, partBnds a b)]] 2 ls bs g)).isEmpty) = true ↔ lPosts (jl ls g) (lJoinBooks loneLs [[(2, partBnds a b)]] 2 ls bs g) ≠ [] := by
    cases lPosts (jl ls g) (lJoinBooks loneLs [[(2, partBnds a b)]] 2 ls bs g) <;> simp
  have hpp : PP loneLs [[(2, partBnds a b)]] 1 2 = !decide (Kd.bad ∈ [a, b]) := by
    unfold partBnds
    split
    · rename_i hb
      rw [hb]; exact lone_free
    · rename_i hb
      rw [show decide (Kd.bad ∈ [a, b]) = false from by cases q : decide (Kd.bad ∈ [a, b]) with | false => rfl | true => exact absurd q hb]
      exact lone_plugged
  rw [Bool.eq_iff_iff, e, joined_iff hs hg h (part_good a b), hpp]
  have hk := (kinds (ls := ls) (bs := bs) (g := g) (k := lKind ls bs g)).mp rfl
  rcases hk with ⟨k1, k2⟩ | ⟨k1, k2, k3⟩ | ⟨k1, k2, k3⟩
  · rw [k1, k2]; simp [freeOf]
  · rw [k1, k2]; simp only [freeOf, Bool.false_eq_true, false_or, Bool.not_eq_false', decide_eq_true_eq]
    exact ⟨fun h => h.1, fun h => ⟨h, k3⟩⟩
  · rw [k1, k2, k3]; simp [freeOf]
theorem free_parts {a b : Kd} (h : a ≠ b) : freeOf a b a ≠ freeOf a b b := by
  cases a <;> cases b <;> first | exact absurd rfl h | decide
/-- the table of kinds -/
theorem never_eq (a b : Kd) : (([[], [Kd.own]] : List (List Kd)).any fun z => decide (z = [a, b].filter fun k => !decide (k = .clear))) = neverStuck a b := by
  cases a <;> cases b <;> decide
end LK
/-! ## L11 -/
namespace LK
open PySem PySem.Spec PyProof.Rows L2
open Rp (R)
/-! ### reading the table of kinds -/
theorem inr_ne {k l : Kd} (h : k ≠ l) : ¬ ((.inr k.str : Key) = .inr l.str) := fun e => h (kkey.mp e)
theorem valV_tb (vo vc vb : V) (k : Kd) : valV (tbV vo vc vb) (.inr k.str) = some (match k with | .own => vo | .clear => vc | .bad => vb) := by
  unfold tbV
  cases k with
  | own => exact valV_pos rfl
  | clear => rw [valV_neg (inr_ne (by decide)), valV_pos rfl]
  | bad => rw [valV_neg (inr_ne (by decide)), valV_neg (inr_ne (by decide)), valV_pos rfl]
def reprB (k : Bool) : Str := if k then "True" else "False"
theorem reprB_inj (k l : Bool) : decide (reprB k = reprB l) = decide (k = l) := by cases k <;> cases l <;> decide +kernel
theorem kd_lt (k : Kd) : decide (k.str.cps.toList < k.str.cps.toList) = false := by cases k <;> decide +kernel
instance : Sd Kd := ⟨fun a b => by simp [Dd.enc, PySem.W.alike], fun bs => PySem.W.Sortable.others fun b => ⟨by simp [Dd.enc], by simp [Dd.enc]⟩⟩
theorem eqv_kd (k l : Kd) : PyData.eqv (Dd.enc k) (Dd.enc l) = decide (k = l) := by cases k <;> cases l <;> decide +kernel
theorem eqv_kds : ∀ xs ys : List Kd, PyData.eqv (Dd.enc xs) (Dd.enc ys) = decide (xs = ys)
  | [], [] => by simp [Dd.enc, PyData.eqv, PyData.eqvAll]
  | [], y :: ys => by simp [Dd.enc, PyData.eqv, PyData.eqvAll]
  | x :: xs, [] => by simp [Dd.enc, PyData.eqv, PyData.eqvAll]
  | x :: xs, y :: ys => by
    have h1 := eqv_kd x y
    have h2 := eqv_kds xs ys
    simp only [Dd.enc, PyData.eqv, List.map_cons, PyData.eqvAll] at h1 h2 ⊢
    rw [h1, h2, Bool.eq_iff_iff]
    simp
section
variable {α β γ δ : Type} [Rp α] [Rp β] [Rp γ] [Rp δ]
variable {X : Cx} {e a b c o i e1 e2 e3 e4 e5 e6 : Expr} {es : List Expr} {σ : L2.St} {B B' H H' B0 H0 : Hp} {x : α} {y : β} {z : γ} {pos p p2 p3 p4 kp1 kp2 : Pos} {k l : Kd} {C W : Addr} {t : Tb C W} {m n : Bool}
theorem ev_tbGet (hu : X.A.units + 1 < cLine) (ho : Ev X o σ B t) (hi : Ev X i σ B k) (hs : NoSl i := by exact fun _ _ => rfl) : Ev X (.Subscript o i pos) σ B (t.of k) := fun H s Q q =>
  rd_mkL (pe_dget hu pe_rd pe_rd hs) (ho H s _ fun v B1 H1 _ n1 r1 => (hi.mono n1.bb) H1 n1.bh _ fun w B2 H2 _ n2 r2 => by
    obtain ⟨d, vo, vc, vb, rfl, hd, ro, rc, rb⟩ := Rp.mono n2.bb r1
    cases (show w = _ from r2)
    have e := valV_tb vo vc vb k
    refine ⟨d, _, rfl, by rw [← e]; exact DGet.k (k := .inr k.str) (n2.bh d _ hd), fun hl => q _ B2 H2 hl (n1.trans n2) ?_⟩
    cases k
    · exact rc
    · exact ro
    · exact rb)
/-- list(d) -/
theorem evf_tbList (h : Ev X e σ B t) (hm : X.mg "list" = none) (hc : X.calm = true := by rfl) (hg : Gl X "list" := by rfl) (h1 : NS X e [] := by rfl) : EvF X (.Call (.Name "list" p) [e] [] pos) σ B [Kd.own, Kd.clear, Kd.bad] := fun H s Q q =>
  rd_ty (call_list_dK hc) hm boot_list (rdA1 h s (fun v B' H' _ n r => by
    obtain ⟨d, vo, vc, vb, rfl, hd, ro, rc, rb⟩ := r
    exact ⟨d, _, rfl, n.bh d _ hd, fun u hu hl => q u _ B' _ hl (n.trans (Nw.grow n.bh (same_new hu))) (n.hh.free hu) (n.bh.free hu) upd_same (LR.cons (a := Kd.own) rfl (LR.cons (a := Kd.clear) rfl (LR.cons (a := Kd.bad) rfl LR.nil)))⟩) h1) hg (by decide) (by decide) h1
theorem call_reprB : CallR X (.builtin "repr") (fun xs H Q => ∃ k, xs = [.bl k] ∧ Q (.str (reprB k)) H) := by
  intro pins s σ H xs us Q I r h
  obtain ⟨k, rfl, q⟩ := h
  obtain ⟨u, rfl, r1⟩ := vals1 r
  cases (show u = .bool k from r1)
  refine PySem.P.repr_of_bool ⟨.str (reprB k), H, I.tok _, ⟨s.toks, ?_⟩, q⟩
  unfold reprB
  cases k <;> rfl
theorem ev_reprB (h : Ev X e σ B m) (hm : X.mg "repr" = none) (hg : Gl X "repr" := by rfl) (h1 : NS X e [] := by rfl) : Ev X (.Call (.Name "repr" p) [e] [] pos) σ B (reprB m) := fun H s Q q =>
  rd_blt call_reprB hm (by rfl) (rdA1 h s (fun v B' H' _ n r => ⟨m, by rw [show v = .bl m from r], fun hl => q _ B' H' hl n rfl⟩) h1) hg (by decide) (by decide) h1
theorem cm_ltK (ha : Ev X a σ B k) (hb : Ev X b σ B l) : Cm X (.Compare a [.Lt] [b] pos) σ B (decide (k.str.cps.toList < l.str.cps.toList)) :=
  cm_two op_lt_str (nomark _) ha hb fun B1 H1 s u v ru rv Q q => ⟨k.str, l.str, ru, rv, q⟩
theorem ev_the {u : α} (h : Ev X e σ B (some u)) : Ev X e σ B u := fun H s Q k => h H s Q fun v B' H' hl n r => k v B' H' hl n r
end
/-! ### a call by keywords alone -/
section
variable {X : Cx} {CX : CXT} {k : Nat} {f : Addr} {fd : FuncData} {ps ks : List Str} {sp : Sp} {E : XK} {x : Str} {p pos : Pos} {kws : List Keyword} {tk : TA}
variable {g : List Value → List Value → List Value} {gV : List V → List V → List V}
theorem pe_callK0 (F : FnOk X.prog X.w X.K X.mg X.base CX k f fd ps sp) (hr : Room k X.A) (hg : Gl X x) (hm : X.mg x = some (.ref f)) (hk : PySem.W.keepIn X.K (.ref f) = true) (hb : KBinds X.K fd ps ks g gV) (hx : Passes CX X E)
    (hkw : PK X kws tk) (hall : (backToKw pos (keywordEach kws X.env)).all (·.1.isSome) = true := by rfl) (hks : (backToKw pos (keywordEach kws X.env)).filterMap (·.1) = ks := by rfl)
    (hdb : (x == ("__debug__" : Str)) = false := by decide) (hpl : ((backTo pos (starEach [] X.env)).any (·.1) || (backToKw pos (keywordEach kws X.env)).any (·.1.isNone)) = false := by rfl) :
    PE X (.Call (.Name x p) [] kws pos) (tCallK sp gV E tNil tk) := by
  refine ⟨fun pins s σ H Q I h => ?_⟩
  refine wpAny_Call_Name_kw (ld_glob I hg hm ?_ hdb)
  refine PySem.W.callWith_KW0 (h₀ := X.base) I.ok.mod.kin hk hall (thn (hkw.run pos pins s σ H _ I h) fun ws s2 ⟨zs, H2, I2, rz, q2⟩ => ⟨I2.kIn, ?_⟩) hpl
  rw [hks]
  exact run_fnk (us := []) (vs := []) F hr hb hx I2 .nil rz q2
end
def swp {α : Type} (us ws : List α) : List α := match us, ws with
  | [], [a, b] => [b, a]
  | _, _ => []
theorem part_kb {K : PySem.W.Frag} {f : Addr} {fd : FuncData} (F : Fun K "parting" "parting" (topS 91) f fd) : KBinds K fd ["near", "far"] ["far", "near"] swp swp where
  to := fun s us ws X hl => by
    obtain ⟨oc, od, kV, doc, pm, an, cdv, ct, osl, rfl, lk, hcd⟩ := F.ex
    match us, ws, hl with
    | [], [a, b], _ => exact .of_eq rfl
  rel := fun {vs us zs ws} r1 r2 => by
    cases r1 with
    | nil =>
      cases r2 with
      | nil => exact .nil
      | cons h1 t1 => cases t1 with
        | nil => exact .nil
        | cons h2 t2 => cases t2 with
          | nil => exact .cons h2 (.cons h1 .nil)
          | cons _ _ => exact .nil
    | cons _ _ => exact .nil
section
variable {X : Cx} {a b : Expr} {σ : L2.St} {B H : Hp} {pos p kp1 kp2 : Pos} {k l : Kd} {cC cW : Addr}
theorem ev_partK (E : Tops X.K X.mg cC cW) (hr : Room 12 X.A) (ha : Ev X a σ B k) (hb : Ev X b σ B l) (hg : Gl X "parting" := by rfl) : Ev X (.Call (.Name "parting" p) [] [⟨some "far", a, kp1⟩, ⟨some "near", b, kp2⟩] pos) σ B (partingOf cC cW l k) := fun H s Q q => by
  obtain ⟨f, fd, F, G, hm, hb0⟩ := fk_partingF (P := X.prog) (w := X.w) (base := X.base) E
  refine rd_mkL (pe_callK0 G hr hg hm F.kp (part_kb F) pass0 (pk_cons pe_rd (pk_cons pe_rd pk_nil))) (ha H s _ fun v B1 H1 _ n1 r1 => (hb.mono n1.bb) H1 n1.bh _ fun w B2 H2 _ n2 r2 => ?_)
  exact ⟨B2, l, k, w, v, rfl, n2.bh, r2, Rp.mono n2.bb r1, trivial, fun v' B' H' n3 r3 hl => q v' B' H' hl ((n1.trans n2).trans n3) r3⟩
end
/-! ### the law's own joining -/
section
variable {X : Cx} {e1 e2 e3 e4 e5 e6 : Expr} {σ : L2.St} {B H : Hp} {pos p : Pos} {ls os : List Lane} {bs ms : List Book} {g d : Nat} {k : Nat} {ps : List Str}
theorem ev_callJ (G : Fk X.prog X.w X.K X.mg X.base "_law_joined" k ps SpJ) (hr : Room k X.A) (h1 : Ev X e1 σ B ls) (h2 : Ev X e2 σ B bs) (h3 : Ev X e3 σ B g) (h4 : Ev X e4 σ B os) (h5 : Ev X e5 σ B ms) (h6 : Ev X e6 σ B d) (o1 : LJOk ls bs g) (o2 : LJOk os ms d) (hg : Gl X "_law_joined" := by rfl)
    (s1 : NS X e1 [e2, e3, e4, e5, e6] := by rfl) (s2 : NS X e2 [e3, e4, e5, e6] := by rfl) (s3 : NS X e3 [e4, e5, e6] := by rfl) (s4 : NS X e4 [e5, e6] := by rfl) (s5 : NS X e5 [e6] := by rfl) (s6 : NS X e6 [] := by rfl) (hpl : (backTo pos (starEach [e2, e3, e4, e5, e6] X.env)).any (·.1) = false := by rfl) :
    Ev X (.Call (.Name "_law_joined" p) [e1, e2, e3, e4, e5, e6] [] pos) σ B ((lJoinLanes ls g os d, lJoinBooks ls bs g os ms d) : List Lane × List Book) := fun H s Q q =>
  rd_call G hr ((eva_cons h1 (eva_cons h2 (eva4 h3 h4 h5 h6 s3 s4 s5 s6) s2) s1) H s _ fun vs B1 H1 _ n1 r => by
    cases r with
    | @cons d1 v1 ds1 vs1 r1 t => cases t with
      | @cons d2 v2 ds2 vs2 r2 t => cases t with
        | @cons d3 v3 ds3 vs3 r3 t => cases t with
          | @cons d4 v4 ds4 vs4 r4 t => cases t with
            | @cons d5 v5 ds5 vs5 r5 t => cases t with
              | @cons d6 v6 ds6 vs6 r6 t => cases t with
                | nil => exact ⟨B1, ls, bs, g, os, ms, d, v1, v2, v3, v4, v5, v6, rfl, n1.bh, r1, r2, r3, r4, r5, r6, o1, o2, fun v' B' H' n2 r2 hl => q v' B' H' hl (n1.trans n2) r2⟩) hg (by decide) s1 hpl
end
end LK
/-! ## F34 -/
namespace LK
open PySem PySem.Spec PyProof.Rows L2
open Rp (R)
/-! ### what holds of the table's webs -/
section
variable {C W : Addr}
theorem ent_kind {e : Wb C W × Nat} {k : Kd} (h : EntOk k e) : (WOk e.1 ∧ e.2 < e.1.cty.ties.length ∧ (rowAt e.1.cty.ties e.2).length = 1) ∧ kindBy e.1.cty.ties e.1.cty.ahead e.1.books e.2 = k := by
  obtain ⟨ls, bs, hs, hb, hg, he, hk⟩ := h
  rw [he]
  have h1 := gates_ok hs hg
  exact ⟨⟨small_wok hs hb, h1.1, h1.2⟩, (kind_eq (small_geo2 ls hs) hb.1 (fun b hbb => Nat.lt_of_le_of_lt (good_most hb b hbb) (by decide)) hg).trans hk⟩
def jlE (e : Wb C W × Nat) : List Lane := lJoinLanes (cLanes loneLs) 2 e.1.cty.lanes e.2
def jbE (a b : Kd) (e : Wb C W × Nat) : List Book := lJoinBooks (cLanes loneLs) [[(2, partBnds a b)]] 2 e.1.cty.lanes e.1.books e.2
structure JEnt (a b k : Kd) (e : Wb C W × Nat) : Prop where
  o1 : LJOk (cLanes loneLs) [[(2, partBnds a b)]] 2
  o2 : LJOk e.1.cty.lanes e.1.books e.2
  lok : LOk (jlE e) (jbE a b e)
  lfree : (!(lPosts (jlE e) (jbE a b e)).isEmpty) = freeOf a b k
  jok : JOk (loneOf C W (partBnds a b)) 2 e.1 e.2
  g1 : 2 < (loneOf C W (partBnds a b)).cty.ties.length ∧ (rowAt (loneOf C W (partBnds a b)).cty.ties 2).length = 1
  g2 : e.2 < e.1.cty.ties.length ∧ (rowAt e.1.cty.ties e.2).length = 1
  few : (yardsIn (loneOf C W (partBnds a b)).cty.ties).length + (yardsIn e.1.cty.ties).length ≤ 7
  wok : WOk (joinedWeb (loneOf C W (partBnds a b)) 2 e.1 e.2)
  pfree : (!(postsOf (joinedWeb (loneOf C W (partBnds a b)) 2 e.1 e.2).cty.ties (joinedWeb (loneOf C W (partBnds a b)) 2 e.1 e.2).books).isEmpty) = freeOf a b k
theorem ent_join {e : Wb C W × Nat} {k : Kd} (a b : Kd) (h : EntOk k e) : JEnt a b k e := by
  obtain ⟨ls, bs, hs, hb, hg, he, hk⟩ := h
  obtain ⟨e1, g⟩ := e
  simp only at he hg hk
  subst he
  have c1 : cLanes loneLs = loneLs := small_cl _ lone_small
  have c2 : cLanes ls = ls := small_cl _ hs
  have hp := part_good a b
  have ej : joinedWeb (loneOf C W (partBnds a b)) 2 (mkWb W (mkCty C ls) bs) g = mkWb W (mkCty C (jp ls g)) (lJoinBooks loneLs [[(2, partBnds a b)]] 2 ls bs g) := joined_is hs hg hb hp
  have f1 : jlE ((mkWb W (mkCty C ls) bs, g) : Wb C W × Nat) = jl ls g := by
    show lJoinLanes (cLanes loneLs) 2 (cLanes ls) g = _
    rw [c1, c2]; rfl
  have f2 : jbE a b ((mkWb W (mkCty C ls) bs, g) : Wb C W × Nat) = lJoinBooks loneLs [[(2, partBnds a b)]] 2 ls bs g := by
    show lJoinBooks (cLanes loneLs) _ 2 (cLanes ls) bs g = _
    rw [c1, c2]
  refine ⟨by rw [c1]; exact small_ljok lone_small lone_gate hp, by show LJOk (cLanes ls) bs g; rw [c2]; exact small_ljok hs hg hb, ?_, ?_, jok hs hg hb hp, gates_ok lone_small lone_gate, gates_ok hs hg, few_yards hs hg, ?_, ?_⟩
  · rw [f1, f2]; exact joined_lok hs hg hb hp
  · rw [f1, f2, free_eq hs hg hb, hk]
  · rw [ej]; exact joined_wok hs hg hb hp
  · rw [ej, ← hk, ← free_eq hs hg hb a b]
    show (!(postsOf (cTies (jp ls g)) (lJoinBooks loneLs [[(2, partBnds a b)]] 2 ls bs g)).isEmpty) = _
    rw [joined_posts hs hb hg hp]
theorem lone_yards : (yardsIn (cTies loneLs)).length = 1 := by decide +kernel
theorem part_some {a b : Kd} (h : a ≠ b) : partingOf C W a b = some (loneOf C W (partBnds a b), 2) := by unfold partingOf; rw [if_neg h]
theorem part_none (a : Kd) : partingOf C W a a = none := by unfold partingOf; rw [if_pos rfl]
end
/-- one pot, and True -/
def SpRight : Sp := fun vs H Q _ => ∃ p, vs = [.ref p] ∧ Pot p H ∧ ∀ H', (∀ b o, b ≠ p → H b = some o → H' b = some o) → Q (.bl true) H'
section
variable {P : Program} {w : World} {K : PySem.W.Frag} {mg : Str → Option Value} {base : Heap} {cC cW : Addr}
abbrev nmsR : List Str := ["_law_pot_here", "_law_some", "_law_near", "_law_far", "_law_never", "_law_told", "_law_free", "_law_one", "_law_web", "_law_gate", "_law_ways", "_law_more", "_law_lanes", "_law_books_here"]
theorem sc112 : FnScope nmsR ["_law_pot_here"] (defScope (topS 112)) := ⟨rfl, rfl, rfl, by decide +kernel, rfl, by decide +kernel, by decide +kernel⟩
theorem fk_right (E : Tops K mg cC cW) : Fk P w K mg base "_law_right" 13 ["_law_pot_here"] SpRight :=
  fk_mk (N := nmsR) E.d112 sc112 (fun vs H Q E ⟨_, e, _⟩ => by rw [e]; rfl) fun f cd A ou s H vs Q EX hr ⟨p, e, hp, q⟩ => by
    subst e
    have sb : Same (fun _ => none : Hp) H := fun c o e => by cases e
    refine rb_setP (pt := p) 1 (B := fun _ => none) (evp_call0 (pt := p) (S := fun t : Tb cC cW => TbOk t) 0 (fk_by_kinds E) (hr.mono (by decide)) rfl) sb rfl hp (fun t v1 B1 H1 hl1 n1 ht r1 => ?_) sc112.nd
    refine rdB_at [some (.ref p), some v1, none, none, none, none, none, none, none, none, none, none, none, none] rfl ?_
    refine rb_forS (B := B1) (xs := srt [Kd.own, Kd.clear, Kd.bad]) (fun i σ' B2 H2 => ∃ y2 y3 y4 y5 y6 y7 y8 y9 y10 y11 y12 y13, σ' = [some (.ref p), some v1, y2, y3, y4, y5, y6, y7, y8, y9, y10, y11, y12, y13] ∧ NwP p (fun _ => none) H B2 H2)
      (ei_list (EvF.ev (evf_sorted (xs := [Kd.own, Kd.clear, Kd.bad]) (EvF.ev (evf_tbList (ev_var (x := t) 1 rfl r1) E.bt.list)) hr.units E.bt.sorted))) (fun i σ B H B' H' ⟨a2, a3, a4, a5, a6, a7, a8, a9, a10, a11, a12, a13, e, N⟩ n => ⟨a2, a3, a4, a5, a6, a7, a8, a9, a10, a11, a12, a13, e, N.then n⟩)
      (fun i σ B H ⟨_, _, _, _, _, _, _, _, _, _, _, _, _, N⟩ => N.bh) ⟨none, none, none, none, none, none, none, none, none, none, none, none, rfl, n1⟩ PassesOwn.never rfl ?_ ?_
    · rintro B2 s2 i a va σ' B3 H3 ha s3 ⟨y2, y3, y4, y5, y6, y7, y8, y9, y10, y11, y12, y13, rfl, N3⟩ ra
      have rt3 : R B3 t v1 := Rp.mono (s2.trans s3) r1
      obtain ⟨hka, hkb⟩ := ent_kind (ht a)
      refine rg_name 2 (rdB_at [some (.ref p), some v1, some va, y3, y4, y5, y6, y7, y8, y9, y10, y11, y12, y13] rfl ?_) sc112.nd
      refine rb_no (B := B3) (EvT.to (et_or2 (Cm.et (cm_neK (k := kindBy (t.of a).1.cty.ties (t.of a).1.cty.ahead (t.of a).1.books (t.of a).2) (l := a) (ev_call2 (x := (t.of a).1) (y := (t.of a).2) (fk_kind E) (hr.mono (by decide))
        (eva2 (ev_fst (u := t.of a) (ev_tbGet (t := t) (k := a) (hu_of hr) (ev_var 1 rfl rt3) (ev_var 2 rfl ra))) (ev_snd (u := t.of a) (ev_tbGet (t := t) (k := a) (hu_of hr) (ev_var 1 rfl rt3) (ev_var 2 rfl ra)))) hka) (ev_var 2 rfl ra))) fun _ =>
        Cm.et (cm_notN (x' := partingOf cC cW a a) (ev_call2 (x := a) (y := a) (fk_parting E) (hr.mono (by decide)) (eva2 (ev_var 2 rfl ra) (ev_var 2 rfl ra)) trivial) nn_pair)) (by rw [hkb, part_none, decide_eq_true rfl]; rfl)) N3.bh fun H4 s4 => ?_
      have N4 := N3.then (Nw.grow N3.bh s4)
      refine rb_forS (B := B3) (xs := srt [Kd.own, Kd.clear, Kd.bad]) (fun i σ' B5 H5 => ∃ y3 y4 y5 y6 y7 y8 y9 y10 y11 y12 y13, σ' = [some (.ref p), some v1, some va, y3, y4, y5, y6, y7, y8, y9, y10, y11, y12, y13] ∧ NwP p (fun _ => none) H B5 H5)
        (ei_list (EvF.ev (evf_sorted (xs := [Kd.own, Kd.clear, Kd.bad]) (EvF.ev (evf_tbList (ev_var (x := t) 1 rfl rt3) E.bt.list)) hr.units E.bt.sorted))) (fun i σ B H B' H' ⟨a3, a4, a5, a6, a7, a8, a9, a10, a11, a12, a13, e, N⟩ n => ⟨a3, a4, a5, a6, a7, a8, a9, a10, a11, a12, a13, e, N.then n⟩)
        (fun i σ B H ⟨_, _, _, _, _, _, _, _, _, _, _, _, N⟩ => N.bh) ⟨y3, y4, y5, y6, y7, y8, y9, y10, y11, y12, y13, rfl, N4⟩ PassesOwn.never rfl ?_ ?_
      · rintro B5 s5 j b vb σ' B6 H6 hb s6 ⟨y3, y4, y5, y6, y7, y8, y9, y10, y11, y12, y13, rfl, N6⟩ rb
        have s36 := s5.trans s6
        have ra6 := Rp.mono s36 ra
        have rt6 := Rp.mono s36 rt3
        refine rg_name 3 (rdB_at [some (.ref p), some v1, some va, some vb, y4, y5, y6, y7, y8, y9, y10, y11, y12, y13] rfl ?_) sc112.nd
        refine rb_set 4 (B := B6) (x := neverStuck a b) ?_ N6.bh (fun v4 B7 H7 hl7 n7 r4 => ?_) sc112.nd
        · refine Ev.to (Cm.ev (cm_inD (x := [a, b].filter fun k => !decide (k = Kd.clear)) (xs := ([[], [Kd.own]] : List (List Kd))) (Ev.to (EvF.ev (evf_lc (p := fun k => !decide (k = Kd.clear)) (g := fun k => k) [("_law_one", 7)] (ei_list (EvF.ev (ev_lst (xs := [a, b]) (eva2 (ev_var 2 rfl ra6) (ev_var 3 rfl rb))))) ?_ sc112.nd)) (List.map_id' _))
            (EvF.ev (ev_lst (xs := ([[], [Kd.own]] : List (List Kd))) (eva2 (x := ([] : List Kd)) (y := [Kd.own]) (EvF.ev ev_lst0) (EvF.ev (ev_lst (xs := [Kd.own]) (eva1 (ev_kd .own))))))) (by have := hr.un; omega))) ?_
          · exact turnN 7 (fun u => rfl) (fun B8 k vk s8 _ rk s H0 C cl fp => ⟨ets_one (Cm.et (cm_neK (ev_var 7 rfl rk) (ev_kd .clear))), fun _ => ev_var 7 rfl rk⟩) sc112.nd
          · rw [List.any_map, ← never_eq]
            congr 1
            funext z
            exact eqv_kds _ _
        have N7 := N6.then n7
        have ra7 := Rp.mono n7.bb ra6
        have rb7 := Rp.mono n7.bb rb
        refine rdB_at [some (.ref p), some v1, some va, some vb, some v4, y5, y6, y7, y8, y9, y10, y11, y12, y13] rfl ?_
        refine rb_no (B := B7) (EvT.to (Cm.et (cm_neS (k := reprB (neverStuck a b)) (l := reprB (neverStuck a b)) (ev_reprB (ev_call2 (x := a) (y := b) (fk_are_never_stuck E) (hr.mono (by decide)) (eva2 (ev_var 2 rfl ra7) (ev_var 3 rfl rb7)) trivial) E.bt.repr) (ev_reprB (ev_var 4 rfl r4) E.bt.repr))) (by rw [decide_eq_true rfl]; rfl)) N7.bh fun H8 s8 => ?_
        have N8 := N7.then (Nw.grow N7.bh s8)
        refine rb_if (B := B7) (decide (a.str.cps.toList < b.str.cps.toList)) (Cm.et (cm_ltK (ev_var 2 rfl ra7) (ev_var 3 rfl rb7))) N8.bh (fun hlt H9 s9 => ?_) fun _ H9 s9 => ?_
        · have hab : a ≠ b := fun e => by rw [e, kd_lt] at hlt; cases hlt
          have N9 := N8.then (Nw.grow N8.bh s9)
          refine rb_set 5 (B := B7) (x := (loneOf cC cW (partBnds a b), 2)) (ev_the (Ev.to (ev_call2 (x := a) (y := b) (fk_parting E) (hr.mono (by decide)) (eva2 (ev_var 2 rfl ra7) (ev_var 3 rfl rb7)) trivial) (part_some hab))) N9.bh (fun v5 B10 H10 hl10 n10 r5 => ?_) sc112.nd
          have N10 := N9.then n10
          refine rdB_at [some (.ref p), some v1, some va, some vb, some v4, some v5, y6, y7, y8, y9, y10, y11, y12, y13] rfl ?_
          refine rb_no (B := B10) (EvT.to (et_or3 (et_not (et_val (ev_isi (x := (loneOf cC cW (partBnds a b), 2)) true (ev_var 5 rfl r5) E.bt.isinstance E.bt.tuple (by rfl) (show kitB "tuple" "tuple" = some true by decide +kernel)))) (fun _ => Cm.et (cm_ne (ev_lenP (u := (loneOf cC cW (partBnds a b), 2)) (ev_var 5 rfl r5) E.bt.len) (ev_nat 2))) fun _ => et_not (et_val (ev_isWb E.wb (ev_fst (u := (loneOf cC cW (partBnds a b), 2)) (ev_var 5 rfl r5)) E.bt.isinstance))) rfl) N10.bh fun H11 s11 => ?_
          have N11 := N10.then (Nw.grow N10.bh s11)
          refine rb_no (B := B10) (EvT.to (Cm.et (cm_gt (ev_len (ev_pY (c := (loneOf cC cW (partBnds a b)).cty) E (hr.mono (by decide)) (ev_pC (c := loneOf cC cW (partBnds a b)) E (hr.mono (by decide)) (ev_fst (u := (loneOf cC cW (partBnds a b), 2)) (ev_var 5 rfl r5)))) E.bt.len) (ev_nat 4))) (by show decide (4 < (yardsIn (cTies loneLs)).length) = false; rw [lone_yards]; rfl)) N11.bh fun H12 s12 => ?_
          have N12 := N11.then (Nw.grow N11.bh s12)
          refine rb_setF 6 (B := B10) (xs := ([] : List Bool)) ev_lst0 N12.bh (fun qf ws B13 H13 hl13 n13 h013 hb13 hq13 lr13 => ?_) sc112.nd
          have gf : GrP p B10 H12 qf ([] : List Bool) B13 H13 := grP_new (n13.toP N12.bp N12.pot) h013 N12.pot hb13 hq13 lr13
          refine rdB_at [some (.ref p), some v1, some va, some vb, some v4, some v5, some (.ref qf), y7, y8, y9, y10, y11, y12, y13] rfl ?_
          have rt13 := Rp.mono (n7.bb.trans (n10.bb.trans n13.bb)) rt6
          have r513 := Rp.mono n13.bb r5
          have ra13 := Rp.mono (n10.bb.trans n13.bb) ra7
          have rb13 := Rp.mono (n10.bb.trans n13.bb) rb7
          refine rb_forS (B := B13) (xs := [a, b]) (fun m σ' B14 H14 => ∃ y7 y8 y9 y10 y11 y12 y13, σ' = [some (.ref p), some v1, some va, some vb, some v4, some v5, some (.ref qf), y7, y8, y9, y10, y11, y12, y13] ∧ GrP p B10 H12 qf (([a, b].take m).map (freeOf a b)) B14 H14)
            (ei_list (EvF.ev (ev_lst (xs := [a, b]) (eva2 (ev_var 2 rfl ra13) (ev_var 3 rfl rb13))))) (fun i σ B H B' H' ⟨a7, a8, a9, a10, a11, a12, a13, e, g⟩ n => ⟨a7, a8, a9, a10, a11, a12, a13, e, g.stepN n⟩) (fun i σ B H ⟨_, _, _, _, _, _, _, _, g⟩ => g.nw.bh) ⟨y7, y8, y9, y10, y11, y12, y13, rfl, gf⟩ PassesOwn.never rfl ?_ ?_
          · rintro B14 s14 m k vk σ' B15 H15 hk s15 ⟨y7, y8, y9, y10, y11, y12, y13, rfl, g15⟩ rk
            have s1315 := s14.trans s15
            have J := ent_join a b (ht k)
            have r515 := Rp.mono s1315 r513
            refine rg_name 7 (rdB_at [some (.ref p), some v1, some va, some vb, some v4, some v5, some (.ref qf), some vk, y8, y9, y10, y11, y12, y13] rfl ?_) sc112.nd
            refine rb_unpack 8 9 (B := B15) (u := t.of k) (ev_tbGet (t := t) (k := k) (hu_of hr) (ev_var 1 rfl (Rp.mono s1315 rt13)) (ev_var 7 rfl rk)) g15.nw.bh (fun v8 v9 B16 H16 hl16 n16 r8 r9 => ?_) sc112.nd
            have g16 := g15.stepN n16
            have r516 := Rp.mono n16.bb r515
            refine rdB_at [some (.ref p), some v1, some va, some vb, some v4, some v5, some (.ref qf), some vk, some v8, some v9, y10, y11, y12, y13] rfl ?_
            refine rb_set 10 (B := B16) (x := ([cLanes loneLs, (t.of k).1.cty.lanes] : List (List Lane))) (EvF.ev (ev_lst (xs := ([cLanes loneLs, (t.of k).1.cty.lanes] : List (List Lane))) (eva2 (x := cLanes loneLs) (y := (t.of k).1.cty.lanes) (ev_pL (c := (loneOf cC cW (partBnds a b)).cty) E (hr.mono (by decide)) (ev_pC (c := loneOf cC cW (partBnds a b)) E (hr.mono (by decide)) (ev_fst (u := (loneOf cC cW (partBnds a b), 2)) (ev_var 5 rfl r516))))
              (ev_pL (c := (t.of k).1.cty) E (hr.mono (by decide)) (ev_pC (c := (t.of k).1) E (hr.mono (by decide)) (ev_var 8 rfl r8)))))) g16.nw.bh (fun v10 B17 H17 hl17 n17 r10 => ?_) sc112.nd
            have g17 := g16.stepN n17
            have r517 := Rp.mono n17.bb r516
            have r817 := Rp.mono n17.bb r8
            refine rdB_at [some (.ref p), some v1, some va, some vb, some v4, some v5, some (.ref qf), some vk, some v8, some v9, some v10, y11, y12, y13] rfl ?_
            refine rb_set 11 (B := B17) (x := ([[[(2, partBnds a b)]], (t.of k).1.books] : List (List Book))) (EvF.ev (ev_lst (xs := ([[[(2, partBnds a b)]], (t.of k).1.books] : List (List Book))) (eva2 (x := ([[(2, partBnds a b)]] : List Book)) (y := (t.of k).1.books) (ev_pB (c := loneOf cC cW (partBnds a b)) E (hr.mono (by decide)) (ev_fst (u := (loneOf cC cW (partBnds a b), 2)) (ev_var 5 rfl r517)))
              (ev_pB (c := (t.of k).1) E (hr.mono (by decide)) (ev_var 8 rfl r817))))) g17.nw.bh (fun v11 B18 H18 hl18 n18 r11 => ?_) sc112.nd
            have g18 := g17.stepN n18
            have r518 := Rp.mono n18.bb r517
            have r818 := Rp.mono n18.bb r817
            have r1018 := Rp.mono n18.bb r10
            have r918 := Rp.mono (n17.bb.trans n18.bb) r9
            refine rdB_at [some (.ref p), some v1, some va, some vb, some v4, some v5, some (.ref qf), some vk, some v8, some v9, some v10, some v11, y12, y13] rfl ?_
            refine rb_unpack 12 13 (B := B18) (u := (jlE (t.of k), jbE a b (t.of k))) (ev_callJ (ls := cLanes loneLs) (bs := [[(2, partBnds a b)]]) (g := 2) (os := (t.of k).1.cty.lanes) (ms := (t.of k).1.books) (d := (t.of k).2) (fk_ljoined E) (hr.mono (by decide))
              (ev_ix (i := 0) (ev_var 10 rfl r1018) (ev_nat 0) rfl) (ev_ix (i := 0) (ev_var 11 rfl r11) (ev_nat 0) rfl) (ev_snd (u := (loneOf cC cW (partBnds a b), 2)) (ev_var 5 rfl r518)) (ev_ix (i := 1) (ev_var 10 rfl r1018) (ev_nat 1) rfl) (ev_ix (i := 1) (ev_var 11 rfl r11) (ev_nat 1) rfl) (ev_var 9 rfl r918) J.o1 J.o2) g18.nw.bh (fun v12 v13 B19 H19 hl19 n19 r12 r13 => ?_) sc112.nd
            have g19 := g18.stepN n19
            have r519 := Rp.mono n19.bb r518
            have r819 := Rp.mono n19.bb r818
            have r919 := Rp.mono n19.bb r918
            refine rdB_at [some (.ref p), some v1, some va, some vb, some v4, some v5, some (.ref qf), some vk, some v8, some v9, some v10, some v11, some v12, some v13] rfl ?_
            refine rb_appendGrP (pt := p) 6 (S := (· = freeOf a b k)) g19 (evp_ev (Ev.to (Cm.ev (cm_neNil (ev_call2 (x := jlE (t.of k)) (y := jbE a b (t.of k)) (fk_lposts E) (hr.mono (by decide)) (eva2 (ev_var 12 rfl r12) (ev_var 13 rfl r13)) J.lok) hr.units)) J.lfree)) rfl ?_ fun x B20 H20 s20 hx g20 _ _ => ?_
            · rw [List.length_map, List.length_take]
              exact Nat.lt_of_le_of_lt (Nat.min_le_right _ _) (show 2 < 100000 from Nat.le_of_ble_eq_true rfl)
            subst hx
            obtain ⟨B21, s21, N21, rF, _⟩ := g20.told
            have s1921 := s20.trans s21
            have r521 := Rp.mono s1921 r519
            refine rb_no (B := B21) (EvT.to (Cm.et (cm_neB (k := freeOf a b k) (l := freeOf a b k) (Ev.to (Cm.ev (cm_neNil (ev_call1 (x := joinedWeb (loneOf cC cW (partBnds a b)) 2 (t.of k).1 (t.of k).2) (fk_posts E) (hr.mono (by decide)) (eva1 (ev_call4 (x := loneOf cC cW (partBnds a b)) (y := 2) (z := (t.of k).1) (w := (t.of k).2) (fk_joined E) (hr.mono (by decide))
              (eva4 (ev_fst (u := (loneOf cC cW (partBnds a b), 2)) (ev_var 5 rfl r521)) (ev_snd (u := (loneOf cC cW (partBnds a b), 2)) (ev_var 5 rfl r521)) (ev_var 8 rfl (Rp.mono s1921 r819)) (ev_var 9 rfl (Rp.mono s1921 r919))) ⟨J.jok, J.g1, J.g2, J.few⟩)) J.wok) hr.units)) J.pfree)
              (ev_ixLast (xs := ([a, b].take m).map (freeOf a b) ++ [freeOf a b k]) (ev_var 6 rfl rF) (by rw [List.getLast?_append]; rfl)))) (by rw [decide_eq_true rfl]; rfl)) N21.bh fun H22 s22 => ?_
            have g22 := g20.stepN (Nw.grow g20.nw.bh (show Same H20 H22 from s22))
            refine rb_nil ⟨B20, s15.trans (n16.bb.trans (n17.bb.trans (n18.bb.trans (n19.bb.trans s20)))), some vk, some v8, some v9, some v10, some v11, some v12, some v13, rfl, ?_⟩
            rw [take_snoc hk, List.map_append]
            exact g22
          · rintro σ' B14 H14 s14 ⟨y7, y8, y9, y10, y11, y12, y13, rfl, g14⟩
            have g14 : GrP p B10 H12 qf [freeOf a b a, freeOf a b b] B14 H14 := g14
            obtain ⟨B15, s15, N15, rF, _⟩ := g14.told
            have s1315 := s14.trans s15
            refine rb_no (B := B15) (EvT.to (et_or2 (Cm.et (cm_eqB (k := freeOf a b a) (l := freeOf a b b) (ev_ix (xs := [freeOf a b a, freeOf a b b]) (i := 0) (ev_var 6 rfl rF) (ev_nat 0) rfl) (ev_ix (xs := [freeOf a b a, freeOf a b b]) (i := 1) (ev_var 6 rfl rF) (ev_nat 1) rfl))) fun _ =>
              Cm.et (cm_isN (x' := partingOf cC cW b a) (ev_partK E (hr.mono (by decide)) (ev_var 2 rfl (Rp.mono s1315 ra13)) (ev_var 3 rfl (Rp.mono s1315 rb13))) nn_pair)) (by rw [decide_eq_false (free_parts hab), part_some (Ne.symm hab)]; rfl)) N15.bh fun H16 s16 => ?_
            refine rb_nil (rb_nil ⟨B14, s6.trans (n7.bb.trans (n10.bb.trans (n13.bb.trans s14))), some vb, some v4, some v5, some (.ref qf), y7, y8, y9, y10, y11, y12, y13, rfl, N12.trans (g14.nw.then (Nw.grow g14.nw.bh s16))⟩)
        · exact rb_nil (rb_nil ⟨B7, s6.trans n7.bb, some vb, some v4, y5, y6, y7, y8, y9, y10, y11, y12, y13, rfl, N8.then (Nw.grow N8.bh s9)⟩)
      · rintro σ' B5 H5 s5 ⟨y3, y4, y5, y6, y7, y8, y9, y10, y11, y12, y13, rfl, N5⟩
        exact rb_nil ⟨B5, s3.trans s5, some va, y3, y4, y5, y6, y7, y8, y9, y10, y11, y12, y13, rfl, N5⟩
    · rintro σ' B2 H2 s2 ⟨y2, y3, y4, y5, y6, y7, y8, y9, y10, y11, y12, y13, rfl, N2⟩
      refine rb_ret (B := B2) (x := true) ev_bl N2.bh fun v' B' H' n r => ?_
      cases (show v' = _ from r)
      exact q H' (N2.then n).hh
end
end LK
/-! ## F35 -/
namespace LK
open PySem PySem.Spec PyProof.Rows L2
open Rp (R)
/-! ### the law -/
def SpLaw (K : PySem.W.Frag) : Sp := fun vs H Q _ => ∃ (a : Addr) (ns : List Int), vs = [.ref a] ∧ SqL K H a (ns.map V.int) ∧ ∀ H', Q (.bl true) H'
section
variable {P : Program} {w : World} {K : PySem.W.Frag} {mg : Str → Option Value} {base : Heap} {cC cW : Addr}
theorem sc113 : FnScope ["_law_script"] ["_law_script"] (defScope (topS 113)) := ⟨rfl, rfl, rfl, by decide +kernel, rfl, by decide +kernel, by decide +kernel⟩
theorem ok_law (E : Tops K mg cC cW) {f : Addr} {fd : FuncData} (F : Fun K "law" "law" (topS 113) f fd) : FnOk P w K mg base CX0 14 f fd ["_law_script"] (SpLaw K) :=
  F.ok sc113 (fun vs H Q E ⟨_, _, e, _⟩ => by rw [e]; rfl) fun cdv A outer s H vs Q EX hr ⟨a, ns, e, hs, q⟩ => ⟨_, pss_rd, by
    subst e
    show rdB (cxD P w K mg base ["_law_script"] "law" (defScope (topS 113)) f cdv A outer s H EX) (defBody (topS 113)) _ [some (.ref a)] H
    refine rb_retR (rd_call (fk_right E) (hr.mono (by decide)) (rdA_mk (pa_cons pe_rd pa_nil (by rfl)) (rd_call (fk_pot E) (hr.mono (by decide)) (rdA_mk (pa_cons (pe_var (i := 0) rfl (Or.inl rfl) (by decide) (by decide)) (pa_cons pe_int pa_nil (by rfl)) (by rfl)) ⟨.ref a, rfl, ?_⟩))))
    exact ⟨a, ns, rfl, hs, fun p H' h0 s hp hl => ⟨p, rfl, hp, fun H2 hh hl2 => q H2⟩⟩⟩
end
end LK
/-! ## EZ -/
namespace LK
open PySem PySem.Spec PyProof.Rows L2
theorem says_law {P : Program} {w : World} {mg : Str → Option Value} {fa : Addr} {h : Heap} (Y : hkE.says w h) (G : h.Ns mainGlobals mg) (hm : mg "law" = some (.ref fa)) :
    ∃ (K : PySem.W.Frag) (fd : FuncData) (sp : Sp), K.In h ∧ (∀ (s : Shared) (u : Value), BindsTo s fd ⟨[u], []⟩ [("_law_script", u)]) ∧
      (∀ (H : Hp) (a : Addr) (ns : List Int), ns.length ≤ 63 → Only H → SqL K H a (ns.map V.int) → sp [.ref a] H (fun v _ => v = .bl true) fun _ _ _ => False) ∧
      ∀ base : Heap, K.In base → base.Ns mainGlobals mg → FnOk P w K mg base CX0 14 fa fd ["_law_script"] sp := by
  obtain ⟨g, hg, c⟩ := Y
  have X := kE_in hg
  have E := tops_of c X G
  obtain ⟨f, fd, F, hf, hb⟩ := E.d113
  cases hm.symm.trans hf
  refine ⟨kE g, fd, SpLaw (kE g), X, fun s u => ?_, fun H a ns hl _ hS => ⟨a, ns, rfl, hS, fun _ => rfl⟩, fun base _ _ => ok_law E F⟩
  obtain ⟨oc, od, kV, doc, pm, an, cdv, ct, osl, rfl, lk, hcd⟩ := F.ex
  exact .of_eq rfl
end LK
open PySem PySem.W PySem.Calls PyProof.Rows
set_option maxRecDepth 100000 in
set_option maxHeartbeats 0 in
theorem PySem.Challenge.cw_lanekeepers_k83_whole_partings_holds : PySem.Challenge.rw_lanekeepers_k83_whole_partings.Holds := by
  w_on; o_law
  refine HandSHeadRun.head_any (r := OpenLaw.row PySem.Challenge.rw_lanekeepers_k83_whole_partings) (q := view (OpenLaw.row PySem.Challenge.rw_lanekeepers_k83_whole_partings).prog [113]) (H := LK.hkE) (ob := LK.obE) (M := 20000) (loose := LK.looseN) (d := HandSHeadRun.topDef (OpenLaw.row PySem.Challenge.rw_lanekeepers_k83_whole_partings).prog 113) (kwd := []) LK.obE_eq
    (by kernel_rfl) (fun s => by kernel_rfl) LK.runE (by kernel_rfl) (by kernel_rfl) (by kernel_rfl) (by rfl) (by first | assumption | decide +kernel) (by decide +kernel) ⟨rfl, rfl, rfl, rfl, rfl, by decide +kernel⟩ ?hw ?hc
  case hw => w_witness2
  case hc =>
    refine L2.walk_ofE (l := PySem.Challenge.rw_lanekeepers_k83_whole_partings) (n := 63) (k := 14) (x := "_law_script") (CX := L2.CX0) rfl (by decide) (by kernel_rfl) ⟨rfl, by decide, by decide⟩ ?F (fun _ _ _ _ z => z)
    intro w mg fa h Y G hmg0
    have hmg : mg ("law" : PySem.Str) = some (.ref fa) := by
      have e : (HandSHeadRun.topDef (OpenLaw.row PySem.Challenge.rw_lanekeepers_k83_whole_partings).prog 113).name = ("law" : PySem.Str) := by kernel_rfl
      rw [← e]
      exact hmg0
    exact LK.says_law Y G hmg

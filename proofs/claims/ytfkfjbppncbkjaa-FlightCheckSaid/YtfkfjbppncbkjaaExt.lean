/-
  Worlds that have grown: 'w.ext x' is the world w with further blocks behind its own and another count of draws. A call that only makes memory ends in such a world, and the walk sees through it by the rules below.
-/
import Derived.Handy
import Derived.WalkSpells
import Derived.WalkLawsBesides
import Derived.Deep.QuietTactic
import Derived.BigQuiet
import Derived.Lib.Hide
namespace Go.Proofs.Ytfkfjbppncbkjaa
open Go.RowKit

/-- what a world has grown by -/
structure Gain where
  objs : Array Obj
  at_ : Nat

instance : Inhabited Gain := ⟨⟨#[], 0⟩⟩

/-- how many blocks -/
def Gain.n (x : Gain) : Nat := x.objs.size

end Go.Proofs.Ytfkfjbppncbkjaa
namespace Go
open Go.RowKit Go.Proofs.Ytfkfjbppncbkjaa

def World.ext (w : World) (x : Gain) : World := { w with heap := w.heap ++ x.objs, drawn := x.at_ }

section
variable (w : World) (x y : Gain)

@[simp, go_sem] theorem World.size_ext : (w.ext x).heap.size = w.heap.size + x.n := by simp [World.ext, Gain.n]
theorem World.heap_ext (k : Nat) (h : k < w.heap.size) : (w.ext x).heap[k]? = w.heap[k]? := by
  show (w.heap ++ x.objs)[k]? = _
  rw [Array.getElem?_append, if_pos h]
@[go_sem] theorem World.cell?_ext (n i : Nat) (h : n < w.heap.size) : (w.ext x).cell? ⟨n, i, none⟩ = w.cell? ⟨n, i, none⟩ := by
  simp only [World.cell?, World.heap_ext w x n h]
theorem World.cell?_ext_a (a : Addr) (h : a.block < w.heap.size) : (w.ext x).cell? a = w.cell? a := by
  simp only [World.cell?, World.heap_ext w x a.block h]
@[go_sem] theorem World.frozen?_ext (n i : Nat) (h : n < w.heap.size) : (w.ext x).frozen? ⟨n, i, none⟩ = w.frozen? ⟨n, i, none⟩ := by
  simp only [World.frozen?, World.heap_ext w x n h]
/-- what a further block holds, under a name that no rule opens -/
def World.cellFar (w : World) (n i : Nat) : Option Value := w.cell? ⟨n, i, none⟩
def World.frozenFar (w : World) (n i : Nat) : Bool := w.frozen? ⟨n, i, none⟩
@[go_sem low] theorem World.cell?_ext_if (n i : Nat) : (w.ext x).cell? ⟨n, i, none⟩ = if n < w.heap.size then w.cell? ⟨n, i, none⟩ else (w.ext x).cellFar n i := by
  split
  · rename_i h; exact World.cell?_ext w x n i h
  · rfl
@[go_sem low] theorem World.frozen?_ext_if (n i : Nat) : (w.ext x).frozen? ⟨n, i, none⟩ = if n < w.heap.size then w.frozen? ⟨n, i, none⟩ else (w.ext x).frozenFar n i := by
  split
  · rename_i h; exact World.frozen?_ext w x n i h
  · rfl
@[go_sem low] theorem World.cell?_alloc_if (o : Obj) (n i : Nat) : (w.alloc o).cell? ⟨n, i, none⟩ = if n < w.heap.size then w.cell? ⟨n, i, none⟩ else (w.alloc o).cellFar n i := by
  split
  · rename_i h; exact World.cell?_alloc_past o n i h
  · rfl
@[go_sem low] theorem World.frozen?_alloc_if (o : Obj) (n i : Nat) : (w.alloc o).frozen? ⟨n, i, none⟩ = if n < w.heap.size then w.frozen? ⟨n, i, none⟩ else (w.alloc o).frozenFar n i := by
  split
  · rename_i h; exact World.frozen?_alloc_past o n i h
  · rfl
@[go_sem] theorem World.shape?_ext (n : Nat) (h : n < w.heap.size) : (w.ext x).shape? n = w.shape? n := by
  simp only [World.shape?, World.heap_ext w x n h]
@[go_sem] theorem World.setCell_ext (n i : Nat) (v : Value) (h : n < w.heap.size) : (w.ext x).setCell ⟨n, i, none⟩ v = (w.setCell ⟨n, i, none⟩ v).ext x := by
  unfold World.setCell World.ext
  congr 1
  apply Array.ext_getElem?
  intro k
  simp only [Array.getElem?_modify, Array.getElem?_append, Array.size_modify]
  by_cases hk : n = k
  · subst hk; simp [h]
  · simp [hk]
@[go_sem] theorem Gain.lt_more {a b : Nat} (h : a < b) : (a < b + x.n) = True := by simp; omega
@[go_sem] theorem Gain.lt_succ {a b : Nat} (h : a < b) : (a < b + x.n + 1) = True := by simp; omega
/-- a store into a further block, under a name that no rule opens -/
def World.setFar (w : World) (n i : Nat) (v : Value) : World := w.setCell ⟨n, i, none⟩ v
@[go_sem low] theorem World.setCell_ext_if (n i : Nat) (v : Value) : (w.ext x).setCell ⟨n, i, none⟩ v = if n < w.heap.size then (w.setCell ⟨n, i, none⟩ v).ext x else (w.ext x).setFar n i v := by
  split
  · rename_i h; exact World.setCell_ext w x n i v h
  · rfl
@[go_sem low] theorem World.setCell_alloc_if (o : Obj) (n i : Nat) (v : Value) : (w.alloc o).setCell ⟨n, i, none⟩ v = if n < w.heap.size then (w.setCell ⟨n, i, none⟩ v).alloc o else (w.alloc o).setFar n i v := by
  split
  · rename_i h; exact World.setCell_alloc_past o n i v h
  · rfl
@[go_sem] theorem World.drew_ext : (w.ext x).drew = w.ext { x with at_ := x.at_ + 1 } := rfl
@[go_sem] theorem World.ext_drew : w.drew.ext x = w.ext x := rfl
@[simp] theorem World.os_ext : (w.ext x).os = w.os := rfl
@[simp] theorem World.tape_ext : (w.ext x).tape = w.tape := rfl
@[simp] theorem World.output_ext : (w.ext x).output = w.output := rfl

theorem World.below_ext : Below w.heap.size w (w.ext x) := ⟨rfl, rfl, rfl, by simp, fun k hk => World.heap_ext w x k hk⟩
theorem Below.ext {B : Nat} {a w : World} (h : Below B a w) (hB : B ≤ w.heap.size) (x : Gain) : Below B a (w.ext x) := h.trans ((World.below_ext w x).mono hB)

/-- a world that is as w was below w's end is w, grown -/
theorem World.grown_by {w w' : World} (h : Below w.heap.size w w') : ∃ x, w' = w.ext x := by
  refine ⟨⟨w'.heap.extract w.heap.size w'.heap.size, w'.drawn⟩, ?_⟩
  obtain ⟨h1, h2, h3, h4, h5⟩ := h
  cases w' with
  | mk heap tape drawn os output =>
    cases w with
    | mk heap' tape' drawn' os' output' =>
      simp only [World.ext] at *
      subst h1 h2 h3
      congr 1
      apply Array.ext_getElem?
      intro k
      rw [Array.getElem?_append]
      split
      · rename_i hk; exact h5 k hk
      · rename_i hk
        rw [Array.getElem?_extract]
        split
        · congr 1; omega
        · rw [Array.getElem?_eq_none]; omega
end

/-- a contract whose world only grows, met at a call: the world behind it in the form that the walk sees through -/
theorem Calls.grows {P : Program} {f : FuncId} {args : Array Value} {w : World} {R : Ending → World → Prop} {K : Ending → World → Prop}
    (h : Calls P f args w fun e w' => R e w' ∧ Below w.heap.size w w') (k : ∀ e x, R e (w.ext x) → K e (w.ext x)) : Calls P f args w K :=
  h.mono fun e w' ⟨hr, hb⟩ => by
    obtain ⟨x, rfl⟩ := World.grown_by hb
    exact k e x hr

/-- the same in a region that draws its order, at the class of the grown worlds -/
theorem Calls.quiet_ext {P : Program} {f : FuncId} {args : Array Value} {w : World} {x : Gain} {v : Value}
    (h : Calls P f args (w.ext x) fun e w' => e = .returned v ∧ Below (w.ext x).heap.size (w.ext x) w') : Calls P f args (w.ext x) fun e w'' => e = .returned v ∧ ∃ y, w'' = w.ext y :=
  h.mono fun _ w' ⟨he, hb⟩ => ⟨he, World.grown_by ((World.below_ext w x).trans (hb.mono (by simp)))⟩

theorem wp_region_ext {P : Program} {id : Nat} {Q : Exit → Act → World → Prop} {a : Act} {w : World} {l : List Oper} (hm : P.follows .mixedOrders = true) (hB : Region.lexB .any l.toArray = true)
    (h : wpQuiet P l.toArray (fun w' => ∃ x, w' = w.ext x) (fun a' => ∀ w', (∃ x, w' = w.ext x) → Q .normal a' w') l a) : (Code.region id l.toArray true).wp P Q a w :=
  wp_region_quiet (C := fun w' => ∃ x, w' = w.ext x) hm hB (World.grown_by ⟨rfl, rfl, rfl, Nat.le_refl _, fun _ _ => rfl⟩) (by simpa using h)

end Go

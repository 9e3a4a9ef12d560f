/-
  Package flight and its reference (layer 20): what each function comes to, as functions on numbers.
-/
import Derived.Test.YtfkfjbppncbkjaaProg
import Derived.Test.YtfkfjbppncbkjaaExt
namespace Go.Proofs.Ytfkfjbppncbkjaa
open Go.RowKit
namespace Fl

abbrev v (r : Int) (c : Bool) (n : Int) : Value := .agg #[.int .i64 r, .bool c, .int .i64 n]
def pos (n : Int) : Int := if n < 0 then 0 else n
def cutB (r : Int) (c : Bool) (m : Int) : Bool := decide (0 ≤ r) && !c && (m == 0)
def partN (n k : Int) : Int := pos (pos n - pos k)
def beginB (r k : Int) : Bool := decide (r < 0) && decide (0 ≤ k)
def okB (r : Int) (c : Bool) (n : Int) : Bool := decide (-1 ≤ r) && decide (0 ≤ n) && (!c || decide (0 ≤ r))
def startsB (r n : Int) : Bool := decide (r < 0) && decide (0 < n)

theorem pos_up (m : Int) (h : 0 ≤ m) : pos m = m := by unfold pos; rw [if_neg (by omega)]
theorem pos_dn (m : Int) (h : m ≤ 0) : pos m = 0 := by unfold pos; split <;> omega
theorem ret_of {v v' : Value} (h : v = v') : Ending.returned v = .returned v' := by rw [h]

theorem on_any (r : Int) (c : Bool) (n : Int) (w : World) :
    Calls Try.prog 18 #[v r c n] w fun e w' => e = .returned (.bool (decide (0 ≤ r))) ∧ Below w.heap.size w w' := by
  go_enter Try.func18, Try.ntmps18
  go_wp2
  go_returns
  exact ⟨rfl, by (repeat' (first | (with_reducible exact Below.refl _ _) | (with_reducible assumption) | (with_reducible refine Below.ext ?_ ?_ _) | (with_reducible refine Below.alloc ?_ ?_ _) | (with_reducible refine Below.drew ?_) | (with_reducible refine Below.setCell ?_ ?_ _) | go_size | (simp only [World.size_ext, World.size_alloc, World.size_setCell, World.size_drew]; omega)))⟩

theorem refOn_any (r : Int) (c : Bool) (n : Int) (w : World) :
    Calls Try.prog 19 #[v r c n] w fun e w' => e = .returned (.bool (decide (0 ≤ r))) ∧ Below w.heap.size w w' := by
  go_enter Try.func19, Try.ntmps19
  go_wp2
  go_returns
  exact ⟨rfl, by (repeat' (first | (with_reducible exact Below.refl _ _) | (with_reducible assumption) | (with_reducible refine Below.ext ?_ ?_ _) | (with_reducible refine Below.alloc ?_ ?_ _) | (with_reducible refine Below.drew ?_) | (with_reducible refine Below.setCell ?_ ?_ _) | go_size | (simp only [World.size_ext, World.size_alloc, World.size_setCell, World.size_drew]; omega)))⟩

theorem refs_any (r : Int) (c : Bool) (n : Int) (w : World) :
    Calls Try.prog 49 #[v r c n] w fun e w' => e = .returned (.int .i64 (pos n)) ∧ Below w.heap.size w w' := by
  unfold pos
  go_enter Try.func49, Try.ntmps49
  go_wp2
  all_goals
    go_returns
    refine ⟨ret_of ?_, by (repeat' (first | (with_reducible exact Below.refl _ _) | (with_reducible assumption) | (with_reducible refine Below.ext ?_ ?_ _) | (with_reducible refine Below.alloc ?_ ?_ _) | (with_reducible refine Below.drew ?_) | (with_reducible refine Below.setCell ?_ ?_ _) | go_size | (simp only [World.size_ext, World.size_alloc, World.size_setCell, World.size_drew]; omega)))⟩
    first | rfl | (congr 1; done)

theorem none_any (w : World) :
    Calls Try.prog 28 #[] w fun e w' => e = .returned (v (-1) false 0) ∧ Below w.heap.size w w' := by
  go_enter Try.func28, Try.ntmps28
  go_wp2
  go_returns
  exact ⟨rfl, by (repeat' (first | (with_reducible exact Below.refl _ _) | (with_reducible assumption) | (with_reducible refine Below.ext ?_ ?_ _) | (with_reducible refine Below.alloc ?_ ?_ _) | (with_reducible refine Below.drew ?_) | (with_reducible refine Below.setCell ?_ ?_ _) | go_size | (simp only [World.size_ext, World.size_alloc, World.size_setCell, World.size_drew]; omega)))⟩

theorem refNone_any (w : World) :
    Calls Try.prog 29 #[] w fun e w' => e = .returned (v (-1) false 0) ∧ Below w.heap.size w w' := by
  go_enter Try.func29, Try.ntmps29
  go_wp2
  go_returns
  exact ⟨rfl, by (repeat' (first | (with_reducible exact Below.refl _ _) | (with_reducible assumption) | (with_reducible refine Below.ext ?_ ?_ _) | (with_reducible refine Below.alloc ?_ ?_ _) | (with_reducible refine Below.drew ?_) | (with_reducible refine Below.setCell ?_ ?_ _) | go_size | (simp only [World.size_ext, World.size_alloc, World.size_setCell, World.size_drew]; omega)))⟩

set_option maxHeartbeats 400000 in
theorem part_any (r : Int) (c : Bool) (n k : Int) (w : World) (hn : n ≤ 9223372036854775807) (hk : k ≤ 9223372036854775807) :
    Calls Try.prog 14 #[v r c n, .int .i64 k] w fun e w' =>
      e = .returned (.tuple #[v r (c || cutB r c (partN n k)) (partN n k), .bool (cutB r c (partN n k))]) ∧ Below w.heap.size w w' := by
  have hp : 0 ≤ pos n := by unfold pos; split <;> omega
  have hq : pos n ≤ 9223372036854775807 := by unfold pos; split <;> omega
  by_cases k0 : k < 0
  all_goals by_cases k1 : pos n < k
  all_goals by_cases r0 : 0 ≤ r
  all_goals try omega
  all_goals
    go_enter Try.func14, Try.ntmps14
    go_wp2_with (first | (go_at_call 49; refine (refs_any _ _ _ _).grows ?_; rintro _ xg rfl) | (go_at_call 18; refine (on_any _ _ _ _).grows ?_; rintro _ xg rfl))
  all_goals
    go_returns
    refine ⟨ret_of ?_, by (repeat' (first | (with_reducible exact Below.refl _ _) | (with_reducible assumption) | (with_reducible refine Below.ext ?_ ?_ _) | (with_reducible refine Below.alloc ?_ ?_ _) | (with_reducible refine Below.drew ?_) | (with_reducible refine Below.setCell ?_ ?_ _) | go_size | (simp only [World.size_ext, World.size_alloc, World.size_setCell, World.size_drew]; omega)))⟩
    unfold cutB partN
    generalize pos n = p at *
    first | rw [decide_eq_true (show 0 ≤ r by omega)] | rw [decide_eq_false (show ¬ 0 ≤ r by omega)]
    first
      | (rw [pos_dn k (by omega), pos_up (p - 0) (by omega)]; simp_all; done)
      | (rw [pos_up k (by omega), pos_up (p - k) (by omega)]; simp_all; done)
      | (rw [pos_up k (by omega), pos_dn (p - k) (by omega)]; simp_all; done)

end Fl
end Go.Proofs.Ytfkfjbppncbkjaa

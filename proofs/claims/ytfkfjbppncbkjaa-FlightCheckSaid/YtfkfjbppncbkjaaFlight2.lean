/-
  Package flight and its reference (layer 20), more: what each function comes to, as functions on numbers.
-/
import Derived.Test.YtfkfjbppncbkjaaFlight
namespace Go.Proofs.Ytfkfjbppncbkjaa
open Go.RowKit
namespace Fl

def chk (r : Int) (c : Bool) (n : Int) : Int := if okB r c n then 0 else 2

set_option maxHeartbeats 2000000 in
theorem refPart_any (r : Int) (c : Bool) (n k : Int) (w : World) (hn : n ≤ 9223372036854775807) (hk : k ≤ 9223372036854775807) :
    Calls Try.prog 15 #[v r c n, .int .i64 k] w fun e w' =>
      e = .returned (.tuple #[v r (c || cutB r c (partN n k)) (partN n k), .bool (cutB r c (partN n k))]) ∧ Below w.heap.size w w' := by
  have P := Lib.hid (show pos n = if n < 0 then 0 else n from rfl)
  by_cases n0 : 0 < n
  all_goals by_cases k0 : k < 0
  all_goals by_cases k1 : k < n
  all_goals by_cases r0 : 0 ≤ r
  all_goals try omega
  all_goals
    go_enter Try.func15, Try.ntmps15
    go_wp2
  all_goals
    go_returns
    refine ⟨ret_of ?_, by (repeat' (first | (with_reducible exact Below.refl _ _) | (with_reducible assumption) | (with_reducible refine Below.ext ?_ ?_ _) | (with_reducible refine Below.alloc ?_ ?_ _) | (with_reducible refine Below.drew ?_) | (with_reducible refine Below.setCell ?_ ?_ _) | go_size | (simp only [World.size_ext, World.size_alloc, World.size_setCell, World.size_drew]; omega)))⟩
    unfold cutB partN
    first | rw [decide_eq_true (show 0 ≤ r by omega)] | rw [decide_eq_false (show ¬ 0 ≤ r by omega)]
    first | rw [pos_dn k (by omega)] | rw [pos_up k (by omega)]
    first | rw [pos_dn n (by omega)] | rw [pos_up n (by omega)]
    first | (rw [pos_dn (0 - 0) (by omega)]; simp_all; done) | (rw [pos_dn (0 - k) (by omega)]; simp_all; done) | (rw [pos_up (n - 0) (by omega)]; simp_all; done) | (rw [pos_dn (0 - k) (by omega)]; simp_all; omega) | (rw [pos_up (n - 0) (by omega)]; simp_all; done) | (rw [pos_dn (n - k) (by omega)]; simp_all; done) | (rw [pos_up (n - k) (by omega)]; simp_all; done)

set_option maxHeartbeats 1000000 in
theorem check_any (r : Int) (c : Bool) (n : Int) (w : World) :
    Calls Try.prog 20 #[v r c n] w fun e w' => e = .returned (.int .i64 (chk r c n)) ∧ Below w.heap.size w w' := by
  by_cases r0 : r < -1
  all_goals by_cases n0 : n < 0
  all_goals by_cases r1 : 0 ≤ r
  all_goals try omega
  all_goals cases c
  all_goals first | (have hd : decide (0 ≤ r) = false := decide_eq_false (by omega)) | (have hd : decide (0 ≤ r) = true := decide_eq_true (by omega))
  all_goals
    go_enter Try.func20, Try.ntmps20
    go_wp2_with (first | (go_at_call 18; refine (on_any _ _ _ _).grows ?_; rintro _ xg rfl))
    go_returns
    refine ⟨ret_of ?_, by (repeat' (first | (with_reducible exact Below.refl _ _) | (with_reducible assumption) | (with_reducible refine Below.ext ?_ ?_ _) | (with_reducible refine Below.alloc ?_ ?_ _) | (with_reducible refine Below.drew ?_) | (with_reducible refine Below.setCell ?_ ?_ _) | go_size | (simp only [World.size_ext, World.size_alloc, World.size_setCell, World.size_drew]; omega)))⟩
    unfold chk okB
    first | rw [decide_eq_true (show 0 ≤ r by omega)] | rw [decide_eq_false (show ¬ 0 ≤ r by omega)]
    first | rw [decide_eq_true (show -1 ≤ r by omega)] | rw [decide_eq_false (show ¬ -1 ≤ r by omega)]
    first | rw [decide_eq_true (show 0 ≤ n by omega)] | rw [decide_eq_false (show ¬ 0 ≤ n by omega)]
    rfl

set_option maxHeartbeats 1000000 in
theorem refCheck_any (r : Int) (c : Bool) (n : Int) (w : World) :
    Calls Try.prog 21 #[v r c n] w fun e w' => e = .returned (.int .i64 (chk r c n)) ∧ Below w.heap.size w w' := by
  by_cases r0 : r < -1
  all_goals by_cases n0 : n < 0
  all_goals by_cases r1 : 0 ≤ r
  all_goals try omega
  all_goals cases c
  all_goals
    go_enter Try.func21, Try.ntmps21
    go_wp2
    go_returns
    refine ⟨ret_of ?_, by (repeat' (first | (with_reducible exact Below.refl _ _) | (with_reducible assumption) | (with_reducible refine Below.ext ?_ ?_ _) | (with_reducible refine Below.alloc ?_ ?_ _) | (with_reducible refine Below.drew ?_) | (with_reducible refine Below.setCell ?_ ?_ _) | go_size | (simp only [World.size_ext, World.size_alloc, World.size_setCell, World.size_drew]; omega)))⟩
    unfold chk okB
    first | rw [decide_eq_true (show 0 ≤ r by omega)] | rw [decide_eq_false (show ¬ 0 ≤ r by omega)]
    first | rw [decide_eq_true (show -1 ≤ r by omega)] | rw [decide_eq_false (show ¬ -1 ≤ r by omega)]
    first | rw [decide_eq_true (show 0 ≤ n by omega)] | rw [decide_eq_false (show ¬ 0 ≤ n by omega)]
    rfl

theorem join_any (r : Int) (c : Bool) (n : Int) (A : Option Addr) (m cap : Nat) (w : World) (h : pos n + m ≤ 9223372036854775807) :
    Calls Try.prog 22 #[v r c n, .slice A m cap] w fun e w' => e = .returned (v r c (pos n + m)) ∧ Below w.heap.size w w' := by
  have hp : 0 ≤ pos n := by unfold pos; split <;> omega
  go_enter Try.func22, Try.ntmps22
  go_wp2_with (first | (go_at_call 49; refine (refs_any _ _ _ _).grows ?_; rintro _ xg rfl))
  go_returns
  exact ⟨rfl, by (repeat' (first | (with_reducible exact Below.refl _ _) | (with_reducible assumption) | (with_reducible refine Below.ext ?_ ?_ _) | (with_reducible refine Below.alloc ?_ ?_ _) | (with_reducible refine Below.drew ?_) | (with_reducible refine Below.setCell ?_ ?_ _) | go_size | (simp only [World.size_ext, World.size_alloc, World.size_setCell, World.size_drew]; omega)))⟩

theorem refJoin_any (r : Int) (c : Bool) (n : Int) (A : Option Addr) (m cap : Nat) (w : World) (h : pos n + m ≤ 9223372036854775807) :
    Calls Try.prog 23 #[v r c n, .slice A m cap] w fun e w' => e = .returned (v r c (pos n + m)) ∧ Below w.heap.size w w' := by
  by_cases n0 : n < 0
  · rw [pos_dn n (by omega)] at h ⊢
    go_enter Try.func23, Try.ntmps23
    go_wp2
    go_returns
    exact ⟨ret_of (by simp), by (repeat' (first | (with_reducible exact Below.refl _ _) | (with_reducible assumption) | (with_reducible refine Below.ext ?_ ?_ _) | (with_reducible refine Below.alloc ?_ ?_ _) | (with_reducible refine Below.drew ?_) | (with_reducible refine Below.setCell ?_ ?_ _) | go_size | (simp only [World.size_ext, World.size_alloc, World.size_setCell, World.size_drew]; omega)))⟩
  · rw [pos_up n (by omega)] at h ⊢
    go_enter Try.func23, Try.ntmps23
    go_wp2
    go_returns
    exact ⟨ret_of (by simp), by (repeat' (first | (with_reducible exact Below.refl _ _) | (with_reducible assumption) | (with_reducible refine Below.ext ?_ ?_ _) | (with_reducible refine Below.alloc ?_ ?_ _) | (with_reducible refine Below.drew ?_) | (with_reducible refine Below.setCell ?_ ?_ _) | go_size | (simp only [World.size_ext, World.size_alloc, World.size_setCell, World.size_drew]; omega)))⟩

theorem starts_any (r : Int) (c : Bool) (n : Int) (w : World) :
    Calls Try.prog 24 #[v r c n] w fun e w' => e = .returned (.bool (startsB r n)) ∧ Below w.heap.size w w' := by
  by_cases r0 : 0 ≤ r
  all_goals by_cases n0 : 0 < n
  all_goals first | (have hd : decide (0 ≤ r) = false := decide_eq_false (by omega)) | (have hd : decide (0 ≤ r) = true := decide_eq_true (by omega))
  all_goals
    go_enter Try.func24, Try.ntmps24
    go_wp2_with (first | (go_at_call 18; refine (on_any _ _ _ _).grows ?_; rintro _ xg rfl))
    go_returns
    refine ⟨ret_of ?_, by (repeat' (first | (with_reducible exact Below.refl _ _) | (with_reducible assumption) | (with_reducible refine Below.ext ?_ ?_ _) | (with_reducible refine Below.alloc ?_ ?_ _) | (with_reducible refine Below.drew ?_) | (with_reducible refine Below.setCell ?_ ?_ _) | go_size | (simp only [World.size_ext, World.size_alloc, World.size_setCell, World.size_drew]; omega)))⟩
    unfold startsB
    first | rw [decide_eq_true (show r < 0 by omega)] | rw [decide_eq_false (show ¬ r < 0 by omega)]
    first | rw [decide_eq_true (show 0 < n by omega)] | rw [decide_eq_false (show ¬ 0 < n by omega)]
    rfl

theorem refStarts_any (r : Int) (c : Bool) (n : Int) (w : World) :
    Calls Try.prog 25 #[v r c n] w fun e w' => e = .returned (.bool (startsB r n)) ∧ Below w.heap.size w w' := by
  by_cases r0 : r < 0
  all_goals by_cases n0 : 0 < n
  all_goals
    go_enter Try.func25, Try.ntmps25
    go_wp2
    go_returns
    refine ⟨ret_of ?_, by (repeat' (first | (with_reducible exact Below.refl _ _) | (with_reducible assumption) | (with_reducible refine Below.ext ?_ ?_ _) | (with_reducible refine Below.alloc ?_ ?_ _) | (with_reducible refine Below.drew ?_) | (with_reducible refine Below.setCell ?_ ?_ _) | go_size | (simp only [World.size_ext, World.size_alloc, World.size_setCell, World.size_drew]; omega)))⟩
    unfold startsB
    first | rw [decide_eq_true (show r < 0 by omega)] | rw [decide_eq_false (show ¬ r < 0 by omega)]
    first | rw [decide_eq_true (show 0 < n by omega)] | rw [decide_eq_false (show ¬ 0 < n by omega)]
    rfl

theorem begin_yes (r : Int) (c : Bool) (n k : Int) (w : World) (h : beginB r k = true) :
    Calls Try.prog 16 #[v r c n, .int .i64 k] w fun e w' => e = .returned (.tuple #[v k false (pos n), .int .i64 0]) ∧ Below w.heap.size w w' := by
  obtain ⟨h1, h2⟩ : r < 0 ∧ 0 ≤ k := by simpa [beginB] using h
  clear h
  go_enter Try.func16, Try.ntmps16
  go_wp2_with (first | (go_at_call 18; refine (on_any _ _ _ _).grows ?_; rintro _ xg rfl) | (go_at_call 49; refine (refs_any _ _ _ _).grows ?_; rintro _ xg rfl))
  go_returns
  exact ⟨rfl, by (repeat' (first | (with_reducible exact Below.refl _ _) | (with_reducible assumption) | (with_reducible refine Below.ext ?_ ?_ _) | (with_reducible refine Below.alloc ?_ ?_ _) | (with_reducible refine Below.drew ?_) | (with_reducible refine Below.setCell ?_ ?_ _) | go_size | (simp only [World.size_ext, World.size_alloc, World.size_setCell, World.size_drew]; omega)))⟩

theorem begin_no (r : Int) (c : Bool) (n k : Int) (w : World) (h : beginB r k = false) :
    Calls Try.prog 16 #[v r c n, .int .i64 k] w fun e w' => e = .returned (.tuple #[v 0 false 0, .int .i64 2]) ∧ Below w.heap.size w w' := by
  have h1 : 0 ≤ r ∨ k < 0 := by simp [beginB] at h; omega
  clear h
  by_cases h0 : 0 ≤ r
  · clear h1
    go_enter Try.func16, Try.ntmps16
    go_wp2_with (first | (go_at_call 18; refine (on_any _ _ _ _).grows ?_; rintro _ xg rfl))
    go_returns
    exact ⟨rfl, by (repeat' (first | (with_reducible exact Below.refl _ _) | (with_reducible assumption) | (with_reducible refine Below.ext ?_ ?_ _) | (with_reducible refine Below.alloc ?_ ?_ _) | (with_reducible refine Below.drew ?_) | (with_reducible refine Below.setCell ?_ ?_ _) | go_size | (simp only [World.size_ext, World.size_alloc, World.size_setCell, World.size_drew]; omega)))⟩
  · have h2 : k < 0 := by omega
    clear h1
    go_enter Try.func16, Try.ntmps16
    go_wp2_with (first | (go_at_call 18; refine (on_any _ _ _ _).grows ?_; rintro _ xg rfl))
    go_returns
    exact ⟨rfl, by (repeat' (first | (with_reducible exact Below.refl _ _) | (with_reducible assumption) | (with_reducible refine Below.ext ?_ ?_ _) | (with_reducible refine Below.alloc ?_ ?_ _) | (with_reducible refine Below.drew ?_) | (with_reducible refine Below.setCell ?_ ?_ _) | go_size | (simp only [World.size_ext, World.size_alloc, World.size_setCell, World.size_drew]; omega)))⟩

theorem refBegin_yes (r : Int) (c : Bool) (n k : Int) (w : World) (h : beginB r k = true) :
    Calls Try.prog 17 #[v r c n, .int .i64 k] w fun e w' => e = .returned (.tuple #[v k false (pos n), .int .i64 0]) ∧ Below w.heap.size w w' := by
  obtain ⟨h1, h2⟩ : r < 0 ∧ 0 ≤ k := by simpa [beginB] using h
  clear h
  by_cases n0 : n < 0
  all_goals
    go_enter Try.func17, Try.ntmps17
    go_wp2
    go_returns
    refine ⟨ret_of ?_, by (repeat' (first | (with_reducible exact Below.refl _ _) | (with_reducible assumption) | (with_reducible refine Below.ext ?_ ?_ _) | (with_reducible refine Below.alloc ?_ ?_ _) | (with_reducible refine Below.drew ?_) | (with_reducible refine Below.setCell ?_ ?_ _) | go_size | (simp only [World.size_ext, World.size_alloc, World.size_setCell, World.size_drew]; omega)))⟩
    first | rw [pos_dn n (by omega)] | rw [pos_up n (by omega)]

theorem refBegin_no (r : Int) (c : Bool) (n k : Int) (w : World) (h : beginB r k = false) :
    Calls Try.prog 17 #[v r c n, .int .i64 k] w fun e w' => e = .returned (.tuple #[v 0 false 0, .int .i64 2]) ∧ Below w.heap.size w w' := by
  have h1 : 0 ≤ r ∨ k < 0 := by simp [beginB] at h; omega
  clear h
  by_cases h0 : 0 ≤ r
  · clear h1
    go_enter Try.func17, Try.ntmps17
    go_wp2
    go_returns
    exact ⟨rfl, by (repeat' (first | (with_reducible exact Below.refl _ _) | (with_reducible assumption) | (with_reducible refine Below.ext ?_ ?_ _) | (with_reducible refine Below.alloc ?_ ?_ _) | (with_reducible refine Below.drew ?_) | (with_reducible refine Below.setCell ?_ ?_ _) | go_size | (simp only [World.size_ext, World.size_alloc, World.size_setCell, World.size_drew]; omega)))⟩
  · have h2 : k < 0 := by omega
    clear h1
    go_enter Try.func17, Try.ntmps17
    go_wp2
    go_returns
    exact ⟨rfl, by (repeat' (first | (with_reducible exact Below.refl _ _) | (with_reducible assumption) | (with_reducible refine Below.ext ?_ ?_ _) | (with_reducible refine Below.alloc ?_ ?_ _) | (with_reducible refine Below.drew ?_) | (with_reducible refine Below.setCell ?_ ?_ _) | go_size | (simp only [World.size_ext, World.size_alloc, World.size_setCell, World.size_drew]; omega)))⟩

theorem refEnd_any (r : Int) (c : Bool) (n : Int) (w : World) :
    Calls Try.prog 27 #[v r c n] w fun e w' => e = .returned (v (-1) false (pos n)) ∧ Below w.heap.size w w' := by
  by_cases n0 : n < 0
  all_goals
    go_enter Try.func27, Try.ntmps27
    go_wp2
    go_returns
    refine ⟨ret_of ?_, by (repeat' (first | (with_reducible exact Below.refl _ _) | (with_reducible assumption) | (with_reducible refine Below.ext ?_ ?_ _) | (with_reducible refine Below.alloc ?_ ?_ _) | (with_reducible refine Below.drew ?_) | (with_reducible refine Below.setCell ?_ ?_ _) | go_size | (simp only [World.size_ext, World.size_alloc, World.size_setCell, World.size_drew]; omega)))⟩
    first | rw [pos_dn n (by omega)] | rw [pos_up n (by omega)]

end Fl
end Go.Proofs.Ytfkfjbppncbkjaa

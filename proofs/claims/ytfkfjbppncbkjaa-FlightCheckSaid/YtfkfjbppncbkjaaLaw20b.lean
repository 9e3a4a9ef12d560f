/-
  Layer 20, flight: small facts for its laws.
-/
import Derived.Test.YtfkfjbppncbkjaaLaw
import Derived.Test.YtfkfjbppncbkjaaLaw20
namespace Go.Proofs.Ytfkfjbppncbkjaa
open Go.RowKit
namespace Fl

theorem intInfo : (Try.prog.info? 3).map (fun i => (i.zero, i.size, i.bytes)) = some (some (.int .i64 0), 1, 8) := by kernel_rfl

theorem run_make_ints (m : Nat) (hm : m ≤ 1048576) (W : World) : (Instr.makeSlice 24 (.int .i64 (m : Int)) (.int .i64 (m : Int))).run Try.prog W =
    .ok (.slice (some ⟨W.heap.size, 0, none⟩) m m) (W.alloc (.cells (madeCells #[.int .i64 0] m) 3)) := by
  obtain ⟨i0, hi, hz0, hz1, hz2⟩ := info_parts intInfo
  have h := run_make (P := Try.prog) W 24 3 i0 (.int .i64 0) Try.underlying24 hi hz0 .i64 .i64 (m : Int) (m : Int) (by omega) (Int.le_refl _) (by rw [hz2]; omega) (by omega)
  simpa [hz1, Value.cells] using h

theorem partN_in {n k : Int} (h0 : 0 ≤ k) (h1 : k ≤ n) : partN n k = n - k := by
  unfold partN; rw [pos_up n (by omega), pos_up k h0, pos_up (n - k) (by omega)]

theorem okB_true {r : Int} {c : Bool} {n : Int} (h : okB r c n = true) : -1 ≤ r ∧ 0 ≤ n ∧ (c = true → 0 ≤ r) := by
  unfold okB at h
  cases c <;> simp_all

theorem cutB_true {r : Int} {c : Bool} {m : Int} (h : cutB r c m = true) : 0 ≤ r ∧ m = 0 := by
  unfold cutB at h
  simp at h
  exact ⟨h.1.1, h.2⟩

theorem chk_two (r : Int) (c : Bool) (n : Int) : chk r c n = 0 ∨ chk r c n = 2 := by
  unfold chk; split <;> simp
theorem chk_ok {r : Int} {c : Bool} {n : Int} (h : chk r c n = 0) : okB r c n = true := by
  unfold chk at h; split at h
  · assumption
  · omega

theorem World_ext_self (w : World) : w = w.ext ⟨#[], w.drawn⟩ := by
  cases w; simp [World.ext]

/-- behind i parts of one -/
def someB (r : Int) (c : Bool) (n : Int) (i : Nat) : Bool := decide (1 ≤ i) && cutB r c (partN n i)

theorem partN_zero {n : Int} (h : 0 ≤ n) : partN n 0 = n := by rw [partN_in (by omega) h]; omega
theorem partN_succ (n : Int) (i : Nat) (h : 0 ≤ n) : partN (partN n i) 1 = partN n ((i + 1 : Nat) : Int) := by
  unfold partN
  rw [pos_up n h, pos_up (i : Int) (by omega), pos_up 1 (by omega), pos_up ((i + 1 : Nat) : Int) (by omega)]
  by_cases h1 : (i : Int) ≤ n
  · rw [pos_up (n - i) (by omega), pos_up (n - i) (by omega)]
    congr 1; omega
  · rw [pos_dn (n - i) (by omega), pos_dn (n - ((i + 1 : Nat) : Int)) (by omega)]
    rfl
theorem partN_pos (n k : Int) : 0 ≤ partN n k := by unfold partN; unfold pos; split <;> omega
theorem partN_le {n k : Int} (h : 0 ≤ n) : partN n k ≤ n := by
  unfold partN
  rw [pos_up n h]
  unfold pos; split <;> (try split) <;> omega
theorem someB_succ (r : Int) (c : Bool) (n : Int) (i : Nat) (h : 0 ≤ n) :
    (someB r c n i || cutB r (c || someB r c n i) (partN n ((i + 1 : Nat) : Int))) = someB r c n (i + 1) := by
  have hz : partN n i = 0 → partN n ((i + 1 : Nat) : Int) = 0 := fun h0 => by
    rw [← partN_succ n i h, h0]; rfl
  unfold someB cutB
  by_cases h1 : 1 ≤ i
  · by_cases h0 : partN n i = 0
    · rw [hz h0, h0]; cases c <;> cases decide (0 ≤ r) <;> simp [h1]
    · rw [beq_eq_false_iff_ne.2 h0]; cases c <;> cases decide (0 ≤ r) <;> simp [h1]
  · cases c <;> cases decide (0 ≤ r) <;> simp [h1]
theorem cutB_of_some (r : Int) (c : Bool) (n : Int) (i : Nat) (h : 1 ≤ i) : someB r c n i = cutB r c (partN n i) := by
  unfold someB; simp [h]

end Fl
end Go.Proofs.Ytfkfjbppncbkjaa

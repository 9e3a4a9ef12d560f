/-
  FlightOnce: a race is cut once at most, and just when the last one who shares it parts; a race starts just if none is on, and somebody waits. (Every list of acts: no condition.)
-/
import Derived.Test.YtfkfjbppncbkjaaLaw20b
namespace Go.Proofs.Ytfkfjbppncbkjaa
open Go.ChangeShapes Go.WideShapes Go.ChangeAt Go.RowKit
namespace Fl

theorem chk_zero {r : Int} {c : Bool} {n : Int} (h1 : -1 ≤ r) (h2 : 0 ≤ n) (h3 : c = true → 0 ≤ r) : chk r c n = 0 := by
  unfold chk okB
  rw [decide_eq_true h1, decide_eq_true h2]
  cases c
  · rfl
  · rw [decide_eq_true (h3 rfl)]; rfl

/-- what the rounds keep -/
def OnceInv (i : Nat) (r : Int) (c : Bool) (n : Int) : Prop := -1 ≤ r ∧ r ≤ 100 ∧ 0 ≤ n ∧ n ≤ i ∧ (c = true → 0 ≤ r)
set_option maxRecDepth 100000 in
set_option maxHeartbeats 8000000 in
theorem once_good (A : Option Addr) (b off m cap : Nat) (zs : List Int) (w : World) (hm : m ≤ 100) (hcell : ∀ i, i < m → w.cell? ⟨b, off + i, none⟩ = some (.int .i64 (zs.getD i 0))) (hb : 0 < m → b < w.heap.size) (hA : 0 < m → A = some ⟨b, off, none⟩) :
    Calls Try.prog 4 #[.slice A m cap] w fun e w' => e = .returned (.bool true) ∧ Below w.heap.size w w' := by
  have Hcell := Lib.hid hcell
  have HA := Lib.hid hA
  clear hcell hA
  go_enter Try.func4, Try.ntmps4
  go_wp2_with (first | (go_at_call 28; refine (none_any _).grows ?_; rintro _ x1 rfl))
  go_loopw [4, 5, 6, 7] (fun s4 s5 s6 s7 wr => ∃ (i : Nat) (r : Int) (c : Bool) (n : Int) (x : Gain), i ≤ m ∧ s7 = .int .i64 i ∧ s4 = .int .i64 n ∧ s5 = .int .i64 r ∧ s6 = .bool c ∧ OnceInv i r c n ∧ wr = ((w.ext x1).alloc (.cells #[.int .i64 r, .bool c, .int .i64 n] 23)).ext x) (fun _ _ _ s7 _ => m - (intOf s7).toNat)
  case atStart => exact ⟨0, -1, false, 0, _, Nat.zero_le _, rfl, rfl, rfl, rfl, ⟨by omega, by omega, by omega, by omega, by simp⟩, World_ext_self _⟩
  case round =>
    obtain ⟨i, r, c, n, x, hi, rfl, rfl, rfl, rfl, ⟨hr1, hr2, hn1, hn2, hc3⟩, rfl⟩ := hrel
    by_cases hlt : i < m
    · have hce := Hcell.out i hlt
      have hbb := hb (by omega)
      have hA := HA.out (by omega)
      subst hA
      generalize zs.getD i 0 = z at hce
      have hpn : pos n ≤ 1000 := by rw [pos_up n hn1]; omega
      by_cases z0 : z = 0
      · subst z0
        have hP : pos n = n := pos_up n hn1
        have hk := chk_zero (r := r) (c := c) (n := n + 1) hr1 (by omega) hc3
        have hnew : OnceInv (i + 1) r c (n + 1) := ⟨hr1, hr2, by omega, by omega, hc3⟩
        go_wp2_with (first | (go_at_call 22; refine (join_any _ _ _ _ _ _ _ (by omega)).grows ?_; rintro _ y1 rfl) | (go_at_call 14; refine (part_any _ _ _ _ _ (by omega) (by omega)).grows ?_; rintro _ y2 rfl) | (go_at_call 24; refine (starts_any _ _ _ _).grows ?_; rintro _ y3 rfl) | (go_at_call 16; refine (begin_yes _ _ _ _ _ (by assumption)).grows ?_; rintro _ y4 rfl) | (go_at_call 16; refine (begin_no _ _ _ _ _ (by assumption)).grows ?_; rintro _ y4 rfl) | (go_at_call 26; refine (end_any _ _ _ _).grows ?_; rintro _ y5 rfl) | (go_at_call 20; refine (check_any _ _ _ _).grows ?_; rintro _ y6 rfl) | (go_at_call 18; refine (on_any _ _ _ _).grows ?_; rintro _ y7 rfl))
        go_roundw
        case rel => exact ⟨i + 1, _, _, _, (World.grown_by (by (repeat' (first | (with_reducible exact Below.refl _ _) | (with_reducible assumption) | (with_reducible refine Below.ext ?_ ?_ _) | (with_reducible refine Below.alloc ?_ ?_ _) | (with_reducible refine Below.drew ?_) | (with_reducible refine Below.setCell ?_ ?_ _) | go_size | (simp only [World.size_ext, World.size_alloc, World.size_setCell, World.size_drew]; omega))))).choose, by omega, by go_num, rfl, rfl, rfl, hnew, (World.grown_by (by (repeat' (first | (with_reducible exact Below.refl _ _) | (with_reducible assumption) | (with_reducible refine Below.ext ?_ ?_ _) | (with_reducible refine Below.alloc ?_ ?_ _) | (with_reducible refine Below.drew ?_) | (with_reducible refine Below.setCell ?_ ?_ _) | go_size | (simp only [World.size_ext, World.size_alloc, World.size_setCell, World.size_drew]; omega))))).choose_spec⟩
        case measure => simp [intOf]; omega
      · have q0 : (z == 0) = false := beq_eq_false_iff_ne.2 z0
        by_cases z1 : z = 1
        · subst z1
          by_cases n0 : n = 0
          · subst n0
            have hN : partN 0 1 = 0 := rfl
            cases c
            · by_cases r0 : 0 ≤ r
              · have hcb : cutB r false 0 = true := by unfold cutB; rw [decide_eq_true r0]; rfl
                have hd : decide (0 ≤ r) = true := decide_eq_true r0
                have hk := chk_zero (r := r) (c := true) (n := 0) hr1 (by omega) (fun _ => r0)
                have hnew : OnceInv (i + 1) r true 0 := ⟨hr1, hr2, by omega, by omega, fun _ => r0⟩
                go_wp2_with (first | (go_at_call 22; refine (join_any _ _ _ _ _ _ _ (by omega)).grows ?_; rintro _ y1 rfl) | (go_at_call 14; refine (part_any _ _ _ _ _ (by omega) (by omega)).grows ?_; rintro _ y2 rfl) | (go_at_call 24; refine (starts_any _ _ _ _).grows ?_; rintro _ y3 rfl) | (go_at_call 16; refine (begin_yes _ _ _ _ _ (by assumption)).grows ?_; rintro _ y4 rfl) | (go_at_call 16; refine (begin_no _ _ _ _ _ (by assumption)).grows ?_; rintro _ y4 rfl) | (go_at_call 26; refine (end_any _ _ _ _).grows ?_; rintro _ y5 rfl) | (go_at_call 20; refine (check_any _ _ _ _).grows ?_; rintro _ y6 rfl) | (go_at_call 18; refine (on_any _ _ _ _).grows ?_; rintro _ y7 rfl))
                go_roundw
                case rel => exact ⟨i + 1, _, _, _, (World.grown_by (by (repeat' (first | (with_reducible exact Below.refl _ _) | (with_reducible assumption) | (with_reducible refine Below.ext ?_ ?_ _) | (with_reducible refine Below.alloc ?_ ?_ _) | (with_reducible refine Below.drew ?_) | (with_reducible refine Below.setCell ?_ ?_ _) | go_size | (simp only [World.size_ext, World.size_alloc, World.size_setCell, World.size_drew]; omega))))).choose, by omega, by go_num, rfl, rfl, rfl, hnew, (World.grown_by (by (repeat' (first | (with_reducible exact Below.refl _ _) | (with_reducible assumption) | (with_reducible refine Below.ext ?_ ?_ _) | (with_reducible refine Below.alloc ?_ ?_ _) | (with_reducible refine Below.drew ?_) | (with_reducible refine Below.setCell ?_ ?_ _) | go_size | (simp only [World.size_ext, World.size_alloc, World.size_setCell, World.size_drew]; omega))))).choose_spec⟩
                case measure => simp [intOf]; omega
              · have hcb : cutB r false 0 = false := by unfold cutB; rw [decide_eq_false r0]; rfl
                have hd : decide (0 ≤ r) = false := decide_eq_false r0
                have hk := chk_zero (r := r) (c := false) (n := 0) hr1 (by omega) (by simp)
                have hnew : OnceInv (i + 1) r false 0 := ⟨hr1, hr2, by omega, by omega, by simp⟩
                go_wp2_with (first | (go_at_call 22; refine (join_any _ _ _ _ _ _ _ (by omega)).grows ?_; rintro _ y1 rfl) | (go_at_call 14; refine (part_any _ _ _ _ _ (by omega) (by omega)).grows ?_; rintro _ y2 rfl) | (go_at_call 24; refine (starts_any _ _ _ _).grows ?_; rintro _ y3 rfl) | (go_at_call 16; refine (begin_yes _ _ _ _ _ (by assumption)).grows ?_; rintro _ y4 rfl) | (go_at_call 16; refine (begin_no _ _ _ _ _ (by assumption)).grows ?_; rintro _ y4 rfl) | (go_at_call 26; refine (end_any _ _ _ _).grows ?_; rintro _ y5 rfl) | (go_at_call 20; refine (check_any _ _ _ _).grows ?_; rintro _ y6 rfl) | (go_at_call 18; refine (on_any _ _ _ _).grows ?_; rintro _ y7 rfl))
                go_roundw
                case rel => exact ⟨i + 1, _, _, _, (World.grown_by (by (repeat' (first | (with_reducible exact Below.refl _ _) | (with_reducible assumption) | (with_reducible refine Below.ext ?_ ?_ _) | (with_reducible refine Below.alloc ?_ ?_ _) | (with_reducible refine Below.drew ?_) | (with_reducible refine Below.setCell ?_ ?_ _) | go_size | (simp only [World.size_ext, World.size_alloc, World.size_setCell, World.size_drew]; omega))))).choose, by omega, by go_num, rfl, rfl, rfl, hnew, (World.grown_by (by (repeat' (first | (with_reducible exact Below.refl _ _) | (with_reducible assumption) | (with_reducible refine Below.ext ?_ ?_ _) | (with_reducible refine Below.alloc ?_ ?_ _) | (with_reducible refine Below.drew ?_) | (with_reducible refine Below.setCell ?_ ?_ _) | go_size | (simp only [World.size_ext, World.size_alloc, World.size_setCell, World.size_drew]; omega))))).choose_spec⟩
                case measure => simp [intOf]; omega
            · have r0 : 0 ≤ r := hc3 rfl
              have hcb : cutB r true 0 = false := by unfold cutB; simp
              have hd : decide (0 ≤ r) = true := decide_eq_true r0
              have hk := chk_zero (r := r) (c := true) (n := 0) hr1 (by omega) (fun _ => r0)
              have hnew : OnceInv (i + 1) r true 0 := ⟨hr1, hr2, by omega, by omega, fun _ => r0⟩
              go_wp2_with (first | (go_at_call 22; refine (join_any _ _ _ _ _ _ _ (by omega)).grows ?_; rintro _ y1 rfl) | (go_at_call 14; refine (part_any _ _ _ _ _ (by omega) (by omega)).grows ?_; rintro _ y2 rfl) | (go_at_call 24; refine (starts_any _ _ _ _).grows ?_; rintro _ y3 rfl) | (go_at_call 16; refine (begin_yes _ _ _ _ _ (by assumption)).grows ?_; rintro _ y4 rfl) | (go_at_call 16; refine (begin_no _ _ _ _ _ (by assumption)).grows ?_; rintro _ y4 rfl) | (go_at_call 26; refine (end_any _ _ _ _).grows ?_; rintro _ y5 rfl) | (go_at_call 20; refine (check_any _ _ _ _).grows ?_; rintro _ y6 rfl) | (go_at_call 18; refine (on_any _ _ _ _).grows ?_; rintro _ y7 rfl))
              go_roundw
              case rel => exact ⟨i + 1, _, _, _, (World.grown_by (by (repeat' (first | (with_reducible exact Below.refl _ _) | (with_reducible assumption) | (with_reducible refine Below.ext ?_ ?_ _) | (with_reducible refine Below.alloc ?_ ?_ _) | (with_reducible refine Below.drew ?_) | (with_reducible refine Below.setCell ?_ ?_ _) | go_size | (simp only [World.size_ext, World.size_alloc, World.size_setCell, World.size_drew]; omega))))).choose, by omega, by go_num, rfl, rfl, rfl, hnew, (World.grown_by (by (repeat' (first | (with_reducible exact Below.refl _ _) | (with_reducible assumption) | (with_reducible refine Below.ext ?_ ?_ _) | (with_reducible refine Below.alloc ?_ ?_ _) | (with_reducible refine Below.drew ?_) | (with_reducible refine Below.setCell ?_ ?_ _) | go_size | (simp only [World.size_ext, World.size_alloc, World.size_setCell, World.size_drew]; omega))))).choose_spec⟩
              case measure => simp [intOf]; omega
          · by_cases n1 : n = 1
            · subst n1
              have hN : partN 1 1 = 0 := rfl
              cases c
              · by_cases r0 : 0 ≤ r
                · have hcb : cutB r false 0 = true := by unfold cutB; rw [decide_eq_true r0]; rfl
                  have hd : decide (0 ≤ r) = true := decide_eq_true r0
                  have hk := chk_zero (r := r) (c := true) (n := 0) hr1 (by omega) (fun _ => r0)
                  have hnew : OnceInv (i + 1) r true 0 := ⟨hr1, hr2, by omega, by omega, fun _ => r0⟩
                  go_wp2_with (first | (go_at_call 22; refine (join_any _ _ _ _ _ _ _ (by omega)).grows ?_; rintro _ y1 rfl) | (go_at_call 14; refine (part_any _ _ _ _ _ (by omega) (by omega)).grows ?_; rintro _ y2 rfl) | (go_at_call 24; refine (starts_any _ _ _ _).grows ?_; rintro _ y3 rfl) | (go_at_call 16; refine (begin_yes _ _ _ _ _ (by assumption)).grows ?_; rintro _ y4 rfl) | (go_at_call 16; refine (begin_no _ _ _ _ _ (by assumption)).grows ?_; rintro _ y4 rfl) | (go_at_call 26; refine (end_any _ _ _ _).grows ?_; rintro _ y5 rfl) | (go_at_call 20; refine (check_any _ _ _ _).grows ?_; rintro _ y6 rfl) | (go_at_call 18; refine (on_any _ _ _ _).grows ?_; rintro _ y7 rfl))
                  go_roundw
                  case rel => exact ⟨i + 1, _, _, _, (World.grown_by (by (repeat' (first | (with_reducible exact Below.refl _ _) | (with_reducible assumption) | (with_reducible refine Below.ext ?_ ?_ _) | (with_reducible refine Below.alloc ?_ ?_ _) | (with_reducible refine Below.drew ?_) | (with_reducible refine Below.setCell ?_ ?_ _) | go_size | (simp only [World.size_ext, World.size_alloc, World.size_setCell, World.size_drew]; omega))))).choose, by omega, by go_num, rfl, rfl, rfl, hnew, (World.grown_by (by (repeat' (first | (with_reducible exact Below.refl _ _) | (with_reducible assumption) | (with_reducible refine Below.ext ?_ ?_ _) | (with_reducible refine Below.alloc ?_ ?_ _) | (with_reducible refine Below.drew ?_) | (with_reducible refine Below.setCell ?_ ?_ _) | go_size | (simp only [World.size_ext, World.size_alloc, World.size_setCell, World.size_drew]; omega))))).choose_spec⟩
                  case measure => simp [intOf]; omega
                · have hcb : cutB r false 0 = false := by unfold cutB; rw [decide_eq_false r0]; rfl
                  have hd : decide (0 ≤ r) = false := decide_eq_false r0
                  have hk := chk_zero (r := r) (c := false) (n := 0) hr1 (by omega) (by simp)
                  have hnew : OnceInv (i + 1) r false 0 := ⟨hr1, hr2, by omega, by omega, by simp⟩
                  go_wp2_with (first | (go_at_call 22; refine (join_any _ _ _ _ _ _ _ (by omega)).grows ?_; rintro _ y1 rfl) | (go_at_call 14; refine (part_any _ _ _ _ _ (by omega) (by omega)).grows ?_; rintro _ y2 rfl) | (go_at_call 24; refine (starts_any _ _ _ _).grows ?_; rintro _ y3 rfl) | (go_at_call 16; refine (begin_yes _ _ _ _ _ (by assumption)).grows ?_; rintro _ y4 rfl) | (go_at_call 16; refine (begin_no _ _ _ _ _ (by assumption)).grows ?_; rintro _ y4 rfl) | (go_at_call 26; refine (end_any _ _ _ _).grows ?_; rintro _ y5 rfl) | (go_at_call 20; refine (check_any _ _ _ _).grows ?_; rintro _ y6 rfl) | (go_at_call 18; refine (on_any _ _ _ _).grows ?_; rintro _ y7 rfl))
                  go_roundw
                  case rel => exact ⟨i + 1, _, _, _, (World.grown_by (by (repeat' (first | (with_reducible exact Below.refl _ _) | (with_reducible assumption) | (with_reducible refine Below.ext ?_ ?_ _) | (with_reducible refine Below.alloc ?_ ?_ _) | (with_reducible refine Below.drew ?_) | (with_reducible refine Below.setCell ?_ ?_ _) | go_size | (simp only [World.size_ext, World.size_alloc, World.size_setCell, World.size_drew]; omega))))).choose, by omega, by go_num, rfl, rfl, rfl, hnew, (World.grown_by (by (repeat' (first | (with_reducible exact Below.refl _ _) | (with_reducible assumption) | (with_reducible refine Below.ext ?_ ?_ _) | (with_reducible refine Below.alloc ?_ ?_ _) | (with_reducible refine Below.drew ?_) | (with_reducible refine Below.setCell ?_ ?_ _) | go_size | (simp only [World.size_ext, World.size_alloc, World.size_setCell, World.size_drew]; omega))))).choose_spec⟩
                  case measure => simp [intOf]; omega
              · have r0 : 0 ≤ r := hc3 rfl
                have hcb : cutB r true 0 = false := by unfold cutB; simp
                have hd : decide (0 ≤ r) = true := decide_eq_true r0
                have hk := chk_zero (r := r) (c := true) (n := 0) hr1 (by omega) (fun _ => r0)
                have hnew : OnceInv (i + 1) r true 0 := ⟨hr1, hr2, by omega, by omega, fun _ => r0⟩
                go_wp2_with (first | (go_at_call 22; refine (join_any _ _ _ _ _ _ _ (by omega)).grows ?_; rintro _ y1 rfl) | (go_at_call 14; refine (part_any _ _ _ _ _ (by omega) (by omega)).grows ?_; rintro _ y2 rfl) | (go_at_call 24; refine (starts_any _ _ _ _).grows ?_; rintro _ y3 rfl) | (go_at_call 16; refine (begin_yes _ _ _ _ _ (by assumption)).grows ?_; rintro _ y4 rfl) | (go_at_call 16; refine (begin_no _ _ _ _ _ (by assumption)).grows ?_; rintro _ y4 rfl) | (go_at_call 26; refine (end_any _ _ _ _).grows ?_; rintro _ y5 rfl) | (go_at_call 20; refine (check_any _ _ _ _).grows ?_; rintro _ y6 rfl) | (go_at_call 18; refine (on_any _ _ _ _).grows ?_; rintro _ y7 rfl))
                go_roundw
                case rel => exact ⟨i + 1, _, _, _, (World.grown_by (by (repeat' (first | (with_reducible exact Below.refl _ _) | (with_reducible assumption) | (with_reducible refine Below.ext ?_ ?_ _) | (with_reducible refine Below.alloc ?_ ?_ _) | (with_reducible refine Below.drew ?_) | (with_reducible refine Below.setCell ?_ ?_ _) | go_size | (simp only [World.size_ext, World.size_alloc, World.size_setCell, World.size_drew]; omega))))).choose, by omega, by go_num, rfl, rfl, rfl, hnew, (World.grown_by (by (repeat' (first | (with_reducible exact Below.refl _ _) | (with_reducible assumption) | (with_reducible refine Below.ext ?_ ?_ _) | (with_reducible refine Below.alloc ?_ ?_ _) | (with_reducible refine Below.drew ?_) | (with_reducible refine Below.setCell ?_ ?_ _) | go_size | (simp only [World.size_ext, World.size_alloc, World.size_setCell, World.size_drew]; omega))))).choose_spec⟩
                case measure => simp [intOf]; omega
            · have hN : partN n 1 = n - 1 := partN_in (by omega) (by omega)
              have hq : (n - 1 == 0) = false := beq_eq_false_iff_ne.2 (by omega)
              have hz : 0 < n - 1 := by omega
              cases c
              · by_cases r0 : 0 ≤ r
                · have hcb : cutB r false (n - 1) = false := by unfold cutB; rw [hq]; simp
                  have hd : decide (0 ≤ r) = true := decide_eq_true r0
                  have hk := chk_zero (r := r) (c := false) (n := (n - 1)) hr1 (by omega) (fun _ => r0)
                  have hnew : OnceInv (i + 1) r false (n - 1) := ⟨hr1, hr2, by omega, by omega, fun _ => r0⟩
                  go_wp2_with (first | (go_at_call 22; refine (join_any _ _ _ _ _ _ _ (by omega)).grows ?_; rintro _ y1 rfl) | (go_at_call 14; refine (part_any _ _ _ _ _ (by omega) (by omega)).grows ?_; rintro _ y2 rfl) | (go_at_call 24; refine (starts_any _ _ _ _).grows ?_; rintro _ y3 rfl) | (go_at_call 16; refine (begin_yes _ _ _ _ _ (by assumption)).grows ?_; rintro _ y4 rfl) | (go_at_call 16; refine (begin_no _ _ _ _ _ (by assumption)).grows ?_; rintro _ y4 rfl) | (go_at_call 26; refine (end_any _ _ _ _).grows ?_; rintro _ y5 rfl) | (go_at_call 20; refine (check_any _ _ _ _).grows ?_; rintro _ y6 rfl) | (go_at_call 18; refine (on_any _ _ _ _).grows ?_; rintro _ y7 rfl))
                  go_roundw
                  case rel => exact ⟨i + 1, _, _, _, (World.grown_by (by (repeat' (first | (with_reducible exact Below.refl _ _) | (with_reducible assumption) | (with_reducible refine Below.ext ?_ ?_ _) | (with_reducible refine Below.alloc ?_ ?_ _) | (with_reducible refine Below.drew ?_) | (with_reducible refine Below.setCell ?_ ?_ _) | go_size | (simp only [World.size_ext, World.size_alloc, World.size_setCell, World.size_drew]; omega))))).choose, by omega, by go_num, rfl, rfl, rfl, hnew, (World.grown_by (by (repeat' (first | (with_reducible exact Below.refl _ _) | (with_reducible assumption) | (with_reducible refine Below.ext ?_ ?_ _) | (with_reducible refine Below.alloc ?_ ?_ _) | (with_reducible refine Below.drew ?_) | (with_reducible refine Below.setCell ?_ ?_ _) | go_size | (simp only [World.size_ext, World.size_alloc, World.size_setCell, World.size_drew]; omega))))).choose_spec⟩
                  case measure => simp [intOf]; omega
                · have hcb : cutB r false (n - 1) = false := by unfold cutB; rw [decide_eq_false r0]; rfl
                  have hd : decide (0 ≤ r) = false := decide_eq_false r0
                  have hk := chk_zero (r := r) (c := false) (n := (n - 1)) hr1 (by omega) (by simp)
                  have hnew : OnceInv (i + 1) r false (n - 1) := ⟨hr1, hr2, by omega, by omega, by simp⟩
                  go_wp2_with (first | (go_at_call 22; refine (join_any _ _ _ _ _ _ _ (by omega)).grows ?_; rintro _ y1 rfl) | (go_at_call 14; refine (part_any _ _ _ _ _ (by omega) (by omega)).grows ?_; rintro _ y2 rfl) | (go_at_call 24; refine (starts_any _ _ _ _).grows ?_; rintro _ y3 rfl) | (go_at_call 16; refine (begin_yes _ _ _ _ _ (by assumption)).grows ?_; rintro _ y4 rfl) | (go_at_call 16; refine (begin_no _ _ _ _ _ (by assumption)).grows ?_; rintro _ y4 rfl) | (go_at_call 26; refine (end_any _ _ _ _).grows ?_; rintro _ y5 rfl) | (go_at_call 20; refine (check_any _ _ _ _).grows ?_; rintro _ y6 rfl) | (go_at_call 18; refine (on_any _ _ _ _).grows ?_; rintro _ y7 rfl))
                  go_roundw
                  case rel => exact ⟨i + 1, _, _, _, (World.grown_by (by (repeat' (first | (with_reducible exact Below.refl _ _) | (with_reducible assumption) | (with_reducible refine Below.ext ?_ ?_ _) | (with_reducible refine Below.alloc ?_ ?_ _) | (with_reducible refine Below.drew ?_) | (with_reducible refine Below.setCell ?_ ?_ _) | go_size | (simp only [World.size_ext, World.size_alloc, World.size_setCell, World.size_drew]; omega))))).choose, by omega, by go_num, rfl, rfl, rfl, hnew, (World.grown_by (by (repeat' (first | (with_reducible exact Below.refl _ _) | (with_reducible assumption) | (with_reducible refine Below.ext ?_ ?_ _) | (with_reducible refine Below.alloc ?_ ?_ _) | (with_reducible refine Below.drew ?_) | (with_reducible refine Below.setCell ?_ ?_ _) | go_size | (simp only [World.size_ext, World.size_alloc, World.size_setCell, World.size_drew]; omega))))).choose_spec⟩
                  case measure => simp [intOf]; omega
              · have r0 : 0 ≤ r := hc3 rfl
                have hcb : cutB r true (n - 1) = false := by unfold cutB; simp
                have hd : decide (0 ≤ r) = true := decide_eq_true r0
                have hk := chk_zero (r := r) (c := true) (n := (n - 1)) hr1 (by omega) (fun _ => r0)
                have hnew : OnceInv (i + 1) r true (n - 1) := ⟨hr1, hr2, by omega, by omega, fun _ => r0⟩
                go_wp2_with (first | (go_at_call 22; refine (join_any _ _ _ _ _ _ _ (by omega)).grows ?_; rintro _ y1 rfl) | (go_at_call 14; refine (part_any _ _ _ _ _ (by omega) (by omega)).grows ?_; rintro _ y2 rfl) | (go_at_call 24; refine (starts_any _ _ _ _).grows ?_; rintro _ y3 rfl) | (go_at_call 16; refine (begin_yes _ _ _ _ _ (by assumption)).grows ?_; rintro _ y4 rfl) | (go_at_call 16; refine (begin_no _ _ _ _ _ (by assumption)).grows ?_; rintro _ y4 rfl) | (go_at_call 26; refine (end_any _ _ _ _).grows ?_; rintro _ y5 rfl) | (go_at_call 20; refine (check_any _ _ _ _).grows ?_; rintro _ y6 rfl) | (go_at_call 18; refine (on_any _ _ _ _).grows ?_; rintro _ y7 rfl))
                go_roundw
                case rel => exact ⟨i + 1, _, _, _, (World.grown_by (by (repeat' (first | (with_reducible exact Below.refl _ _) | (with_reducible assumption) | (with_reducible refine Below.ext ?_ ?_ _) | (with_reducible refine Below.alloc ?_ ?_ _) | (with_reducible refine Below.drew ?_) | (with_reducible refine Below.setCell ?_ ?_ _) | go_size | (simp only [World.size_ext, World.size_alloc, World.size_setCell, World.size_drew]; omega))))).choose, by omega, by go_num, rfl, rfl, rfl, hnew, (World.grown_by (by (repeat' (first | (with_reducible exact Below.refl _ _) | (with_reducible assumption) | (with_reducible refine Below.ext ?_ ?_ _) | (with_reducible refine Below.alloc ?_ ?_ _) | (with_reducible refine Below.drew ?_) | (with_reducible refine Below.setCell ?_ ?_ _) | go_size | (simp only [World.size_ext, World.size_alloc, World.size_setCell, World.size_drew]; omega))))).choose_spec⟩
                case measure => simp [intOf]; omega
        · have q1 : (z == 1) = false := beq_eq_false_iff_ne.2 z1
          have hP : pos n = n := pos_up n hn1
          by_cases z2 : z = 2
          · subst z2
            by_cases r0 : r < 0
            · have hs : startsB r n = decide (0 < n) := by unfold startsB; rw [decide_eq_true r0]; rfl
              have hd : decide (r < 0) = true := decide_eq_true r0
              have hg : beginB r (i : Int) = true := by unfold beginB; rw [decide_eq_true r0, decide_eq_true (show (0 : Int) ≤ (i : Int) by omega)]; rfl
              have hk := chk_zero (r := (i : Int)) (c := false) (n := n) (by omega) hn1 (by simp)
              have hd2 : decide ((0 : Int) ≤ (i : Int)) = true := decide_eq_true (by omega)
              have hnew : OnceInv (i + 1) (i : Int) false n := ⟨by omega, by omega, by omega, by omega, by simp⟩
              go_wp2_with (first | (go_at_call 22; refine (join_any _ _ _ _ _ _ _ (by omega)).grows ?_; rintro _ y1 rfl) | (go_at_call 14; refine (part_any _ _ _ _ _ (by omega) (by omega)).grows ?_; rintro _ y2 rfl) | (go_at_call 24; refine (starts_any _ _ _ _).grows ?_; rintro _ y3 rfl) | (go_at_call 16; refine (begin_yes _ _ _ _ _ (by assumption)).grows ?_; rintro _ y4 rfl) | (go_at_call 16; refine (begin_no _ _ _ _ _ (by assumption)).grows ?_; rintro _ y4 rfl) | (go_at_call 26; refine (end_any _ _ _ _).grows ?_; rintro _ y5 rfl) | (go_at_call 20; refine (check_any _ _ _ _).grows ?_; rintro _ y6 rfl) | (go_at_call 18; refine (on_any _ _ _ _).grows ?_; rintro _ y7 rfl))
              go_roundw
              case rel => exact ⟨i + 1, _, _, _, (World.grown_by (by (repeat' (first | (with_reducible exact Below.refl _ _) | (with_reducible assumption) | (with_reducible refine Below.ext ?_ ?_ _) | (with_reducible refine Below.alloc ?_ ?_ _) | (with_reducible refine Below.drew ?_) | (with_reducible refine Below.setCell ?_ ?_ _) | go_size | (simp only [World.size_ext, World.size_alloc, World.size_setCell, World.size_drew]; omega))))).choose, by omega, by go_num, rfl, rfl, rfl, hnew, (World.grown_by (by (repeat' (first | (with_reducible exact Below.refl _ _) | (with_reducible assumption) | (with_reducible refine Below.ext ?_ ?_ _) | (with_reducible refine Below.alloc ?_ ?_ _) | (with_reducible refine Below.drew ?_) | (with_reducible refine Below.setCell ?_ ?_ _) | go_size | (simp only [World.size_ext, World.size_alloc, World.size_setCell, World.size_drew]; omega))))).choose_spec⟩
              case measure => simp [intOf]; omega
            · have hs : startsB r n = false := by unfold startsB; rw [decide_eq_false r0]; rfl
              have hd : decide (r < 0) = false := decide_eq_false r0
              have hg : beginB r (i : Int) = false := by unfold beginB; rw [decide_eq_false r0]; rfl
              have hk := chk_zero (r := r) (c := c) (n := n) hr1 hn1 hc3
              have hnew : OnceInv (i + 1) r c n := ⟨hr1, hr2, by omega, by omega, hc3⟩
              go_wp2_with (first | (go_at_call 22; refine (join_any _ _ _ _ _ _ _ (by omega)).grows ?_; rintro _ y1 rfl) | (go_at_call 14; refine (part_any _ _ _ _ _ (by omega) (by omega)).grows ?_; rintro _ y2 rfl) | (go_at_call 24; refine (starts_any _ _ _ _).grows ?_; rintro _ y3 rfl) | (go_at_call 16; refine (begin_yes _ _ _ _ _ (by assumption)).grows ?_; rintro _ y4 rfl) | (go_at_call 16; refine (begin_no _ _ _ _ _ (by assumption)).grows ?_; rintro _ y4 rfl) | (go_at_call 26; refine (end_any _ _ _ _).grows ?_; rintro _ y5 rfl) | (go_at_call 20; refine (check_any _ _ _ _).grows ?_; rintro _ y6 rfl) | (go_at_call 18; refine (on_any _ _ _ _).grows ?_; rintro _ y7 rfl))
              go_roundw
              case rel => exact ⟨i + 1, _, _, _, (World.grown_by (by (repeat' (first | (with_reducible exact Below.refl _ _) | (with_reducible assumption) | (with_reducible refine Below.ext ?_ ?_ _) | (with_reducible refine Below.alloc ?_ ?_ _) | (with_reducible refine Below.drew ?_) | (with_reducible refine Below.setCell ?_ ?_ _) | go_size | (simp only [World.size_ext, World.size_alloc, World.size_setCell, World.size_drew]; omega))))).choose, by omega, by go_num, rfl, rfl, rfl, hnew, (World.grown_by (by (repeat' (first | (with_reducible exact Below.refl _ _) | (with_reducible assumption) | (with_reducible refine Below.ext ?_ ?_ _) | (with_reducible refine Below.alloc ?_ ?_ _) | (with_reducible refine Below.drew ?_) | (with_reducible refine Below.setCell ?_ ?_ _) | go_size | (simp only [World.size_ext, World.size_alloc, World.size_setCell, World.size_drew]; omega))))).choose_spec⟩
              case measure => simp [intOf]; omega
          · have q2 : (z == 2) = false := beq_eq_false_iff_ne.2 z2
            by_cases z3 : z = 3
            · subst z3
              have hk := chk_zero (r := -1) (c := false) (n := n) (by omega) hn1 (by simp)
              have hnew : OnceInv (i + 1) (-1) false n := ⟨by omega, by omega, by omega, by omega, by simp⟩
              go_wp2_with (first | (go_at_call 22; refine (join_any _ _ _ _ _ _ _ (by omega)).grows ?_; rintro _ y1 rfl) | (go_at_call 14; refine (part_any _ _ _ _ _ (by omega) (by omega)).grows ?_; rintro _ y2 rfl) | (go_at_call 24; refine (starts_any _ _ _ _).grows ?_; rintro _ y3 rfl) | (go_at_call 16; refine (begin_yes _ _ _ _ _ (by assumption)).grows ?_; rintro _ y4 rfl) | (go_at_call 16; refine (begin_no _ _ _ _ _ (by assumption)).grows ?_; rintro _ y4 rfl) | (go_at_call 26; refine (end_any _ _ _ _).grows ?_; rintro _ y5 rfl) | (go_at_call 20; refine (check_any _ _ _ _).grows ?_; rintro _ y6 rfl) | (go_at_call 18; refine (on_any _ _ _ _).grows ?_; rintro _ y7 rfl))
              go_roundw
              case rel => exact ⟨i + 1, _, _, _, (World.grown_by (by (repeat' (first | (with_reducible exact Below.refl _ _) | (with_reducible assumption) | (with_reducible refine Below.ext ?_ ?_ _) | (with_reducible refine Below.alloc ?_ ?_ _) | (with_reducible refine Below.drew ?_) | (with_reducible refine Below.setCell ?_ ?_ _) | go_size | (simp only [World.size_ext, World.size_alloc, World.size_setCell, World.size_drew]; omega))))).choose, by omega, by go_num, rfl, rfl, rfl, hnew, (World.grown_by (by (repeat' (first | (with_reducible exact Below.refl _ _) | (with_reducible assumption) | (with_reducible refine Below.ext ?_ ?_ _) | (with_reducible refine Below.alloc ?_ ?_ _) | (with_reducible refine Below.drew ?_) | (with_reducible refine Below.setCell ?_ ?_ _) | go_size | (simp only [World.size_ext, World.size_alloc, World.size_setCell, World.size_drew]; omega))))).choose_spec⟩
              case measure => simp [intOf]; omega
            · have q3 : (z == 3) = false := beq_eq_false_iff_ne.2 z3
              have hk := chk_zero (r := r) (c := c) (n := n) hr1 hn1 hc3
              have hnew : OnceInv (i + 1) r c n := ⟨hr1, hr2, by omega, by omega, hc3⟩
              go_wp2_with (first | (go_at_call 22; refine (join_any _ _ _ _ _ _ _ (by omega)).grows ?_; rintro _ y1 rfl) | (go_at_call 14; refine (part_any _ _ _ _ _ (by omega) (by omega)).grows ?_; rintro _ y2 rfl) | (go_at_call 24; refine (starts_any _ _ _ _).grows ?_; rintro _ y3 rfl) | (go_at_call 16; refine (begin_yes _ _ _ _ _ (by assumption)).grows ?_; rintro _ y4 rfl) | (go_at_call 16; refine (begin_no _ _ _ _ _ (by assumption)).grows ?_; rintro _ y4 rfl) | (go_at_call 26; refine (end_any _ _ _ _).grows ?_; rintro _ y5 rfl) | (go_at_call 20; refine (check_any _ _ _ _).grows ?_; rintro _ y6 rfl) | (go_at_call 18; refine (on_any _ _ _ _).grows ?_; rintro _ y7 rfl))
              go_roundw
              case rel => exact ⟨i + 1, _, _, _, (World.grown_by (by (repeat' (first | (with_reducible exact Below.refl _ _) | (with_reducible assumption) | (with_reducible refine Below.ext ?_ ?_ _) | (with_reducible refine Below.alloc ?_ ?_ _) | (with_reducible refine Below.drew ?_) | (with_reducible refine Below.setCell ?_ ?_ _) | go_size | (simp only [World.size_ext, World.size_alloc, World.size_setCell, World.size_drew]; omega))))).choose, by omega, by go_num, rfl, rfl, rfl, hnew, (World.grown_by (by (repeat' (first | (with_reducible exact Below.refl _ _) | (with_reducible assumption) | (with_reducible refine Below.ext ?_ ?_ _) | (with_reducible refine Below.alloc ?_ ?_ _) | (with_reducible refine Below.drew ?_) | (with_reducible refine Below.setCell ?_ ?_ _) | go_size | (simp only [World.size_ext, World.size_alloc, World.size_setCell, World.size_drew]; omega))))).choose_spec⟩
              case measure => simp [intOf]; omega
    · obtain rfl : i = m := by omega
      go_wp2_with (first | (go_at_call 13; refine (wakes_any _).grows ?_; rintro _ x5 rfl))
      go_returns
      exact ⟨rfl, by (repeat' (first | (with_reducible exact Below.refl _ _) | (with_reducible assumption) | (with_reducible refine Below.ext ?_ ?_ _) | (with_reducible refine Below.alloc ?_ ?_ _) | (with_reducible refine Below.drew ?_) | (with_reducible refine Below.setCell ?_ ?_ _) | go_size | (simp only [World.size_ext, World.size_alloc, World.size_setCell, World.size_drew]; omega)))⟩

theorem once_great (A : Option Addr) (m cap : Nat) (w : World) (hm : 100 < m) :
    Calls Try.prog 4 #[.slice A m cap] w fun e w' => e = .returned (.bool true) ∧ Below w.heap.size w w' := by
  have hd : decide ((100 : Int) < (m : Int)) = true := decide_eq_true (by omega)
  go_enter Try.func4, Try.ntmps4
  go_wp2_with (first | (go_at_call 13; refine (wakes_any _).grows ?_; rintro _ x5 rfl))
  go_returns
  exact ⟨rfl, by (repeat' (first | (with_reducible exact Below.refl _ _) | (with_reducible assumption) | (with_reducible refine Below.ext ?_ ?_ _) | (with_reducible refine Below.alloc ?_ ?_ _) | (with_reducible refine Below.drew ?_) | (with_reducible refine Below.setCell ?_ ?_ _) | go_size | (simp only [World.size_ext, World.size_alloc, World.size_setCell, World.size_drew]; omega)))⟩
end Fl

set_option maxRecDepth 100000 in
theorem flightOnce_contract (H : Type) (enc : TypeId × Value → H) (W : World) (base : Nat) (args : Array Value) (ds gs : List (DataW H)) (before : List MemPlace)
    (hval : ∀ (j : Nat) t v, Try.f4.params[j]? = some t → args[j]? = some v → Value.okWide Try.prog W .any base t v)
    (hW : DataW.Whole enc Try.prog Try.f4.params.toList Rows.flightOnceSpec.vars false W args.toList ds gs before) :
    Calls Try.prog 4 args W fun e W' => ∃ v, e = .returned v ∧ Rows.flightOnceSpec.post enc Try.prog Try.f4 false true false false W args v W' := by
  have hW' := hW
  obtain ⟨p, q, hA0, hV, rfl, hfz, hnd⟩ := hW
  have hA : DataW.TrodAll enc Try.prog W 0 (fun _ => true) true Try.f4.params.toList args.toList ds p := hA0
  have hlt : ∀ x ∈ p, x.block < W.heap.size := fun x hx => hW'.lt x (List.mem_append.2 (Or.inl hx))
  rw [Try.params4] at hA hval
  obtain ⟨v0, vs0, d0, ds0, p0, q0, hargs, rfl, rfl, h0, r0⟩ := trodAll_cons hA
  obtain ⟨rfl, rfl, rfl⟩ := trodAll_nil r0
  obtain rfl : args = #[v0] := by cases args; simp_all
  obtain ⟨A, m, cap, rfl⟩ := okWide_slice Try.underlying24 (hval 0 24 v0 rfl rfl)
  have hcall : Calls Try.prog 4 #[.slice A m cap] W fun e w' => e = .returned (.bool true) ∧ Below W.heap.size W w' := by
    by_cases hm : m ≤ 100
    · obtain ⟨b, off, zs, h1, h2, h3, _⟩ := open_ints_any h0
      exact Fl.once_good A b off m cap zs W hm h1 h2 h3
    · exact Fl.once_great A m cap W (by omega)
  refine (hcall).mono fun e W' ⟨he, hb⟩ => ?_
  subst he
  exact ⟨_, rfl, law_post (n := 1) rfl rfl rfl (fun ds hd => by match ds, hd with | [x0], _ => rfl) (by decide +kernel) hW' hb⟩

set_option maxRecDepth 100000 in
theorem flightOnce_lifted (os : Os) (started : os.Started) (H : Type) (enc : TypeId × Value → H) :
    ReturnsInHanded {} Try.checked os 4 .any (Rows.flightOnceSpec.pre6 enc Try.prog Try.f4 Rows.flightOnceRow.domain false) (Rows.flightOnceSpec.post enc Try.prog Try.f4 false true false false) := by
  refine returnsInHanded_of_change (C := Try.checked) own started (by kernel_rfl) Try.func4
    (ChangeSpec.witness6 (enc := enc) (C := Try.checked) false ⟨#[], #[.slice none 0 0], []⟩ 8 (by kernel_rfl) (by kernel_rfl) (by kernel_rfl) (by kernel_rfl)) ?_
  intro W base args ds gs before hval0 hW _ _
  exact flightOnce_contract H enc W base args ds gs before hval0 hW

theorem flightOnce_holds : Rows.FlightOnceSaid :=
  OpenClaim.holds_of_wide 4 Try.f4 rfl rfl rfl rfl rfl rfl rfl ⟨rfl, rfl, rfl, rfl, rfl⟩ rfl rfl rfl rfl rfl (by kernel_rfl) Try.func4 (by kernel_rfl)
    (of_decide_eq_true (by kernel_rfl)) (by unfold Func.isWrapper; first | (rw [if_pos (by decide +kernel)]; kernel_rfl) | (rw [if_neg (by decide +kernel)]; exact ⟨rfl, rfl⟩))
    (fun os started H enc _ => flightOnce_lifted os started H enc)
#print axioms flightOnce_holds
end Go.Proofs.Ytfkfjbppncbkjaa

/-
  FlightCheck: whatever comes of a flight that may be may be. (Every flight, list and number: no condition.)
-/
import Derived.Test.YtfkfjbppncbkjaaLaw20b
import Derived.Deep.RegionHeld3
namespace Go.Proofs.Ytfkfjbppncbkjaa
open Go.ChangeShapes Go.WideShapes Go.ChangeAt Go.RowKit
namespace Fl

theorem chk_zero' {r : Int} {c : Bool} {n : Int} (h1 : -1 ≤ r) (h2 : 0 ≤ n) (h3 : c = true → 0 ≤ r) : chk r c n = 0 := by
  unfold chk okB
  rw [decide_eq_true h1, decide_eq_true h2]
  cases c
  · rfl
  · rw [decide_eq_true (h3 rfl)]; rfl
set_option maxRecDepth 100000 in
set_option maxHeartbeats 4000000 in
theorem check_yes (r : Int) (c : Bool) (n k : Int) (A : Option Addr) (m cap : Nat) (w : World) (hok : chk r c n = 0) (h0 : 0 ≤ n) (h1 : n ≤ 1099511627776) (h2 : m ≤ 100) (hk : k ≤ 9223372036854775807) (hb : beginB r k = true) (hk0 : 0 ≤ k)
    (k1 : chk r (c || cutB r c (partN n k)) (partN n k) = 0) (k2 : chk r c (n + m) = 0) (k3 : chk (-1) false n = 0) (k4 : chk k false n = 0) (k5 : chk (-1) false 0 = 0) :
    Calls Try.prog 6 #[v r c n, .slice A m cap, .int .i64 k] w fun e w' => e = .returned (.bool true) ∧ Below w.heap.size w w' := by
  have hP : pos n = n := pos_up n h0
  have hd : decide (0 ≤ k) = true := decide_eq_true hk0
  go_enter Try.func6, Try.ntmps6
  go_wp2_with (first | (go_at_call 20; refine (check_any _ _ _ _).grows ?_; rintro _ x1 rfl) | (go_at_call 14; refine (part_any _ _ _ _ _ (by omega) (by omega)).grows ?_; rintro _ x2 rfl) | (go_at_call 16; refine (begin_yes _ _ _ _ _ (by assumption)).grows ?_; rintro _ x3 rfl) | (go_at_call 16; refine (begin_no _ _ _ _ _ (by assumption)).grows ?_; rintro _ x3 rfl) | (go_at_call 18; refine (on_any _ _ _ _).grows ?_; rintro _ x4 rfl) | (go_at_call 28; refine (none_any _).grows ?_; rintro _ x5 rfl) | (go_at_call 13; refine (wakes_any _).grows ?_; rintro _ x6 rfl))
  go_region_held3 (fun w' => w'.cell? ⟨w.heap.size, 0, none⟩ = some (.int .i64 r) ∧ w'.cell? ⟨w.heap.size, 1, none⟩ = some (.bool c) ∧ w'.cell? ⟨w.heap.size, 2, none⟩ = some (.int .i64 n) ∧ w'.cell? ⟨w.heap.size + 1 + x1.n + x2.n, 0, none⟩ = some (.int .i64 r) ∧ w'.cell? ⟨w.heap.size + 1 + x1.n + x2.n, 1, none⟩ = some (.bool (c || cutB r c (partN n k))) ∧ w'.cell? ⟨w.heap.size + 1 + x1.n + x2.n, 2, none⟩ = some (.int .i64 (partN n k))) (first | (refine ⟨?_, ?_, ?_, ?_, ?_, ?_⟩ <;> (first | (simp [go_sem]; done) | (simp [go_sem, ↓IntWalk.iteOmega]; done))))
    (first | (go_at_call 22; refine (join_any _ _ _ _ _ _ _ (by omega)).grows ?_; rintro _ x7 rfl) | (go_at_call 26; refine (end_any _ _ _ _).grows ?_; rintro _ x8 rfl))
  all_goals go_wp2_with fail
  all_goals (refine wp_loop_rounds 4 ?_)
  all_goals (rw [rounds_succ]; go_wp2_with (first | (go_at_call 20; refine (check_any _ _ _ _).grows ?_; rintro _ x1 rfl) | (go_at_call 14; refine (part_any _ _ _ _ _ (by omega) (by omega)).grows ?_; rintro _ x2 rfl) | (go_at_call 16; refine (begin_yes _ _ _ _ _ (by assumption)).grows ?_; rintro _ x3 rfl) | (go_at_call 16; refine (begin_no _ _ _ _ _ (by assumption)).grows ?_; rintro _ x3 rfl) | (go_at_call 18; refine (on_any _ _ _ _).grows ?_; rintro _ x4 rfl) | (go_at_call 28; refine (none_any _).grows ?_; rintro _ x5 rfl) | (go_at_call 13; refine (wakes_any _).grows ?_; rintro _ x6 rfl)))
  all_goals (rw [rounds_succ]; go_wp2_with (first | (go_at_call 20; refine (check_any _ _ _ _).grows ?_; rintro _ x1 rfl) | (go_at_call 14; refine (part_any _ _ _ _ _ (by omega) (by omega)).grows ?_; rintro _ x2 rfl) | (go_at_call 16; refine (begin_yes _ _ _ _ _ (by assumption)).grows ?_; rintro _ x3 rfl) | (go_at_call 16; refine (begin_no _ _ _ _ _ (by assumption)).grows ?_; rintro _ x3 rfl) | (go_at_call 18; refine (on_any _ _ _ _).grows ?_; rintro _ x4 rfl) | (go_at_call 28; refine (none_any _).grows ?_; rintro _ x5 rfl) | (go_at_call 13; refine (wakes_any _).grows ?_; rintro _ x6 rfl)))
  all_goals (rw [rounds_succ]; go_wp2_with (first | (go_at_call 20; refine (check_any _ _ _ _).grows ?_; rintro _ x1 rfl) | (go_at_call 14; refine (part_any _ _ _ _ _ (by omega) (by omega)).grows ?_; rintro _ x2 rfl) | (go_at_call 16; refine (begin_yes _ _ _ _ _ (by assumption)).grows ?_; rintro _ x3 rfl) | (go_at_call 16; refine (begin_no _ _ _ _ _ (by assumption)).grows ?_; rintro _ x3 rfl) | (go_at_call 18; refine (on_any _ _ _ _).grows ?_; rintro _ x4 rfl) | (go_at_call 28; refine (none_any _).grows ?_; rintro _ x5 rfl) | (go_at_call 13; refine (wakes_any _).grows ?_; rintro _ x6 rfl)))
  all_goals (rw [rounds_succ]; go_wp2_with (first | (go_at_call 20; refine (check_any _ _ _ _).grows ?_; rintro _ x1 rfl) | (go_at_call 14; refine (part_any _ _ _ _ _ (by omega) (by omega)).grows ?_; rintro _ x2 rfl) | (go_at_call 16; refine (begin_yes _ _ _ _ _ (by assumption)).grows ?_; rintro _ x3 rfl) | (go_at_call 16; refine (begin_no _ _ _ _ _ (by assumption)).grows ?_; rintro _ x3 rfl) | (go_at_call 18; refine (on_any _ _ _ _).grows ?_; rintro _ x4 rfl) | (go_at_call 28; refine (none_any _).grows ?_; rintro _ x5 rfl) | (go_at_call 13; refine (wakes_any _).grows ?_; rintro _ x6 rfl)))
  all_goals go_returns
  all_goals exact ⟨rfl, by (repeat' (first | (with_reducible exact Below.refl _ _) | (with_reducible assumption) | (with_reducible refine Below.ext ?_ ?_ _) | (with_reducible refine Below.alloc ?_ ?_ _) | (with_reducible refine Below.drew ?_) | (with_reducible refine Below.setCell ?_ ?_ _) | go_size | (simp only [World.size_ext, World.size_alloc, World.size_setCell, World.size_drew]; omega)))⟩

set_option maxRecDepth 100000 in
set_option maxHeartbeats 4000000 in
theorem check_no (r : Int) (c : Bool) (n k : Int) (A : Option Addr) (m cap : Nat) (w : World) (hok : chk r c n = 0) (h0 : 0 ≤ n) (h1 : n ≤ 1099511627776) (h2 : m ≤ 100) (hk : k ≤ 9223372036854775807) (hb : beginB r k = false)
    (k1 : chk r (c || cutB r c (partN n k)) (partN n k) = 0) (k2 : chk r c (n + m) = 0) (k3 : chk (-1) false n = 0) (k5 : chk (-1) false 0 = 0) :
    Calls Try.prog 6 #[v r c n, .slice A m cap, .int .i64 k] w fun e w' => e = .returned (.bool true) ∧ Below w.heap.size w w' := by
  have hP : pos n = n := pos_up n h0
  go_enter Try.func6, Try.ntmps6
  go_wp2_with (first | (go_at_call 20; refine (check_any _ _ _ _).grows ?_; rintro _ x1 rfl) | (go_at_call 14; refine (part_any _ _ _ _ _ (by omega) (by omega)).grows ?_; rintro _ x2 rfl) | (go_at_call 16; refine (begin_yes _ _ _ _ _ (by assumption)).grows ?_; rintro _ x3 rfl) | (go_at_call 16; refine (begin_no _ _ _ _ _ (by assumption)).grows ?_; rintro _ x3 rfl) | (go_at_call 18; refine (on_any _ _ _ _).grows ?_; rintro _ x4 rfl) | (go_at_call 28; refine (none_any _).grows ?_; rintro _ x5 rfl) | (go_at_call 13; refine (wakes_any _).grows ?_; rintro _ x6 rfl))
  go_region_held3 (fun w' => w'.cell? ⟨w.heap.size, 0, none⟩ = some (.int .i64 r) ∧ w'.cell? ⟨w.heap.size, 1, none⟩ = some (.bool c) ∧ w'.cell? ⟨w.heap.size, 2, none⟩ = some (.int .i64 n) ∧ w'.cell? ⟨w.heap.size + 1 + x1.n + x2.n, 0, none⟩ = some (.int .i64 r) ∧ w'.cell? ⟨w.heap.size + 1 + x1.n + x2.n, 1, none⟩ = some (.bool (c || cutB r c (partN n k))) ∧ w'.cell? ⟨w.heap.size + 1 + x1.n + x2.n, 2, none⟩ = some (.int .i64 (partN n k))) (first | (refine ⟨?_, ?_, ?_, ?_, ?_, ?_⟩ <;> (first | (simp [go_sem]; done) | (simp [go_sem, ↓IntWalk.iteOmega]; done))))
    (first | (go_at_call 22; refine (join_any _ _ _ _ _ _ _ (by omega)).grows ?_; rintro _ x7 rfl) | (go_at_call 26; refine (end_any _ _ _ _).grows ?_; rintro _ x8 rfl))
  all_goals go_wp2_with fail
  all_goals (refine wp_loop_rounds 4 ?_)
  all_goals (rw [rounds_succ]; go_wp2_with (first | (go_at_call 20; refine (check_any _ _ _ _).grows ?_; rintro _ x1 rfl) | (go_at_call 14; refine (part_any _ _ _ _ _ (by omega) (by omega)).grows ?_; rintro _ x2 rfl) | (go_at_call 16; refine (begin_yes _ _ _ _ _ (by assumption)).grows ?_; rintro _ x3 rfl) | (go_at_call 16; refine (begin_no _ _ _ _ _ (by assumption)).grows ?_; rintro _ x3 rfl) | (go_at_call 18; refine (on_any _ _ _ _).grows ?_; rintro _ x4 rfl) | (go_at_call 28; refine (none_any _).grows ?_; rintro _ x5 rfl) | (go_at_call 13; refine (wakes_any _).grows ?_; rintro _ x6 rfl)))
  all_goals (rw [rounds_succ]; go_wp2_with (first | (go_at_call 20; refine (check_any _ _ _ _).grows ?_; rintro _ x1 rfl) | (go_at_call 14; refine (part_any _ _ _ _ _ (by omega) (by omega)).grows ?_; rintro _ x2 rfl) | (go_at_call 16; refine (begin_yes _ _ _ _ _ (by assumption)).grows ?_; rintro _ x3 rfl) | (go_at_call 16; refine (begin_no _ _ _ _ _ (by assumption)).grows ?_; rintro _ x3 rfl) | (go_at_call 18; refine (on_any _ _ _ _).grows ?_; rintro _ x4 rfl) | (go_at_call 28; refine (none_any _).grows ?_; rintro _ x5 rfl) | (go_at_call 13; refine (wakes_any _).grows ?_; rintro _ x6 rfl)))
  all_goals (rw [rounds_succ]; go_wp2_with (first | (go_at_call 20; refine (check_any _ _ _ _).grows ?_; rintro _ x1 rfl) | (go_at_call 14; refine (part_any _ _ _ _ _ (by omega) (by omega)).grows ?_; rintro _ x2 rfl) | (go_at_call 16; refine (begin_yes _ _ _ _ _ (by assumption)).grows ?_; rintro _ x3 rfl) | (go_at_call 16; refine (begin_no _ _ _ _ _ (by assumption)).grows ?_; rintro _ x3 rfl) | (go_at_call 18; refine (on_any _ _ _ _).grows ?_; rintro _ x4 rfl) | (go_at_call 28; refine (none_any _).grows ?_; rintro _ x5 rfl) | (go_at_call 13; refine (wakes_any _).grows ?_; rintro _ x6 rfl)))
  all_goals (rw [rounds_succ]; go_wp2_with (first | (go_at_call 20; refine (check_any _ _ _ _).grows ?_; rintro _ x1 rfl) | (go_at_call 14; refine (part_any _ _ _ _ _ (by omega) (by omega)).grows ?_; rintro _ x2 rfl) | (go_at_call 16; refine (begin_yes _ _ _ _ _ (by assumption)).grows ?_; rintro _ x3 rfl) | (go_at_call 16; refine (begin_no _ _ _ _ _ (by assumption)).grows ?_; rintro _ x3 rfl) | (go_at_call 18; refine (on_any _ _ _ _).grows ?_; rintro _ x4 rfl) | (go_at_call 28; refine (none_any _).grows ?_; rintro _ x5 rfl) | (go_at_call 13; refine (wakes_any _).grows ?_; rintro _ x6 rfl)))
  all_goals go_returns
  all_goals exact ⟨rfl, by (repeat' (first | (with_reducible exact Below.refl _ _) | (with_reducible assumption) | (with_reducible refine Below.ext ?_ ?_ _) | (with_reducible refine Below.alloc ?_ ?_ _) | (with_reducible refine Below.drew ?_) | (with_reducible refine Below.setCell ?_ ?_ _) | go_size | (simp only [World.size_ext, World.size_alloc, World.size_setCell, World.size_drew]; omega)))⟩
set_option maxHeartbeats 1000000 in
theorem check_any' (r : Int) (c : Bool) (n k : Int) (A : Option Addr) (m cap : Nat) (w : World) (hk : k ≤ 9223372036854775807) :
    Calls Try.prog 6 #[v r c n, .slice A m cap, .int .i64 k] w fun e w' => e = .returned (.bool true) ∧ Below w.heap.size w w' := by
  rcases chk_two r c n with hok | hok
  · obtain ⟨hr, hn0, hc⟩ := okB_true (chk_ok hok)
    by_cases b1 : 1099511627776 < n
    · have d0 : decide (n < 0) = false := decide_eq_false (by omega)
      clear hc
      go_enter Try.func6, Try.ntmps6
      go_wp2_with (first | (go_at_call 20; refine (check_any _ _ _ _).grows ?_; rintro _ x1 rfl) | (go_at_call 14; refine (part_any _ _ _ _ _ (by omega) (by omega)).grows ?_; rintro _ x2 rfl) | (go_at_call 16; refine (begin_yes _ _ _ _ _ (by assumption)).grows ?_; rintro _ x3 rfl) | (go_at_call 16; refine (begin_no _ _ _ _ _ (by assumption)).grows ?_; rintro _ x3 rfl) | (go_at_call 18; refine (on_any _ _ _ _).grows ?_; rintro _ x4 rfl) | (go_at_call 28; refine (none_any _).grows ?_; rintro _ x5 rfl) | (go_at_call 13; refine (wakes_any _).grows ?_; rintro _ x6 rfl))
      go_returns
      exact ⟨rfl, by (repeat' (first | (with_reducible exact Below.refl _ _) | (with_reducible assumption) | (with_reducible refine Below.ext ?_ ?_ _) | (with_reducible refine Below.alloc ?_ ?_ _) | (with_reducible refine Below.drew ?_) | (with_reducible refine Below.setCell ?_ ?_ _) | go_size | (simp only [World.size_ext, World.size_alloc, World.size_setCell, World.size_drew]; omega)))⟩
    · have d1 : decide (1099511627776 < n) = false := decide_eq_false b1
      by_cases b2 : 100 < m
      · have d0 : decide (n < 0) = false := decide_eq_false (by omega)
        have d2 : decide ((100 : Int) < (m : Int)) = true := decide_eq_true (by omega)
        clear hc
        go_enter Try.func6, Try.ntmps6
        go_wp2_with (first | (go_at_call 20; refine (check_any _ _ _ _).grows ?_; rintro _ x1 rfl) | (go_at_call 14; refine (part_any _ _ _ _ _ (by omega) (by omega)).grows ?_; rintro _ x2 rfl) | (go_at_call 16; refine (begin_yes _ _ _ _ _ (by assumption)).grows ?_; rintro _ x3 rfl) | (go_at_call 16; refine (begin_no _ _ _ _ _ (by assumption)).grows ?_; rintro _ x3 rfl) | (go_at_call 18; refine (on_any _ _ _ _).grows ?_; rintro _ x4 rfl) | (go_at_call 28; refine (none_any _).grows ?_; rintro _ x5 rfl) | (go_at_call 13; refine (wakes_any _).grows ?_; rintro _ x6 rfl))
        go_returns
        exact ⟨rfl, by (repeat' (first | (with_reducible exact Below.refl _ _) | (with_reducible assumption) | (with_reducible refine Below.ext ?_ ?_ _) | (with_reducible refine Below.alloc ?_ ?_ _) | (with_reducible refine Below.drew ?_) | (with_reducible refine Below.setCell ?_ ?_ _) | go_size | (simp only [World.size_ext, World.size_alloc, World.size_setCell, World.size_drew]; omega)))⟩
      · have k1 : chk r (c || cutB r c (partN n k)) (partN n k) = 0 := chk_zero' hr (partN_pos n k) (fun h => by
          rcases Bool.or_eq_true_iff.1 h with h | h
          · exact hc h
          · exact (cutB_true h).1)
        have k2 : chk r c (n + m) = 0 := chk_zero' hr (by omega) hc
        have k3 : chk (-1) false n = 0 := chk_zero' (by omega) hn0 (by simp)
        have k5 : chk (-1) false 0 = 0 := rfl
        cases hb : beginB r k
        · exact check_no r c n k A m cap w hok hn0 (by omega) (by omega) hk hb k1 k2 k3 k5
        · have hk0 : 0 ≤ k := by simp [beginB] at hb; omega
          exact check_yes r c n k A m cap w hok hn0 (by omega) (by omega) hk hb hk0 k1 k2 k3 (chk_zero' (by omega) hn0 (by simp)) k5
  · go_enter Try.func6, Try.ntmps6
    go_wp2_with (first | (go_at_call 20; refine (check_any _ _ _ _).grows ?_; rintro _ x1 rfl) | (go_at_call 14; refine (part_any _ _ _ _ _ (by omega) (by omega)).grows ?_; rintro _ x2 rfl) | (go_at_call 16; refine (begin_yes _ _ _ _ _ (by assumption)).grows ?_; rintro _ x3 rfl) | (go_at_call 16; refine (begin_no _ _ _ _ _ (by assumption)).grows ?_; rintro _ x3 rfl) | (go_at_call 18; refine (on_any _ _ _ _).grows ?_; rintro _ x4 rfl) | (go_at_call 28; refine (none_any _).grows ?_; rintro _ x5 rfl) | (go_at_call 13; refine (wakes_any _).grows ?_; rintro _ x6 rfl))
    go_returns
    exact ⟨rfl, by (repeat' (first | (with_reducible exact Below.refl _ _) | (with_reducible assumption) | (with_reducible refine Below.ext ?_ ?_ _) | (with_reducible refine Below.alloc ?_ ?_ _) | (with_reducible refine Below.drew ?_) | (with_reducible refine Below.setCell ?_ ?_ _) | go_size | (simp only [World.size_ext, World.size_alloc, World.size_setCell, World.size_drew]; omega)))⟩
end Fl

set_option maxRecDepth 100000 in
theorem flightCheck_contract (H : Type) (enc : TypeId × Value → H) (W : World) (base : Nat) (args : Array Value) (ds gs : List (DataW H)) (before : List MemPlace)
    (hval : ∀ (j : Nat) t v, Try.f6.params[j]? = some t → args[j]? = some v → Value.okWide Try.prog W .any base t v)
    (hW : DataW.Whole enc Try.prog Try.f6.params.toList Rows.flightCheckSpec.vars false W args.toList ds gs before) :
    Calls Try.prog 6 args W fun e W' => ∃ v, e = .returned v ∧ Rows.flightCheckSpec.post enc Try.prog Try.f6 false true false false W args v W' := by
  have hW' := hW
  obtain ⟨p, q, hA0, hV, rfl, hfz, hnd⟩ := hW
  have hA : DataW.TrodAll enc Try.prog W 0 (fun _ => true) true Try.f6.params.toList args.toList ds p := hA0
  have hlt : ∀ x ∈ p, x.block < W.heap.size := fun x hx => hW'.lt x (List.mem_append.2 (Or.inl hx))
  rw [Try.params6] at hA hval
  obtain ⟨v0, vs0, d0, ds0, p0, q0, hargs, rfl, rfl, h0, r0⟩ := trodAll_cons hA
  obtain ⟨v1, vs1, d1, ds1, p1, q1, rfl, rfl, rfl, h1, r1⟩ := trodAll_cons r0
  obtain ⟨v2, vs2, d2, ds2, p2, q2, rfl, rfl, rfl, h2, r2⟩ := trodAll_cons r1
  obtain ⟨rfl, rfl, rfl⟩ := trodAll_nil r2
  obtain rfl : args = #[v0, v1, v2] := by cases args; simp_all
  obtain ⟨r, c, n, rfl, wr, wn⟩ := open_flight (hval 0 23 v0 rfl rfl) h0
  obtain ⟨A, m, cap, rfl⟩ := okWide_slice Try.underlying24 (hval 1 24 v1 rfl rfl)
  obtain ⟨k, rfl, rfl, rfl, wk⟩ := open_int Try.underlying3 (hval 2 3 v2 rfl rfl) h2
  refine (Fl.check_any' r c n k A m cap W (bounds_i64 wk).2).mono fun e W' ⟨he, hb⟩ => ?_
  subst he
  exact ⟨_, rfl, law_post (n := 3) rfl rfl rfl (fun ds hd => by match ds, hd with | [x0, x1, x2], _ => rfl) (by decide +kernel) hW' hb⟩

set_option maxRecDepth 100000 in
theorem flightCheck_lifted (os : Os) (started : os.Started) (H : Type) (enc : TypeId × Value → H) :
    ReturnsInHanded {} Try.checked os 6 .any (Rows.flightCheckSpec.pre6 enc Try.prog Try.f6 Rows.flightCheckRow.domain false) (Rows.flightCheckSpec.post enc Try.prog Try.f6 false true false false) := by
  refine returnsInHanded_of_change (C := Try.checked) own started (by kernel_rfl) Try.func6
    (ChangeSpec.witness6 (enc := enc) (C := Try.checked) false ⟨#[], #[.agg #[.int .i64 0, .bool false, .int .i64 0], .slice none 0 0, .int .i64 0], []⟩ 8 (by kernel_rfl) (by kernel_rfl) (by kernel_rfl) (by kernel_rfl)) ?_
  intro W base args ds gs before hval0 hW _ _
  exact flightCheck_contract H enc W base args ds gs before hval0 hW

theorem flightCheck_holds : Rows.FlightCheckSaid :=
  OpenClaim.holds_of_wide 6 Try.f6 rfl rfl rfl rfl rfl rfl rfl ⟨rfl, rfl, rfl, rfl, rfl⟩ rfl rfl rfl rfl rfl (by kernel_rfl) Try.func6 (by kernel_rfl)
    (of_decide_eq_true (by kernel_rfl)) (by unfold Func.isWrapper; first | (rw [if_pos (by decide +kernel)]; kernel_rfl) | (rw [if_neg (by decide +kernel)]; exact ⟨rfl, rfl⟩))
    (fun os started H enc _ => flightCheck_lifted os started H enc)
#print axioms flightCheck_holds
end Go.Proofs.Ytfkfjbppncbkjaa

/-
  FlightBack: who parts and joins again leaves as many as there were, and the same race. (Every flight, every number: no condition.)
-/
import Derived.Test.YtfkfjbppncbkjaaLaw
import Derived.Test.YtfkfjbppncbkjaaLaw20
import Derived.Deep.RegionHeld3
import Derived.Deep.DeepCutAuto
namespace Go.Proofs.Ytfkfjbppncbkjaa
open Go.ChangeShapes Go.WideShapes Go.ChangeAt Go.RowKit
namespace Fl

theorem intInfo : (Try.prog.info? 3).map (fun i => (i.zero, i.size, i.bytes)) = some (some (.int .i64 0), 1, 8) := by kernel_rfl

theorem run_make_ints (m : Nat) (hm : m ≤ 1048576) (W : World) : (Instr.makeSlice 24 (.int .i64 (m : Int)) (.int .i64 (m : Int))).run Try.prog W =
    .ok (.slice (some ⟨W.heap.size, 0, none⟩) m m) (W.alloc (.cells (madeCells #[.int .i64 0] m) 3)) := by
  obtain ⟨i0, hi, hz0, hz1, hz2⟩ := info_parts intInfo
  have h := run_make (P := Try.prog) W 24 3 i0 (.int .i64 0) Try.underlying24 hi hz0 .i64 .i64 (m : Int) (m : Int) (by omega) (Int.le_refl _) (by rw [hz2]; omega) (by omega)
  simpa [hz1, Value.cells] using h

theorem partN_in {n k : Int} (h0 : 0 ≤ k) (h1 : k ≤ n) : partN n k = n - k := by
  unfold partN; rw [pos_up n (by omega), pos_up k h0, pos_up (n - k) (by omega)]

theorem okB_true {r : Int} {c : Bool} {n : Int} (h : okB r c n = true) : -1 ≤ r ∧ 0 ≤ n ∧ (c = true → 0 ≤ r) := by
  unfold okB at h
  cases c <;> simp_all

theorem cutB_true {r : Int} {c : Bool} {m : Int} (h : cutB r c m = true) : 0 ≤ r ∧ m = 0 := by
  unfold cutB at h
  simp at h
  exact ⟨h.1.1, h.2⟩

set_option maxRecDepth 100000 in
set_option maxHeartbeats 4000000 in
theorem back_good (r : Int) (c : Bool) (n : Int) (m : Nat) (w : World) (hok : chk r c n = 0) (h0 : 0 ≤ n) (h1 : n ≤ 60) (h2 : (m : Int) ≤ n) :
    Calls Try.prog 7 #[v r c n, .int .i64 (m : Int)] w fun e w' => e = .returned (.bool true) ∧ Below w.heap.size w w' := by
  have hN := partN_in (n := n) (k := m) (by omega) h2
  have hP : pos (n - m) = n - m := pos_up _ (by omega)
  have hmk := run_make_ints m (by omega)
  go_enter Try.func7, Try.ntmps7
  go_upto_region 4 with (first
    | (go_at_call 20; refine (check_any _ _ _ _).grows ?_; rintro _ x1 rfl)
    | (go_at_call 14; refine (part_any _ _ _ _ _ (by omega) (by omega)).grows ?_; rintro _ x2 rfl))
  go_cut [7] (fun s7 wx => ∃ g : Nat, s7 = .pointer (some ⟨g, 0, none⟩) ∧ Below w.heap.size w wx ∧ wx.cell? ⟨w.heap.size, 0, none⟩ = some (.int .i64 r) ∧ wx.cell? ⟨w.heap.size, 1, none⟩ = some (.bool c) ∧ wx.cell? ⟨w.heap.size, 2, none⟩ = some (.int .i64 n) ∧ wx.cell? ⟨g, 0, none⟩ = some (.int .i64 r) ∧ wx.cell? ⟨g, 1, none⟩ = some (.bool (c || cutB r c (n - m))) ∧ wx.cell? ⟨g, 2, none⟩ = some (.int .i64 n))
  case first =>
    go_region_with (first | (go_at_call 22; refine (join_any _ _ _ _ _ _ _ (by omega)).grows ?_; rintro _ x3 rfl))
    all_goals (go_wp2_with fail)
    all_goals go_meet
    all_goals exact ⟨_, rfl, by (repeat' (first | (with_reducible exact Below.refl _ _) | (with_reducible assumption) | (with_reducible refine Below.ext ?_ ?_ _) | (with_reducible refine Below.alloc ?_ ?_ _) | (with_reducible refine Below.drew ?_) | (with_reducible refine Below.setCell ?_ ?_ _) | go_size | (simp only [World.size_ext, World.size_alloc, World.size_setCell, World.size_drew]; omega))), by (first | (simp [go_sem]; done) | (simp [go_sem]; omega) | (simp [go_sem, ↓IntWalk.iteOmega]; done) | (simp [go_sem, ↓IntWalk.iteOmega]; omega)), by (first | (simp [go_sem]; done) | (simp [go_sem]; omega) | (simp [go_sem, ↓IntWalk.iteOmega]; done) | (simp [go_sem, ↓IntWalk.iteOmega]; omega)), by (first | (simp [go_sem]; done) | (simp [go_sem]; omega) | (simp [go_sem, ↓IntWalk.iteOmega]; done) | (simp [go_sem, ↓IntWalk.iteOmega]; omega)), by (first | (simp [go_sem]; done) | (simp [go_sem]; omega) | (simp [go_sem, ↓IntWalk.iteOmega]; done) | (simp [go_sem, ↓IntWalk.iteOmega]; omega)), by (first | (simp [go_sem]; done) | (simp [go_sem]; omega) | (simp [go_sem, ↓IntWalk.iteOmega]; done) | (simp [go_sem, ↓IntWalk.iteOmega]; omega)), by (first | (simp [go_sem]; done) | (simp [go_sem]; omega) | (simp [go_sem, ↓IntWalk.iteOmega]; done) | (simp [go_sem, ↓IntWalk.iteOmega]; omega))⟩
  case rest =>
    obtain ⟨g, rfl, hb, f0, f1, f2, g0, g1, g2⟩ := hcut
    have hs : w.heap.size < wc.heap.size := World.block_lt_of_cell? _ _ f0
    have hg : g < wc.heap.size := World.block_lt_of_cell? _ _ g0
    have HB := Lib.hid hb
    clear hb hmk hok
    cases c
    · cases hc : cutB r false (n - m)
      · go_wp2_with fail
        (refine wp_region_ext (by kernel_rfl) (by kernel_rfl) ?_; (repeat (first | go_big_quiet_skip | (go_big_quiet_want; go_big_quiet_op; first | go_big_quiet_on | (apply Exists.intro; refine ⟨fun _ => ?_, ?_⟩; (focus ((first | (go_at_call 18; exact Calls.quiet_ext (on_any _ _ _ _)) | (go_at_call 24; exact Calls.quiet_ext (starts_any _ _ _ _)) | (go_at_call 13; exact Calls.quiet_ext (wakes_any _))); done)); go_big_quiet_on)))); refine wpQuiet_nil ?_; intro _ hw'; obtain ⟨xq, hw''⟩ := hw'; subst hw'')
        go_wp2
        go_returns
        have hb := HB.out
        exact ⟨rfl, by (repeat' (first | (with_reducible exact Below.refl _ _) | (with_reducible assumption) | (with_reducible refine Below.ext ?_ ?_ _) | (with_reducible refine Below.alloc ?_ ?_ _) | (with_reducible refine Below.drew ?_) | (with_reducible refine Below.setCell ?_ ?_ _) | go_size | (simp only [World.size_ext, World.size_alloc, World.size_setCell, World.size_drew]; omega)))⟩
      · obtain ⟨hr, he⟩ := cutB_true hc
        have hr2 : decide (0 ≤ r) = true := decide_eq_true hr
        have he2 : ((m : Int) == n) = true := beq_iff_eq.2 (by omega)
        clear he
        go_wp2_with fail
        (refine wp_region_ext (by kernel_rfl) (by kernel_rfl) ?_; (repeat (first | go_big_quiet_skip | (go_big_quiet_want; go_big_quiet_op; first | go_big_quiet_on | (apply Exists.intro; refine ⟨fun _ => ?_, ?_⟩; (focus ((first | (go_at_call 18; exact Calls.quiet_ext (on_any _ _ _ _)) | (go_at_call 24; exact Calls.quiet_ext (starts_any _ _ _ _)) | (go_at_call 13; exact Calls.quiet_ext (wakes_any _))); done)); go_big_quiet_on)))); refine wpQuiet_nil ?_; intro _ hw'; obtain ⟨xq, hw''⟩ := hw'; subst hw'')
        go_wp2
        go_returns
        have hb := HB.out
        exact ⟨rfl, by (repeat' (first | (with_reducible exact Below.refl _ _) | (with_reducible assumption) | (with_reducible refine Below.ext ?_ ?_ _) | (with_reducible refine Below.alloc ?_ ?_ _) | (with_reducible refine Below.drew ?_) | (with_reducible refine Below.setCell ?_ ?_ _) | go_size | (simp only [World.size_ext, World.size_alloc, World.size_setCell, World.size_drew]; omega)))⟩
    · have hc : cutB r true (n - m) = false := by unfold cutB; simp
      go_wp2_with fail
      (refine wp_region_ext (by kernel_rfl) (by kernel_rfl) ?_; (repeat (first | go_big_quiet_skip | (go_big_quiet_want; go_big_quiet_op; first | go_big_quiet_on | (apply Exists.intro; refine ⟨fun _ => ?_, ?_⟩; (focus ((first | (go_at_call 18; exact Calls.quiet_ext (on_any _ _ _ _)) | (go_at_call 24; exact Calls.quiet_ext (starts_any _ _ _ _)) | (go_at_call 13; exact Calls.quiet_ext (wakes_any _))); done)); go_big_quiet_on)))); refine wpQuiet_nil ?_; intro _ hw'; obtain ⟨xq, hw''⟩ := hw'; subst hw'')
      go_wp2
      go_returns
      have hb := HB.out
      exact ⟨rfl, by (repeat' (first | (with_reducible exact Below.refl _ _) | (with_reducible assumption) | (with_reducible refine Below.ext ?_ ?_ _) | (with_reducible refine Below.alloc ?_ ?_ _) | (with_reducible refine Below.drew ?_) | (with_reducible refine Below.setCell ?_ ?_ _) | go_size | (simp only [World.size_ext, World.size_alloc, World.size_setCell, World.size_drew]; omega)))⟩

theorem chk_two (r : Int) (c : Bool) (n : Int) : chk r c n = 0 ∨ chk r c n = 2 := by
  unfold chk; split <;> simp
theorem chk_ok {r : Int} {c : Bool} {n : Int} (h : chk r c n = 0) : okB r c n = true := by
  unfold chk at h; split at h
  · assumption
  · omega
set_option maxHeartbeats 1000000 in
theorem back_any (r : Int) (c : Bool) (n k : Int) (w : World) :
    Calls Try.prog 7 #[v r c n, .int .i64 k] w fun e w' => e = .returned (.bool true) ∧ Below w.heap.size w w' := by
  rcases chk_two r c n with hok | hok
  · obtain ⟨_, hn0, _⟩ := okB_true (chk_ok hok)
    by_cases b1 : 60 < n
    · go_enter Try.func7, Try.ntmps7
      go_wp2_with (first
        | (go_at_call 20; refine (check_any _ _ _ _).grows ?_; rintro _ xg rfl)
        | (go_at_call 13; refine (wakes_any _).grows ?_; rintro _ xg rfl))
      go_returns
      exact ⟨rfl, by (repeat' (first | (with_reducible exact Below.refl _ _) | (with_reducible assumption) | (with_reducible refine Below.ext ?_ ?_ _) | (with_reducible refine Below.alloc ?_ ?_ _) | (with_reducible refine Below.drew ?_) | (with_reducible refine Below.setCell ?_ ?_ _) | go_size | (simp only [World.size_ext, World.size_alloc, World.size_setCell, World.size_drew]; omega)))⟩
    · by_cases b2 : k < 0
      · have d1 : decide (60 < n) = false := decide_eq_false b1
        go_enter Try.func7, Try.ntmps7
        go_wp2_with (first
          | (go_at_call 20; refine (check_any _ _ _ _).grows ?_; rintro _ xg rfl)
          | (go_at_call 13; refine (wakes_any _).grows ?_; rintro _ xg rfl))
        go_returns
        exact ⟨rfl, by (repeat' (first | (with_reducible exact Below.refl _ _) | (with_reducible assumption) | (with_reducible refine Below.ext ?_ ?_ _) | (with_reducible refine Below.alloc ?_ ?_ _) | (with_reducible refine Below.drew ?_) | (with_reducible refine Below.setCell ?_ ?_ _) | go_size | (simp only [World.size_ext, World.size_alloc, World.size_setCell, World.size_drew]; omega)))⟩
      · by_cases b3 : n < k
        · have d1 : decide (60 < n) = false := decide_eq_false b1
          have d2 : decide (k < 0) = false := decide_eq_false b2
          go_enter Try.func7, Try.ntmps7
          go_wp2_with (first
            | (go_at_call 20; refine (check_any _ _ _ _).grows ?_; rintro _ xg rfl)
            | (go_at_call 13; refine (wakes_any _).grows ?_; rintro _ xg rfl))
          go_returns
          exact ⟨rfl, by (repeat' (first | (with_reducible exact Below.refl _ _) | (with_reducible assumption) | (with_reducible refine Below.ext ?_ ?_ _) | (with_reducible refine Below.alloc ?_ ?_ _) | (with_reducible refine Below.drew ?_) | (with_reducible refine Below.setCell ?_ ?_ _) | go_size | (simp only [World.size_ext, World.size_alloc, World.size_setCell, World.size_drew]; omega)))⟩
        · obtain ⟨m, rfl⟩ := Int.eq_ofNat_of_zero_le (show 0 ≤ k by omega)
          exact back_good r c n m w hok hn0 (by omega) (by omega)
  · go_enter Try.func7, Try.ntmps7
    go_wp2_with (first
      | (go_at_call 20; refine (check_any _ _ _ _).grows ?_; rintro _ xg rfl)
      | (go_at_call 13; refine (wakes_any _).grows ?_; rintro _ xg rfl))
    go_returns
    exact ⟨rfl, by (repeat' (first | (with_reducible exact Below.refl _ _) | (with_reducible assumption) | (with_reducible refine Below.ext ?_ ?_ _) | (with_reducible refine Below.alloc ?_ ?_ _) | (with_reducible refine Below.drew ?_) | (with_reducible refine Below.setCell ?_ ?_ _) | go_size | (simp only [World.size_ext, World.size_alloc, World.size_setCell, World.size_drew]; omega)))⟩
end Fl

set_option maxRecDepth 100000 in
theorem flightBack_contract (H : Type) (enc : TypeId × Value → H) (W : World) (base : Nat) (args : Array Value) (ds gs : List (DataW H)) (before : List MemPlace)
    (hval : ∀ (j : Nat) t v, Try.f7.params[j]? = some t → args[j]? = some v → Value.okWide Try.prog W .any base t v)
    (hW : DataW.Whole enc Try.prog Try.f7.params.toList Rows.flightBackSpec.vars false W args.toList ds gs before) :
    Calls Try.prog 7 args W fun e W' => ∃ v, e = .returned v ∧ Rows.flightBackSpec.post enc Try.prog Try.f7 false true false false W args v W' := by
  have hW' := hW
  obtain ⟨p, q, hA0, hV, rfl, hfz, hnd⟩ := hW
  have hA : DataW.TrodAll enc Try.prog W 0 (fun _ => true) true Try.f7.params.toList args.toList ds p := hA0
  have hlt : ∀ x ∈ p, x.block < W.heap.size := fun x hx => hW'.lt x (List.mem_append.2 (Or.inl hx))
  rw [Try.params7] at hA hval
  obtain ⟨v0, vs0, d0, ds0, p0, q0, hargs, rfl, rfl, h0, r0⟩ := trodAll_cons hA
  obtain ⟨v1, vs1, d1, ds1, p1, q1, rfl, rfl, rfl, h1, r1⟩ := trodAll_cons r0
  obtain ⟨rfl, rfl, rfl⟩ := trodAll_nil r1
  obtain rfl : args = #[v0, v1] := by cases args; simp_all
  obtain ⟨r, c, n, rfl, wr, wn⟩ := open_flight (hval 0 23 v0 rfl rfl) h0
  obtain ⟨k, rfl, rfl, rfl, wk⟩ := open_int Try.underlying3 (hval 1 3 v1 rfl rfl) h1
  refine (Fl.back_any r c n k W).mono fun e W' ⟨he, hb⟩ => ?_
  subst he
  exact ⟨_, rfl, law_post (n := 2) rfl rfl rfl (fun ds hd => by match ds, hd with | [x0, x1], _ => rfl) (by decide +kernel) hW' hb⟩

set_option maxRecDepth 100000 in
theorem flightBack_lifted (os : Os) (started : os.Started) (H : Type) (enc : TypeId × Value → H) :
    ReturnsInHanded {} Try.checked os 7 .any (Rows.flightBackSpec.pre6 enc Try.prog Try.f7 Rows.flightBackRow.domain false) (Rows.flightBackSpec.post enc Try.prog Try.f7 false true false false) := by
  refine returnsInHanded_of_change (C := Try.checked) own started (by kernel_rfl) Try.func7
    (ChangeSpec.witness6 (enc := enc) (C := Try.checked) false ⟨#[], #[.agg #[.int .i64 0, .bool false, .int .i64 0], .int .i64 0], []⟩ 8 (by kernel_rfl) (by kernel_rfl) (by kernel_rfl) (by kernel_rfl)) ?_
  intro W base args ds gs before hval0 hW _ _
  exact flightBack_contract H enc W base args ds gs before hval0 hW

theorem flightBack_holds : Rows.FlightBackSaid :=
  OpenClaim.holds_of_wide 7 Try.f7 rfl rfl rfl rfl rfl rfl rfl ⟨rfl, rfl, rfl, rfl, rfl⟩ rfl rfl rfl rfl rfl (by kernel_rfl) Try.func7 (by kernel_rfl)
    (of_decide_eq_true (by kernel_rfl)) (by unfold Func.isWrapper; first | (rw [if_pos (by decide +kernel)]; kernel_rfl) | (rw [if_neg (by decide +kernel)]; exact ⟨rfl, rfl⟩))
    (fun os started H enc _ => flightBack_lifted os started H enc)
#print axioms flightBack_holds
end Go.Proofs.Ytfkfjbppncbkjaa

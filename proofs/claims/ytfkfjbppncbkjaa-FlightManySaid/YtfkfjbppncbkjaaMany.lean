/-
  FlightMany: to part with many at once is to part with them one by one, and to join likewise. (Every flight, every number: no condition.)
-/
import Derived.Test.YtfkfjbppncbkjaaLaw20b
import Derived.Deep.DeepCutAuto
import Derived.Deep.RegionHeld3
namespace Go.Proofs.Ytfkfjbppncbkjaa
open Go.ChangeShapes Go.WideShapes Go.ChangeAt Go.RowKit
namespace Fl

/-- what the rounds keep -/
def ManyInv (r : Int) (c : Bool) (n : Int) (i : Nat) (c1 : Bool) (n1 j1 : Int) (b1 : Bool) : Prop :=
  n1 = partN n i ∧ c1 = (c || someB r c n i) ∧ b1 = someB r c n i ∧ j1 = n + i

theorem manyInv_zero (r : Int) (c : Bool) (n : Int) (h : 0 ≤ n) : ManyInv r c n 0 c n n false := by
  refine ⟨(partN_zero h).symm, ?_, ?_, ?_⟩
  · simp [someB]
  · simp [someB]
  · simp

theorem manyInv_succ {r : Int} {c : Bool} {n : Int} {i : Nat} {c1 : Bool} {n1 j1 : Int} {b1 : Bool} (h : 0 ≤ n) (hi : ManyInv r c n i c1 n1 j1 b1) :
    ManyInv r c n (i + 1) (c1 || cutB r c1 (partN n1 1)) (partN n1 1) (pos j1 + 1) (b1 || cutB r c1 (partN n1 1)) := by
  obtain ⟨rfl, rfl, rfl, rfl⟩ := hi
  have hs := someB_succ r c n i h
  rw [partN_succ n i h]
  refine ⟨rfl, ?_, ?_, ?_⟩
  · rw [Bool.or_assoc, hs]
  · exact hs
  · rw [pos_up (n + i) (by omega)]; omega

set_option maxRecDepth 100000 in
set_option maxHeartbeats 4000000 in
theorem many_good (r : Int) (c : Bool) (n : Int) (m : Nat) (w : World) (hok : chk r c n = 0) (h0 : 0 ≤ n) (h1 : n ≤ 60) (h2 : m ≤ 60) :
    Calls Try.prog 5 #[v r c n, .int .i64 (m : Int)] w fun e w' => e = .returned (.bool true) ∧ Below w.heap.size w w' := by
  have hmk := run_make_ints m (by omega)
  go_enter Try.func5, Try.ntmps5
  go_wp2_with (first
    | (go_at_call 20; refine (check_any _ _ _ _).grows ?_; rintro _ x1 rfl)
    | (go_at_call 14; refine (part_any _ _ _ _ _ (by omega) (by omega)).grows ?_; rintro _ x2 rfl))
  go_loopw [8, 10] (fun s8 s10 wr => ∃ (i : Nat) (c1 : Bool) (n1 j1 : Int) (b1 : Bool) (x : Gain), i ≤ m ∧ s10 = .int .i64 i ∧ s8 = .bool b1 ∧ Hid (ManyInv r c n i c1 n1 j1 b1) ∧ wr = (((((((w.alloc (.cells #[.int .i64 r, .bool c, .int .i64 n] 23)).ext x1).ext x2).alloc (.cells #[.int .i64 r, .bool (c || cutB r c (partN n m)), .int .i64 (partN n m)] 23)).alloc (.cells #[.int .i64 r, .bool c1, .int .i64 n1] 23)).alloc (.cells #[.int .i64 r, .bool c, .int .i64 j1] 23))).ext x) (fun _ s10 _ => m - (intOf s10).toNat)
  case atStart => exact ⟨0, c, n, n, false, _, Nat.zero_le _, rfl, rfl, manyInv_zero r c n h0, World_ext_self _⟩
  case round =>
    obtain ⟨i, c1, n1, j1, b1, x, hi, rfl, rfl, hinv, rfl⟩ := hrel
    have hz0 : 0 ≤ n1 := by rw [hinv.out.1]; exact partN_pos n i
    have hz1 : n1 ≤ 60 := by rw [hinv.out.1]; have := partN_le (k := i) h0; omega
    have hz2 : pos j1 ≤ 1000 := by rw [hinv.out.2.2.2, pos_up (n + i) (by omega)]; omega
    by_cases hlt : i < m
    · cases b1
      all_goals
        go_wp2_with (first
          | (go_at_call 14; refine (part_any _ _ _ _ _ (by omega) (by omega)).grows ?_; rintro _ x3 rfl)
          | (go_at_call 22; refine (join_any _ _ _ _ _ _ _ (by omega)).grows ?_; rintro _ x4 rfl))
        go_roundw
        case rel => exact ⟨i + 1, _, _, _, _, (World.grown_by (by (repeat' (first | (with_reducible exact Below.refl _ _) | (with_reducible assumption) | (with_reducible refine Below.ext ?_ ?_ _) | (with_reducible refine Below.alloc ?_ ?_ _) | (with_reducible refine Below.drew ?_) | (with_reducible refine Below.setCell ?_ ?_ _) | go_size | (simp only [World.size_ext, World.size_alloc, World.size_setCell, World.size_drew]; omega))))).choose, by omega, by go_num, rfl, manyInv_succ h0 hinv.out, (World.grown_by (by (repeat' (first | (with_reducible exact Below.refl _ _) | (with_reducible assumption) | (with_reducible refine Below.ext ?_ ?_ _) | (with_reducible refine Below.alloc ?_ ?_ _) | (with_reducible refine Below.drew ?_) | (with_reducible refine Below.setCell ?_ ?_ _) | go_size | (simp only [World.size_ext, World.size_alloc, World.size_setCell, World.size_drew]; omega))))).choose_spec⟩
        case measure => simp [intOf]; omega
    · obtain rfl : i = m := by omega
      by_cases hm : i = 0
      · subst hm
        obtain ⟨rfl, rfl, rfl, rfl⟩ := hinv.out
        have hN : partN n 0 = n := partN_zero h0
        have hJ : n + ((0 : Nat) : Int) = n := by omega
        clear hmk hinv
        go_wp2_with (first | (go_at_call 13; refine (wakes_any _).grows ?_; rintro _ x5 rfl))
        go_returns
        exact ⟨rfl, by (repeat' (first | (with_reducible exact Below.refl _ _) | (with_reducible assumption) | (with_reducible refine Below.ext ?_ ?_ _) | (with_reducible refine Below.alloc ?_ ?_ _) | (with_reducible refine Below.drew ?_) | (with_reducible refine Below.setCell ?_ ?_ _) | go_size | (simp only [World.size_ext, World.size_alloc, World.size_setCell, World.size_drew]; omega)))⟩
      · obtain ⟨rfl, rfl, rfl, rfl⟩ := hinv.out
        rw [cutB_of_some r c n i (by omega)]
        have hi0 : ((i : Int) == 0) = false := beq_eq_false_iff_ne.2 (by omega)
        have hP : pos n = n := pos_up n h0
        clear hinv
        go_wp2_with fail
        go_region_held3 (fun w' => w'.cell? ⟨w.heap.size, 0, none⟩ = some (.int .i64 r) ∧ w'.cell? ⟨w.heap.size, 1, none⟩ = some (.bool c) ∧ w'.cell? ⟨w.heap.size, 2, none⟩ = some (.int .i64 n) ∧ w'.cell? ⟨w.heap.size + 1 + x1.n + x2.n, 0, none⟩ = some (.int .i64 r) ∧ w'.cell? ⟨w.heap.size + 1 + x1.n + x2.n, 1, none⟩ = some (.bool (c || cutB r c (partN n i))) ∧ w'.cell? ⟨w.heap.size + 1 + x1.n + x2.n, 2, none⟩ = some (.int .i64 (partN n i)) ∧ w'.cell? ⟨w.heap.size + 1 + x1.n + x2.n + 1, 0, none⟩ = some (.int .i64 r) ∧ w'.cell? ⟨w.heap.size + 1 + x1.n + x2.n + 1, 1, none⟩ = some (.bool (c || cutB r c (partN n i))) ∧ w'.cell? ⟨w.heap.size + 1 + x1.n + x2.n + 1, 2, none⟩ = some (.int .i64 (partN n i)) ∧ w'.cell? ⟨w.heap.size + 1 + x1.n + x2.n + 1 + 1, 0, none⟩ = some (.int .i64 r) ∧ w'.cell? ⟨w.heap.size + 1 + x1.n + x2.n + 1 + 1, 1, none⟩ = some (.bool c) ∧ w'.cell? ⟨w.heap.size + 1 + x1.n + x2.n + 1 + 1, 2, none⟩ = some (.int .i64 (n + i))) (first | (refine ⟨?_, ?_, ?_, ?_, ?_, ?_, ?_, ?_, ?_, ?_, ?_, ?_⟩ <;> (first | (simp [go_sem]; done) | (simp [go_sem, ↓IntWalk.iteOmega]; done))))
          (first | (go_at_call 22; refine (join_any _ _ _ _ _ _ _ (by omega)).grows ?_; rintro _ x5 rfl) | (go_at_call 13; refine (wakes_any _).grows ?_; rintro _ x6 rfl))
        all_goals go_wp2
        all_goals go_returns
        all_goals exact ⟨rfl, by (repeat' (first | (with_reducible exact Below.refl _ _) | (with_reducible assumption) | (with_reducible refine Below.ext ?_ ?_ _) | (with_reducible refine Below.alloc ?_ ?_ _) | (with_reducible refine Below.drew ?_) | (with_reducible refine Below.setCell ?_ ?_ _) | go_size | (simp only [World.size_ext, World.size_alloc, World.size_setCell, World.size_drew]; omega)))⟩

set_option maxHeartbeats 1000000 in
theorem many_any (r : Int) (c : Bool) (n k : Int) (w : World) :
    Calls Try.prog 5 #[v r c n, .int .i64 k] w fun e w' => e = .returned (.bool true) ∧ Below w.heap.size w w' := by
  rcases chk_two r c n with hok | hok
  · obtain ⟨_, hn0, _⟩ := okB_true (chk_ok hok)
    have d0 : decide (n < 0) = false := decide_eq_false (by omega)
    by_cases b1 : 60 < n
    · go_enter Try.func5, Try.ntmps5
      go_wp2_with (first
        | (go_at_call 20; refine (check_any _ _ _ _).grows ?_; rintro _ xg rfl)
        | (go_at_call 13; refine (wakes_any _).grows ?_; rintro _ xg rfl))
      go_returns
      exact ⟨rfl, by (repeat' (first | (with_reducible exact Below.refl _ _) | (with_reducible assumption) | (with_reducible refine Below.ext ?_ ?_ _) | (with_reducible refine Below.alloc ?_ ?_ _) | (with_reducible refine Below.drew ?_) | (with_reducible refine Below.setCell ?_ ?_ _) | go_size | (simp only [World.size_ext, World.size_alloc, World.size_setCell, World.size_drew]; omega)))⟩
    · have d1 : decide (60 < n) = false := decide_eq_false b1
      by_cases b2 : k < 0
      · go_enter Try.func5, Try.ntmps5
        go_wp2_with (first
          | (go_at_call 20; refine (check_any _ _ _ _).grows ?_; rintro _ xg rfl)
          | (go_at_call 13; refine (wakes_any _).grows ?_; rintro _ xg rfl))
        go_returns
        exact ⟨rfl, by (repeat' (first | (with_reducible exact Below.refl _ _) | (with_reducible assumption) | (with_reducible refine Below.ext ?_ ?_ _) | (with_reducible refine Below.alloc ?_ ?_ _) | (with_reducible refine Below.drew ?_) | (with_reducible refine Below.setCell ?_ ?_ _) | go_size | (simp only [World.size_ext, World.size_alloc, World.size_setCell, World.size_drew]; omega)))⟩
      · by_cases b3 : 60 < k
        · have d2 : decide (k < 0) = false := decide_eq_false b2
          go_enter Try.func5, Try.ntmps5
          go_wp2_with (first
            | (go_at_call 20; refine (check_any _ _ _ _).grows ?_; rintro _ xg rfl)
            | (go_at_call 13; refine (wakes_any _).grows ?_; rintro _ xg rfl))
          go_returns
          exact ⟨rfl, by (repeat' (first | (with_reducible exact Below.refl _ _) | (with_reducible assumption) | (with_reducible refine Below.ext ?_ ?_ _) | (with_reducible refine Below.alloc ?_ ?_ _) | (with_reducible refine Below.drew ?_) | (with_reducible refine Below.setCell ?_ ?_ _) | go_size | (simp only [World.size_ext, World.size_alloc, World.size_setCell, World.size_drew]; omega)))⟩
        · obtain ⟨m, rfl⟩ := Int.eq_ofNat_of_zero_le (show 0 ≤ k by omega)
          exact many_good r c n m w hok hn0 (by omega) (by omega)
  · go_enter Try.func5, Try.ntmps5
    go_wp2_with (first
      | (go_at_call 20; refine (check_any _ _ _ _).grows ?_; rintro _ xg rfl)
      | (go_at_call 13; refine (wakes_any _).grows ?_; rintro _ xg rfl))
    go_returns
    exact ⟨rfl, by (repeat' (first | (with_reducible exact Below.refl _ _) | (with_reducible assumption) | (with_reducible refine Below.ext ?_ ?_ _) | (with_reducible refine Below.alloc ?_ ?_ _) | (with_reducible refine Below.drew ?_) | (with_reducible refine Below.setCell ?_ ?_ _) | go_size | (simp only [World.size_ext, World.size_alloc, World.size_setCell, World.size_drew]; omega)))⟩
end Fl

set_option maxRecDepth 100000 in
theorem flightMany_contract (H : Type) (enc : TypeId × Value → H) (W : World) (base : Nat) (args : Array Value) (ds gs : List (DataW H)) (before : List MemPlace)
    (hval : ∀ (j : Nat) t v, Try.f5.params[j]? = some t → args[j]? = some v → Value.okWide Try.prog W .any base t v)
    (hW : DataW.Whole enc Try.prog Try.f5.params.toList Rows.flightManySpec.vars false W args.toList ds gs before) :
    Calls Try.prog 5 args W fun e W' => ∃ v, e = .returned v ∧ Rows.flightManySpec.post enc Try.prog Try.f5 false true false false W args v W' := by
  have hW' := hW
  obtain ⟨p, q, hA0, hV, rfl, hfz, hnd⟩ := hW
  have hA : DataW.TrodAll enc Try.prog W 0 (fun _ => true) true Try.f5.params.toList args.toList ds p := hA0
  have hlt : ∀ x ∈ p, x.block < W.heap.size := fun x hx => hW'.lt x (List.mem_append.2 (Or.inl hx))
  rw [Try.params5] at hA hval
  obtain ⟨v0, vs0, d0, ds0, p0, q0, hargs, rfl, rfl, h0, r0⟩ := trodAll_cons hA
  obtain ⟨v1, vs1, d1, ds1, p1, q1, rfl, rfl, rfl, h1, r1⟩ := trodAll_cons r0
  obtain ⟨rfl, rfl, rfl⟩ := trodAll_nil r1
  obtain rfl : args = #[v0, v1] := by cases args; simp_all
  obtain ⟨r, c, n, rfl, wr, wn⟩ := open_flight (hval 0 23 v0 rfl rfl) h0
  obtain ⟨k, rfl, rfl, rfl, wk⟩ := open_int Try.underlying3 (hval 1 3 v1 rfl rfl) h1
  refine (Fl.many_any r c n k W).mono fun e W' ⟨he, hb⟩ => ?_
  subst he
  exact ⟨_, rfl, law_post (n := 2) rfl rfl rfl (fun ds hd => by match ds, hd with | [x0, x1], _ => rfl) (by decide +kernel) hW' hb⟩

set_option maxRecDepth 100000 in
theorem flightMany_lifted (os : Os) (started : os.Started) (H : Type) (enc : TypeId × Value → H) :
    ReturnsInHanded {} Try.checked os 5 .any (Rows.flightManySpec.pre6 enc Try.prog Try.f5 Rows.flightManyRow.domain false) (Rows.flightManySpec.post enc Try.prog Try.f5 false true false false) := by
  refine returnsInHanded_of_change (C := Try.checked) own started (by kernel_rfl) Try.func5
    (ChangeSpec.witness6 (enc := enc) (C := Try.checked) false ⟨#[], #[.agg #[.int .i64 0, .bool false, .int .i64 0], .int .i64 0], []⟩ 8 (by kernel_rfl) (by kernel_rfl) (by kernel_rfl) (by kernel_rfl)) ?_
  intro W base args ds gs before hval0 hW _ _
  exact flightMany_contract H enc W base args ds gs before hval0 hW

theorem flightMany_holds : Rows.FlightManySaid :=
  OpenClaim.holds_of_wide 5 Try.f5 rfl rfl rfl rfl rfl rfl rfl ⟨rfl, rfl, rfl, rfl, rfl⟩ rfl rfl rfl rfl rfl (by kernel_rfl) Try.func5 (by kernel_rfl)
    (of_decide_eq_true (by kernel_rfl)) (by unfold Func.isWrapper; first | (rw [if_pos (by decide +kernel)]; kernel_rfl) | (rw [if_neg (by decide +kernel)]; exact ⟨rfl, rfl⟩))
    (fun os started H enc _ => flightMany_lifted os started H enc)
#print axioms flightMany_holds
end Go.Proofs.Ytfkfjbppncbkjaa

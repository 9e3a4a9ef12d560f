/-
  FlightTells: for every flight, list and number the program's answers are the reference's. (Every flight, every list, every number: no condition.)
-/
import Derived.Test.YtfkfjbppncbkjaaLaw
import Derived.Test.YtfkfjbppncbkjaaLaw20
namespace Go.Proofs.Ytfkfjbppncbkjaa
open Go.ChangeShapes Go.WideShapes Go.ChangeAt Go.RowKit
namespace Fl
set_option maxRecDepth 100000 in
set_option maxHeartbeats 2000000 in
theorem tells_no (r : Int) (c : Bool) (n k : Int) (A : Option Addr) (m cap : Nat) (w : World) (hm : m ≤ 100) (hn : n ≤ 1099511627776) (hk : k ≤ 9223372036854775807) (hb : beginB r k = false) :
    Calls Try.prog 3 #[v r c n, .slice A m cap, .int .i64 k] w fun e w' => e = .returned (.bool true) ∧ Below w.heap.size w w' := by
    have hp : pos n + m ≤ 9223372036854775807 := by unfold pos; split <;> omega
    go_enter Try.func3, Try.ntmps3
    go_wp2_with (first
      | (go_at_call 14; refine (part_any _ _ _ _ _ (by omega) (by omega)).grows ?_; rintro _ xg rfl)
      | (go_at_call 15; refine (refPart_any _ _ _ _ _ (by omega) (by omega)).grows ?_; rintro _ xg rfl)
      | (go_at_call 16; refine (begin_no _ _ _ _ _ (by assumption)).grows ?_; rintro _ xg rfl)
      | (go_at_call 17; refine (refBegin_no _ _ _ _ _ (by assumption)).grows ?_; rintro _ xg rfl))
    (refine wp_region_ext (by kernel_rfl) (by kernel_rfl) ?_; (repeat (first | go_big_quiet_skip | (go_big_quiet_want; go_big_quiet_op; first | go_big_quiet_on | (apply Exists.intro; refine ⟨fun _ => ?_, ?_⟩; (focus ((first | (go_at_call 18; exact Calls.quiet_ext (on_any _ _ _ _)) | (go_at_call 19; exact Calls.quiet_ext (refOn_any _ _ _ _)) | (go_at_call 20; exact Calls.quiet_ext (check_any _ _ _ _)) | (go_at_call 21; exact Calls.quiet_ext (refCheck_any _ _ _ _)) | (go_at_call 22; exact Calls.quiet_ext (join_any _ _ _ _ _ _ _ hp)) | (go_at_call 23; exact Calls.quiet_ext (refJoin_any _ _ _ _ _ _ _ hp)) | (go_at_call 24; exact Calls.quiet_ext (starts_any _ _ _ _)) | (go_at_call 25; exact Calls.quiet_ext (refStarts_any _ _ _ _)) | (go_at_call 26; exact Calls.quiet_ext (end_any _ _ _ _)) | (go_at_call 27; exact Calls.quiet_ext (refEnd_any _ _ _ _)) | (go_at_call 28; exact Calls.quiet_ext (none_any _)) | (go_at_call 29; exact Calls.quiet_ext (refNone_any _)) | (go_at_call 13; exact Calls.quiet_ext (wakes_any _))); done)); go_big_quiet_on)))); refine wpQuiet_nil ?_; intro _ hw'; obtain ⟨xq, hw''⟩ := hw'; subst hw'')
    go_wp2
    go_returns
    exact ⟨rfl, by (repeat' (first | (with_reducible exact Below.refl _ _) | (with_reducible assumption) | (with_reducible refine Below.ext ?_ ?_ _) | (with_reducible refine Below.alloc ?_ ?_ _) | (with_reducible refine Below.drew ?_) | (with_reducible refine Below.setCell ?_ ?_ _) | go_size | (simp only [World.size_ext, World.size_alloc, World.size_setCell, World.size_drew]; omega)))⟩

set_option maxRecDepth 100000 in
set_option maxHeartbeats 2000000 in
theorem tells_yes (r : Int) (c : Bool) (n k : Int) (A : Option Addr) (m cap : Nat) (w : World) (hm : m ≤ 100) (hn : n ≤ 1099511627776) (hk : k ≤ 9223372036854775807) (hb : beginB r k = true) :
    Calls Try.prog 3 #[v r c n, .slice A m cap, .int .i64 k] w fun e w' => e = .returned (.bool true) ∧ Below w.heap.size w w' := by
    have hp : pos n + m ≤ 9223372036854775807 := by unfold pos; split <;> omega
    go_enter Try.func3, Try.ntmps3
    go_wp2_with (first
      | (go_at_call 14; refine (part_any _ _ _ _ _ (by omega) (by omega)).grows ?_; rintro _ xg rfl)
      | (go_at_call 15; refine (refPart_any _ _ _ _ _ (by omega) (by omega)).grows ?_; rintro _ xg rfl)
      | (go_at_call 16; refine (begin_yes _ _ _ _ _ (by assumption)).grows ?_; rintro _ xg rfl)
      | (go_at_call 17; refine (refBegin_yes _ _ _ _ _ (by assumption)).grows ?_; rintro _ xg rfl))
    (refine wp_region_ext (by kernel_rfl) (by kernel_rfl) ?_; (repeat (first | go_big_quiet_skip | (go_big_quiet_want; go_big_quiet_op; first | go_big_quiet_on | (apply Exists.intro; refine ⟨fun _ => ?_, ?_⟩; (focus ((first | (go_at_call 18; exact Calls.quiet_ext (on_any _ _ _ _)) | (go_at_call 19; exact Calls.quiet_ext (refOn_any _ _ _ _)) | (go_at_call 20; exact Calls.quiet_ext (check_any _ _ _ _)) | (go_at_call 21; exact Calls.quiet_ext (refCheck_any _ _ _ _)) | (go_at_call 22; exact Calls.quiet_ext (join_any _ _ _ _ _ _ _ hp)) | (go_at_call 23; exact Calls.quiet_ext (refJoin_any _ _ _ _ _ _ _ hp)) | (go_at_call 24; exact Calls.quiet_ext (starts_any _ _ _ _)) | (go_at_call 25; exact Calls.quiet_ext (refStarts_any _ _ _ _)) | (go_at_call 26; exact Calls.quiet_ext (end_any _ _ _ _)) | (go_at_call 27; exact Calls.quiet_ext (refEnd_any _ _ _ _)) | (go_at_call 28; exact Calls.quiet_ext (none_any _)) | (go_at_call 29; exact Calls.quiet_ext (refNone_any _)) | (go_at_call 13; exact Calls.quiet_ext (wakes_any _))); done)); go_big_quiet_on)))); refine wpQuiet_nil ?_; intro _ hw'; obtain ⟨xq, hw''⟩ := hw'; subst hw'')
    go_wp2
    go_returns
    exact ⟨rfl, by (repeat' (first | (with_reducible exact Below.refl _ _) | (with_reducible assumption) | (with_reducible refine Below.ext ?_ ?_ _) | (with_reducible refine Below.alloc ?_ ?_ _) | (with_reducible refine Below.drew ?_) | (with_reducible refine Below.setCell ?_ ?_ _) | go_size | (simp only [World.size_ext, World.size_alloc, World.size_setCell, World.size_drew]; omega)))⟩

theorem tells_great (r : Int) (c : Bool) (n k : Int) (A : Option Addr) (m cap : Nat) (w : World) (hg : 100 < m ∨ 1099511627776 < n) :
    Calls Try.prog 3 #[v r c n, .slice A m cap, .int .i64 k] w fun e w' => e = .returned (.bool true) ∧ Below w.heap.size w w' := by
  by_cases h : 100 < m
  · clear hg
    have hd : decide ((100 : Int) < (m : Int)) = true := decide_eq_true (by omega)
    go_enter Try.func3, Try.ntmps3
    go_wp2_with (first | (go_at_call 13; refine (wakes_any _).grows ?_; rintro _ xg rfl))
    go_returns
    exact ⟨rfl, by (repeat' (first | (with_reducible exact Below.refl _ _) | (with_reducible assumption) | (with_reducible refine Below.ext ?_ ?_ _) | (with_reducible refine Below.alloc ?_ ?_ _) | (with_reducible refine Below.drew ?_) | (with_reducible refine Below.setCell ?_ ?_ _) | go_size | (simp only [World.size_ext, World.size_alloc, World.size_setCell, World.size_drew]; omega)))⟩
  · have h2 : 1099511627776 < n := by omega
    clear hg
    have hd : decide ((100 : Int) < (m : Int)) = false := decide_eq_false (by omega)
    go_enter Try.func3, Try.ntmps3
    go_wp2_with (first | (go_at_call 13; refine (wakes_any _).grows ?_; rintro _ xg rfl))
    go_returns
    exact ⟨rfl, by (repeat' (first | (with_reducible exact Below.refl _ _) | (with_reducible assumption) | (with_reducible refine Below.ext ?_ ?_ _) | (with_reducible refine Below.alloc ?_ ?_ _) | (with_reducible refine Below.drew ?_) | (with_reducible refine Below.setCell ?_ ?_ _) | go_size | (simp only [World.size_ext, World.size_alloc, World.size_setCell, World.size_drew]; omega)))⟩

theorem tells_any (r : Int) (c : Bool) (n k : Int) (A : Option Addr) (m cap : Nat) (w : World) (hk : k ≤ 9223372036854775807) :
    Calls Try.prog 3 #[v r c n, .slice A m cap, .int .i64 k] w fun e w' => e = .returned (.bool true) ∧ Below w.heap.size w w' := by
  by_cases hg : 100 < m ∨ 1099511627776 < n
  · exact tells_great r c n k A m cap w hg
  · cases hb : beginB r k
    · exact tells_no r c n k A m cap w (by omega) (by omega) hk hb
    · exact tells_yes r c n k A m cap w (by omega) (by omega) hk hb
end Fl

set_option maxRecDepth 100000 in
theorem flightTells_contract (H : Type) (enc : TypeId × Value → H) (W : World) (base : Nat) (args : Array Value) (ds gs : List (DataW H)) (before : List MemPlace)
    (hval : ∀ (j : Nat) t v, Try.f3.params[j]? = some t → args[j]? = some v → Value.okWide Try.prog W .any base t v)
    (hW : DataW.Whole enc Try.prog Try.f3.params.toList Rows.flightTellsSpec.vars false W args.toList ds gs before) :
    Calls Try.prog 3 args W fun e W' => ∃ v, e = .returned v ∧ Rows.flightTellsSpec.post enc Try.prog Try.f3 false true false false W args v W' := by
  have hW' := hW
  obtain ⟨p, q, hA0, hV, rfl, hfz, hnd⟩ := hW
  have hA : DataW.TrodAll enc Try.prog W 0 (fun _ => true) true Try.f3.params.toList args.toList ds p := hA0
  have hlt : ∀ x ∈ p, x.block < W.heap.size := fun x hx => hW'.lt x (List.mem_append.2 (Or.inl hx))
  rw [Try.params3] at hA hval
  obtain ⟨v0, vs0, d0, ds0, p0, q0, hargs, rfl, rfl, h0, r0⟩ := trodAll_cons hA
  obtain ⟨v1, vs1, d1, ds1, p1, q1, rfl, rfl, rfl, h1, r1⟩ := trodAll_cons r0
  obtain ⟨v2, vs2, d2, ds2, p2, q2, rfl, rfl, rfl, h2, r2⟩ := trodAll_cons r1
  obtain ⟨rfl, rfl, rfl⟩ := trodAll_nil r2
  obtain rfl : args = #[v0, v1, v2] := by cases args; simp_all
  obtain ⟨r, c, n, rfl, wr, wn⟩ := open_flight (hval 0 23 v0 rfl rfl) h0
  obtain ⟨A, m, cap, rfl⟩ := okWide_slice Try.underlying24 (hval 1 24 v1 rfl rfl)
  obtain ⟨k, rfl, rfl, rfl, wk⟩ := open_int Try.underlying3 (hval 2 3 v2 rfl rfl) h2
  refine (Fl.tells_any r c n k A m cap W (bounds_i64 wk).2).mono fun e W' ⟨he, hb⟩ => ?_
  subst he
  exact ⟨_, rfl, law_post (n := 3) rfl rfl rfl (fun ds hd => by match ds, hd with | [x0, x1, x2], _ => rfl) (by decide +kernel) hW' hb⟩

set_option maxRecDepth 100000 in
theorem flightTells_lifted (os : Os) (started : os.Started) (H : Type) (enc : TypeId × Value → H) :
    ReturnsInHanded {} Try.checked os 3 .any (Rows.flightTellsSpec.pre6 enc Try.prog Try.f3 Rows.flightTellsRow.domain false) (Rows.flightTellsSpec.post enc Try.prog Try.f3 false true false false) := by
  refine returnsInHanded_of_change (C := Try.checked) own started (by kernel_rfl) Try.func3
    (ChangeSpec.witness6 (enc := enc) (C := Try.checked) false ⟨#[], #[.agg #[.int .i64 0, .bool false, .int .i64 0], .slice none 0 0, .int .i64 0], []⟩ 8 (by kernel_rfl) (by kernel_rfl) (by kernel_rfl) (by kernel_rfl)) ?_
  intro W base args ds gs before hval0 hW _ _
  exact flightTells_contract H enc W base args ds gs before hval0 hW

theorem flightTells_holds : Rows.FlightTellsSaid :=
  OpenClaim.holds_of_wide 3 Try.f3 rfl rfl rfl rfl rfl rfl rfl ⟨rfl, rfl, rfl, rfl, rfl⟩ rfl rfl rfl rfl rfl (by kernel_rfl) Try.func3 (by kernel_rfl)
    (of_decide_eq_true (by kernel_rfl)) (by unfold Func.isWrapper; first | (rw [if_pos (by decide +kernel)]; kernel_rfl) | (rw [if_neg (by decide +kernel)]; exact ⟨rfl, rfl⟩))
    (fun os started H enc _ => flightTells_lifted os started H enc)
#print axioms flightTells_holds
end Go.Proofs.Ytfkfjbppncbkjaa

/-
  PlanStays: for every input the law returns true, where the listed variables of the library hold what the program's text lays. (The card ties them to that text.)
-/
import Derived.Test.YtfhlceooobabcaaGreatDoorFin
import Derived.Test.YtfhlceooobabcaaGreatDoorTie
import Derived.Test.YtfhlceooobabcaaGreatDoorCards
import Derived.Test.YtfhlceooobabcaaGreatDoorZse
import Derived.LaidMore
import Derived.Lay
import Derived.SevenTiedAt
import Derived.Stop.Joined
import Derived.Shelf.Vars
namespace Go.Proofs.YtfhlceooobabcaaGreatDoor
open Go.ChangeShapes Go.WideShapes Go.ChangeAt Go.RowKit

set_option maxRecDepth 100000 in
theorem planStays_contract (H : Type) (enc : TypeId × Value → H) (W : World) (base : Nat) (args : Array Value) (ds gs : List (DataW H)) (before : List MemPlace) (ds2 gs2 : List (DataW H)) (before2 : List MemPlace)
    (hval : ∀ (j : Nat) t v, Tryz.f5.params[j]? = some t → args[j]? = some v → Value.okWide Tryz.prog W .any base t v)
    (hW : DataW.Whole enc Tryz.prog Tryz.f5.params.toList Rows.planStaysSpec.vars false W args.toList ds gs before)
    (hW2 : DataW.Whole enc Tryz.prog Tryz.f5.params.toList Rows.planStaysSpec.vars false W args.toList ds2 gs2 before2) (hwt : (DataW.weightsEach Tryz.prog Tryz.f5.params.toList ds2).all (· ≤ reachBytes) = true) (hG : Wn.GW W) :
    Calls Tryz.prog 5 args W fun e W' => ∃ v, e = .returned v ∧ Rows.planStaysSpec.post enc Tryz.prog Tryz.f5 false true false false W args v W' := by
  have hW' := hW
  obtain ⟨p2, q2, hA2, _⟩ := hW2
  refine (Go.Eng.Sz.law_walkS (L := Wn.szL) (ts := Tryz.f5.params.toList) hG Wn.val5 (fun _ h => h) (fun _ => rfl) (by kernel_rfl) (by kernel_rfl) hwt (fun j t v h1 h2 => hval j t v (by simpa using h1) h2) hA2).mono fun e W' ⟨he, hb⟩ => ?_
  subst he
  exact ⟨_, rfl, law_post (n := 4) rfl rfl rfl (fun ds hd => by match ds, hd with | [x0, x1, x2, x3], _ => rfl) (by decide +kernel) hW' hb⟩

set_option maxRecDepth 100000 in
theorem planStays_lifted (os : Os) (started : os.Started) (H : Type) (enc : TypeId × Value → H) :
    ReturnsInHanded {} Tryz.checked os 5 .any (fun w args => (Rows.planStaysSpec.pre enc Tryz.prog Tryz.f5 Rows.planStaysRow.domain false w args ∧ laidMetH Tryz.prog Rows.planStaysRow.laid w) ∧ sizedMet enc Tryz.prog Tryz.f5 (OpenSpec.ofChange Rows.planStaysSpec) false w args)
      (Rows.planStaysSpec.post enc Tryz.prog Tryz.f5 false true false false) := by
  refine returnsInHanded_of_calls (C := Tryz.checked) own started (by kernel_rfl)
    (ChangeSpec.witness_shaped (enc := enc) (C := Tryz.checked) (os := os) (X := fun w _ => laidMetH Tryz.prog Rows.planStaysRow.laid w) false (World.laidAll Tryz.prog os Rows.planStaysRow.laid) #[.agg #[.slice none 0 0, .slice none 0 0, .int .i64 0, .slice none 0 0], .string ⟨#[]⟩, .agg #[.int .i8 0, .int .u16 0, .int .u16 0, .int .u16 0, .int .u16 0, .int .u16 0, .int .u16 0, .int .u16 0, .int .u16 0, .int .i64 0], .int .i64 0] 8 (World.laidAll_os _ _ _)
      (World.shaped_of_ZipB (by kernel_rfl) (by kernel_rfl)) (by kernel_rfl) (by kernel_rfl) (by kernel_rfl)
      (by rw [MakeChecks.laidMetH_plain _ _ _ (by kernel_rfl)]; exact laidMet_laidAll _ (by kernel_rfl) (by kernel_rfl))) ?_
  intro w tape i _ hsh _ hok hpre _
  obtain ⟨_, _, _, fn', hfn', _, _, _, _, hval⟩ := hok
  obtain rfl : fn' = Tryz.f5 := Option.some.inj (hfn'.symm.trans Tryz.func5)
  obtain ⟨⟨⟨ds, gs, before, hw, _⟩, hx⟩, ⟨_, ds2, gs2, before2, hw2, hwt⟩⟩ := hpre
  have hL : laidMetH Tryz.prog Rows.planStaysRow.laid (w.forCall tape i) := hx.of_heap (by rfl)
  rw [MakeChecks.laidMetH_plain _ _ _ (by kernel_rfl)] at hL
  have hw' := DataW.Whole.of_heap (w' := w.forCall tape i) (by rfl) hw
  have hw2' := DataW.Whole.of_heap (w' := w.forCall tape i) (by rfl) hw2
  refine (planStays_contract H enc (w.forCall tape i) w.heap.size i.args ds gs before ds2 gs2 before2 hval hw' hw2' (Go.Eng.Sz.wts_left hwt) (gw_of hsh hL)).mono fun e W' ⟨v, he, hp⟩ => ?_
  subst he
  exact ChangeSpec.post_blind hp

theorem planStays_holds : Rows.PlanStaysSaid :=
  OpenClaim.holds_of_wide 5 Tryz.f5 rfl rfl rfl rfl rfl rfl rfl ⟨rfl, rfl, rfl, rfl, rfl⟩ rfl rfl rfl rfl rfl (by kernel_rfl) Tryz.func5 (by kernel_rfl)
    (of_decide_eq_true (by kernel_rfl)) (by unfold Func.isWrapper; first | (rw [if_pos (by decide +kernel)]; kernel_rfl) | (rw [if_neg (by decide +kernel)]; exact ⟨rfl, rfl⟩))
    (fun os started H enc _ => planStays_lifted os started H enc)
theorem planStays_card : Rows.PlanStaysCardSaid :=
  Claim7.holds_tied_plain_at .later [] [.data, .pinned] true Rows.planStaysCard.stood.harness true planStays_holds (fun _ h => by cases h) (by kernel_rfl) (fun _ h => by cases h) planStays_row_tie rfl ⟨rfl, rfl⟩ (by kernel_rfl) rfl
    (fun f fn hf hfn => by
      obtain rfl : f = 5 := Option.some.inj ((show Tryz.prog.funcNamed Rows.planStaysRow.func = some 5 by kernel_rfl).symm.trans hf) |>.symm
      obtain rfl : fn = Tryz.f5 := (Option.some.inj (Tryz.func5.symm.trans hfn)).symm
      exact ⟨by kernel_rfl, fun j t ht => by
        rw [Tryz.params5] at ht
        have hm : t ∈ [26, 9, 47, 3] := by simpa using Array.mem_of_getElem? ht
        have hall : ([26, 9, 47, 3].all fun u => !Tryz.prog.wantsStandIn u) = true := by kernel_rfl
        exact (show Tryz.prog.wantsStandIn t = false by simpa using List.all_eq_true.1 hall t hm)⟩)
    (by kernel_rfl)
#print axioms planStays_card
end Go.Proofs.YtfhlceooobabcaaGreatDoor

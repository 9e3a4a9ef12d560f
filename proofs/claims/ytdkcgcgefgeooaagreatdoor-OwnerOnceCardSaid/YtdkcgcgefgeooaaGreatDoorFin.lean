/-
  From a walk to a law's statement: for a law that answers true and leaves all old memory as it was.
-/
import Derived.Test.YtdkcgcgefgeooaaGreatDoorRows
import Derived.ProofKit
import Derived.OpenShut
import Derived.Carry
import Derived.ChangeCalls
import Derived.Lib.SmallJoins
import Derived.Test.YtdkcgcgefgeooaaGreatDoorOog
import Derived.Shelf.Vars
import Derived.LaidLaws
import Derived.Lib.LaidTab
import Derived.Stop.LaidErr
namespace Go.Proofs.YtdkcgcgefgeooaaGreatDoor
open Go.ChangeShapes Go.WideShapes Go.ChangeAt Go.RowKit

theorem own : ownKnob Tryz.prog.godebug = none := by kernel_rfl
theorem laidOut : laidOutB Tryz.prog = true := by kernel_rfl

section
variable {H : Type} {enc : TypeId × Value → H}

/-- every argument reads as it did -/
theorem trodAll_below {W W' : World} (hb : Below W.heap.size W W') : ∀ {ts : List TypeId} {vs : List Value} {ds : List (DataW H)} {ps : List MemPlace},
    (∀ t ∈ ts, Tryz.prog.readableRec t = true ∧ t < Tryz.prog.types.size) → DataW.TrodAll enc Tryz.prog W 0 (fun _ => true) true ts vs ds ps → (∀ x ∈ ps, x.block < W.heap.size) →
    DataW.TrodAll enc Tryz.prog W' 0 (fun b => decide (b < W.heap.size)) true ts vs ds ps := by
  intro ts
  induction ts with
  | nil =>
    intro vs ds ps _ h _
    obtain ⟨rfl, rfl, rfl⟩ := trodAll_nil h
    exact trodAll_mk0
  | cons t ts ih =>
    intro vs ds ps ht h hl
    obtain ⟨v0, vs0, d0, ds0, p0, q0, rfl, rfl, rfl, h0, r0⟩ := trodAll_cons h
    have t1 := ht t (List.mem_cons_self ..)
    exact trodAll_cons_mk (Below.trod laidOut t1.1 t1.2 h0 hb (fun x hx => hl x (List.mem_append.2 (Or.inl hx))))
      (ih (fun t' ht' => ht t' (List.mem_cons_of_mem _ ht')) r0 (fun x hx => hl x (List.mem_append.2 (Or.inr hx))))

/-- the outcome of a law, from its walk -/
theorem law_post {f : Func} {s : ChangeSpec} {n : Nat} (hv : s.vars = []) (hres : f.resultTypes = #[4]) (hn : f.params.size = n)
    (hs : ∀ ds : List (DataW H), ds.length = n → s.fn H ds = { results := [.lit (.bool true)], args := ds })
    (hread : ∀ t ∈ f.params.toList, Tryz.prog.readableRec t = true ∧ t < Tryz.prog.types.size)
    {W W' : World} {args : Array Value} {ds gs : List (DataW H)} {before : List MemPlace}
    (hW : DataW.Whole enc Tryz.prog f.params.toList s.vars false W args.toList ds gs before) (hb : Below W.heap.size W W') :
    s.post enc Tryz.prog f false true false false W args (.bool true) W' := by
  have hW0 := hW
  obtain ⟨p, q, hA, hV, rfl, hz, hnd⟩ := hW0
  rw [hv] at hV
  obtain ⟨rfl, rfl⟩ := trodVars_none hV
  have hlen : ds.length = n := by
    have h := (trodAll_length hA).2
    rw [h]; simpa using hn
  have hlt : ∀ x ∈ p, x.block < W.heap.size := fun x hx => hW.lt x (List.mem_append.2 (Or.inl hx))
  refine ⟨ds, [], p ++ [], [], p, [], hW, ?_, ?_, ?_, hb.frame _, fun h => by cases h⟩
  · rw [List.append_nil, hs ds hlen, hres]
    exact trodAll_cons_mk (shut_bool Tryz.underlying4 true) trodAll_mk0
  · rw [List.append_nil, hs ds hlen]
    exact trodAll_below hb hread hA hlt
  · rw [List.append_nil, hs ds hlen, hv]
    rfl
end

theorem gw_of {W : World} {L : List (String × DataW Unit)} (_ : W.ShapedOpen Tryz.prog) (_ : laidMet Tryz.prog L W) : Ow.GW W := trivial
end Go.Proofs.YtdkcgcgefgeooaaGreatDoor

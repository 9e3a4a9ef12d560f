/-
  From a walk to a law's statement: for a law that answers true and leaves all old memory as it was.
-/
import Derived.Test.YtkimpfoimblhjaaDoorRows
import Derived.ProofKit
import Derived.OpenShut
import Derived.Carry
import Derived.ChangeCalls
import Derived.Lib.SmallJoins
import Derived.Test.YtkimpfoimblhjaaDoorAuf
import Derived.Shelf.Vars
import Derived.LaidLaws
import Derived.Lib.LaidTab
import Derived.Stop.LaidErr
namespace Go.Proofs.YtkimpfoimblhjaaDoor
open Go.ChangeShapes Go.WideShapes Go.ChangeAt Go.RowKit

theorem own : ownKnob Tryd.prog.godebug = none := by kernel_rfl
theorem laidOut : laidOutB Tryd.prog = true := by kernel_rfl

section
variable {H : Type} {enc : TypeId × Value → H}

/-- every argument reads as it did -/
theorem trodAll_below {W W' : World} (hb : Below W.heap.size W W') : ∀ {ts : List TypeId} {vs : List Value} {ds : List (DataW H)} {ps : List MemPlace},
    (∀ t ∈ ts, Tryd.prog.readableRec t = true ∧ t < Tryd.prog.types.size) → DataW.TrodAll enc Tryd.prog W 0 (fun _ => true) true ts vs ds ps → (∀ x ∈ ps, x.block < W.heap.size) →
    DataW.TrodAll enc Tryd.prog W' 0 (fun b => decide (b < W.heap.size)) true ts vs ds ps := by
  intro ts
  induction ts with
  | nil =>
    intro vs ds ps _ h _
    obtain ⟨rfl, rfl, rfl⟩ := trodAll_nil h
    exact trodAll_mk0
  | cons t ts ih =>
    intro vs ds ps ht h hl
    obtain ⟨v0, vs0, d0, ds0, p0, q0, rfl, rfl, rfl, h0, r0⟩ := trodAll_cons h
    have t1 := ht t (List.mem_cons_self ..)
    exact trodAll_cons_mk (Below.trod laidOut t1.1 t1.2 h0 hb (fun x hx => hl x (List.mem_append.2 (Or.inl hx))))
      (ih (fun t' ht' => ht t' (List.mem_cons_of_mem _ ht')) r0 (fun x hx => hl x (List.mem_append.2 (Or.inr hx))))

/-- the outcome of a law, from its walk -/
theorem law_post {f : Func} {s : ChangeSpec} {n : Nat} (hv : s.vars = []) (hres : f.resultTypes = #[4]) (hn : f.params.size = n)
    (hs : ∀ ds : List (DataW H), ds.length = n → s.fn H ds = { results := [.lit (.bool true)], args := ds })
    (hread : ∀ t ∈ f.params.toList, Tryd.prog.readableRec t = true ∧ t < Tryd.prog.types.size)
    {W W' : World} {args : Array Value} {ds gs : List (DataW H)} {before : List MemPlace}
    (hW : DataW.Whole enc Tryd.prog f.params.toList s.vars false W args.toList ds gs before) (hb : Below W.heap.size W W') :
    s.post enc Tryd.prog f false true false false W args (.bool true) W' := by
  have hW0 := hW
  obtain ⟨p, q, hA, hV, rfl, hz, hnd⟩ := hW0
  rw [hv] at hV
  obtain ⟨rfl, rfl⟩ := trodVars_none hV
  have hlen : ds.length = n := by
    have h := (trodAll_length hA).2
    rw [h]; simpa using hn
  have hlt : ∀ x ∈ p, x.block < W.heap.size := fun x hx => hW.lt x (List.mem_append.2 (Or.inl hx))
  refine ⟨ds, [], p ++ [], [], p, [], hW, ?_, ?_, ?_, hb.frame _, fun h => by cases h⟩
  · rw [List.append_nil, hs ds hlen, hres]
    exact trodAll_cons_mk (shut_bool Tryd.underlying4 true) trodAll_mk0
  · rw [List.append_nil, hs ds hlen]
    exact trodAll_below hb hread hA hlt
  · rw [List.append_nil, hs ds hlen, hv]
    rfl
end

theorem tabAt_of {w : World} {name : String} {g : Nat} {tab : List Nat} (hg : Tryd.prog.globalNamed name = some g) (h : Lib.TabIs Tryd.prog w name .u8 (tab.map fun n : Nat => (n : Int))) : TabAt g tab w := by
  unfold Lib.TabIs World.var? at h
  rw [hg] at h
  simp only [Option.bind_some] at h
  intro j hj
  unfold World.cell?
  cases hb : w.heap[g]? with
  | none => rw [hb] at h; cases h
  | some b =>
    rw [hb] at h
    cases b <;> simp only [Option.some.injEq, reduceCtorEq] at h
    subst h
    simp only [Option.isSome_none, Bool.false_eq_true, if_false]
    rw [List.getElem?_toArray, List.map_map, List.getElem?_map, List.getElem?_eq_getElem hj, List.getD_eq_getElem?_getD, List.getElem?_eq_getElem hj]
    rfl
theorem gw_of {W : World} {rest : List (String × DataW Unit)} (hsh : W.ShapedOpen Tryd.prog) {a : String × DataW Unit} (h : laidMet Tryd.prog (a :: ("math/bits.deBruijn64tab", Rows.laid_math_bits_deBruijn64tab) :: ("internal/strconv.uint64pow10", Rows.laid_internal_strconv_uint64pow10) :: rest) W) : Ad.GA W := by
  have h1 := Go.laidMet.tail h
  have h2 := Go.laidMet.tail h1
  refine ⟨?_, ?_, ?_⟩
  · exact Tryd.laysM146.s1_3 W hsh
  · exact Lib.tabIs_of_head (g := 3) (t := 147) (e := 132) (n := 20) (by kernel_rfl) (by kernel_rfl) (by kernel_rfl) (by kernel_rfl) (by kernel_rfl) (by kernel_rfl) h2
  · exact tabAt_of (by kernel_rfl) (Lib.tabIs_of_head (g := 7) (t := 162) (e := 5) (n := 64) (by kernel_rfl) (by kernel_rfl) (by kernel_rfl) (by kernel_rfl) (by kernel_rfl) (by kernel_rfl) h1)
end Go.Proofs.YtkimpfoimblhjaaDoor

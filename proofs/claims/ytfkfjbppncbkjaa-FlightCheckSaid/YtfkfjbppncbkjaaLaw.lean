/-
  From a walk to a law's statement: for a law that answers true and leaves all old memory as it was.
-/
import Derived.Test.YtfkfjbppncbkjaaRows
import Derived.Test.YtfkfjbppncbkjaaExt
import Derived.ProofKit
import Derived.OpenShut
import Derived.Carry
import Derived.ChangeCalls
import Derived.Lib.SmallJoins
namespace Go.Proofs.Ytfkfjbppncbkjaa
open Go.ChangeShapes Go.WideShapes Go.ChangeAt Go.RowKit

theorem own : ownKnob Try.prog.godebug = none := by kernel_rfl
theorem laidOut : laidOutB Try.prog = true := by kernel_rfl

section
variable {H : Type} {enc : TypeId × Value → H}

/-- every argument reads as it did -/
theorem trodAll_below {W W' : World} (hb : Below W.heap.size W W') : ∀ {ts : List TypeId} {vs : List Value} {ds : List (DataW H)} {ps : List MemPlace},
    (∀ t ∈ ts, Try.prog.readableRec t = true ∧ t < Try.prog.types.size) → DataW.TrodAll enc Try.prog W 0 (fun _ => true) true ts vs ds ps → (∀ x ∈ ps, x.block < W.heap.size) →
    DataW.TrodAll enc Try.prog W' 0 (fun b => decide (b < W.heap.size)) true ts vs ds ps := by
  intro ts
  induction ts with
  | nil =>
    intro vs ds ps _ h _
    obtain ⟨rfl, rfl, rfl⟩ := trodAll_nil h
    exact trodAll_mk0
  | cons t ts ih =>
    intro vs ds ps ht h hl
    obtain ⟨v0, vs0, d0, ds0, p0, q0, rfl, rfl, rfl, h0, r0⟩ := trodAll_cons h
    have t1 := ht t (List.mem_cons_self ..)
    exact trodAll_cons_mk (Below.trod laidOut t1.1 t1.2 h0 hb (fun x hx => hl x (List.mem_append.2 (Or.inl hx))))
      (ih (fun t' ht' => ht t' (List.mem_cons_of_mem _ ht')) r0 (fun x hx => hl x (List.mem_append.2 (Or.inr hx))))

/-- the outcome of a law, from its walk -/
theorem law_post {f : Func} {s : ChangeSpec} {n : Nat} (hv : s.vars = []) (hres : f.resultTypes = #[4]) (hn : f.params.size = n)
    (hs : ∀ ds : List (DataW H), ds.length = n → s.fn H ds = { results := [.lit (.bool true)], args := ds })
    (hread : ∀ t ∈ f.params.toList, Try.prog.readableRec t = true ∧ t < Try.prog.types.size)
    {W W' : World} {args : Array Value} {ds gs : List (DataW H)} {before : List MemPlace}
    (hW : DataW.Whole enc Try.prog f.params.toList s.vars false W args.toList ds gs before) (hb : Below W.heap.size W W') :
    s.post enc Try.prog f false true false false W args (.bool true) W' := by
  have hW0 := hW
  obtain ⟨p, q, hA, hV, rfl, hz, hnd⟩ := hW0
  rw [hv] at hV
  obtain ⟨rfl, rfl⟩ := trodVars_none hV
  have hlen : ds.length = n := by
    have h := (trodAll_length hA).2
    rw [h]; simpa using hn
  have hlt : ∀ x ∈ p, x.block < W.heap.size := fun x hx => hW.lt x (List.mem_append.2 (Or.inl hx))
  refine ⟨ds, [], p ++ [], [], p, [], hW, ?_, ?_, ?_, hb.frame _, fun h => by cases h⟩
  · rw [List.append_nil, hs ds hlen, hres]
    exact trodAll_cons_mk (shut_bool Try.underlying4 true) trodAll_mk0
  · rw [List.append_nil, hs ds hlen]
    exact trodAll_below hb hread hA hlt
  · rw [List.append_nil, hs ds hlen, hv]
    rfl
end

theorem bounds_i64 {n : Int} (h : (Lit.int .i64 n).wf = true) : -9223372036854775808 ≤ n ∧ n ≤ 9223372036854775807 := by
  have h' : IntKind.i64.min ≤ n ∧ n ≤ 9223372036854775807 := by simpa [Lit.wf] using h
  have e : IntKind.i64.min = -9223372036854775808 := rfl
  omega

theorem cellsFlight : Try.prog.cellsOf 23 = 3 := by kernel_rfl

set_option maxRecDepth 100000 in
/-- a flight that comes in -/
theorem open_flight {H : Type} {enc : TypeId × Value → H} {W : World} {base base' : Nat} {sp : Nat → Bool} {held : Bool} {r' : Reach} {v : Value} {d : DataW H} {p : List MemPlace}
    (hv : Value.okWide Try.prog W r' base' 23 v) (h : DataW.Trod enc Try.prog W base sp held 23 v d p) :
    ∃ r c n, v = .agg #[.int .i64 r, .bool c, .int .i64 n] ∧ (Lit.int .i64 r).wf = true ∧ (Lit.int .i64 n).wf = true := by
  obtain ⟨c0, c1, c2, y0, y1, y2, m, rfl, rfl, rfl, hy0, hy1, hy2⟩ := Joins.open_agg3 Try.underlying23 (by kernel_rfl) cellsFlight hv h
  obtain ⟨r, e0, _, wr⟩ := DataW.trod_int Try.underlying3 hy0
  obtain ⟨c, e1, _⟩ := DataW.trod_bool Try.underlying4 hy1
  obtain ⟨n, e2, _, wn⟩ := DataW.trod_int Try.underlying3 hy2
  simp at e0 e1 e2
  subst e0 e1 e2
  exact ⟨r, c, n, rfl, wr, wn⟩

/-- a row of integers that comes in, nil or not -/
theorem open_ints_any {H : Type} {enc : TypeId × Value → H} {W : World} {held : Bool} {A : Option Addr} {m cap : Nat} {d : DataW H} {p : List MemPlace}
    (h : DataW.Trod enc Try.prog W 0 (fun _ => true) held 24 (.slice A m cap) d p) :
    ∃ (b off : Nat) (zs : List Int), (∀ i, i < m → W.cell? ⟨b, off + i, none⟩ = some (.int .i64 (zs.getD i 0))) ∧ (0 < m → b < W.heap.size) ∧ (0 < m → A = some ⟨b, off, none⟩) ∧ m ≤ cap ∧ cap ≤ maxLen := by
  obtain ⟨fuel, hf⟩ := h
  rcases open_ints Try.underlying24 Try.underlying3 (by kernel_rfl) hf with ⟨hcs, _⟩ | ⟨a, len, cap', zs, hcs, _, hl, hm, hz, _, hcell, _⟩
  · have e : (Value.slice A m cap) = .slice none 0 0 := by simpa [Value.cells] using hcs
    injection e with e1 e2 e3
    subst e1 e2 e3
    exact ⟨0, 0, [], fun i hi => absurd hi (by omega), fun h => absurd h (by omega), fun h => absurd h (by omega), by omega, by unfold maxLen; omega⟩
  · have e : (Value.slice A m cap) = .slice (some a) len cap' := by simpa [Value.cells] using hcs
    injection e with e1 e2 e3
    subst e1 e2 e3
    simp only [if_true] at hz
    by_cases h0 : 0 < zs.length
    · obtain ⟨b, off, rfl, hc⟩ := ints_at hcell h0
      exact ⟨b, off, zs, fun i hi => hc i (by omega), fun _ => World.block_lt_of_cell? _ _ (hc 0 h0), fun _ => rfl, hl, hm⟩
    · exact ⟨0, 0, zs, fun i hi => absurd hi (by omega), fun h => absurd h (by omega), fun h => absurd h (by omega), hl, hm⟩
end Go.Proofs.Ytfkfjbppncbkjaa

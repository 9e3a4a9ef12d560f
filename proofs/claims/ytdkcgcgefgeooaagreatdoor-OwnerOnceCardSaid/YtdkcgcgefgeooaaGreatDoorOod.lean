/-
  A text of mine, of several parts: EngBor, EngMapC, TabO, OwDef, OwDef2, Ow1Cfg, Ow1Vc, OwP, OwShelf, OwLib, Ow1V, OwDef3, OwtCfg, OwtVc, OwPt, OwtV.
-/
import Derived.Test.YtdkcgcgefgeooaaGreatDoorOoa
import Derived.Test.YtdkcgcgefgeooaaGreatDoorOob
import Derived.Test.YtdkcgcgefgeooaaGreatDoorOoc
import Derived.Test.YtdkcgcgefgeooaaGreatDoorProg
import Derived.KernelRfl
import Derived.Shelf.Slices.Delete
import Derived.Shelf.Slices.Empties
import Derived.Sort.OwnSortedInts
set_option linter.all false
set_option maxRecDepth 10000
namespace Go.Eng
open Go.RowKit
section
variable (C : Cfg)
def vcFnB (fuel : Nat) (fn : Func) (c : BCon) : Prop :=
  match fn.body with
  | some body => ∀ (x : c.a.El) (xs : List c.t.El), Wr (c.pre x xs) → if (resOf c.a x).length + 1 ≤ fn.ntmps then exec C .top fuel (.code body)
      ⟨(List.range ((resOf c.a x).length + 1)).zip (resOf c.a x ++ [.own 0]), [(0, .brow c.t xs)], 1, fn.ntmps⟩ fun e st => match e with
      | .ret | .normal => match retOf C st.env st.own fn.results.toList with
        | some ds => if fits c.r ds then match argsOf (stay (freeze st.own (flats ds))) c.r ds with
            | some y => y = c.F x xs
            | none => False
          else False
        | none => False
      | _ => False
    else False
  | none => False
end
structure VcB (C : Cfg) (fuel : Nat) (fn : Func) (c : BCon) : Prop where
  out : vcFnB C fuel fn c
variable {P : Program} {C : Cfg} {B : Nat} {w0 : World}
theorem lent_ok {t : Ty} (hf : t.flat = true) {T : Nat → Prop} {w : World} {xs : List t.El} {v : Value} (h : RdC P (.sl t) T w xs [v]) : RdC P (.sl t) (fun b => blkOf (.brow t xs) v = some b) w xs [v] := by
  obtain ⟨base, cap, e, h1, h2, h3⟩ := h
  refine ⟨base, cap, e, h1, h2, fun hne => ?_⟩
  obtain ⟨b, off, rfl, hb, hel⟩ := h3 hne
  refine ⟨b, off, rfl, ?_, fun i x hi => ?_⟩
  · injection e with e _
    subst e
    cases xs with
    | nil => exact absurd rfl hne
    | cons => rfl
  · obtain ⟨es, he, hl⟩ := hel i x hi
    exact ⟨es, he.flat hf, hl⟩
theorem lent_lt {t : Ty} {w : World} {xs : List t.El} {v : Value} (h : RdC P (.sl t) (fun b => b < w.heap.size) w xs [v]) : ∀ b, blkOf (.brow t xs) v = some b → b < w.heap.size := by
  obtain ⟨base, cap, e, h1, h2, h3⟩ := h
  injection e with e _
  subst e
  intro b hb
  cases xs with
  | nil => cases hb
  | cons x r =>
    obtain ⟨g, off, rfl, hg, _⟩ := h3 (by simp)
    obtain rfl : g = b := by simpa [blkOf] using hb
    exact hg
theorem valid_of_vcB {G : World → Prop} (hC : ∀ w, G w → CfgOk P C w.heap.size w) {g : FuncId} {fn : Func} {con : BCon} {fuel : Nat} (hf : P.funcs[g]? = some fn) (hname : (fn.name == "runtime.NumGoroutine") = false) (hfl : con.t.flat = true) (h : vcFnB C fuel fn con) : BValid P G g con := by
  unfold vcFnB at h
  split at h
  · rename_i body hbody
    refine ⟨⟨fn, hf, hname, by rw [hbody]; rfl⟩, fun w hG S x cs xs v hS hx hv hpre => ?_⟩
    have h := h x xs ⟨hpre⟩
    split at h
    · rename_i hsz
      have hv1 : v.oneCell' = true := by obtain ⟨_, _, e, _⟩ := hv; injection e with e _; subst e; rfl
      let c0 : Cx := ⟨S, w, fun o => if o = 0 then v else .slice none 0 0, [(0, .brow con.t xs)]⟩
      have hl0 : ∀ o, lookO c0.own o = if o = 0 then .brow con.t xs else .gone := fun o => by
        show lookO [(0, Blk.brow con.t xs)] o = _
        simp only [lookO]
        by_cases e : o = 0
        · rw [if_pos e.symm, if_pos e]
        · rw [if_neg (fun e' => e e'.symm), if_neg e]
      have hm0 : Mem P w.heap.size w S c0 := by
        refine ⟨fun o => ?_, fun o o' b hne hb hb' => ?_, hS, fun b hb => hb, fun b hb => .inl hb, Below.refl _ _, Nat.le_refl _, fun o => ?_⟩
        · unfold BlkOk
          rw [hl0]
          by_cases e : o = 0
          · subst e
            rw [if_pos rfl]
            have e0 : c0.ρ 0 = v := rfl
            rw [e0]
            exact ⟨lent_ok hfl hv, fun b hb => ⟨_, Array.getElem?_eq_getElem (lent_lt hv b hb)⟩⟩
          · rw [if_neg e]; trivial
        · rw [hl0] at hb hb'
          by_cases e : o = 0
          · by_cases e' : o' = 0
            · exact hne (e.trans e'.symm)
            · rw [if_neg e'] at hb'; cases hb'
          · rw [if_neg e] at hb; cases hb
        · show (if o = 0 then v else Value.slice none 0 0).oneCell' = true
          split
          · exact hv1
          · rfl
      have hargs : RVs P c0 (resOf con.a x ++ [.own 0]) (group con.a cs ++ [v]) := (res_ok (c := c0) con.a hx).append ⟨v, [], rfl, (rfl : v = v), rfl⟩
      have hlen := hargs.length
      have hlen2 : (resOf con.a x ++ [D.own 0]).length = (resOf con.a x).length + 1 := by simp
      refine calls_of_wp hf hbody ?_
      have hsat : SatC P w.heap.size w S [] c0 ⟨(List.range ((resOf con.a x).length + 1)).zip (resOf con.a x ++ [.own 0]), [(0, .brow con.t xs)], 1, fn.ntmps⟩
          { tmps := (group con.a cs ++ [v]).toArray ++ Array.replicate (fn.ntmps - (group con.a cs ++ [v]).toArray.size) undef, defers := [] } w := by
        refine ⟨rfl, rfl, hm0, fun s => ?_, ?_, rfl⟩
        · have := enter_ok (P := P) 0 [] hargs rfl s (fn.ntmps - (group con.a cs ++ [v]).toArray.size)
          simp only [List.nil_append] at this
          rw [List.range_eq_range', ← hlen2]
          exact this.toGV
        · simp only [Array.size_append, List.size_toArray, Array.size_replicate]
          omega
      refine exec_ok (hC w hG) fuel .top (.code body) _ _ _ w c0 _ h hsat trivial fun e a' w' hp => ?_
      obtain ⟨st, c', hk, hs, _⟩ := hp
      have fin : (match retOf C st.env st.own fn.results.toList with
          | some ds => if fits con.r ds then match argsOf (stay (freeze st.own (flats ds))) con.r ds with
              | some y => y = con.F x xs
              | none => False
            else False
          | none => False) → a'.defers = [] ∧ ∃ v, (results fn a'.tmps).run P w' = .ok v w' ∧ (Below w.heap.size w w' ∧ ∃ rs, Ending.returned v = .returned (retV con.r rs) ∧ RdC P con.r (fun b => S b ∨ w.heap.size ≤ b ∧ b < w'.heap.size) w' (con.F x xs) rs) := by
        intro hk
        split at hk
        · rename_i ds hds
          rw [← hs.own] at hds
          obtain ⟨rv, hrv, hrun⟩ := results_ok (hC w hG) hs.mem hs.env hds
          have hw := hs.w
          subst hw
          refine ⟨hs.defers, _, results_run hrun, hs.mem.below, ?_⟩
          split at hk
          · rename_i hfit
            split at hk
            · rename_i y hy
              subst hk
              obtain ⟨c1, e1, e2, e3, hm1, hg1, _⟩ := hs.mem.freeze (flats ds)
              obtain ⟨k1, k2, k3⟩ := fits_ok con.r hm1.one hfit (RVs.goes hg1 hs.mem.one hrv)
              unfold argsOf at hy
              rw [← hs.own, ← e1] at hy
              split at hy
              · rename_i z hz
                obtain rfl := Option.some.inj hy
                obtain ⟨c3, c4, e, r1, r2⟩ := gather_ok (Vis.stay hm1) con.r hz k1
                obtain rfl : c4 = [] := r2
                rw [List.append_nil] at e
                refine ⟨c3, ?_, ?_⟩
                · rw [retV_pack, ← e, k3]
                · rw [e2] at r1
                  refine r1.mono fun b hb => ⟨?_, rfl⟩
                  rcases hm1.to_ b hb with h1 | h1
                  · exact .inl h1
                  · exact .inr ⟨h1, by rw [← e2]; exact hm1.bound b hb⟩
              · cases hy
            · exact hk.elim
          · exact hk.elim
        · exact hk.elim
      cases e with
      | normal => exact fin hk
      | ret => exact fin hk
      | _ => exact (hk : False).elim
    · exact h.elim
  · exact h.elim
theorem mkValidA {P : Program} {G : World → Prop} (hG : ∀ w w', Go.RowKit.Below w.heap.size w w' → G w → G w') {tab : List (TypeId × TI)} (hmix : P.follows .mixedOrders = true) (htab : ∀ p ∈ tab, rowOk P p) (heq : eqsB P { tab, cons := [], inls := [], loops := [] } = true)
    {cons : List (FuncId × Contract)} {inls : List (FuncId × Func)} {loops cuts : List (Nat × LoopAnn)} {unroll : Bool} {arrs : List Nat} {keys : List TypeId} {mcons : List (FuncId × MCon)} {bcons : List (FuncId × BCon)} {lets : List FuncId} (hkeys : keysB P { tab, cons := [], inls := [], loops := [], keys } = true) (C : Cfg) (hC : C = { tab, cons, inls, loops, cuts, unroll, arrs, keys, mcons, bcons, lets })
    (hb : ∀ p ∈ bcons, BValid P G p.1 p.2) (hm : ∀ p ∈ mcons, MValid P G p.1 p.2)
    (hcons : ∀ p ∈ cons, Valid P G p.1 p.2) (hinls : ∀ p ∈ inls, P.funcs[p.1]? = some p.2 ∧ (p.2.name == "runtime.NumGoroutine") = false)
    {g : FuncId} {fn : Func} {con : Contract} {fuel : Nat} (hf : P.funcs[g]? = some fn) (hname : (fn.name == "runtime.NumGoroutine") = false) (h : Vc C fuel fn con) : Valid P G g con := by
  subst hC
  exact valid_of_vc (fun w hw => cfgOk_of (C := { tab, cons, inls, loops, cuts, unroll, arrs, keys, mcons, bcons, lets }) hmix htab heq (fun p hp => ⟨(hcons p hp).1, fun w' hb => (hcons p hp).2 w' (hG w w' hb hw)⟩) hinls hkeys (fun p hp => ⟨(hm p hp).1, fun w' hb => (hm p hp).2 w' (hG w w' hb hw)⟩) (fun p hp => ⟨(hb p hp).1, fun w' hb' => (hb p hp).2 w' (hG w w' hb' hw)⟩)) hf hname h.out
theorem mkValidB {P : Program} {G : World → Prop} (hG : ∀ w w', Go.RowKit.Below w.heap.size w w' → G w → G w') {tab : List (TypeId × TI)} (hmix : P.follows .mixedOrders = true) (htab : ∀ p ∈ tab, rowOk P p) (heq : eqsB P { tab, cons := [], inls := [], loops := [] } = true)
    {cons : List (FuncId × Contract)} {inls : List (FuncId × Func)} {loops cuts : List (Nat × LoopAnn)} {unroll : Bool} {arrs : List Nat} {keys : List TypeId} {mcons : List (FuncId × MCon)} {bcons : List (FuncId × BCon)} {lets : List FuncId} (hkeys : keysB P { tab, cons := [], inls := [], loops := [], keys } = true) (C : Cfg) (hC : C = { tab, cons, inls, loops, cuts, unroll, arrs, keys, mcons, bcons, lets })
    (hb : ∀ p ∈ bcons, BValid P G p.1 p.2) (hm : ∀ p ∈ mcons, MValid P G p.1 p.2)
    (hcons : ∀ p ∈ cons, Valid P G p.1 p.2) (hinls : ∀ p ∈ inls, P.funcs[p.1]? = some p.2 ∧ (p.2.name == "runtime.NumGoroutine") = false)
    {g : FuncId} {fn : Func} {con : BCon} {fuel : Nat} (hf : P.funcs[g]? = some fn) (hname : (fn.name == "runtime.NumGoroutine") = false) (hfl : con.t.flat = true) (h : VcB C fuel fn con) : BValid P G g con := by
  subst hC
  exact valid_of_vcB (fun w hw => cfgOk_of (C := { tab, cons, inls, loops, cuts, unroll, arrs, keys, mcons, bcons, lets }) hmix htab heq (fun p hp => ⟨(hcons p hp).1, fun w' hb => (hcons p hp).2 w' (hG w w' hb hw)⟩) hinls hkeys (fun p hp => ⟨(hm p hp).1, fun w' hb => (hm p hp).2 w' (hG w w' hb hw)⟩) (fun p hp => ⟨(hb p hp).1, fun w' hb' => (hb p hp).2 w' (hG w w' hb' hw)⟩)) hf hname hfl h.out
theorem allB_nil {P : Program} {G : World → Prop} : ∀ p ∈ ([] : List (FuncId × BCon)), BValid P G p.1 p.2 := fun p hp => by cases hp
theorem allB_cons {P : Program} {G : World → Prop} {g : FuncId} {c : BCon} {r : List (FuncId × BCon)} (h : BValid P G g c) (t : ∀ p ∈ r, BValid P G p.1 p.2) : ∀ p ∈ (g, c) :: r, BValid P G p.1 p.2 := fun p hp => by
  rcases List.mem_cons.1 hp with rfl | hp
  · exact h
  · exact t p hp
end Go.Eng
set_option maxRecDepth 10000
namespace Go.Eng
open Go.RowKit
theorem RdC.free {P : Program} {t : Ty} (h : t.flat = true ∨ t = .fp) {S S' : Nat → Prop} {w w' : World} {x : t.El} {cs : List Value} (hr : RdC P t S w x cs) : RdC P t S' w' x cs := by
  rcases h with h | rfl
  · exact hr.flat h
  · cases x <;> exact hr
def vcFnQ (C : Cfg) (fuel : Nat) (fn : Func) (q : QCon) : Prop :=
  match fn.body with
  | some body => exec C .top fuel (.code body) ⟨[], [], 0, fn.ntmps⟩ fun e st => match e with
      | .ret | .normal => match retOf C st.env st.own fn.results.toList with
        | some [.own o] => match lookO st.own o with
          | .map T kt vt n f => if T = q.T ∧ n = q.n then match castF kt vt q.kt q.vt f with
            | some f' => f' = q.f
            | none => False
            else False
          | _ => False
        | _ => False
      | _ => False
  | none => False
structure VcQ (C : Cfg) (fuel : Nat) (fn : Func) (q : QCon) : Prop where
  out : vcFnQ C fuel fn q
theorem valid_of_vcQ {P : Program} {C : Cfg} {G : World → Prop} (hC : ∀ w, G w → CfgOk P C w.heap.size w) {g : FuncId} {fn : Func} {q : QCon} {fuel : Nat} (hf : P.funcs[g]? = some fn) (hname : (fn.name == "runtime.NumGoroutine") = false) (hfl : q.vt.flat = true ∨ q.vt = .fp) (h : vcFnQ C fuel fn q) : QValid P G g q := by
  unfold vcFnQ at h
  split at h
  · rename_i body hbody
    refine ⟨⟨fn, hf, hname, by rw [hbody]; rfl⟩, fun w hG => ?_⟩
    let c0 : Cx := ⟨fun _ => False, w, fun _ => .slice none 0 0, []⟩
    have hm0 : Mem P w.heap.size w (fun _ => False) c0 := ⟨fun o => trivial, fun o o' b _ hb _ => (by cases hb), fun b hb => hb.elim, fun b hb => hb, fun b hb => .inl hb, Below.refl _ _, Nat.le_refl _, fun o => rfl⟩
    refine calls_of_wp hf hbody ?_
    have hsat : SatC P w.heap.size w (fun _ => False) [] c0 ⟨[], [], 0, fn.ntmps⟩ { tmps := (#[] : Array Value) ++ Array.replicate (fn.ntmps - (#[] : Array Value).size) undef, defers := [] } w := by
      refine ⟨rfl, rfl, hm0, fun s => ?_, ?_, rfl⟩
      · trivial
      · simp
    refine exec_ok (hC w hG) fuel .top (.code body) _ _ _ w c0 _ h hsat trivial fun e a' w' hp => ?_
    obtain ⟨st, c', hk, hs, _⟩ := hp
    have fin : (match retOf C st.env st.own fn.results.toList with
        | some [.own o] => match lookO st.own o with
          | .map T kt vt n f => if T = q.T ∧ n = q.n then match castF kt vt q.kt q.vt f with
            | some f' => f' = q.f
            | none => False
            else False
          | _ => False
        | _ => False) → a'.defers = [] ∧ ∃ v, (results fn a'.tmps).run P w' = .ok v w' ∧ (Below w.heap.size w w' ∧ ∃ b D k t, Ending.returned v = .returned (.map (some b)) ∧ w.heap.size ≤ b ∧ b < w'.heap.size ∧ P.underlying q.T = some (.map k t) ∧ w'.ownsMap P k heldElem b q.n D ∧ MapIs P (fun _ => False) w' q.kt q.vt D q.f) := by
      intro hk
      split at hk
      · rename_i o hds
        rw [← hs.own] at hds
        obtain ⟨rv, hrv, hrun⟩ := results_ok (hC w hG) hs.mem hs.env hds
        have hw := hs.w
        subst hw
        refine ⟨hs.defers, _, results_run hrun, hs.mem.below, ?_⟩
        split at hk
        · rename_i T kt vt n f ho
          split at hk
          · rename_i he
            obtain ⟨rfl, rfl⟩ := he
            split at hk
            · rename_i f' hc
              subst hk
              unfold castF at hc
              split at hc
              · rename_i e1
                split at hc
                · rename_i e2
                  subst e1
                  subst e2
                  obtain rfl := Option.some.inj hc
                  rw [← hs.own] at ho
                  have hbk := hs.mem.ok o
                  unfold BlkOk at hbk
                  simp only [ho] at hbk
                  obtain ⟨b, D, k, t, hρ, hu, hown, hmi, hB, _⟩ := hbk
                  obtain ⟨v, vs', rfl, hv, hv2⟩ := hrv
                  obtain rfl : vs' = [] := hv2
                  simp only [RV, ho] at hv
                  subst hv
                  refine ⟨b, D, k, t, by rw [← hρ]; rfl, hB, hs.mem.blk_lt o b (by rw [ho, hρ]; rfl), hu, hown, fun x l hl => ?_⟩
                  obtain ⟨g1, g2⟩ := hmi x l hl
                  refine ⟨g1, fun y hy => ?_⟩
                  obtain ⟨cs, g3, g4⟩ := g2 y hy
                  exact ⟨cs, g3.free hfl, g4⟩
                · cases hc
              · cases hc
            · exact hk.elim
          · exact hk.elim
        · exact hk.elim
      · exact hk.elim
    cases e with
    | normal => exact fin hk
    | ret => exact fin hk
    | _ => exact (hk : False).elim
  · exact h.elim
theorem mkValidC {P : Program} {G : World → Prop} (hG : ∀ w w', Go.RowKit.Below w.heap.size w w' → G w → G w') {tab : List (TypeId × TI)} (hmix : P.follows .mixedOrders = true) (htab : ∀ p ∈ tab, rowOk P p) (heq : eqsB P { tab, cons := [], inls := [], loops := [] } = true)
    {cons : List (FuncId × Contract)} {inls : List (FuncId × Func)} {loops cuts : List (Nat × LoopAnn)} {unroll : Bool} {arrs : List Nat} {keys : List TypeId} {mcons : List (FuncId × MCon)} {bcons : List (FuncId × BCon)} {lets : List FuncId} {dyn : List (Nat × FuncId)} {qcons : List (FuncId × QCon)} (hkeys : keysB P { tab, cons := [], inls := [], loops := [], keys } = true) (C : Cfg) (hC : C = { tab, cons, inls, loops, cuts, unroll, arrs, keys, mcons, bcons, lets, dyn, qcons })
    (hq : ∀ p ∈ qcons, QValid P G p.1 p.2) (hb : ∀ p ∈ bcons, BValid P G p.1 p.2) (hm : ∀ p ∈ mcons, MValid P G p.1 p.2)
    (hcons : ∀ p ∈ cons, Valid P G p.1 p.2) (hinls : ∀ p ∈ inls, P.funcs[p.1]? = some p.2 ∧ (p.2.name == "runtime.NumGoroutine") = false)
    {g : FuncId} {fn : Func} {con : Contract} {fuel : Nat} (hf : P.funcs[g]? = some fn) (hname : (fn.name == "runtime.NumGoroutine") = false) (h : Vc C fuel fn con) : Valid P G g con := by
  subst hC
  exact valid_of_vc (fun w hw => cfgOk_of (C := { tab, cons, inls, loops, cuts, unroll, arrs, keys, mcons, bcons, lets, dyn, qcons }) hmix htab heq (fun p hp => ⟨(hcons p hp).1, fun w' hb => (hcons p hp).2 w' (hG w w' hb hw)⟩) hinls hkeys (fun p hp => ⟨(hm p hp).1, fun w' hb => (hm p hp).2 w' (hG w w' hb hw)⟩) (fun p hp => ⟨(hb p hp).1, fun w' hb' => (hb p hp).2 w' (hG w w' hb' hw)⟩) (fun p hp => ⟨(hq p hp).1, fun w' hb' => (hq p hp).2 w' (hG w w' hb' hw)⟩)) hf hname h.out
theorem mkValidD {P : Program} {G : World → Prop} (hG : ∀ w w', Go.RowKit.Below w.heap.size w w' → G w → G w') {tab : List (TypeId × TI)} (hmix : P.follows .mixedOrders = true) (htab : ∀ p ∈ tab, rowOk P p) (heq : eqsB P { tab, cons := [], inls := [], loops := [] } = true)
    {cons : List (FuncId × Contract)} {inls : List (FuncId × Func)} {loops cuts : List (Nat × LoopAnn)} {unroll : Bool} {arrs : List Nat} {keys : List TypeId} {mcons : List (FuncId × MCon)} {bcons : List (FuncId × BCon)} {lets : List FuncId} {dyn : List (Nat × FuncId)} {qcons : List (FuncId × QCon)} (hkeys : keysB P { tab, cons := [], inls := [], loops := [], keys } = true) (C : Cfg) (hC : C = { tab, cons, inls, loops, cuts, unroll, arrs, keys, mcons, bcons, lets, dyn, qcons })
    (hq : ∀ p ∈ qcons, QValid P G p.1 p.2) (hb : ∀ p ∈ bcons, BValid P G p.1 p.2) (hm : ∀ p ∈ mcons, MValid P G p.1 p.2)
    (hcons : ∀ p ∈ cons, Valid P G p.1 p.2) (hinls : ∀ p ∈ inls, P.funcs[p.1]? = some p.2 ∧ (p.2.name == "runtime.NumGoroutine") = false)
    {g : FuncId} {fn : Func} {con : BCon} {fuel : Nat} (hf : P.funcs[g]? = some fn) (hname : (fn.name == "runtime.NumGoroutine") = false) (hfl : con.t.flat = true) (h : VcB C fuel fn con) : BValid P G g con := by
  subst hC
  exact valid_of_vcB (fun w hw => cfgOk_of (C := { tab, cons, inls, loops, cuts, unroll, arrs, keys, mcons, bcons, lets, dyn, qcons }) hmix htab heq (fun p hp => ⟨(hcons p hp).1, fun w' hb => (hcons p hp).2 w' (hG w w' hb hw)⟩) hinls hkeys (fun p hp => ⟨(hm p hp).1, fun w' hb => (hm p hp).2 w' (hG w w' hb hw)⟩) (fun p hp => ⟨(hb p hp).1, fun w' hb' => (hb p hp).2 w' (hG w w' hb' hw)⟩) (fun p hp => ⟨(hq p hp).1, fun w' hb' => (hq p hp).2 w' (hG w w' hb' hw)⟩)) hf hname hfl h.out
theorem mkValidQ {P : Program} {G : World → Prop} (hG : ∀ w w', Go.RowKit.Below w.heap.size w w' → G w → G w') {tab : List (TypeId × TI)} (hmix : P.follows .mixedOrders = true) (htab : ∀ p ∈ tab, rowOk P p) (heq : eqsB P { tab, cons := [], inls := [], loops := [] } = true)
    {keys : List TypeId} (hkeys : keysB P { tab, cons := [], inls := [], loops := [], keys } = true) (C : Cfg) (hC : C = { tab, cons := [], inls := [], loops := [], keys })
    {g : FuncId} {fn : Func} {q : QCon} {fuel : Nat} (hf : P.funcs[g]? = some fn) (hname : (fn.name == "runtime.NumGoroutine") = false) (hfl : q.vt.flat = true ∨ q.vt = .fp) (h : VcQ C fuel fn q) : QValid P G g q := by
  subst hC
  exact valid_of_vcQ (fun w hw => cfgOk_of (C := { tab, cons := [], inls := [], loops := [], keys }) hmix htab heq (fun p hp => by cases hp) (fun p hp => by cases hp) hkeys) hf hname hfl h.out
theorem allQ_nil {P : Program} {G : World → Prop} : ∀ p ∈ ([] : List (FuncId × QCon)), QValid P G p.1 p.2 := fun p hp => by cases hp
theorem allQ_cons {P : Program} {G : World → Prop} {g : FuncId} {c : QCon} {r : List (FuncId × QCon)} (h : QValid P G g c) (t : ∀ p ∈ r, QValid P G p.1 p.2) : ∀ p ∈ (g, c) :: r, QValid P G p.1 p.2 := fun p hp => by
  rcases List.mem_cons.1 hp with rfl | hp
  · exact h
  · exact t p hp
end Go.Eng
namespace Go.Proofs.YtdkcgcgefgeooaaGreatDoor.To
open Go Go.Eng
set_option maxRecDepth 100000
def tab : List (TypeId × TI) := [(1, ⟨1, 8, [.nilFunc], .fn, some .fp⟩),
  (2, ⟨1, 8, [.int .i64 0], .int .i64, some (.int .i64)⟩),
  (3, ⟨1, 8, [.int .i64 0], .int .i64, some (.int .i64)⟩),
  (4, ⟨1, 1, [.bool false], .bool, some .bool⟩),
  (5, ⟨1, 1, [.int .u8 0], .int .u8, some (.int .u8)⟩),
  (9, ⟨1, 16, [.string ⟨#[]⟩], .str, some .str⟩),
  (20, ⟨1, 16, [.nilIface], .ifc, none⟩),
  (21, ⟨1, 4, [.int .i32 0], .int .i32, some (.int .i32)⟩),
  (22, ⟨9, 72, [.int .i64 0, .int .i64 0, .int .i64 0, .int .i64 0, .int .i64 0, .int .i64 0, .int .i64 0, .int .i64 0, .int .i64 0], .st [(0, 3), (1, 3), (2, 3), (3, 3), (4, 3), (5, 3), (6, 3), (7, 3), (8, 3)], some (.cons (.int .i64) (.cons (.int .i64) (.cons (.int .i64) (.cons (.int .i64) (.cons (.int .i64) (.cons (.int .i64) (.cons (.int .i64) (.cons (.int .i64) (.cons (.int .i64) .unit)))))))))⟩),
  (23, ⟨9, 72, [.int .i64 0, .int .i64 0, .int .i64 0, .int .i64 0, .int .i64 0, .int .i64 0, .int .i64 0, .int .i64 0, .int .i64 0], .st [(0, 3), (1, 3), (2, 3), (3, 3), (4, 3), (5, 3), (6, 3), (7, 3), (8, 3)], some (.cons (.int .i64) (.cons (.int .i64) (.cons (.int .i64) (.cons (.int .i64) (.cons (.int .i64) (.cons (.int .i64) (.cons (.int .i64) (.cons (.int .i64) (.cons (.int .i64) .unit)))))))))⟩),
  (24, ⟨1, 24, [.slice none 0 0], .sl 43, some (.sl (.cons (.int .i64) (.cons (.int .i64) (.cons (.int .i64) (.cons (.int .i64) (.cons .bool .unit))))))⟩),
  (25, ⟨1, 8, [.nilFunc], .fn, some .fp⟩),
  (26, ⟨1, 24, [.slice none 0 0], .sl 72, some (.sl (.cons (.int .i64) (.cons (.int .i64) .unit)))⟩),
  (27, ⟨1, 24, [.slice none 0 0], .sl 3, some (.sl (.int .i64))⟩),
  (28, ⟨3, 24, [.int .i64 0, .bool false, .int .i64 0], .st [(0, 3), (1, 4), (2, 3)], some (.cons (.int .i64) (.cons .bool (.cons (.int .i64) .unit)))⟩),
  (29, ⟨3, 24, [.int .i64 0, .bool false, .int .i64 0], .st [(0, 3), (1, 4), (2, 3)], some (.cons (.int .i64) (.cons .bool (.cons (.int .i64) .unit)))⟩),
  (30, ⟨1, 24, [.slice none 0 0], .sl 142, some (.sl (.cons (.cons (.int .i8) (.cons (.arr 8 (.int .u16)) (.cons (.int .i64) .unit))) (.cons (.int .i64) .unit)))⟩),
  (31, ⟨17, 200, [.int .i64 0, .int .i64 0, .int .i64 0, .int .i64 0, .int .i64 0, .int .i64 0, .int .i64 0, .int .i64 0, .int .i64 0, .slice none 0 0, .slice none 0 0, .slice none 0 0, .int .i64 0, .bool false, .int .i64 0, .slice none 0 0, .bool false], .st [(0, 23), (9, 26), (10, 27), (11, 27), (12, 29), (15, 30), (16, 4)], some (.cons (.cons (.int .i64) (.cons (.int .i64) (.cons (.int .i64) (.cons (.int .i64) (.cons (.int .i64) (.cons (.int .i64) (.cons (.int .i64) (.cons (.int .i64) (.cons (.int .i64) .unit))))))))) (.cons (.sl (.cons (.int .i64) (.cons (.int .i64) .unit))) (.cons (.sl (.int .i64)) (.cons (.sl (.int .i64)) (.cons (.cons (.int .i64) (.cons .bool (.cons (.int .i64) .unit))) (.cons (.sl (.cons (.cons (.int .i8) (.cons (.arr 8 (.int .u16)) (.cons (.int .i64) .unit))) (.cons (.int .i64) .unit))) (.cons .bool .unit)))))))⟩),
  (32, ⟨17, 200, [.int .i64 0, .int .i64 0, .int .i64 0, .int .i64 0, .int .i64 0, .int .i64 0, .int .i64 0, .int .i64 0, .int .i64 0, .slice none 0 0, .slice none 0 0, .slice none 0 0, .int .i64 0, .bool false, .int .i64 0, .slice none 0 0, .bool false], .st [(0, 23), (9, 26), (10, 27), (11, 27), (12, 29), (15, 30), (16, 4)], some (.cons (.cons (.int .i64) (.cons (.int .i64) (.cons (.int .i64) (.cons (.int .i64) (.cons (.int .i64) (.cons (.int .i64) (.cons (.int .i64) (.cons (.int .i64) (.cons (.int .i64) .unit))))))))) (.cons (.sl (.cons (.int .i64) (.cons (.int .i64) .unit))) (.cons (.sl (.int .i64)) (.cons (.sl (.int .i64)) (.cons (.cons (.int .i64) (.cons .bool (.cons (.int .i64) .unit))) (.cons (.sl (.cons (.cons (.int .i8) (.cons (.arr 8 (.int .u16)) (.cons (.int .i64) .unit))) (.cons (.int .i64) .unit))) (.cons .bool .unit)))))))⟩),
  (33, ⟨21, 240, [.int .i64 0, .int .i64 0, .string ⟨#[]⟩, .int .i64 0, .int .i64 0, .int .i64 0, .int .i64 0, .int .i64 0, .int .i64 0, .int .i64 0, .int .i64 0, .int .i64 0, .int .i64 0, .slice none 0 0, .slice none 0 0, .slice none 0 0, .int .i64 0, .bool false, .int .i64 0, .slice none 0 0, .bool false], .st [(0, 3), (1, 3), (2, 9), (3, 3), (4, 32)], some (.cons (.int .i64) (.cons (.int .i64) (.cons .str (.cons (.int .i64) (.cons (.cons (.cons (.int .i64) (.cons (.int .i64) (.cons (.int .i64) (.cons (.int .i64) (.cons (.int .i64) (.cons (.int .i64) (.cons (.int .i64) (.cons (.int .i64) (.cons (.int .i64) .unit))))))))) (.cons (.sl (.cons (.int .i64) (.cons (.int .i64) .unit))) (.cons (.sl (.int .i64)) (.cons (.sl (.int .i64)) (.cons (.cons (.int .i64) (.cons .bool (.cons (.int .i64) .unit))) (.cons (.sl (.cons (.cons (.int .i8) (.cons (.arr 8 (.int .u16)) (.cons (.int .i64) .unit))) (.cons (.int .i64) .unit))) (.cons .bool .unit))))))) .unit)))))⟩),
  (34, ⟨21, 240, [.int .i64 0, .int .i64 0, .string ⟨#[]⟩, .int .i64 0, .int .i64 0, .int .i64 0, .int .i64 0, .int .i64 0, .int .i64 0, .int .i64 0, .int .i64 0, .int .i64 0, .int .i64 0, .slice none 0 0, .slice none 0 0, .slice none 0 0, .int .i64 0, .bool false, .int .i64 0, .slice none 0 0, .bool false], .st [(0, 3), (1, 3), (2, 9), (3, 3), (4, 32)], some (.cons (.int .i64) (.cons (.int .i64) (.cons .str (.cons (.int .i64) (.cons (.cons (.cons (.int .i64) (.cons (.int .i64) (.cons (.int .i64) (.cons (.int .i64) (.cons (.int .i64) (.cons (.int .i64) (.cons (.int .i64) (.cons (.int .i64) (.cons (.int .i64) .unit))))))))) (.cons (.sl (.cons (.int .i64) (.cons (.int .i64) .unit))) (.cons (.sl (.int .i64)) (.cons (.sl (.int .i64)) (.cons (.cons (.int .i64) (.cons .bool (.cons (.int .i64) .unit))) (.cons (.sl (.cons (.cons (.int .i8) (.cons (.arr 8 (.int .u16)) (.cons (.int .i64) .unit))) (.cons (.int .i64) .unit))) (.cons .bool .unit))))))) .unit)))))⟩),
  (35, ⟨1, 8, [.nilFunc], .fn, some .fp⟩),
  (36, ⟨1, 8, [.pointer none], .ptr 40, none⟩),
  (37, ⟨1, 8, [.map none], .mp 3 3, none⟩),
  (38, ⟨1, 8, [.map none], .mp 3 4, none⟩),
  (39, ⟨10, 120, [.slice none 0 0, .map none, .slice none 0 0, .map none, .int .i64 0, .bool false, .bool false, .int .i64 0, .int .i64 0, .slice none 0 0], .st [(0, 27), (1, 37), (2, 27), (3, 38), (4, 3), (5, 4), (6, 4), (7, 3), (8, 3), (9, 27)], none⟩),
  (40, ⟨10, 120, [.slice none 0 0, .map none, .slice none 0 0, .map none, .int .i64 0, .bool false, .bool false, .int .i64 0, .int .i64 0, .slice none 0 0], .st [(0, 27), (1, 37), (2, 27), (3, 38), (4, 3), (5, 4), (6, 4), (7, 3), (8, 3), (9, 27)], none⟩),
  (41, ⟨1, 8, [.int .i64 0], .int .i64, some (.int .i64)⟩),
  (42, ⟨5, 40, [.int .i64 0, .int .i64 0, .int .i64 0, .int .i64 0, .bool false], .st [(0, 3), (1, 3), (2, 3), (3, 41), (4, 4)], some (.cons (.int .i64) (.cons (.int .i64) (.cons (.int .i64) (.cons (.int .i64) (.cons .bool .unit)))))⟩),
  (43, ⟨5, 40, [.int .i64 0, .int .i64 0, .int .i64 0, .int .i64 0, .bool false], .st [(0, 3), (1, 3), (2, 3), (3, 41), (4, 4)], some (.cons (.int .i64) (.cons (.int .i64) (.cons (.int .i64) (.cons (.int .i64) (.cons .bool .unit)))))⟩),
  (44, ⟨1, 24, [.slice none 0 0], .sl 53, some (.sl (.cons (.int .i8) (.cons (.int .i64) (.cons (.cons (.int .i8) (.cons (.int .i64) (.cons (.int .i64) (.cons (.int .i64) (.cons .str (.cons (.int .i64) .unit)))))) (.cons (.int .i64) .unit)))))⟩),
  (45, ⟨1, 8, [.nilFunc], .fn, some .fp⟩),
  (46, ⟨1, 8, [.nilFunc], .fn, some .fp⟩),
  (47, ⟨1, 1, [.int .i8 0], .int .i8, some (.int .i8)⟩),
  (48, ⟨6, 56, [.int .i8 0, .int .i64 0, .int .i64 0, .int .i64 0, .string ⟨#[]⟩, .int .i64 0], .st [(0, 47), (1, 3), (2, 3), (3, 3), (4, 9), (5, 41)], some (.cons (.int .i8) (.cons (.int .i64) (.cons (.int .i64) (.cons (.int .i64) (.cons .str (.cons (.int .i64) .unit))))))⟩),
  (49, ⟨6, 56, [.int .i8 0, .int .i64 0, .int .i64 0, .int .i64 0, .string ⟨#[]⟩, .int .i64 0], .st [(0, 47), (1, 3), (2, 3), (3, 3), (4, 9), (5, 41)], some (.cons (.int .i8) (.cons (.int .i64) (.cons (.int .i64) (.cons (.int .i64) (.cons .str (.cons (.int .i64) .unit))))))⟩),
  (51, ⟨1, 8, [.nilFunc], .fn, some .fp⟩),
  (52, ⟨9, 80, [.int .i8 0, .int .i64 0, .int .i8 0, .int .i64 0, .int .i64 0, .int .i64 0, .string ⟨#[]⟩, .int .i64 0, .int .i64 0], .st [(0, 47), (1, 3), (2, 49), (8, 3)], some (.cons (.int .i8) (.cons (.int .i64) (.cons (.cons (.int .i8) (.cons (.int .i64) (.cons (.int .i64) (.cons (.int .i64) (.cons .str (.cons (.int .i64) .unit)))))) (.cons (.int .i64) .unit))))⟩),
  (53, ⟨9, 80, [.int .i8 0, .int .i64 0, .int .i8 0, .int .i64 0, .int .i64 0, .int .i64 0, .string ⟨#[]⟩, .int .i64 0, .int .i64 0], .st [(0, 47), (1, 3), (2, 49), (8, 3)], some (.cons (.int .i8) (.cons (.int .i64) (.cons (.cons (.int .i8) (.cons (.int .i64) (.cons (.int .i64) (.cons (.int .i64) (.cons .str (.cons (.int .i64) .unit)))))) (.cons (.int .i64) .unit))))⟩),
  (54, ⟨1, 8, [.nilFunc], .fn, some .fp⟩),
  (55, ⟨1, 24, [.slice none 0 0], .sl 69, some (.sl (.cons (.int .i8) (.cons (.int .i64) (.cons (.cons (.int .i8) (.cons (.int .i64) (.cons (.int .i64) (.cons (.int .i64) (.cons .str (.cons (.int .i64) .unit)))))) (.cons (.cons (.int .i8) (.cons (.arr 8 (.int .u16)) (.cons (.int .i64) .unit))) (.cons (.ptr (.cons (.int .i8) (.cons (.cons (.int .i64) (.cons (.cons (.int .i64) (.cons (.int .i64) (.cons (.int .i64) (.cons (.int .i64) (.cons (.int .i64) (.cons (.int .i64) (.cons (.int .i64) (.cons (.int .i64) (.cons (.int .i64) .unit))))))))) (.cons (.sl (.cons .str (.cons .str (.cons (.int .i64) (.cons (.int .i64) .unit))))) (.cons (.sl (.cons .str (.cons (.int .i64) (.cons (.sl (.int .i64)) .unit)))) (.cons .bool .unit))))) (.cons (.cons (.int .i64) (.cons (.int .i64) (.cons .str (.cons (.int .i64) (.cons (.cons (.cons (.int .i64) (.cons (.int .i64) (.cons (.int .i64) (.cons (.int .i64) (.cons (.int .i64) (.cons (.int .i64) (.cons (.int .i64) (.cons (.int .i64) (.cons (.int .i64) .unit))))))))) (.cons (.sl (.cons (.int .i64) (.cons (.int .i64) .unit))) (.cons (.sl (.int .i64)) (.cons (.sl (.int .i64)) (.cons (.cons (.int .i64) (.cons .bool (.cons (.int .i64) .unit))) (.cons (.sl (.cons (.cons (.int .i8) (.cons (.arr 8 (.int .u16)) (.cons (.int .i64) .unit))) (.cons (.int .i64) .unit))) (.cons .bool .unit))))))) .unit))))) (.cons (.cons (.int .i64) (.cons (.int .i64) (.cons (.int .i8) (.cons (.int .i64) (.cons (.int .i64) (.cons (.sl (.int .i64)) (.cons (.int .i8) (.cons (.int .i64) (.cons (.cons (.int .i64) (.cons (.int .i64) (.cons (.int .i64) .unit))) .unit))))))))) (.cons (.cons (.int .i64) (.cons (.int .i64) (.cons (.int .i64) (.cons (.cons (.int .i64) (.cons (.int .i64) (.cons (.int .i64) (.cons (.int .i64) (.cons (.int .i64) (.cons (.int .i64) (.cons (.int .i64) (.cons (.int .i64) (.cons (.int .i64) .unit))))))))) (.cons .str (.cons (.int .i64) (.cons (.sl (.cons (.cons (.int .i8) (.cons (.arr 8 (.int .u16)) (.cons (.int .i64) .unit))) (.cons (.int .i64) .unit))) (.cons (.int .i8) (.cons (.cons (.sl (.cons (.int .i8) (.cons (.arr 8 (.int .u16)) (.cons (.int .i64) .unit)))) (.cons (.int .i64) (.cons (.int .i64) (.cons (.sl (.int .i64)) (.cons (.int .i64) (.cons .bool .unit)))))) .unit))))))))) (.cons (.cons (.int .i64) (.cons (.int .i64) (.cons (.int .i64) (.cons (.int .i64) (.cons (.cons (.int .i8) (.cons (.arr 8 (.int .u16)) (.cons (.int .i64) .unit))) (.cons (.int .i8) (.cons (.int .i64) .unit))))))) (.cons (.cons (.int .i64) (.cons (.int .i64) (.cons .str (.cons (.int .i8) (.cons (.cons (.int .i8) (.cons (.int .i64) (.cons (.int .i64) (.cons (.int .i64) (.cons .str (.cons (.int .i64) .unit)))))) .unit))))) .unit)))))))) .unit))))))⟩),
  (57, ⟨1, 8, [.nilFunc], .fn, some .fp⟩),
  (58, ⟨1, 8, [.nilFunc], .fn, some .fp⟩),
  (59, ⟨1, 8, [.nilFunc], .fn, some .fp⟩),
  (60, ⟨1, 8, [.nilFunc], .fn, some .fp⟩),
  (61, ⟨1, 8, [.nilFunc], .fn, some .fp⟩),
  (62, ⟨1, 8, [.nilFunc], .fn, some .fp⟩),
  (63, ⟨1, 2, [.int .u16 0], .int .u16, some (.int .u16)⟩),
  (64, ⟨8, 16, [.int .u16 0, .int .u16 0, .int .u16 0, .int .u16 0, .int .u16 0, .int .u16 0, .int .u16 0, .int .u16 0], .arr 8 63, some (.arr 8 (.int .u16))⟩),
  (65, ⟨10, 32, [.int .i8 0, .int .u16 0, .int .u16 0, .int .u16 0, .int .u16 0, .int .u16 0, .int .u16 0, .int .u16 0, .int .u16 0, .int .i64 0], .st [(0, 47), (1, 64), (9, 3)], some (.cons (.int .i8) (.cons (.arr 8 (.int .u16)) (.cons (.int .i64) .unit)))⟩),
  (66, ⟨10, 32, [.int .i8 0, .int .u16 0, .int .u16 0, .int .u16 0, .int .u16 0, .int .u16 0, .int .u16 0, .int .u16 0, .int .u16 0, .int .i64 0], .st [(0, 47), (1, 64), (9, 3)], some (.cons (.int .i8) (.cons (.arr 8 (.int .u16)) (.cons (.int .i64) .unit)))⟩),
  (67, ⟨1, 8, [.pointer none], .ptr 93, some (.ptr (.cons (.int .i8) (.cons (.cons (.int .i64) (.cons (.cons (.int .i64) (.cons (.int .i64) (.cons (.int .i64) (.cons (.int .i64) (.cons (.int .i64) (.cons (.int .i64) (.cons (.int .i64) (.cons (.int .i64) (.cons (.int .i64) .unit))))))))) (.cons (.sl (.cons .str (.cons .str (.cons (.int .i64) (.cons (.int .i64) .unit))))) (.cons (.sl (.cons .str (.cons (.int .i64) (.cons (.sl (.int .i64)) .unit)))) (.cons .bool .unit))))) (.cons (.cons (.int .i64) (.cons (.int .i64) (.cons .str (.cons (.int .i64) (.cons (.cons (.cons (.int .i64) (.cons (.int .i64) (.cons (.int .i64) (.cons (.int .i64) (.cons (.int .i64) (.cons (.int .i64) (.cons (.int .i64) (.cons (.int .i64) (.cons (.int .i64) .unit))))))))) (.cons (.sl (.cons (.int .i64) (.cons (.int .i64) .unit))) (.cons (.sl (.int .i64)) (.cons (.sl (.int .i64)) (.cons (.cons (.int .i64) (.cons .bool (.cons (.int .i64) .unit))) (.cons (.sl (.cons (.cons (.int .i8) (.cons (.arr 8 (.int .u16)) (.cons (.int .i64) .unit))) (.cons (.int .i64) .unit))) (.cons .bool .unit))))))) .unit))))) (.cons (.cons (.int .i64) (.cons (.int .i64) (.cons (.int .i8) (.cons (.int .i64) (.cons (.int .i64) (.cons (.sl (.int .i64)) (.cons (.int .i8) (.cons (.int .i64) (.cons (.cons (.int .i64) (.cons (.int .i64) (.cons (.int .i64) .unit))) .unit))))))))) (.cons (.cons (.int .i64) (.cons (.int .i64) (.cons (.int .i64) (.cons (.cons (.int .i64) (.cons (.int .i64) (.cons (.int .i64) (.cons (.int .i64) (.cons (.int .i64) (.cons (.int .i64) (.cons (.int .i64) (.cons (.int .i64) (.cons (.int .i64) .unit))))))))) (.cons .str (.cons (.int .i64) (.cons (.sl (.cons (.cons (.int .i8) (.cons (.arr 8 (.int .u16)) (.cons (.int .i64) .unit))) (.cons (.int .i64) .unit))) (.cons (.int .i8) (.cons (.cons (.sl (.cons (.int .i8) (.cons (.arr 8 (.int .u16)) (.cons (.int .i64) .unit)))) (.cons (.int .i64) (.cons (.int .i64) (.cons (.sl (.int .i64)) (.cons (.int .i64) (.cons .bool .unit)))))) .unit))))))))) (.cons (.cons (.int .i64) (.cons (.int .i64) (.cons (.int .i64) (.cons (.int .i64) (.cons (.cons (.int .i8) (.cons (.arr 8 (.int .u16)) (.cons (.int .i64) .unit))) (.cons (.int .i8) (.cons (.int .i64) .unit))))))) (.cons (.cons (.int .i64) (.cons (.int .i64) (.cons .str (.cons (.int .i8) (.cons (.cons (.int .i8) (.cons (.int .i64) (.cons (.int .i64) (.cons (.int .i64) (.cons .str (.cons (.int .i64) .unit)))))) .unit))))) .unit))))))))⟩),
  (68, ⟨19, 112, [.int .i8 0, .int .i64 0, .int .i8 0, .int .i64 0, .int .i64 0, .int .i64 0, .string ⟨#[]⟩, .int .i64 0, .int .i8 0, .int .u16 0, .int .u16 0, .int .u16 0, .int .u16 0, .int .u16 0, .int .u16 0, .int .u16 0, .int .u16 0, .int .i64 0, .pointer none], .st [(0, 47), (1, 3), (2, 49), (8, 66), (18, 67)], some (.cons (.int .i8) (.cons (.int .i64) (.cons (.cons (.int .i8) (.cons (.int .i64) (.cons (.int .i64) (.cons (.int .i64) (.cons .str (.cons (.int .i64) .unit)))))) (.cons (.cons (.int .i8) (.cons (.arr 8 (.int .u16)) (.cons (.int .i64) .unit))) (.cons (.ptr (.cons (.int .i8) (.cons (.cons (.int .i64) (.cons (.cons (.int .i64) (.cons (.int .i64) (.cons (.int .i64) (.cons (.int .i64) (.cons (.int .i64) (.cons (.int .i64) (.cons (.int .i64) (.cons (.int .i64) (.cons (.int .i64) .unit))))))))) (.cons (.sl (.cons .str (.cons .str (.cons (.int .i64) (.cons (.int .i64) .unit))))) (.cons (.sl (.cons .str (.cons (.int .i64) (.cons (.sl (.int .i64)) .unit)))) (.cons .bool .unit))))) (.cons (.cons (.int .i64) (.cons (.int .i64) (.cons .str (.cons (.int .i64) (.cons (.cons (.cons (.int .i64) (.cons (.int .i64) (.cons (.int .i64) (.cons (.int .i64) (.cons (.int .i64) (.cons (.int .i64) (.cons (.int .i64) (.cons (.int .i64) (.cons (.int .i64) .unit))))))))) (.cons (.sl (.cons (.int .i64) (.cons (.int .i64) .unit))) (.cons (.sl (.int .i64)) (.cons (.sl (.int .i64)) (.cons (.cons (.int .i64) (.cons .bool (.cons (.int .i64) .unit))) (.cons (.sl (.cons (.cons (.int .i8) (.cons (.arr 8 (.int .u16)) (.cons (.int .i64) .unit))) (.cons (.int .i64) .unit))) (.cons .bool .unit))))))) .unit))))) (.cons (.cons (.int .i64) (.cons (.int .i64) (.cons (.int .i8) (.cons (.int .i64) (.cons (.int .i64) (.cons (.sl (.int .i64)) (.cons (.int .i8) (.cons (.int .i64) (.cons (.cons (.int .i64) (.cons (.int .i64) (.cons (.int .i64) .unit))) .unit))))))))) (.cons (.cons (.int .i64) (.cons (.int .i64) (.cons (.int .i64) (.cons (.cons (.int .i64) (.cons (.int .i64) (.cons (.int .i64) (.cons (.int .i64) (.cons (.int .i64) (.cons (.int .i64) (.cons (.int .i64) (.cons (.int .i64) (.cons (.int .i64) .unit))))))))) (.cons .str (.cons (.int .i64) (.cons (.sl (.cons (.cons (.int .i8) (.cons (.arr 8 (.int .u16)) (.cons (.int .i64) .unit))) (.cons (.int .i64) .unit))) (.cons (.int .i8) (.cons (.cons (.sl (.cons (.int .i8) (.cons (.arr 8 (.int .u16)) (.cons (.int .i64) .unit)))) (.cons (.int .i64) (.cons (.int .i64) (.cons (.sl (.int .i64)) (.cons (.int .i64) (.cons .bool .unit)))))) .unit))))))))) (.cons (.cons (.int .i64) (.cons (.int .i64) (.cons (.int .i64) (.cons (.int .i64) (.cons (.cons (.int .i8) (.cons (.arr 8 (.int .u16)) (.cons (.int .i64) .unit))) (.cons (.int .i8) (.cons (.int .i64) .unit))))))) (.cons (.cons (.int .i64) (.cons (.int .i64) (.cons .str (.cons (.int .i8) (.cons (.cons (.int .i8) (.cons (.int .i64) (.cons (.int .i64) (.cons (.int .i64) (.cons .str (.cons (.int .i64) .unit)))))) .unit))))) .unit)))))))) .unit)))))⟩),
  (69, ⟨19, 112, [.int .i8 0, .int .i64 0, .int .i8 0, .int .i64 0, .int .i64 0, .int .i64 0, .string ⟨#[]⟩, .int .i64 0, .int .i8 0, .int .u16 0, .int .u16 0, .int .u16 0, .int .u16 0, .int .u16 0, .int .u16 0, .int .u16 0, .int .u16 0, .int .i64 0, .pointer none], .st [(0, 47), (1, 3), (2, 49), (8, 66), (18, 67)], some (.cons (.int .i8) (.cons (.int .i64) (.cons (.cons (.int .i8) (.cons (.int .i64) (.cons (.int .i64) (.cons (.int .i64) (.cons .str (.cons (.int .i64) .unit)))))) (.cons (.cons (.int .i8) (.cons (.arr 8 (.int .u16)) (.cons (.int .i64) .unit))) (.cons (.ptr (.cons (.int .i8) (.cons (.cons (.int .i64) (.cons (.cons (.int .i64) (.cons (.int .i64) (.cons (.int .i64) (.cons (.int .i64) (.cons (.int .i64) (.cons (.int .i64) (.cons (.int .i64) (.cons (.int .i64) (.cons (.int .i64) .unit))))))))) (.cons (.sl (.cons .str (.cons .str (.cons (.int .i64) (.cons (.int .i64) .unit))))) (.cons (.sl (.cons .str (.cons (.int .i64) (.cons (.sl (.int .i64)) .unit)))) (.cons .bool .unit))))) (.cons (.cons (.int .i64) (.cons (.int .i64) (.cons .str (.cons (.int .i64) (.cons (.cons (.cons (.int .i64) (.cons (.int .i64) (.cons (.int .i64) (.cons (.int .i64) (.cons (.int .i64) (.cons (.int .i64) (.cons (.int .i64) (.cons (.int .i64) (.cons (.int .i64) .unit))))))))) (.cons (.sl (.cons (.int .i64) (.cons (.int .i64) .unit))) (.cons (.sl (.int .i64)) (.cons (.sl (.int .i64)) (.cons (.cons (.int .i64) (.cons .bool (.cons (.int .i64) .unit))) (.cons (.sl (.cons (.cons (.int .i8) (.cons (.arr 8 (.int .u16)) (.cons (.int .i64) .unit))) (.cons (.int .i64) .unit))) (.cons .bool .unit))))))) .unit))))) (.cons (.cons (.int .i64) (.cons (.int .i64) (.cons (.int .i8) (.cons (.int .i64) (.cons (.int .i64) (.cons (.sl (.int .i64)) (.cons (.int .i8) (.cons (.int .i64) (.cons (.cons (.int .i64) (.cons (.int .i64) (.cons (.int .i64) .unit))) .unit))))))))) (.cons (.cons (.int .i64) (.cons (.int .i64) (.cons (.int .i64) (.cons (.cons (.int .i64) (.cons (.int .i64) (.cons (.int .i64) (.cons (.int .i64) (.cons (.int .i64) (.cons (.int .i64) (.cons (.int .i64) (.cons (.int .i64) (.cons (.int .i64) .unit))))))))) (.cons .str (.cons (.int .i64) (.cons (.sl (.cons (.cons (.int .i8) (.cons (.arr 8 (.int .u16)) (.cons (.int .i64) .unit))) (.cons (.int .i64) .unit))) (.cons (.int .i8) (.cons (.cons (.sl (.cons (.int .i8) (.cons (.arr 8 (.int .u16)) (.cons (.int .i64) .unit)))) (.cons (.int .i64) (.cons (.int .i64) (.cons (.sl (.int .i64)) (.cons (.int .i64) (.cons .bool .unit)))))) .unit))))))))) (.cons (.cons (.int .i64) (.cons (.int .i64) (.cons (.int .i64) (.cons (.int .i64) (.cons (.cons (.int .i8) (.cons (.arr 8 (.int .u16)) (.cons (.int .i64) .unit))) (.cons (.int .i8) (.cons (.int .i64) .unit))))))) (.cons (.cons (.int .i64) (.cons (.int .i64) (.cons .str (.cons (.int .i8) (.cons (.cons (.int .i8) (.cons (.int .i64) (.cons (.int .i64) (.cons (.int .i64) (.cons .str (.cons (.int .i64) .unit)))))) .unit))))) .unit)))))))) .unit)))))⟩),
  (70, ⟨1, 8, [.nilFunc], .fn, some .fp⟩),
  (71, ⟨2, 16, [.int .i64 0, .int .i64 0], .st [(0, 3), (1, 3)], some (.cons (.int .i64) (.cons (.int .i64) .unit))⟩),
  (72, ⟨2, 16, [.int .i64 0, .int .i64 0], .st [(0, 3), (1, 3)], some (.cons (.int .i64) (.cons (.int .i64) .unit))⟩),
  (73, ⟨1, 8, [.nilFunc], .fn, some .fp⟩),
  (74, ⟨1, 8, [.nilFunc], .fn, some .fp⟩),
  (75, ⟨1, 24, [.slice none 0 0], .sl 66, some (.sl (.cons (.int .i8) (.cons (.arr 8 (.int .u16)) (.cons (.int .i64) .unit))))⟩),
  (76, ⟨6, 80, [.slice none 0 0, .int .i64 0, .int .i64 0, .slice none 0 0, .int .i64 0, .bool false], .st [(0, 75), (1, 3), (2, 3), (3, 27), (4, 3), (5, 4)], some (.cons (.sl (.cons (.int .i8) (.cons (.arr 8 (.int .u16)) (.cons (.int .i64) .unit)))) (.cons (.int .i64) (.cons (.int .i64) (.cons (.sl (.int .i64)) (.cons (.int .i64) (.cons .bool .unit))))))⟩),
  (77, ⟨6, 80, [.slice none 0 0, .int .i64 0, .int .i64 0, .slice none 0 0, .int .i64 0, .bool false], .st [(0, 75), (1, 3), (2, 3), (3, 27), (4, 3), (5, 4)], some (.cons (.sl (.cons (.int .i8) (.cons (.arr 8 (.int .u16)) (.cons (.int .i64) .unit)))) (.cons (.int .i64) (.cons (.int .i64) (.cons (.sl (.int .i64)) (.cons (.int .i64) (.cons .bool .unit))))))⟩),
  (78, ⟨22, 232, [.int .i64 0, .int .i64 0, .int .i64 0, .int .i64 0, .int .i64 0, .int .i64 0, .int .i64 0, .int .i64 0, .int .i64 0, .int .i64 0, .int .i64 0, .int .i64 0, .string ⟨#[]⟩, .int .i64 0, .slice none 0 0, .int .i8 0, .slice none 0 0, .int .i64 0, .int .i64 0, .slice none 0 0, .int .i64 0, .bool false], .st [(0, 3), (1, 3), (2, 3), (3, 23), (12, 9), (13, 3), (14, 30), (15, 47), (16, 77)], some (.cons (.int .i64) (.cons (.int .i64) (.cons (.int .i64) (.cons (.cons (.int .i64) (.cons (.int .i64) (.cons (.int .i64) (.cons (.int .i64) (.cons (.int .i64) (.cons (.int .i64) (.cons (.int .i64) (.cons (.int .i64) (.cons (.int .i64) .unit))))))))) (.cons .str (.cons (.int .i64) (.cons (.sl (.cons (.cons (.int .i8) (.cons (.arr 8 (.int .u16)) (.cons (.int .i64) .unit))) (.cons (.int .i64) .unit))) (.cons (.int .i8) (.cons (.cons (.sl (.cons (.int .i8) (.cons (.arr 8 (.int .u16)) (.cons (.int .i64) .unit)))) (.cons (.int .i64) (.cons (.int .i64) (.cons (.sl (.int .i64)) (.cons (.int .i64) (.cons .bool .unit)))))) .unit)))))))))⟩),
  (79, ⟨22, 232, [.int .i64 0, .int .i64 0, .int .i64 0, .int .i64 0, .int .i64 0, .int .i64 0, .int .i64 0, .int .i64 0, .int .i64 0, .int .i64 0, .int .i64 0, .int .i64 0, .string ⟨#[]⟩, .int .i64 0, .slice none 0 0, .int .i8 0, .slice none 0 0, .int .i64 0, .int .i64 0, .slice none 0 0, .int .i64 0, .bool false], .st [(0, 3), (1, 3), (2, 3), (3, 23), (12, 9), (13, 3), (14, 30), (15, 47), (16, 77)], some (.cons (.int .i64) (.cons (.int .i64) (.cons (.int .i64) (.cons (.cons (.int .i64) (.cons (.int .i64) (.cons (.int .i64) (.cons (.int .i64) (.cons (.int .i64) (.cons (.int .i64) (.cons (.int .i64) (.cons (.int .i64) (.cons (.int .i64) .unit))))))))) (.cons .str (.cons (.int .i64) (.cons (.sl (.cons (.cons (.int .i8) (.cons (.arr 8 (.int .u16)) (.cons (.int .i64) .unit))) (.cons (.int .i64) .unit))) (.cons (.int .i8) (.cons (.cons (.sl (.cons (.int .i8) (.cons (.arr 8 (.int .u16)) (.cons (.int .i64) .unit)))) (.cons (.int .i64) (.cons (.int .i64) (.cons (.sl (.int .i64)) (.cons (.int .i64) (.cons .bool .unit)))))) .unit)))))))))⟩),
  (80, ⟨1, 24, [.slice none 0 0], .sl 236, some (.sl (.cons .str (.cons .str (.cons (.int .i64) (.cons (.int .i64) .unit)))))⟩),
  (81, ⟨1, 24, [.slice none 0 0], .sl 238, some (.sl (.cons .str (.cons (.int .i64) (.cons (.sl (.int .i64)) .unit))))⟩),
  (82, ⟨13, 136, [.int .i64 0, .int .i64 0, .int .i64 0, .int .i64 0, .int .i64 0, .int .i64 0, .int .i64 0, .int .i64 0, .int .i64 0, .int .i64 0, .slice none 0 0, .slice none 0 0, .bool false], .st [(0, 3), (1, 23), (10, 80), (11, 81), (12, 4)], some (.cons (.int .i64) (.cons (.cons (.int .i64) (.cons (.int .i64) (.cons (.int .i64) (.cons (.int .i64) (.cons (.int .i64) (.cons (.int .i64) (.cons (.int .i64) (.cons (.int .i64) (.cons (.int .i64) .unit))))))))) (.cons (.sl (.cons .str (.cons .str (.cons (.int .i64) (.cons (.int .i64) .unit))))) (.cons (.sl (.cons .str (.cons (.int .i64) (.cons (.sl (.int .i64)) .unit)))) (.cons .bool .unit)))))⟩),
  (83, ⟨13, 136, [.int .i64 0, .int .i64 0, .int .i64 0, .int .i64 0, .int .i64 0, .int .i64 0, .int .i64 0, .int .i64 0, .int .i64 0, .int .i64 0, .slice none 0 0, .slice none 0 0, .bool false], .st [(0, 3), (1, 23), (10, 80), (11, 81), (12, 4)], some (.cons (.int .i64) (.cons (.cons (.int .i64) (.cons (.int .i64) (.cons (.int .i64) (.cons (.int .i64) (.cons (.int .i64) (.cons (.int .i64) (.cons (.int .i64) (.cons (.int .i64) (.cons (.int .i64) .unit))))))))) (.cons (.sl (.cons .str (.cons .str (.cons (.int .i64) (.cons (.int .i64) .unit))))) (.cons (.sl (.cons .str (.cons (.int .i64) (.cons (.sl (.int .i64)) .unit)))) (.cons .bool .unit)))))⟩),
  (84, ⟨3, 24, [.int .i64 0, .int .i64 0, .int .i64 0], .st [(0, 3), (1, 3), (2, 41)], some (.cons (.int .i64) (.cons (.int .i64) (.cons (.int .i64) .unit)))⟩),
  (85, ⟨3, 24, [.int .i64 0, .int .i64 0, .int .i64 0], .st [(0, 3), (1, 3), (2, 41)], some (.cons (.int .i64) (.cons (.int .i64) (.cons (.int .i64) .unit)))⟩),
  (86, ⟨11, 104, [.int .i64 0, .int .i64 0, .int .i8 0, .int .i64 0, .int .i64 0, .slice none 0 0, .int .i8 0, .int .i64 0, .int .i64 0, .int .i64 0, .int .i64 0], .st [(0, 3), (1, 3), (2, 47), (3, 3), (4, 3), (5, 27), (6, 47), (7, 3), (8, 85)], some (.cons (.int .i64) (.cons (.int .i64) (.cons (.int .i8) (.cons (.int .i64) (.cons (.int .i64) (.cons (.sl (.int .i64)) (.cons (.int .i8) (.cons (.int .i64) (.cons (.cons (.int .i64) (.cons (.int .i64) (.cons (.int .i64) .unit))) .unit)))))))))⟩),
  (87, ⟨11, 104, [.int .i64 0, .int .i64 0, .int .i8 0, .int .i64 0, .int .i64 0, .slice none 0 0, .int .i8 0, .int .i64 0, .int .i64 0, .int .i64 0, .int .i64 0], .st [(0, 3), (1, 3), (2, 47), (3, 3), (4, 3), (5, 27), (6, 47), (7, 3), (8, 85)], some (.cons (.int .i64) (.cons (.int .i64) (.cons (.int .i8) (.cons (.int .i64) (.cons (.int .i64) (.cons (.sl (.int .i64)) (.cons (.int .i8) (.cons (.int .i64) (.cons (.cons (.int .i64) (.cons (.int .i64) (.cons (.int .i64) .unit))) .unit)))))))))⟩),
  (88, ⟨16, 80, [.int .i64 0, .int .i64 0, .int .i64 0, .int .i64 0, .int .i8 0, .int .u16 0, .int .u16 0, .int .u16 0, .int .u16 0, .int .u16 0, .int .u16 0, .int .u16 0, .int .u16 0, .int .i64 0, .int .i8 0, .int .i64 0], .st [(0, 3), (1, 3), (2, 3), (3, 3), (4, 66), (14, 47), (15, 3)], some (.cons (.int .i64) (.cons (.int .i64) (.cons (.int .i64) (.cons (.int .i64) (.cons (.cons (.int .i8) (.cons (.arr 8 (.int .u16)) (.cons (.int .i64) .unit))) (.cons (.int .i8) (.cons (.int .i64) .unit)))))))⟩),
  (89, ⟨16, 80, [.int .i64 0, .int .i64 0, .int .i64 0, .int .i64 0, .int .i8 0, .int .u16 0, .int .u16 0, .int .u16 0, .int .u16 0, .int .u16 0, .int .u16 0, .int .u16 0, .int .u16 0, .int .i64 0, .int .i8 0, .int .i64 0], .st [(0, 3), (1, 3), (2, 3), (3, 3), (4, 66), (14, 47), (15, 3)], some (.cons (.int .i64) (.cons (.int .i64) (.cons (.int .i64) (.cons (.int .i64) (.cons (.cons (.int .i8) (.cons (.arr 8 (.int .u16)) (.cons (.int .i64) .unit))) (.cons (.int .i8) (.cons (.int .i64) .unit)))))))⟩),
  (90, ⟨10, 96, [.int .i64 0, .int .i64 0, .string ⟨#[]⟩, .int .i8 0, .int .i8 0, .int .i64 0, .int .i64 0, .int .i64 0, .string ⟨#[]⟩, .int .i64 0], .st [(0, 3), (1, 3), (2, 9), (3, 47), (4, 49)], some (.cons (.int .i64) (.cons (.int .i64) (.cons .str (.cons (.int .i8) (.cons (.cons (.int .i8) (.cons (.int .i64) (.cons (.int .i64) (.cons (.int .i64) (.cons .str (.cons (.int .i64) .unit)))))) .unit)))))⟩),
  (91, ⟨10, 96, [.int .i64 0, .int .i64 0, .string ⟨#[]⟩, .int .i8 0, .int .i8 0, .int .i64 0, .int .i64 0, .int .i64 0, .string ⟨#[]⟩, .int .i64 0], .st [(0, 3), (1, 3), (2, 9), (3, 47), (4, 49)], some (.cons (.int .i64) (.cons (.int .i64) (.cons .str (.cons (.int .i8) (.cons (.cons (.int .i8) (.cons (.int .i64) (.cons (.int .i64) (.cons (.int .i64) (.cons .str (.cons (.int .i64) .unit)))))) .unit)))))⟩),
  (92, ⟨94, 896, [.int .i8 0, .int .i64 0, .int .i64 0, .int .i64 0, .int .i64 0, .int .i64 0, .int .i64 0, .int .i64 0, .int .i64 0, .int .i64 0, .int .i64 0, .slice none 0 0, .slice none 0 0, .bool false, .int .i64 0, .int .i64 0, .string ⟨#[]⟩, .int .i64 0, .int .i64 0, .int .i64 0, .int .i64 0, .int .i64 0, .int .i64 0, .int .i64 0, .int .i64 0, .int .i64 0, .int .i64 0, .slice none 0 0, .slice none 0 0, .slice none 0 0, .int .i64 0, .bool false, .int .i64 0, .slice none 0 0, .bool false, .int .i64 0, .int .i64 0, .int .i8 0, .int .i64 0, .int .i64 0, .slice none 0 0, .int .i8 0, .int .i64 0, .int .i64 0, .int .i64 0, .int .i64 0, .int .i64 0, .int .i64 0, .int .i64 0, .int .i64 0, .int .i64 0, .int .i64 0, .int .i64 0, .int .i64 0, .int .i64 0, .int .i64 0, .int .i64 0, .int .i64 0, .string ⟨#[]⟩, .int .i64 0, .slice none 0 0, .int .i8 0, .slice none 0 0, .int .i64 0, .int .i64 0, .slice none 0 0, .int .i64 0, .bool false, .int .i64 0, .int .i64 0, .int .i64 0, .int .i64 0, .int .i8 0, .int .u16 0, .int .u16 0, .int .u16 0, .int .u16 0, .int .u16 0, .int .u16 0, .int .u16 0, .int .u16 0, .int .i64 0, .int .i8 0, .int .i64 0, .int .i64 0, .int .i64 0, .string ⟨#[]⟩, .int .i8 0, .int .i8 0, .int .i64 0, .int .i64 0, .int .i64 0, .string ⟨#[]⟩, .int .i64 0], .st [(0, 47), (1, 83), (14, 34), (35, 87), (46, 79), (68, 89), (84, 91)], some (.cons (.int .i8) (.cons (.cons (.int .i64) (.cons (.cons (.int .i64) (.cons (.int .i64) (.cons (.int .i64) (.cons (.int .i64) (.cons (.int .i64) (.cons (.int .i64) (.cons (.int .i64) (.cons (.int .i64) (.cons (.int .i64) .unit))))))))) (.cons (.sl (.cons .str (.cons .str (.cons (.int .i64) (.cons (.int .i64) .unit))))) (.cons (.sl (.cons .str (.cons (.int .i64) (.cons (.sl (.int .i64)) .unit)))) (.cons .bool .unit))))) (.cons (.cons (.int .i64) (.cons (.int .i64) (.cons .str (.cons (.int .i64) (.cons (.cons (.cons (.int .i64) (.cons (.int .i64) (.cons (.int .i64) (.cons (.int .i64) (.cons (.int .i64) (.cons (.int .i64) (.cons (.int .i64) (.cons (.int .i64) (.cons (.int .i64) .unit))))))))) (.cons (.sl (.cons (.int .i64) (.cons (.int .i64) .unit))) (.cons (.sl (.int .i64)) (.cons (.sl (.int .i64)) (.cons (.cons (.int .i64) (.cons .bool (.cons (.int .i64) .unit))) (.cons (.sl (.cons (.cons (.int .i8) (.cons (.arr 8 (.int .u16)) (.cons (.int .i64) .unit))) (.cons (.int .i64) .unit))) (.cons .bool .unit))))))) .unit))))) (.cons (.cons (.int .i64) (.cons (.int .i64) (.cons (.int .i8) (.cons (.int .i64) (.cons (.int .i64) (.cons (.sl (.int .i64)) (.cons (.int .i8) (.cons (.int .i64) (.cons (.cons (.int .i64) (.cons (.int .i64) (.cons (.int .i64) .unit))) .unit))))))))) (.cons (.cons (.int .i64) (.cons (.int .i64) (.cons (.int .i64) (.cons (.cons (.int .i64) (.cons (.int .i64) (.cons (.int .i64) (.cons (.int .i64) (.cons (.int .i64) (.cons (.int .i64) (.cons (.int .i64) (.cons (.int .i64) (.cons (.int .i64) .unit))))))))) (.cons .str (.cons (.int .i64) (.cons (.sl (.cons (.cons (.int .i8) (.cons (.arr 8 (.int .u16)) (.cons (.int .i64) .unit))) (.cons (.int .i64) .unit))) (.cons (.int .i8) (.cons (.cons (.sl (.cons (.int .i8) (.cons (.arr 8 (.int .u16)) (.cons (.int .i64) .unit)))) (.cons (.int .i64) (.cons (.int .i64) (.cons (.sl (.int .i64)) (.cons (.int .i64) (.cons .bool .unit)))))) .unit))))))))) (.cons (.cons (.int .i64) (.cons (.int .i64) (.cons (.int .i64) (.cons (.int .i64) (.cons (.cons (.int .i8) (.cons (.arr 8 (.int .u16)) (.cons (.int .i64) .unit))) (.cons (.int .i8) (.cons (.int .i64) .unit))))))) (.cons (.cons (.int .i64) (.cons (.int .i64) (.cons .str (.cons (.int .i8) (.cons (.cons (.int .i8) (.cons (.int .i64) (.cons (.int .i64) (.cons (.int .i64) (.cons .str (.cons (.int .i64) .unit)))))) .unit))))) .unit)))))))⟩),
  (93, ⟨94, 896, [.int .i8 0, .int .i64 0, .int .i64 0, .int .i64 0, .int .i64 0, .int .i64 0, .int .i64 0, .int .i64 0, .int .i64 0, .int .i64 0, .int .i64 0, .slice none 0 0, .slice none 0 0, .bool false, .int .i64 0, .int .i64 0, .string ⟨#[]⟩, .int .i64 0, .int .i64 0, .int .i64 0, .int .i64 0, .int .i64 0, .int .i64 0, .int .i64 0, .int .i64 0, .int .i64 0, .int .i64 0, .slice none 0 0, .slice none 0 0, .slice none 0 0, .int .i64 0, .bool false, .int .i64 0, .slice none 0 0, .bool false, .int .i64 0, .int .i64 0, .int .i8 0, .int .i64 0, .int .i64 0, .slice none 0 0, .int .i8 0, .int .i64 0, .int .i64 0, .int .i64 0, .int .i64 0, .int .i64 0, .int .i64 0, .int .i64 0, .int .i64 0, .int .i64 0, .int .i64 0, .int .i64 0, .int .i64 0, .int .i64 0, .int .i64 0, .int .i64 0, .int .i64 0, .string ⟨#[]⟩, .int .i64 0, .slice none 0 0, .int .i8 0, .slice none 0 0, .int .i64 0, .int .i64 0, .slice none 0 0, .int .i64 0, .bool false, .int .i64 0, .int .i64 0, .int .i64 0, .int .i64 0, .int .i8 0, .int .u16 0, .int .u16 0, .int .u16 0, .int .u16 0, .int .u16 0, .int .u16 0, .int .u16 0, .int .u16 0, .int .i64 0, .int .i8 0, .int .i64 0, .int .i64 0, .int .i64 0, .string ⟨#[]⟩, .int .i8 0, .int .i8 0, .int .i64 0, .int .i64 0, .int .i64 0, .string ⟨#[]⟩, .int .i64 0], .st [(0, 47), (1, 83), (14, 34), (35, 87), (46, 79), (68, 89), (84, 91)], some (.cons (.int .i8) (.cons (.cons (.int .i64) (.cons (.cons (.int .i64) (.cons (.int .i64) (.cons (.int .i64) (.cons (.int .i64) (.cons (.int .i64) (.cons (.int .i64) (.cons (.int .i64) (.cons (.int .i64) (.cons (.int .i64) .unit))))))))) (.cons (.sl (.cons .str (.cons .str (.cons (.int .i64) (.cons (.int .i64) .unit))))) (.cons (.sl (.cons .str (.cons (.int .i64) (.cons (.sl (.int .i64)) .unit)))) (.cons .bool .unit))))) (.cons (.cons (.int .i64) (.cons (.int .i64) (.cons .str (.cons (.int .i64) (.cons (.cons (.cons (.int .i64) (.cons (.int .i64) (.cons (.int .i64) (.cons (.int .i64) (.cons (.int .i64) (.cons (.int .i64) (.cons (.int .i64) (.cons (.int .i64) (.cons (.int .i64) .unit))))))))) (.cons (.sl (.cons (.int .i64) (.cons (.int .i64) .unit))) (.cons (.sl (.int .i64)) (.cons (.sl (.int .i64)) (.cons (.cons (.int .i64) (.cons .bool (.cons (.int .i64) .unit))) (.cons (.sl (.cons (.cons (.int .i8) (.cons (.arr 8 (.int .u16)) (.cons (.int .i64) .unit))) (.cons (.int .i64) .unit))) (.cons .bool .unit))))))) .unit))))) (.cons (.cons (.int .i64) (.cons (.int .i64) (.cons (.int .i8) (.cons (.int .i64) (.cons (.int .i64) (.cons (.sl (.int .i64)) (.cons (.int .i8) (.cons (.int .i64) (.cons (.cons (.int .i64) (.cons (.int .i64) (.cons (.int .i64) .unit))) .unit))))))))) (.cons (.cons (.int .i64) (.cons (.int .i64) (.cons (.int .i64) (.cons (.cons (.int .i64) (.cons (.int .i64) (.cons (.int .i64) (.cons (.int .i64) (.cons (.int .i64) (.cons (.int .i64) (.cons (.int .i64) (.cons (.int .i64) (.cons (.int .i64) .unit))))))))) (.cons .str (.cons (.int .i64) (.cons (.sl (.cons (.cons (.int .i8) (.cons (.arr 8 (.int .u16)) (.cons (.int .i64) .unit))) (.cons (.int .i64) .unit))) (.cons (.int .i8) (.cons (.cons (.sl (.cons (.int .i8) (.cons (.arr 8 (.int .u16)) (.cons (.int .i64) .unit)))) (.cons (.int .i64) (.cons (.int .i64) (.cons (.sl (.int .i64)) (.cons (.int .i64) (.cons .bool .unit)))))) .unit))))))))) (.cons (.cons (.int .i64) (.cons (.int .i64) (.cons (.int .i64) (.cons (.int .i64) (.cons (.cons (.int .i8) (.cons (.arr 8 (.int .u16)) (.cons (.int .i64) .unit))) (.cons (.int .i8) (.cons (.int .i64) .unit))))))) (.cons (.cons (.int .i64) (.cons (.int .i64) (.cons .str (.cons (.int .i8) (.cons (.cons (.int .i8) (.cons (.int .i64) (.cons (.int .i64) (.cons (.int .i64) (.cons .str (.cons (.int .i64) .unit)))))) .unit))))) .unit)))))))⟩),
  (94, ⟨1, 8, [.nilFunc], .fn, some .fp⟩),
  (95, ⟨1, 24, [.slice none 0 0], .sl 102, some (.sl (.cons (.cons (.int .i8) (.cons (.int .i64) (.cons (.cons (.int .i8) (.cons (.int .i64) (.cons (.int .i64) (.cons (.int .i64) (.cons .str (.cons (.int .i64) .unit)))))) (.cons (.int .i64) .unit)))) (.cons .fp .unit)))⟩),
  (96, ⟨1, 8, [.pointer none], .ptr 98, some (.ptr (.cons (.cons (.int .i64) (.cons (.int .i64) (.cons .str (.cons (.int .i64) (.cons (.cons (.cons (.int .i64) (.cons (.int .i64) (.cons (.int .i64) (.cons (.int .i64) (.cons (.int .i64) (.cons (.int .i64) (.cons (.int .i64) (.cons (.int .i64) (.cons (.int .i64) .unit))))))))) (.cons (.sl (.cons (.int .i64) (.cons (.int .i64) .unit))) (.cons (.sl (.int .i64)) (.cons (.sl (.int .i64)) (.cons (.cons (.int .i64) (.cons .bool (.cons (.int .i64) .unit))) (.cons (.sl (.cons (.cons (.int .i8) (.cons (.arr 8 (.int .u16)) (.cons (.int .i64) .unit))) (.cons (.int .i64) .unit))) (.cons .bool .unit))))))) .unit))))) (.cons (.sl (.cons (.int .i8) (.cons (.int .i64) (.cons (.cons (.int .i8) (.cons (.int .i64) (.cons (.int .i64) (.cons (.int .i64) (.cons .str (.cons (.int .i64) .unit)))))) (.cons (.cons (.int .i8) (.cons (.arr 8 (.int .u16)) (.cons (.int .i64) .unit))) (.cons (.ptr (.cons (.int .i8) (.cons (.cons (.int .i64) (.cons (.cons (.int .i64) (.cons (.int .i64) (.cons (.int .i64) (.cons (.int .i64) (.cons (.int .i64) (.cons (.int .i64) (.cons (.int .i64) (.cons (.int .i64) (.cons (.int .i64) .unit))))))))) (.cons (.sl (.cons .str (.cons .str (.cons (.int .i64) (.cons (.int .i64) .unit))))) (.cons (.sl (.cons .str (.cons (.int .i64) (.cons (.sl (.int .i64)) .unit)))) (.cons .bool .unit))))) (.cons (.cons (.int .i64) (.cons (.int .i64) (.cons .str (.cons (.int .i64) (.cons (.cons (.cons (.int .i64) (.cons (.int .i64) (.cons (.int .i64) (.cons (.int .i64) (.cons (.int .i64) (.cons (.int .i64) (.cons (.int .i64) (.cons (.int .i64) (.cons (.int .i64) .unit))))))))) (.cons (.sl (.cons (.int .i64) (.cons (.int .i64) .unit))) (.cons (.sl (.int .i64)) (.cons (.sl (.int .i64)) (.cons (.cons (.int .i64) (.cons .bool (.cons (.int .i64) .unit))) (.cons (.sl (.cons (.cons (.int .i8) (.cons (.arr 8 (.int .u16)) (.cons (.int .i64) .unit))) (.cons (.int .i64) .unit))) (.cons .bool .unit))))))) .unit))))) (.cons (.cons (.int .i64) (.cons (.int .i64) (.cons (.int .i8) (.cons (.int .i64) (.cons (.int .i64) (.cons (.sl (.int .i64)) (.cons (.int .i8) (.cons (.int .i64) (.cons (.cons (.int .i64) (.cons (.int .i64) (.cons (.int .i64) .unit))) .unit))))))))) (.cons (.cons (.int .i64) (.cons (.int .i64) (.cons (.int .i64) (.cons (.cons (.int .i64) (.cons (.int .i64) (.cons (.int .i64) (.cons (.int .i64) (.cons (.int .i64) (.cons (.int .i64) (.cons (.int .i64) (.cons (.int .i64) (.cons (.int .i64) .unit))))))))) (.cons .str (.cons (.int .i64) (.cons (.sl (.cons (.cons (.int .i8) (.cons (.arr 8 (.int .u16)) (.cons (.int .i64) .unit))) (.cons (.int .i64) .unit))) (.cons (.int .i8) (.cons (.cons (.sl (.cons (.int .i8) (.cons (.arr 8 (.int .u16)) (.cons (.int .i64) .unit)))) (.cons (.int .i64) (.cons (.int .i64) (.cons (.sl (.int .i64)) (.cons (.int .i64) (.cons .bool .unit)))))) .unit))))))))) (.cons (.cons (.int .i64) (.cons (.int .i64) (.cons (.int .i64) (.cons (.int .i64) (.cons (.cons (.int .i8) (.cons (.arr 8 (.int .u16)) (.cons (.int .i64) .unit))) (.cons (.int .i8) (.cons (.int .i64) .unit))))))) (.cons (.cons (.int .i64) (.cons (.int .i64) (.cons .str (.cons (.int .i8) (.cons (.cons (.int .i8) (.cons (.int .i64) (.cons (.int .i64) (.cons (.int .i64) (.cons .str (.cons (.int .i64) .unit)))))) .unit))))) .unit)))))))) .unit)))))) (.cons (.int .i64) (.cons (.int .i64) (.cons (.sl (.int .i64)) .unit))))))⟩),
  (97, ⟨25, 304, [.int .i64 0, .int .i64 0, .string ⟨#[]⟩, .int .i64 0, .int .i64 0, .int .i64 0, .int .i64 0, .int .i64 0, .int .i64 0, .int .i64 0, .int .i64 0, .int .i64 0, .int .i64 0, .slice none 0 0, .slice none 0 0, .slice none 0 0, .int .i64 0, .bool false, .int .i64 0, .slice none 0 0, .bool false, .slice none 0 0, .int .i64 0, .int .i64 0, .slice none 0 0], .st [(0, 34), (21, 55), (22, 3), (23, 3), (24, 27)], some (.cons (.cons (.int .i64) (.cons (.int .i64) (.cons .str (.cons (.int .i64) (.cons (.cons (.cons (.int .i64) (.cons (.int .i64) (.cons (.int .i64) (.cons (.int .i64) (.cons (.int .i64) (.cons (.int .i64) (.cons (.int .i64) (.cons (.int .i64) (.cons (.int .i64) .unit))))))))) (.cons (.sl (.cons (.int .i64) (.cons (.int .i64) .unit))) (.cons (.sl (.int .i64)) (.cons (.sl (.int .i64)) (.cons (.cons (.int .i64) (.cons .bool (.cons (.int .i64) .unit))) (.cons (.sl (.cons (.cons (.int .i8) (.cons (.arr 8 (.int .u16)) (.cons (.int .i64) .unit))) (.cons (.int .i64) .unit))) (.cons .bool .unit))))))) .unit))))) (.cons (.sl (.cons (.int .i8) (.cons (.int .i64) (.cons (.cons (.int .i8) (.cons (.int .i64) (.cons (.int .i64) (.cons (.int .i64) (.cons .str (.cons (.int .i64) .unit)))))) (.cons (.cons (.int .i8) (.cons (.arr 8 (.int .u16)) (.cons (.int .i64) .unit))) (.cons (.ptr (.cons (.int .i8) (.cons (.cons (.int .i64) (.cons (.cons (.int .i64) (.cons (.int .i64) (.cons (.int .i64) (.cons (.int .i64) (.cons (.int .i64) (.cons (.int .i64) (.cons (.int .i64) (.cons (.int .i64) (.cons (.int .i64) .unit))))))))) (.cons (.sl (.cons .str (.cons .str (.cons (.int .i64) (.cons (.int .i64) .unit))))) (.cons (.sl (.cons .str (.cons (.int .i64) (.cons (.sl (.int .i64)) .unit)))) (.cons .bool .unit))))) (.cons (.cons (.int .i64) (.cons (.int .i64) (.cons .str (.cons (.int .i64) (.cons (.cons (.cons (.int .i64) (.cons (.int .i64) (.cons (.int .i64) (.cons (.int .i64) (.cons (.int .i64) (.cons (.int .i64) (.cons (.int .i64) (.cons (.int .i64) (.cons (.int .i64) .unit))))))))) (.cons (.sl (.cons (.int .i64) (.cons (.int .i64) .unit))) (.cons (.sl (.int .i64)) (.cons (.sl (.int .i64)) (.cons (.cons (.int .i64) (.cons .bool (.cons (.int .i64) .unit))) (.cons (.sl (.cons (.cons (.int .i8) (.cons (.arr 8 (.int .u16)) (.cons (.int .i64) .unit))) (.cons (.int .i64) .unit))) (.cons .bool .unit))))))) .unit))))) (.cons (.cons (.int .i64) (.cons (.int .i64) (.cons (.int .i8) (.cons (.int .i64) (.cons (.int .i64) (.cons (.sl (.int .i64)) (.cons (.int .i8) (.cons (.int .i64) (.cons (.cons (.int .i64) (.cons (.int .i64) (.cons (.int .i64) .unit))) .unit))))))))) (.cons (.cons (.int .i64) (.cons (.int .i64) (.cons (.int .i64) (.cons (.cons (.int .i64) (.cons (.int .i64) (.cons (.int .i64) (.cons (.int .i64) (.cons (.int .i64) (.cons (.int .i64) (.cons (.int .i64) (.cons (.int .i64) (.cons (.int .i64) .unit))))))))) (.cons .str (.cons (.int .i64) (.cons (.sl (.cons (.cons (.int .i8) (.cons (.arr 8 (.int .u16)) (.cons (.int .i64) .unit))) (.cons (.int .i64) .unit))) (.cons (.int .i8) (.cons (.cons (.sl (.cons (.int .i8) (.cons (.arr 8 (.int .u16)) (.cons (.int .i64) .unit)))) (.cons (.int .i64) (.cons (.int .i64) (.cons (.sl (.int .i64)) (.cons (.int .i64) (.cons .bool .unit)))))) .unit))))))))) (.cons (.cons (.int .i64) (.cons (.int .i64) (.cons (.int .i64) (.cons (.int .i64) (.cons (.cons (.int .i8) (.cons (.arr 8 (.int .u16)) (.cons (.int .i64) .unit))) (.cons (.int .i8) (.cons (.int .i64) .unit))))))) (.cons (.cons (.int .i64) (.cons (.int .i64) (.cons .str (.cons (.int .i8) (.cons (.cons (.int .i8) (.cons (.int .i64) (.cons (.int .i64) (.cons (.int .i64) (.cons .str (.cons (.int .i64) .unit)))))) .unit))))) .unit)))))))) .unit)))))) (.cons (.int .i64) (.cons (.int .i64) (.cons (.sl (.int .i64)) .unit)))))⟩),
  (98, ⟨25, 304, [.int .i64 0, .int .i64 0, .string ⟨#[]⟩, .int .i64 0, .int .i64 0, .int .i64 0, .int .i64 0, .int .i64 0, .int .i64 0, .int .i64 0, .int .i64 0, .int .i64 0, .int .i64 0, .slice none 0 0, .slice none 0 0, .slice none 0 0, .int .i64 0, .bool false, .int .i64 0, .slice none 0 0, .bool false, .slice none 0 0, .int .i64 0, .int .i64 0, .slice none 0 0], .st [(0, 34), (21, 55), (22, 3), (23, 3), (24, 27)], some (.cons (.cons (.int .i64) (.cons (.int .i64) (.cons .str (.cons (.int .i64) (.cons (.cons (.cons (.int .i64) (.cons (.int .i64) (.cons (.int .i64) (.cons (.int .i64) (.cons (.int .i64) (.cons (.int .i64) (.cons (.int .i64) (.cons (.int .i64) (.cons (.int .i64) .unit))))))))) (.cons (.sl (.cons (.int .i64) (.cons (.int .i64) .unit))) (.cons (.sl (.int .i64)) (.cons (.sl (.int .i64)) (.cons (.cons (.int .i64) (.cons .bool (.cons (.int .i64) .unit))) (.cons (.sl (.cons (.cons (.int .i8) (.cons (.arr 8 (.int .u16)) (.cons (.int .i64) .unit))) (.cons (.int .i64) .unit))) (.cons .bool .unit))))))) .unit))))) (.cons (.sl (.cons (.int .i8) (.cons (.int .i64) (.cons (.cons (.int .i8) (.cons (.int .i64) (.cons (.int .i64) (.cons (.int .i64) (.cons .str (.cons (.int .i64) .unit)))))) (.cons (.cons (.int .i8) (.cons (.arr 8 (.int .u16)) (.cons (.int .i64) .unit))) (.cons (.ptr (.cons (.int .i8) (.cons (.cons (.int .i64) (.cons (.cons (.int .i64) (.cons (.int .i64) (.cons (.int .i64) (.cons (.int .i64) (.cons (.int .i64) (.cons (.int .i64) (.cons (.int .i64) (.cons (.int .i64) (.cons (.int .i64) .unit))))))))) (.cons (.sl (.cons .str (.cons .str (.cons (.int .i64) (.cons (.int .i64) .unit))))) (.cons (.sl (.cons .str (.cons (.int .i64) (.cons (.sl (.int .i64)) .unit)))) (.cons .bool .unit))))) (.cons (.cons (.int .i64) (.cons (.int .i64) (.cons .str (.cons (.int .i64) (.cons (.cons (.cons (.int .i64) (.cons (.int .i64) (.cons (.int .i64) (.cons (.int .i64) (.cons (.int .i64) (.cons (.int .i64) (.cons (.int .i64) (.cons (.int .i64) (.cons (.int .i64) .unit))))))))) (.cons (.sl (.cons (.int .i64) (.cons (.int .i64) .unit))) (.cons (.sl (.int .i64)) (.cons (.sl (.int .i64)) (.cons (.cons (.int .i64) (.cons .bool (.cons (.int .i64) .unit))) (.cons (.sl (.cons (.cons (.int .i8) (.cons (.arr 8 (.int .u16)) (.cons (.int .i64) .unit))) (.cons (.int .i64) .unit))) (.cons .bool .unit))))))) .unit))))) (.cons (.cons (.int .i64) (.cons (.int .i64) (.cons (.int .i8) (.cons (.int .i64) (.cons (.int .i64) (.cons (.sl (.int .i64)) (.cons (.int .i8) (.cons (.int .i64) (.cons (.cons (.int .i64) (.cons (.int .i64) (.cons (.int .i64) .unit))) .unit))))))))) (.cons (.cons (.int .i64) (.cons (.int .i64) (.cons (.int .i64) (.cons (.cons (.int .i64) (.cons (.int .i64) (.cons (.int .i64) (.cons (.int .i64) (.cons (.int .i64) (.cons (.int .i64) (.cons (.int .i64) (.cons (.int .i64) (.cons (.int .i64) .unit))))))))) (.cons .str (.cons (.int .i64) (.cons (.sl (.cons (.cons (.int .i8) (.cons (.arr 8 (.int .u16)) (.cons (.int .i64) .unit))) (.cons (.int .i64) .unit))) (.cons (.int .i8) (.cons (.cons (.sl (.cons (.int .i8) (.cons (.arr 8 (.int .u16)) (.cons (.int .i64) .unit)))) (.cons (.int .i64) (.cons (.int .i64) (.cons (.sl (.int .i64)) (.cons (.int .i64) (.cons .bool .unit)))))) .unit))))))))) (.cons (.cons (.int .i64) (.cons (.int .i64) (.cons (.int .i64) (.cons (.int .i64) (.cons (.cons (.int .i8) (.cons (.arr 8 (.int .u16)) (.cons (.int .i64) .unit))) (.cons (.int .i8) (.cons (.int .i64) .unit))))))) (.cons (.cons (.int .i64) (.cons (.int .i64) (.cons .str (.cons (.int .i8) (.cons (.cons (.int .i8) (.cons (.int .i64) (.cons (.int .i64) (.cons (.int .i64) (.cons .str (.cons (.int .i64) .unit)))))) .unit))))) .unit)))))))) .unit)))))) (.cons (.int .i64) (.cons (.int .i64) (.cons (.sl (.int .i64)) .unit)))))⟩),
  (99, ⟨1, 8, [.nilFunc], .fn, some .fp⟩),
  (100, ⟨1, 8, [.nilFunc], .fn, some .fp⟩),
  (101, ⟨10, 88, [.int .i8 0, .int .i64 0, .int .i8 0, .int .i64 0, .int .i64 0, .int .i64 0, .string ⟨#[]⟩, .int .i64 0, .int .i64 0, .nilFunc], .st [(0, 53), (9, 100)], some (.cons (.cons (.int .i8) (.cons (.int .i64) (.cons (.cons (.int .i8) (.cons (.int .i64) (.cons (.int .i64) (.cons (.int .i64) (.cons .str (.cons (.int .i64) .unit)))))) (.cons (.int .i64) .unit)))) (.cons .fp .unit))⟩),
  (102, ⟨10, 88, [.int .i8 0, .int .i64 0, .int .i8 0, .int .i64 0, .int .i64 0, .int .i64 0, .string ⟨#[]⟩, .int .i64 0, .int .i64 0, .nilFunc], .st [(0, 53), (9, 100)], some (.cons (.cons (.int .i8) (.cons (.int .i64) (.cons (.cons (.int .i8) (.cons (.int .i64) (.cons (.int .i64) (.cons (.int .i64) (.cons .str (.cons (.int .i64) .unit)))))) (.cons (.int .i64) .unit)))) (.cons .fp .unit))⟩),
  (103, ⟨1, 24, [.slice none 0 0], .sl 34, some (.sl (.cons (.int .i64) (.cons (.int .i64) (.cons .str (.cons (.int .i64) (.cons (.cons (.cons (.int .i64) (.cons (.int .i64) (.cons (.int .i64) (.cons (.int .i64) (.cons (.int .i64) (.cons (.int .i64) (.cons (.int .i64) (.cons (.int .i64) (.cons (.int .i64) .unit))))))))) (.cons (.sl (.cons (.int .i64) (.cons (.int .i64) .unit))) (.cons (.sl (.int .i64)) (.cons (.sl (.int .i64)) (.cons (.cons (.int .i64) (.cons .bool (.cons (.int .i64) .unit))) (.cons (.sl (.cons (.cons (.int .i8) (.cons (.arr 8 (.int .u16)) (.cons (.int .i64) .unit))) (.cons (.int .i64) .unit))) (.cons .bool .unit))))))) .unit))))))⟩),
  (104, ⟨1, 8, [.nilFunc], .fn, some .fp⟩),
  (105, ⟨1, 8, [.nilFunc], .fn, some .fp⟩),
  (106, ⟨1, 8, [.nilFunc], .fn, some .fp⟩),
  (107, ⟨1, 8, [.pointer none], .ptr 112, none⟩),
  (108, ⟨1, 24, [.slice none 0 0], .sl 85, some (.sl (.cons (.int .i64) (.cons (.int .i64) (.cons (.int .i64) .unit))))⟩),
  (109, ⟨4, 56, [.slice none 0 0, .slice none 0 0, .bool false, .bool false], .st [(0, 108), (1, 27), (2, 4), (3, 4)], some (.cons (.sl (.cons (.int .i64) (.cons (.int .i64) (.cons (.int .i64) .unit)))) (.cons (.sl (.int .i64)) (.cons .bool (.cons .bool .unit))))⟩),
  (110, ⟨4, 56, [.slice none 0 0, .slice none 0 0, .bool false, .bool false], .st [(0, 108), (1, 27), (2, 4), (3, 4)], some (.cons (.sl (.cons (.int .i64) (.cons (.int .i64) (.cons (.int .i64) .unit)))) (.cons (.sl (.int .i64)) (.cons .bool (.cons .bool .unit))))⟩),
  (111, ⟨5, 64, [.pointer none, .slice none 0 0, .slice none 0 0, .bool false, .bool false], .st [(0, 96), (1, 110)], none⟩),
  (112, ⟨5, 64, [.pointer none, .slice none 0 0, .slice none 0 0, .bool false, .bool false], .st [(0, 96), (1, 110)], none⟩),
  (113, ⟨1, 8, [.nilFunc], .fn, some .fp⟩),
  (115, ⟨1, 8, [.nilFunc], .fn, some .fp⟩),
  (116, ⟨1, 8, [.nilFunc], .fn, some .fp⟩),
  (117, ⟨1, 8, [.nilFunc], .fn, some .fp⟩),
  (118, ⟨1, 8, [.nilFunc], .fn, some .fp⟩),
  (119, ⟨1, 8, [.map none], .mp 47 100, none⟩),
  (120, ⟨1, 8, [.nilFunc], .fn, some .fp⟩),
  (121, ⟨1, 8, [.nilFunc], .fn, some .fp⟩),
  (122, ⟨1, 8, [.nilFunc], .fn, some .fp⟩),
  (124, ⟨1, 8, [.nilFunc], .fn, some .fp⟩),
  (125, ⟨1, 8, [.nilFunc], .fn, some .fp⟩),
  (126, ⟨1, 8, [.nilFunc], .fn, some .fp⟩),
  (127, ⟨1, 8, [.nilFunc], .fn, some .fp⟩),
  (129, ⟨1, 8, [.nilFunc], .fn, some .fp⟩),
  (130, ⟨1, 8, [.nilFunc], .fn, some .fp⟩),
  (131, ⟨3, 24, [.int .i64 0, .bool false, .int .i64 0], .st [(0, 3), (1, 4), (2, 3)], some (.cons (.int .i64) (.cons .bool (.cons (.int .i64) .unit)))⟩),
  (133, ⟨1, 8, [.nilFunc], .fn, some .fp⟩),
  (134, ⟨1, 8, [.nilFunc], .fn, some .fp⟩),
  (136, ⟨1, 8, [.nilFunc], .fn, some .fp⟩),
  (137, ⟨1, 8, [.nilFunc], .fn, some .fp⟩),
  (138, ⟨1, 8, [.nilFunc], .fn, some .fp⟩),
  (139, ⟨1, 8, [.nilFunc], .fn, some .fp⟩),
  (140, ⟨1, 8, [.nilFunc], .fn, some .fp⟩),
  (141, ⟨11, 40, [.int .i8 0, .int .u16 0, .int .u16 0, .int .u16 0, .int .u16 0, .int .u16 0, .int .u16 0, .int .u16 0, .int .u16 0, .int .i64 0, .int .i64 0], .st [(0, 66), (10, 3)], some (.cons (.cons (.int .i8) (.cons (.arr 8 (.int .u16)) (.cons (.int .i64) .unit))) (.cons (.int .i64) .unit))⟩),
  (142, ⟨11, 40, [.int .i8 0, .int .u16 0, .int .u16 0, .int .u16 0, .int .u16 0, .int .u16 0, .int .u16 0, .int .u16 0, .int .u16 0, .int .i64 0, .int .i64 0], .st [(0, 66), (10, 3)], some (.cons (.cons (.int .i8) (.cons (.arr 8 (.int .u16)) (.cons (.int .i64) .unit))) (.cons (.int .i64) .unit))⟩),
  (144, ⟨1, 8, [.nilFunc], .fn, some .fp⟩),
  (145, ⟨1, 8, [.nilFunc], .fn, some .fp⟩),
  (146, ⟨1, 8, [.nilFunc], .fn, some .fp⟩),
  (147, ⟨1, 8, [.nilFunc], .fn, some .fp⟩),
  (148, ⟨1, 24, [.slice none 0 0], .sl 9, some (.sl .str)⟩),
  (149, ⟨1, 8, [.nilFunc], .fn, some .fp⟩),
  (151, ⟨1, 8, [.nilFunc], .fn, some .fp⟩),
  (152, ⟨1, 8, [.pointer none], .ptr 163, some (.ptr (.cons (.cons (.cons (.int .i64) (.cons (.int .i64) (.cons (.int .i64) (.cons (.int .i64) (.cons (.int .i64) (.cons (.int .i64) (.cons (.int .i64) (.cons (.int .i64) (.cons (.int .i64) .unit))))))))) (.cons (.sl (.cons (.int .i64) (.cons (.int .i64) .unit))) (.cons (.sl (.int .i64)) (.cons (.sl (.int .i64)) (.cons (.cons (.int .i64) (.cons .bool (.cons (.int .i64) .unit))) (.cons (.sl (.cons (.cons (.int .i8) (.cons (.arr 8 (.int .u16)) (.cons (.int .i64) .unit))) (.cons (.int .i64) .unit))) (.cons .bool .unit))))))) (.cons (.cons (.sl (.cons (.int .i64) (.cons (.int .i64) (.cons (.int .i64) .unit)))) (.cons (.sl (.int .i64)) (.cons .bool (.cons .bool .unit)))) (.cons (.int .i64) (.cons (.sl (.int .i64)) .unit)))))⟩),
  (153, ⟨1, 8, [.nilFunc], .fn, some .fp⟩),
  (154, ⟨1, 8, [.nilFunc], .fn, some .fp⟩),
  (155, ⟨1, 8, [.nilFunc], .fn, some .fp⟩),
  (156, ⟨1, 8, [.int .i64 0], .int .i64, some (.int .i64)⟩),
  (157, ⟨1, 8, [.nilFunc], .fn, some .fp⟩),
  (158, ⟨1, 8, [.nilFunc], .fn, some .fp⟩),
  (159, ⟨1, 8, [.nilFunc], .fn, some .fp⟩),
  (161, ⟨1, 8, [.nilFunc], .fn, some .fp⟩),
  (162, ⟨23, 288, [.int .i64 0, .int .i64 0, .int .i64 0, .int .i64 0, .int .i64 0, .int .i64 0, .int .i64 0, .int .i64 0, .int .i64 0, .slice none 0 0, .slice none 0 0, .slice none 0 0, .int .i64 0, .bool false, .int .i64 0, .slice none 0 0, .bool false, .slice none 0 0, .slice none 0 0, .bool false, .bool false, .int .i64 0, .slice none 0 0], .st [(0, 32), (17, 110), (21, 3), (22, 27)], some (.cons (.cons (.cons (.int .i64) (.cons (.int .i64) (.cons (.int .i64) (.cons (.int .i64) (.cons (.int .i64) (.cons (.int .i64) (.cons (.int .i64) (.cons (.int .i64) (.cons (.int .i64) .unit))))))))) (.cons (.sl (.cons (.int .i64) (.cons (.int .i64) .unit))) (.cons (.sl (.int .i64)) (.cons (.sl (.int .i64)) (.cons (.cons (.int .i64) (.cons .bool (.cons (.int .i64) .unit))) (.cons (.sl (.cons (.cons (.int .i8) (.cons (.arr 8 (.int .u16)) (.cons (.int .i64) .unit))) (.cons (.int .i64) .unit))) (.cons .bool .unit))))))) (.cons (.cons (.sl (.cons (.int .i64) (.cons (.int .i64) (.cons (.int .i64) .unit)))) (.cons (.sl (.int .i64)) (.cons .bool (.cons .bool .unit)))) (.cons (.int .i64) (.cons (.sl (.int .i64)) .unit))))⟩),
  (163, ⟨23, 288, [.int .i64 0, .int .i64 0, .int .i64 0, .int .i64 0, .int .i64 0, .int .i64 0, .int .i64 0, .int .i64 0, .int .i64 0, .slice none 0 0, .slice none 0 0, .slice none 0 0, .int .i64 0, .bool false, .int .i64 0, .slice none 0 0, .bool false, .slice none 0 0, .slice none 0 0, .bool false, .bool false, .int .i64 0, .slice none 0 0], .st [(0, 32), (17, 110), (21, 3), (22, 27)], some (.cons (.cons (.cons (.int .i64) (.cons (.int .i64) (.cons (.int .i64) (.cons (.int .i64) (.cons (.int .i64) (.cons (.int .i64) (.cons (.int .i64) (.cons (.int .i64) (.cons (.int .i64) .unit))))))))) (.cons (.sl (.cons (.int .i64) (.cons (.int .i64) .unit))) (.cons (.sl (.int .i64)) (.cons (.sl (.int .i64)) (.cons (.cons (.int .i64) (.cons .bool (.cons (.int .i64) .unit))) (.cons (.sl (.cons (.cons (.int .i8) (.cons (.arr 8 (.int .u16)) (.cons (.int .i64) .unit))) (.cons (.int .i64) .unit))) (.cons .bool .unit))))))) (.cons (.cons (.sl (.cons (.int .i64) (.cons (.int .i64) (.cons (.int .i64) .unit)))) (.cons (.sl (.int .i64)) (.cons .bool (.cons .bool .unit)))) (.cons (.int .i64) (.cons (.sl (.int .i64)) .unit))))⟩),
  (164, ⟨1, 8, [.nilFunc], .fn, some .fp⟩),
  (165, ⟨1, 8, [.nilFunc], .fn, some .fp⟩),
  (166, ⟨1, 8, [.nilFunc], .fn, some .fp⟩),
  (167, ⟨1, 8, [.nilFunc], .fn, some .fp⟩),
  (168, ⟨1, 8, [.nilFunc], .fn, some .fp⟩),
  (169, ⟨1, 8, [.nilFunc], .fn, some .fp⟩),
  (170, ⟨1, 8, [.nilFunc], .fn, some .fp⟩),
  (172, ⟨1, 8, [.nilFunc], .fn, some .fp⟩),
  (173, ⟨1, 8, [.nilFunc], .fn, some .fp⟩),
  (174, ⟨1, 8, [.nilFunc], .fn, some .fp⟩),
  (175, ⟨1, 8, [.nilFunc], .fn, some .fp⟩),
  (176, ⟨1, 8, [.nilFunc], .fn, some .fp⟩),
  (177, ⟨1, 8, [.nilFunc], .fn, some .fp⟩),
  (178, ⟨1, 8, [.nilFunc], .fn, some .fp⟩),
  (179, ⟨1, 8, [.nilFunc], .fn, some .fp⟩),
  (181, ⟨1, 8, [.nilFunc], .fn, some .fp⟩),
  (182, ⟨1, 8, [.nilFunc], .fn, some .fp⟩),
  (183, ⟨1, 8, [.nilFunc], .fn, some .fp⟩),
  (184, ⟨1, 8, [.nilFunc], .fn, some .fp⟩),
  (185, ⟨1, 8, [.nilFunc], .fn, some .fp⟩),
  (186, ⟨1, 8, [.nilFunc], .fn, some .fp⟩),
  (187, ⟨1, 8, [.nilFunc], .fn, some .fp⟩),
  (188, ⟨1, 8, [.nilFunc], .fn, some .fp⟩),
  (189, ⟨1, 8, [.int .u64 0], .int .u64, some (.int .u64)⟩),
  (191, ⟨1, 8, [.nilFunc], .fn, some .fp⟩),
  (192, ⟨1, 24, [.slice none 0 0], .sl 63, some (.sl (.int .u16))⟩),
  (194, ⟨1, 8, [.nilFunc], .fn, some .fp⟩),
  (195, ⟨1, 8, [.nilFunc], .fn, some .fp⟩),
  (196, ⟨1, 8, [.nilFunc], .fn, some .fp⟩),
  (197, ⟨1, 8, [.nilFunc], .fn, some .fp⟩),
  (198, ⟨1, 8, [.nilFunc], .fn, some .fp⟩),
  (199, ⟨1, 8, [.nilFunc], .fn, some .fp⟩),
  (200, ⟨1, 8, [.nilFunc], .fn, some .fp⟩),
  (201, ⟨1, 8, [.nilFunc], .fn, some .fp⟩),
  (203, ⟨1, 8, [.nilFunc], .fn, some .fp⟩),
  (204, ⟨1, 8, [.nilFunc], .fn, some .fp⟩),
  (206, ⟨1, 8, [.nilFunc], .fn, some .fp⟩),
  (208, ⟨1, 8, [.nilFunc], .fn, some .fp⟩),
  (209, ⟨1, 8, [.nilFunc], .fn, some .fp⟩),
  (210, ⟨1, 8, [.nilFunc], .fn, some .fp⟩),
  (211, ⟨1, 8, [.nilFunc], .fn, some .fp⟩),
  (212, ⟨1, 8, [.nilFunc], .fn, some .fp⟩),
  (213, ⟨1, 8, [.nilFunc], .fn, some .fp⟩),
  (214, ⟨256, 256, [.int .u8 0, .int .u8 0, .int .u8 0, .int .u8 0, .int .u8 0, .int .u8 0, .int .u8 0, .int .u8 0, .int .u8 0, .int .u8 0, .int .u8 0, .int .u8 0, .int .u8 0, .int .u8 0, .int .u8 0, .int .u8 0, .int .u8 0, .int .u8 0, .int .u8 0, .int .u8 0, .int .u8 0, .int .u8 0, .int .u8 0, .int .u8 0, .int .u8 0, .int .u8 0, .int .u8 0, .int .u8 0, .int .u8 0, .int .u8 0, .int .u8 0, .int .u8 0, .int .u8 0, .int .u8 0, .int .u8 0, .int .u8 0, .int .u8 0, .int .u8 0, .int .u8 0, .int .u8 0, .int .u8 0, .int .u8 0, .int .u8 0, .int .u8 0, .int .u8 0, .int .u8 0, .int .u8 0, .int .u8 0, .int .u8 0, .int .u8 0, .int .u8 0, .int .u8 0, .int .u8 0, .int .u8 0, .int .u8 0, .int .u8 0, .int .u8 0, .int .u8 0, .int .u8 0, .int .u8 0, .int .u8 0, .int .u8 0, .int .u8 0, .int .u8 0, .int .u8 0, .int .u8 0, .int .u8 0, .int .u8 0, .int .u8 0, .int .u8 0, .int .u8 0, .int .u8 0, .int .u8 0, .int .u8 0, .int .u8 0, .int .u8 0, .int .u8 0, .int .u8 0, .int .u8 0, .int .u8 0, .int .u8 0, .int .u8 0, .int .u8 0, .int .u8 0, .int .u8 0, .int .u8 0, .int .u8 0, .int .u8 0, .int .u8 0, .int .u8 0, .int .u8 0, .int .u8 0, .int .u8 0, .int .u8 0, .int .u8 0, .int .u8 0, .int .u8 0, .int .u8 0, .int .u8 0, .int .u8 0, .int .u8 0, .int .u8 0, .int .u8 0, .int .u8 0, .int .u8 0, .int .u8 0, .int .u8 0, .int .u8 0, .int .u8 0, .int .u8 0, .int .u8 0, .int .u8 0, .int .u8 0, .int .u8 0, .int .u8 0, .int .u8 0, .int .u8 0, .int .u8 0, .int .u8 0, .int .u8 0, .int .u8 0, .int .u8 0, .int .u8 0, .int .u8 0, .int .u8 0, .int .u8 0, .int .u8 0, .int .u8 0, .int .u8 0, .int .u8 0, .int .u8 0, .int .u8 0, .int .u8 0, .int .u8 0, .int .u8 0, .int .u8 0, .int .u8 0, .int .u8 0, .int .u8 0, .int .u8 0, .int .u8 0, .int .u8 0, .int .u8 0, .int .u8 0, .int .u8 0, .int .u8 0, .int .u8 0, .int .u8 0, .int .u8 0, .int .u8 0, .int .u8 0, .int .u8 0, .int .u8 0, .int .u8 0, .int .u8 0, .int .u8 0, .int .u8 0, .int .u8 0, .int .u8 0, .int .u8 0, .int .u8 0, .int .u8 0, .int .u8 0, .int .u8 0, .int .u8 0, .int .u8 0, .int .u8 0, .int .u8 0, .int .u8 0, .int .u8 0, .int .u8 0, .int .u8 0, .int .u8 0, .int .u8 0, .int .u8 0, .int .u8 0, .int .u8 0, .int .u8 0, .int .u8 0, .int .u8 0, .int .u8 0, .int .u8 0, .int .u8 0, .int .u8 0, .int .u8 0, .int .u8 0, .int .u8 0, .int .u8 0, .int .u8 0, .int .u8 0, .int .u8 0, .int .u8 0, .int .u8 0, .int .u8 0, .int .u8 0, .int .u8 0, .int .u8 0, .int .u8 0, .int .u8 0, .int .u8 0, .int .u8 0, .int .u8 0, .int .u8 0, .int .u8 0, .int .u8 0, .int .u8 0, .int .u8 0, .int .u8 0, .int .u8 0, .int .u8 0, .int .u8 0, .int .u8 0, .int .u8 0, .int .u8 0, .int .u8 0, .int .u8 0, .int .u8 0, .int .u8 0, .int .u8 0, .int .u8 0, .int .u8 0, .int .u8 0, .int .u8 0, .int .u8 0, .int .u8 0, .int .u8 0, .int .u8 0, .int .u8 0, .int .u8 0, .int .u8 0, .int .u8 0, .int .u8 0, .int .u8 0, .int .u8 0, .int .u8 0, .int .u8 0, .int .u8 0, .int .u8 0, .int .u8 0, .int .u8 0, .int .u8 0, .int .u8 0, .int .u8 0, .int .u8 0, .int .u8 0, .int .u8 0, .int .u8 0, .int .u8 0, .int .u8 0, .int .u8 0, .int .u8 0, .int .u8 0, .int .u8 0, .int .u8 0, .int .u8 0, .int .u8 0], .arr 256 5, some (.arr 256 (.int .u8))⟩),
  (215, ⟨2, 2, [.int .u8 0, .int .u8 0], .st [(0, 5), (1, 5)], some (.cons (.int .u8) (.cons (.int .u8) .unit))⟩),
  (216, ⟨2, 2, [.int .u8 0, .int .u8 0], .st [(0, 5), (1, 5)], some (.cons (.int .u8) (.cons (.int .u8) .unit))⟩),
  (217, ⟨32, 32, [.int .u8 0, .int .u8 0, .int .u8 0, .int .u8 0, .int .u8 0, .int .u8 0, .int .u8 0, .int .u8 0, .int .u8 0, .int .u8 0, .int .u8 0, .int .u8 0, .int .u8 0, .int .u8 0, .int .u8 0, .int .u8 0, .int .u8 0, .int .u8 0, .int .u8 0, .int .u8 0, .int .u8 0, .int .u8 0, .int .u8 0, .int .u8 0, .int .u8 0, .int .u8 0, .int .u8 0, .int .u8 0, .int .u8 0, .int .u8 0, .int .u8 0, .int .u8 0], .arr 16 216, some (.arr 16 (.cons (.int .u8) (.cons (.int .u8) .unit)))⟩),
  (218, ⟨1, 4, [.int .u32 0], .int .u32, some (.int .u32)⟩),
  (220, ⟨1, 8, [.nilFunc], .fn, some .fp⟩),
  (221, ⟨1, 8, [.nilFunc], .fn, some .fp⟩),
  (230, ⟨1, 8, [.pointer none], .ptr 5, some (.ptr (.int .u8))⟩),
  (235, ⟨4, 48, [.string ⟨#[]⟩, .string ⟨#[]⟩, .int .i64 0, .int .i64 0], .st [(0, 9), (1, 9), (2, 41), (3, 3)], some (.cons .str (.cons .str (.cons (.int .i64) (.cons (.int .i64) .unit))))⟩),
  (236, ⟨4, 48, [.string ⟨#[]⟩, .string ⟨#[]⟩, .int .i64 0, .int .i64 0], .st [(0, 9), (1, 9), (2, 41), (3, 3)], some (.cons .str (.cons .str (.cons (.int .i64) (.cons (.int .i64) .unit))))⟩),
  (237, ⟨3, 48, [.string ⟨#[]⟩, .int .i64 0, .slice none 0 0], .st [(0, 9), (1, 3), (2, 27)], some (.cons .str (.cons (.int .i64) (.cons (.sl (.int .i64)) .unit)))⟩),
  (238, ⟨3, 48, [.string ⟨#[]⟩, .int .i64 0, .slice none 0 0], .st [(0, 9), (1, 3), (2, 27)], some (.cons .str (.cons (.int .i64) (.cons (.sl (.int .i64)) .unit)))⟩)]

theorem tab_ok : ∀ p ∈ tab, rowOk Go.Proofs.Tryz.prog p := by
  intro p hp
  simp only [tab, List.mem_cons, List.not_mem_nil, or_false] at hp
  rcases hp with rfl|rfl|rfl|rfl|rfl|rfl|rfl|rfl|rfl|rfl|rfl|rfl|rfl|rfl|rfl|rfl|rfl|rfl|rfl|rfl|rfl|rfl|rfl|rfl|rfl|rfl|rfl|rfl|rfl|rfl|rfl|rfl|rfl|rfl|rfl|rfl|rfl|rfl|rfl|rfl|rfl|rfl|rfl|rfl|rfl|rfl|rfl|rfl|rfl|rfl|rfl|rfl|rfl|rfl|rfl|rfl|rfl|rfl|rfl|rfl|rfl|rfl|rfl|rfl|rfl|rfl|rfl|rfl|rfl|rfl|rfl|rfl|rfl|rfl|rfl|rfl|rfl|rfl|rfl|rfl|rfl|rfl|rfl|rfl|rfl|rfl|rfl|rfl|rfl|rfl|rfl|rfl|rfl|rfl|rfl|rfl|rfl|rfl|rfl|rfl|rfl|rfl|rfl|rfl|rfl|rfl|rfl|rfl|rfl|rfl|rfl|rfl|rfl|rfl|rfl|rfl|rfl|rfl|rfl|rfl|rfl|rfl|rfl|rfl|rfl|rfl|rfl|rfl|rfl|rfl|rfl|rfl|rfl|rfl|rfl|rfl|rfl|rfl|rfl|rfl|rfl|rfl|rfl|rfl|rfl|rfl|rfl|rfl|rfl|rfl|rfl|rfl|rfl|rfl|rfl|rfl|rfl|rfl|rfl|rfl|rfl|rfl|rfl|rfl|rfl|rfl|rfl|rfl|rfl|rfl|rfl|rfl|rfl|rfl|rfl|rfl|rfl|rfl|rfl|rfl|rfl|rfl|rfl|rfl|rfl|rfl|rfl|rfl|rfl|rfl|rfl|rfl|rfl|rfl|rfl <;> exact rowOk_of (by kernel_rfl) (by kernel_rfl) (by kernel_rfl)
theorem eqs_ok : eqsB Go.Proofs.Tryz.prog { tab, cons := [], inls := [], loops := [] } = true := by kernel_rfl
theorem mix : Go.Proofs.Tryz.prog.follows .mixedOrders = true := by kernel_rfl
end Go.Proofs.YtdkcgcgefgeooaaGreatDoor.To
set_option maxRecDepth 100000
namespace Go.Proofs.YtdkcgcgefgeooaaGreatDoor.Ow
open Go Go.Eng
abbrev I64 : Ty := .int .i64
abbrev IL : Ty := .sl I64
abbrev ConfT : Ty := .cons I64 (.cons I64 (.cons I64 (.cons I64 (.cons I64 (.cons I64 (.cons I64 (.cons I64 (.cons I64 .unit))))))))
abbrev RestT : Ty := .cons I64 (.cons I64 .unit)
abbrev FlT : Ty := .cons I64 (.cons .bool (.cons I64 .unit))
abbrev AdT : Ty := .cons (.int .i8) (.cons (.arr 8 (.int .u16)) (.cons I64 .unit))
abbrev ScT : Ty := .cons AdT (.cons I64 .unit)
abbrev BookT : Ty := .cons ConfT (.cons (.sl RestT) (.cons IL (.cons IL (.cons FlT (.cons (.sl ScT) (.cons .bool .unit))))))
abbrev RepT : Ty := .cons I64 (.cons I64 (.cons I64 .unit))
abbrev TurnT : Ty := .cons (.sl RepT) (.cons IL (.cons .bool (.cons .bool .unit)))
abbrev Ad := Int × (Int × Int × Int × Int × Int × Int × Int × Int × Unit) × Int × Unit
abbrev Cf := Int × Int × Int × Int × Int × Int × Int × Int × Int × Unit
abbrev Rs := Int × Int × Unit
abbrev Fl := Int × Bool × Int × Unit
abbrev Sc := Ad × Int × Unit
abbrev Bk := Cf × List Rs × List Int × List Int × Fl × List Sc × Bool × Unit
abbrev Rp := Int × Int × Int × Unit
abbrev Tn := List Rp × List Int × Bool × Bool × Unit
def conD (a r : Ty) (p : a.El → Bool) (F : a.El → r.El) : Contract := { a := a, r := r, pre := fun x => p x = true, F := F, preB := p, preOk := fun _ h => h }
def idxN (x : Int) (l : List Int) : Int := bif l.any (fun y => decide (y = x)) then (l.findIdx (fun y => decide (y = x)) : Nat) else -1
def szI (l : List Int) : Bool := decide (l.length ≤ 1000000)
def cIdx : Contract := conD (.cons IL (.cons I64 .unit)) (.cons I64 .unit) (fun _ => true) fun x => (idxN x.2.1 x.1, ())
def delL (l : List Int) (i j : Int) : List Int := l.take i.toNat ++ l.drop j.toNat
def mDel : MCon := { e := 3, t := I64, a := .cons I64 (.cons I64 .unit), pre := fun xs y => 0 ≤ y.1 ∧ y.1 ≤ y.2.1 ∧ y.2.1 ≤ xs.length ∧ xs.length ≤ 1000000000, F := fun xs y => delL xs y.1 y.2.1, eats := true }
structure IdI (x : Int) (l : List Int) (i : Int) : Prop where
  i0 : 0 ≤ i
  i1 : i ≤ l.length
  a : (l.take i.toNat).any (fun y => decide (y = x)) = false
def idA : LoopAnn where
  α := Int
  keep := [0, 1, 6, 7]
  okeep := []
  nxt := 500
  env := fun _ x => [(8, .dat I64 x)]
  own := fun _ _ => []
  inv := fun s x => IdI (bDat I64 s 1).out (bDat IL s 0).out x
  mu := fun s x => List.length (α := Int) (bDat IL s 0).out - x.toNat
  pick := some fun _ s => (bDat I64 s 8).out
def onF (f : Fl) : Bool := decide (0 ≤ f.1)
def partN (f : Fl) (n : Int) : Int := max (max f.2.2.1 0 - max n 0) 0
def partC (f : Fl) (n : Int) : Bool := onF f && (!f.2.1 && decide (partN f n = 0))
def partF (f : Fl) (n : Int) : Fl := (f.1, f.2.1 || partC f n, partN f n, ())
def startsF (f : Fl) : Bool := !onF f && decide (0 < f.2.2.1)
def endF (f : Fl) : Fl := (-1, false, max f.2.2.1 0, ())
def joinF (f : Fl) : Fl := (f.1, f.2.1, max f.2.2.1 0 + 1, ())
def noneF : Fl := (-1, false, 0, ())
def beginE (f : Fl) (r : Int) : Int := bif onF f || decide (r < 0) then 2 else 0
def beginF (f : Fl) (r : Int) : Fl := bif onF f || decide (r < 0) then (0, false, 0, ()) else (r, false, max f.2.2.1 0, ())
def endsB (b : Bk) : Bool := !b.2.2.2.2.2.2.1 && startsF b.2.2.2.2.1
def quitB (b : Bk) (c : Int) : Bk := bif decide (0 ≤ idxN c b.2.2.2.1) then (b.1, b.2.1, b.2.2.1, delL b.2.2.2.1 (idxN c b.2.2.2.1) (idxN c b.2.2.2.1 + 1), partF b.2.2.2.2.1 1, b.2.2.2.2.2.1, b.2.2.2.2.2.2.1, ()) else b
def quitT (b : Bk) (c : Int) : Tn := bif decide (0 ≤ idxN c b.2.2.2.1) then ([(c, -1, 191, ())], [], endsB (quitB b c), partC b.2.2.2.2.1 1, ()) else ([], [], endsB b, false, ())
def okW (b : Bk) : Bool := szI b.2.2.2.1
def cQuit : Contract := conD (.cons BookT (.cons I64 .unit)) (.cons BookT (.cons TurnT .unit)) (fun x => okW x.1) fun x => (quitB x.1 x.2.1, (quitT x.1 x.2.1, ()))
end Go.Proofs.YtdkcgcgefgeooaaGreatDoor.Ow
set_option maxRecDepth 100000
namespace Go.Proofs.YtdkcgcgefgeooaaGreatDoor.Ow
open Go Go.Eng
abbrev mkB (cf : Cf) (id : List Rs) (le wa : List Int) (fl : Fl) (sc : List Sc) (cl : Bool) : Bk := (cf, id, le, wa, fl, sc, cl, ())
def cPart : Contract := conD (.cons FlT (.cons I64 .unit)) (.cons FlT (.cons .bool .unit)) (fun _ => true) fun x => (partF x.1 x.2.1, (partC x.1 x.2.1, ()))
def cOn : Contract := conD (.cons FlT .unit) (.cons .bool .unit) (fun _ => true) fun x => (onF x.1, ())
def cStarts : Contract := conD (.cons FlT .unit) (.cons .bool .unit) (fun _ => true) fun x => (startsF x.1, ())
def joinN (f : Fl) (n : Int) : Fl := (f.1, f.2.1, max f.2.2.1 0 + n, ())
def cJoin : Contract := conD (.cons FlT (.cons IL .unit)) (.cons FlT .unit) (fun x => decide (x.1.2.2.1 ≤ 1152921504606846976) && decide (List.length (α := Int) x.2.1 = 1)) fun x => (joinF x.1, ())
def cEnd : Contract := conD (.cons FlT .unit) (.cons FlT .unit) (fun _ => true) fun x => (endF x.1, ())
def cBegin : Contract := conD (.cons FlT (.cons I64 .unit)) (.cons FlT (.cons I64 .unit)) (fun _ => true) fun x => (beginF x.1 x.2.1, (beginE x.1 x.2.1, ()))
def flB (f : Fl) : Bool := (decide (-1 ≤ f.1) && decide (0 ≤ f.2.2.1)) && (!f.2.1 || onF f)
def flCk (f : Fl) : Int := bif flB f then 0 else 2
def cFlCk : Contract := conD (.cons FlT .unit) (.cons I64 .unit) (fun _ => true) fun x => (flCk x.1, ())
def skOf (r : Rs) : Int := r.1
def ownsL (b : Bk) : List Int := b.2.1.map skOf ++ b.2.2.1
def szB (b : Bk) : Bool := decide (b.2.1.length ≤ 1000000) && (szI b.2.2.1 && (szI b.2.2.2.1 && (decide (b.2.2.2.2.2.1.length ≤ 1000000) && decide (b.2.2.2.2.1.2.2.1 ≤ 1152921504606846976))))
def cOwns : Contract := conD (.cons BookT .unit) (.cons IL .unit) (fun x => szB x.1) fun x => (ownsL x.1, ())
structure OwI (l : List Rs) (i : Int) (o : List Int) : Prop where
  i0 : 0 ≤ i
  i1 : i ≤ l.length
  a : o = (l.take i.toNat).map skOf
def owA : LoopAnn where
  α := Int × List Int
  keep := [1, 6, 7]
  okeep := [0]
  nxt := 2500
  env := fun _ x => [(8, .dat I64 x.1), (2, .own 2000)]
  own := fun _ x => [(2000, .row 3 I64 x.2)]
  inv := fun s x => OwI (bDat (.sl RestT) s 6).out x.1 x.2
  mu := fun s x => List.length (α := Rs) (bDat (.sl RestT) s 6).out - x.1.toNat
  pick := some fun _ s => ((bDat I64 s 8).out, (bRow I64 s 2).out)
def owR : LoopAnn where
  α := Int × List Int
  keep := [1, 2]
  okeep := [0]
  nxt := 2500
  env := fun _ x => [(4, .dat I64 x.1), (3, .own 2000)]
  own := fun _ x => [(2000, .row 3 I64 x.2)]
  inv := fun s x => OwI (cDat BookT s 1 0).out.2.1 x.1 x.2
  mu := fun s x => List.length (α := Rs) (cDat BookT s 1 0).out.2.1 - x.1.toNat
  pick := some fun _ s => ((bDat I64 s 4).out, (bRow I64 s 3).out)
def plA : LoopAnn where
  α := Int
  keep := [0, 1]
  okeep := []
  nxt := 500
  env := fun _ x => [(5, .dat I64 x)]
  own := fun _ _ => []
  inv := fun s x => IdI (bDat I64 s 1).out (bDat IL s 0).out x
  mu := fun s x => List.length (α := Int) (bDat IL s 0).out - x.toNat
  pick := some fun _ s => (bDat I64 s 5).out
def twB (l : List Int) : Bool := !decide l.Nodup
def cTwice : Contract := conD (.cons IL .unit) (.cons .bool .unit) (fun x => szI x.1) fun x => (twB x.1, ())
structure TwI (l : List Int) (i : Int) : Prop where
  i0 : 0 ≤ i
  i1 : i ≤ l.length
  a : (l.take i.toNat).Nodup
def twA : LoopAnn where
  α := Int
  keep := [0]
  okeep := []
  nxt := 500
  env := fun _ x => [(3, .dat I64 x)]
  own := fun _ _ => []
  inv := fun s x => TwI (bDat IL s 0).out x
  mu := fun s x => List.length (α := Int) (bDat IL s 0).out - x.toNat
  pick := some fun _ s => (bDat I64 s 3).out
def cOnce : Contract := conD (.cons IL .unit) (.cons .bool .unit) (fun x => decide (List.length (α := Int) x.1 ≤ 3000000)) fun x => (decide (List.Nodup (α := Int) x.1), ())
def cTwice3 : Contract := conD (.cons IL .unit) (.cons .bool .unit) (fun x => decide (List.length (α := Int) x.1 ≤ 3000000)) fun x => (twB x.1, ())
def ckB (b : Bk) : Bool := ((flB b.2.2.2.2.1 && decide (b.2.2.2.2.1.2.2.1 = (b.2.2.2.1.length : Int))) && (decide ((b.2.1.length : Int) ≤ b.1.2.1) && (decide (ownsL b).Nodup && decide b.2.2.2.1.Nodup))) &&
  ((decide (b.2.2.2.1.length = 0) || decide (b.2.1.length = 0)) && (!b.2.2.2.2.2.2.1 || decide ((ownsL b).length + b.2.2.2.1.length = 0)))
def ckE (b : Bk) : Int := bif ckB b then 0 else 2
def cCk : Contract := conD (.cons BookT .unit) (.cons I64 .unit) (fun x => szB x.1) fun x => (ckE x.1, ())
def greatB (b : Bk) : Bool := decide (60 < b.2.1.length) || (decide (100 < b.2.2.1.length) || (decide (100 < b.2.2.2.1.length) || (decide (100 < b.2.2.2.2.2.1.length) || decide (1099511627776 < b.2.2.2.2.1.2.2.1))))
def cGreat : Contract := conD (.cons BookT .unit) (.cons .bool .unit) (fun _ => true) fun x => (greatB x.1, ())
def eqLT (t : Ty) : List t.El → List t.El → Bool
  | [], [] => true
  | x :: a, y :: b => t.eqb x y && eqLT t a b
  | _, _ => false
theorem eqLT_ok {t : Ty} (hf : t.flat = true) : ∀ {a b : List t.El}, eqLT t a b = true → a = b
  | [], [], _ => rfl
  | [], _ :: _, h => by simp [eqLT] at h
  | _ :: _, [], h => by simp [eqLT] at h
  | x :: a, y :: b, h => by
    simp only [eqLT, Bool.and_eq_true] at h
    rw [eqb_eq t hf x y h.1, eqLT_ok hf h.2]
def eqBk (a b : Bk) : Bool := (ConfT.eqb a.1 b.1 && (eqLT RestT a.2.1 b.2.1 && eqLT I64 a.2.2.1 b.2.2.1)) && ((eqLT I64 a.2.2.2.1 b.2.2.2.1 && FlT.eqb a.2.2.2.2.1 b.2.2.2.2.1) && (eqLT ScT a.2.2.2.2.2.1 b.2.2.2.2.2.1 && (a.2.2.2.2.2.2.1 == b.2.2.2.2.2.2.1)))
theorem eqBk_ok {a b : Bk} (h : eqBk a b = true) : a = b := by
  simp only [eqBk, Bool.and_eq_true, beq_iff_eq] at h
  obtain ⟨⟨h1, h2, h3⟩, ⟨h4, h5⟩, h6, h7⟩ := h
  obtain ⟨a1, a2, a3, a4, a5, a6, a7, ⟨⟩⟩ := a
  obtain ⟨b1, b2, b3, b4, b5, b6, b7, ⟨⟩⟩ := b
  have e1 := eqb_eq ConfT rfl _ _ h1
  have e2 := eqLT_ok (t := RestT) rfl h2
  have e3 := eqLT_ok (t := I64) rfl h3
  have e4 := eqLT_ok (t := I64) rfl h4
  have e5 := eqb_eq FlT rfl _ _ h5
  have e6 := eqLT_ok (t := ScT) rfl h6
  simp only at e1 e2 e3 e4 e5 e6 h7
  rw [e1, e2, e3, e4, e5, e6, h7]
def cSam (t : Ty) (hf : t.flat = true := by rfl) : Contract := { a := .cons (.sl t) (.cons (.sl t) .unit), r := .cons .bool .unit, pre := fun x => x.1 = x.2.1, F := fun _ => (true, ()), preB := fun x => eqLT t x.1 x.2.1, preOk := fun _ h => eqLT_ok hf h }
structure EqI {α : Type} (l : List α) (i : Int) : Prop where
  i0 : 0 ≤ i
  i1 : i ≤ l.length
def eqA (t : Ty) : LoopAnn where
  α := Int
  keep := [0, 1, 12]
  okeep := []
  nxt := 500
  env := fun _ x => [(13, .dat I64 x)]
  own := fun _ _ => []
  inv := fun s x => EqI (bDat (.sl t) s 0).out x
  mu := fun s x => List.length (α := t.El) (bDat (.sl t) s 0).out - x.toNat
  pick := some fun _ s => (bDat I64 s 13).out
def eqR : LoopAnn where
  α := Int
  keep := [0, 1]
  okeep := []
  nxt := 500
  env := fun _ x => [(5, .dat I64 x)]
  own := fun _ _ => []
  inv := fun s x => EqI (bDat IL s 0).out x
  mu := fun s x => List.length (α := Int) (bDat IL s 0).out - x.toNat
  pick := some fun _ s => (bDat I64 s 5).out
def cSameB : Contract := { a := .cons BookT (.cons BookT .unit), r := .cons .bool .unit, pre := fun x => x.1 = x.2.1, F := fun _ => (true, ()), preB := fun x => eqBk x.1 x.2.1, preOk := fun _ h => eqBk_ok h }
end Go.Proofs.YtdkcgcgefgeooaaGreatDoor.Ow
namespace Go.Proofs.YtdkcgcgefgeooaaGreatDoor.Ow
open Go Go.Eng 
set_option maxRecDepth 100000
noncomputable def g32 : Cfg := { tab := To.tab, cons := [], inls := [(46, Tryz.f46)], loops := [], cuts := [], unroll := false, arrs := [], keys := [] }
noncomputable def g92 : Cfg := { tab := To.tab, cons := [], inls := [], loops := [(2, idA)], cuts := [], unroll := false, arrs := [], keys := [] }
noncomputable def g41 : Cfg := { tab := To.tab, cons := [], inls := [], loops := [(2, plA)], cuts := [], unroll := false, arrs := [], keys := [] }
noncomputable def g94 : Cfg := { tab := To.tab, cons := [], inls := [], loops := [], cuts := [], unroll := false, arrs := [], keys := [] }
noncomputable def g111 : Cfg := { tab := To.tab, cons := [(32, cOn)], inls := [(70, Tryz.f70)], loops := [], cuts := [], unroll := false, arrs := [], keys := [] }
noncomputable def g86 : Cfg := { tab := To.tab, cons := [(32, cOn)], inls := [(70, Tryz.f70)], loops := [], cuts := [], unroll := false, arrs := [], keys := [] }
noncomputable def g91 : Cfg := { tab := To.tab, cons := [], inls := [(70, Tryz.f70)], loops := [], cuts := [], unroll := false, arrs := [], keys := [] }
noncomputable def g80 : Cfg := { tab := To.tab, cons := [], inls := [(28, Tryz.f28), (70, Tryz.f70)], loops := [], cuts := [], unroll := false, arrs := [], keys := [] }
noncomputable def g54 : Cfg := { tab := To.tab, cons := [(32, cOn)], inls := [(70, Tryz.f70)], loops := [], cuts := [], unroll := false, arrs := [], keys := [] }
noncomputable def g26 : Cfg := { tab := To.tab, cons := [], inls := [], loops := [], cuts := [], unroll := false, arrs := [], keys := [] }
noncomputable def g97 : Cfg := { tab := To.tab, cons := [], inls := [], loops := [(2, owA)], cuts := [], unroll := false, arrs := [], keys := [] }
noncomputable def g16 : Cfg := { tab := To.tab, cons := [], inls := [], loops := [(3, owR)], cuts := [], unroll := false, arrs := [], keys := [] }
noncomputable def g27 : Cfg := { tab := To.tab, cons := [(41, cIdx)], inls := [], loops := [(2, twA)], cuts := [], unroll := false, arrs := [], keys := [] }
noncomputable def g15 : Cfg := { tab := To.tab, cons := [(16, cOwns), (26, cFlCk), (27, cTwice3)], inls := [], loops := [], cuts := [], unroll := false, arrs := [], keys := [] }
noncomputable def g25 : Cfg := { tab := To.tab, cons := [], inls := [], loops := [], cuts := [], unroll := false, arrs := [], keys := [] }
noncomputable def g57 : Cfg := { tab := To.tab, cons := [(86, cStarts), (92, cIdx), (94, (cClone 3 8 I64)), (111, cPart)], mcons := [(93, mDel)], inls := [(61, Tryz.f61), (63, Tryz.f63), (69, Tryz.f69), (73, Tryz.f73), (87, Tryz.f87), (95, Tryz.f95), (96, Tryz.f96)], loops := [], cuts := [], unroll := false, arrs := [], keys := [] }
end Go.Proofs.YtdkcgcgefgeooaaGreatDoor.Ow
namespace Go.Proofs.YtdkcgcgefgeooaaGreatDoor.Ow
open Go Go.Eng 
set_option maxRecDepth 100000
theorem v32_eq : vcFn g32 300 Tryz.f32 cOn = ( ∀ (x : (Int × Bool × Int × Unit) × Unit), Wr (Bool.true = Bool.true) → (Decidable.decide (x.1.1 ≥ (0 : Int)), ()) = (onF x.1, ())) := by kernel_rfl
theorem v92_eq : vcFn g92 300 Tryz.f92 cIdx.T = ( ∀ (x : List Int × Int × Unit), Wr (typedB (Ty.cons IL (Ty.cons I64 Ty.unit)) x = Bool.true ∧ Bool.true = Bool.true) → (Wr (IdI x.2.1 x.1 (0 : Int)) ∧ Wr ((0 : Int) = (0 : Int)) ∧ Wr (x.1 = x.1) ∧ Wr (x.2.1
  = x.2.1) ∧ Wr (x.1 = x.1) ∧ Wr ((↑(List.length x.1) : Int) = (↑(List.length x.1) : Int))) ∧ ∀ (x_1 : Int), Wr (IdI x.2.1 x.1 x_1) → bcase (Decidable.decide (x_1 < (↑(List.length x.1) : Int))) (Wr ((0
  : Int) ≤ x_1) ∧ Wr (x_1 < (↑(List.length x.1) : Int)) ∧ Wr (Bool.true = Bool.true) ∧ bcase (Decidable.decide (x.2.1 = List.getD x.1 (Int.toNat x_1) (0 : Int))) ((x_1, ()) = (idxN x.2.1 x.1, ())) (Wr (IdI
  x.2.1 x.1 (IntKind.wrap IntKind.i64 (x_1 + (1 : Int)))) ∧ Wr (List.length x.1 - Int.toNat (IntKind.wrap IntKind.i64 (x_1 + (1 : Int))) < List.length x.1 - Int.toNat x_1) ∧ Wr (IntKind.wrap IntKind.i64 (x_1 +
  (1 : Int)) = IntKind.wrap IntKind.i64 (x_1 + (1 : Int))) ∧ Wr (x.1 = x.1) ∧ Wr (x.2.1 = x.2.1) ∧ Wr (x.1 = x.1) ∧ Wr ((↑(List.length x.1) : Int) = (↑(List.length x.1) : Int)))) (((-1 : Int), ()) =
  (idxN x.2.1 x.1, ()))) := by kernel_rfl
theorem v41_eq : vcFn g41 300 Tryz.f41 cIdx.T = ( ∀ (x : List Int × Int × Unit), Wr (typedB (Ty.cons IL (Ty.cons I64 Ty.unit)) x = Bool.true ∧ Bool.true = Bool.true) → (Wr (IdI x.2.1 x.1 (0 : Int)) ∧ Wr ((0 : Int) = (0 : Int)) ∧ Wr (x.1 = x.1) ∧ Wr (x.2.1
  = x.2.1)) ∧ ∀ (x_1 : Int), Wr (IdI x.2.1 x.1 x_1) → bcase (Decidable.decide (x_1 < (↑(List.length x.1) : Int))) (Wr ((0 : Int) ≤ x_1) ∧ Wr (x_1 < (↑(List.length x.1) : Int)) ∧ Wr (Bool.true = Bool.true) ∧
  bcase (Decidable.decide (List.getD x.1 (Int.toNat x_1) (0 : Int) = x.2.1)) ((x_1, ()) = (idxN x.2.1 x.1, ())) (Wr (IdI x.2.1 x.1 (IntKind.wrap IntKind.i64 (x_1 + (1 : Int)))) ∧ Wr (List.length x.1 -
  Int.toNat (IntKind.wrap IntKind.i64 (x_1 + (1 : Int))) < List.length x.1 - Int.toNat x_1) ∧ Wr (IntKind.wrap IntKind.i64 (x_1 + (1 : Int)) = IntKind.wrap IntKind.i64 (x_1 + (1 : Int))) ∧ Wr (x.1 = x.1) ∧ Wr
  (x.2.1 = x.2.1))) (((-1 : Int), ()) = (idxN x.2.1 x.1, ()))) := by kernel_rfl
theorem v94_eq : vcFn g94 300 Tryz.f94 ((cClone 3 8 I64)) = ( ∀ (x : List Int × Unit), Wr (Decidable.decide (List.length x.1 * (8 : Nat) ≤ (140737488355328 : Nat)) = Bool.true) → ∀ (b : Bool), Wr (b = Bool.true → x.1 = nilL Int) → bcase b (x.1 = nilL Int) (Wr ((List.length
  (nilL Int) + List.length x.1) * (8 : Nat) ≤ (140737488355328 : Nat)) ∧ nilL Int ++ x.1 = x.1)) := by kernel_rfl
theorem v111_eq : vcFn g111 300 Tryz.f111 cPart.T = ( ∀ (x : (Int × Bool × Int × Unit) × Int × Unit), Wr (typedB (Ty.cons FlT (Ty.cons I64 Ty.unit)) x = Bool.true ∧ Bool.true = Bool.true) → Wr (Bool.true = Bool.true) ∧ bcase (onF (x.1.1, x.1.2.1, Max.max
  (IntKind.wrap IntKind.i64 (Max.max x.1.2.2.1 (0 : Int) - Max.max x.2.1 (0 : Int))) (0 : Int), ()) && !x.1.2.1 && Decidable.decide (Max.max (IntKind.wrap IntKind.i64 (Max.max x.1.2.2.1 (0 : Int)
  - Max.max x.2.1 (0 : Int))) (0 : Int) = (0 : Int))) (((x.1.1, Bool.true, Max.max (IntKind.wrap IntKind.i64 (Max.max x.1.2.2.1 (0 : Int) - Max.max x.2.1 (0 : Int))) (0 : Int), ()), onF (x.1.1,
  x.1.2.1, Max.max (IntKind.wrap IntKind.i64 (Max.max x.1.2.2.1 (0 : Int) - Max.max x.2.1 (0 : Int))) (0 : Int), ()) && !x.1.2.1 && Decidable.decide (Max.max (IntKind.wrap IntKind.i64 (Max.max
  x.1.2.2.1 (0 : Int) - Max.max x.2.1 (0 : Int))) (0 : Int) = (0 : Int)), ()) = (partF x.1 x.2.1, partC x.1 x.2.1, ())) (((x.1.1, x.1.2.1, Max.max (IntKind.wrap IntKind.i64 (Max.max
  x.1.2.2.1 (0 : Int) - Max.max x.2.1 (0 : Int))) (0 : Int), ()), onF (x.1.1, x.1.2.1, Max.max (IntKind.wrap IntKind.i64 (Max.max x.1.2.2.1 (0 : Int) - Max.max x.2.1 (0 : Int))) (0 :
  Int), ()) && !x.1.2.1 && Decidable.decide (Max.max (IntKind.wrap IntKind.i64 (Max.max x.1.2.2.1 (0 : Int) - Max.max x.2.1 (0 : Int))) (0 : Int) = (0 : Int)), ()) = (partF x.1 x.2.1, partC x.1
  x.2.1, ()))) := by kernel_rfl
theorem v86_eq : vcFn g86 300 Tryz.f86 cStarts = ( ∀ (x : (Int × Bool × Int × Unit) × Unit), Wr (Bool.true = Bool.true) → Wr (Bool.true = Bool.true) ∧ (!onF x.1 && Decidable.decide (x.1.2.2.1 > (0 : Int)), ()) = (startsF x.1, ())) := by kernel_rfl
theorem v91_eq : vcFn g91 300 Tryz.f91 cJoin = ( ∀ (x : (Int × Bool × Int × Unit) × List Int × Unit), Wr ((Decidable.decide (x.1.2.2.1 ≤ (1152921504606846976 : Ty.El I64)) && Decidable.decide (List.length x.2.1 = (1 : Nat))) = Bool.true) → ((x.1.1,
  x.1.2.1, IntKind.wrap IntKind.i64 (Max.max x.1.2.2.1 (0 : Int) + (↑(List.length x.2.1) : Int)), ()), ()) = (joinF x.1, ())) := by kernel_rfl
theorem v80_eq : vcFn g80 300 Tryz.f80 cEnd = ( ∀ (x : (Int × Bool × Int × Unit) × Unit), Wr (Bool.true = Bool.true) → (((-1 : Int), Bool.false, Max.max x.1.2.2.1 (0 : Int), ()), ()) = (endF x.1, ())) := by kernel_rfl
theorem v54_eq : vcFn g54 300 Tryz.f54 cBegin = ( ∀ (x : (Int × Bool × Int × Unit) × Int × Unit), Wr (Bool.true = Bool.true) → Wr (Bool.true = Bool.true) ∧ bcase (onF x.1 || Decidable.decide (x.2.1 < (0 : Int))) ((((0 : Int), Bool.false, (0 : Int), ()), (2 : Int),
  ()) = (beginF x.1 x.2.1, beginE x.1 x.2.1, ())) (((x.2.1, Bool.false, Max.max x.1.2.2.1 (0 : Int), ()), (0 : Int), ()) = (beginF x.1 x.2.1, beginE x.1 x.2.1, ()))) := by kernel_rfl
theorem v26_eq : vcFn g26 300 Tryz.f26 cFlCk = ( ∀ (x : (Int × Bool × Int × Unit) × Unit), Wr (Bool.true = Bool.true) → bcase (Decidable.decide (x.1.1 < (-1 : Int)) || Decidable.decide (x.1.2.2.1 < (0 : Int)) || x.1.2.1 && Decidable.decide (x.1.1
  < (0 : Int))) (((2 : Int), ()) = (flCk x.1, ())) (((0 : Int), ()) = (flCk x.1, ()))) := by kernel_rfl
theorem v97_eq : vcFn g97 300 Tryz.f97 cOwns = ( ∀ (x : ((Int × Int × Int × Int × Int × Int × Int × Int × Int × Unit) × List (Int × Int × Unit) × List Int × List Int × (Int × Bool × Int × Unit) × List ((Int × (Int × Int × Int × Int × Int × Int × Int × Int × Unit) × Int
  × Unit) × Int × Unit) × Bool × Unit) × Unit), Wr (szB x.1 = Bool.true) → (Wr (OwI x.1.2.1 (0 : Int) (nilL Int)) ∧ Wr ((0 : Int) = (0 : Int)) ∧ Wr (x.1.2.1 = x.1.2.1) ∧ Wr ((↑(List.length
  x.1.2.1) : Int) = (↑(List.length x.1.2.1) : Int)) ∧ Wr (nilL Int = nilL Int) ∧ Wr (x.1.1.1 = x.1.1.1) ∧ Wr (x.1.1.2.1 = x.1.1.2.1) ∧ Wr (x.1.1.2.2.1 =
  x.1.1.2.2.1) ∧ Wr (x.1.1.2.2.2.1 = x.1.1.2.2.2.1) ∧ Wr (x.1.1.2.2.2.2.1 = x.1.1.2.2.2.2.1) ∧ Wr (x.1.1.2.2.2.2.2.1 =
  x.1.1.2.2.2.2.2.1) ∧ Wr (x.1.1.2.2.2.2.2.2.1 = x.1.1.2.2.2.2.2.2.1) ∧ Wr (x.1.1.2.2.2.2.2.2.2.1 = x.1.1.2.2.2.2.2.2.2.1) ∧ Wr
  (x.1.1.2.2.2.2.2.2.2.2.1 = x.1.1.2.2.2.2.2.2.2.2.1) ∧ Wr (x.1.2.1 = x.1.2.1) ∧ Wr (x.1.2.2.1 = x.1.2.2.1) ∧ Wr (x.1.2.2.2.1 =
  x.1.2.2.2.1) ∧ Wr (x.1.2.2.2.2.1.1 = x.1.2.2.2.2.1.1) ∧ Wr (x.1.2.2.2.2.1.2.1 = x.1.2.2.2.2.1.2.1) ∧ Wr (x.1.2.2.2.2.1.2.2.1 =
  x.1.2.2.2.2.1.2.2.1) ∧ Wr (x.1.2.2.2.2.2.1 = x.1.2.2.2.2.2.1) ∧ Wr (x.1.2.2.2.2.2.2.1 = x.1.2.2.2.2.2.2.1)) ∧ ∀ (x_1 : Int × List Int), Wr
  (OwI x.1.2.1 x_1.1 x_1.2) → bcase (Decidable.decide (x_1.1 < (↑(List.length x.1.2.1) : Int))) (Wr ((0 : Int) ≤ x_1.1) ∧ Wr (x_1.1 < (↑(List.length x.1.2.1) : Int)) ∧ Wr (Bool.true =
  Bool.true) ∧ Wr ((List.length x_1.2 + List.length ((List.getD x.1.2.1 (Int.toNat x_1.1) (Ty.zero RestT)).1 :: nilL Int)) * (8 : Nat) ≤ (140737488355328 : Nat)) ∧ Wr (OwI x.1.2.1 (IntKind.wrap
  IntKind.i64 (x_1.1 + (1 : Int))) (x_1.2 ++ (List.getD x.1.2.1 (Int.toNat x_1.1) (Ty.zero RestT)).1 :: nilL Int)) ∧ Wr (List.length x.1.2.1 - Int.toNat (IntKind.wrap IntKind.i64 (x_1.1 + (1 : Int)))
  < List.length x.1.2.1 - Int.toNat x_1.1) ∧ Wr (IntKind.wrap IntKind.i64 (x_1.1 + (1 : Int)) = IntKind.wrap IntKind.i64 (x_1.1 + (1 : Int))) ∧ Wr (x.1.2.1 = x.1.2.1) ∧ Wr ((↑(List.length
  x.1.2.1) : Int) = (↑(List.length x.1.2.1) : Int)) ∧ Wr (x_1.2 ++ (List.getD x.1.2.1 (Int.toNat x_1.1) (Ty.zero RestT)).1 :: nilL Int = x_1.2 ++ (List.getD x.1.2.1 (Int.toNat x_1.1)
  (Ty.zero RestT)).1 :: nilL Int) ∧ Wr (x.1.1.1 = x.1.1.1) ∧ Wr (x.1.1.2.1 = x.1.1.2.1) ∧ Wr (x.1.1.2.2.1 = x.1.1.2.2.1) ∧ Wr (x.1.1.2.2.2.1 =
  x.1.1.2.2.2.1) ∧ Wr (x.1.1.2.2.2.2.1 = x.1.1.2.2.2.2.1) ∧ Wr (x.1.1.2.2.2.2.2.1 = x.1.1.2.2.2.2.2.1) ∧ Wr (x.1.1.2.2.2.2.2.2.1 =
  x.1.1.2.2.2.2.2.2.1) ∧ Wr (x.1.1.2.2.2.2.2.2.2.1 = x.1.1.2.2.2.2.2.2.2.1) ∧ Wr (x.1.1.2.2.2.2.2.2.2.2.1 =
  x.1.1.2.2.2.2.2.2.2.2.1) ∧ Wr (x.1.2.1 = x.1.2.1) ∧ Wr (x.1.2.2.1 = x.1.2.2.1) ∧ Wr (x.1.2.2.2.1 = x.1.2.2.2.1) ∧ Wr (x.1.2.2.2.2.1.1 =
  x.1.2.2.2.2.1.1) ∧ Wr (x.1.2.2.2.2.1.2.1 = x.1.2.2.2.2.1.2.1) ∧ Wr (x.1.2.2.2.2.1.2.2.1 = x.1.2.2.2.2.1.2.2.1) ∧ Wr
  (x.1.2.2.2.2.2.1 = x.1.2.2.2.2.2.1) ∧ Wr (x.1.2.2.2.2.2.2.1 = x.1.2.2.2.2.2.2.1)) (Wr ((List.length x_1.2 + List.length x.1.2.2.1) * (8 : Nat) ≤
  (140737488355328 : Nat)) ∧ (x_1.2 ++ x.1.2.2.1, ()) = (ownsL x.1, ()))) := by kernel_rfl
theorem v16_eq : vcFn g16 300 Tryz.f16 cOwns = ( ∀ (x : ((Int × Int × Int × Int × Int × Int × Int × Int × Int × Unit) × List (Int × Int × Unit) × List Int × List Int × (Int × Bool × Int × Unit) × List ((Int × (Int × Int × Int × Int × Int × Int × Int × Int × Unit) × Int
  × Unit) × Int × Unit) × Bool × Unit) × Unit), Wr (szB x.1 = Bool.true) → (Wr (OwI x.1.2.1 (0 : Int) (nilL Int)) ∧ Wr ((0 : Int) = (0 : Int)) ∧ Wr (nilL Int = nilL Int) ∧ Wr (x.1.1.1 = x.1.1.1) ∧ Wr
  (x.1.1.2.1 = x.1.1.2.1) ∧ Wr (x.1.1.2.2.1 = x.1.1.2.2.1) ∧ Wr (x.1.1.2.2.2.1 = x.1.1.2.2.2.1) ∧ Wr (x.1.1.2.2.2.2.1 =
  x.1.1.2.2.2.2.1) ∧ Wr (x.1.1.2.2.2.2.2.1 = x.1.1.2.2.2.2.2.1) ∧ Wr (x.1.1.2.2.2.2.2.2.1 = x.1.1.2.2.2.2.2.2.1) ∧ Wr
  (x.1.1.2.2.2.2.2.2.2.1 = x.1.1.2.2.2.2.2.2.2.1) ∧ Wr (x.1.1.2.2.2.2.2.2.2.2.1 = x.1.1.2.2.2.2.2.2.2.2.1) ∧ Wr (x.1.2.1 =
  x.1.2.1) ∧ Wr (x.1.2.2.1 = x.1.2.2.1) ∧ Wr (x.1.2.2.2.1 = x.1.2.2.2.1) ∧ Wr (x.1.2.2.2.2.1.1 = x.1.2.2.2.2.1.1) ∧ Wr
  (x.1.2.2.2.2.1.2.1 = x.1.2.2.2.2.1.2.1) ∧ Wr (x.1.2.2.2.2.1.2.2.1 = x.1.2.2.2.2.1.2.2.1) ∧ Wr (x.1.2.2.2.2.2.1 =
  x.1.2.2.2.2.2.1) ∧ Wr (x.1.2.2.2.2.2.2.1 = x.1.2.2.2.2.2.2.1)) ∧ ∀ (x_1 : Int × List Int), Wr (OwI x.1.2.1 x_1.1 x_1.2) → bcase (Decidable.decide (x_1.1 <
  (↑(List.length x.1.2.1) : Int))) (Wr ((0 : Int) ≤ x_1.1) ∧ Wr (x_1.1 < (↑(List.length x.1.2.1) : Int)) ∧ Wr (Bool.true = Bool.true) ∧ Wr (Bool.true = Bool.true) ∧ Wr ((List.length x_1.2 + List.length
  ((List.getD x.1.2.1 (Int.toNat x_1.1) (Ty.zero RestT)).1 :: nilL Int)) * (8 : Nat) ≤ (140737488355328 : Nat)) ∧ Wr (OwI x.1.2.1 (IntKind.wrap IntKind.i64 (x_1.1 + (1 : Int))) (x_1.2 ++ (List.getD
  x.1.2.1 (Int.toNat x_1.1) (Ty.zero RestT)).1 :: nilL Int)) ∧ Wr (List.length x.1.2.1 - Int.toNat (IntKind.wrap IntKind.i64 (x_1.1 + (1 : Int))) < List.length x.1.2.1 - Int.toNat x_1.1) ∧ Wr
  (IntKind.wrap IntKind.i64 (x_1.1 + (1 : Int)) = IntKind.wrap IntKind.i64 (x_1.1 + (1 : Int))) ∧ Wr (x_1.2 ++ (List.getD x.1.2.1 (Int.toNat x_1.1) (Ty.zero RestT)).1 :: nilL Int = x_1.2 ++ (List.getD
  x.1.2.1 (Int.toNat x_1.1) (Ty.zero RestT)).1 :: nilL Int) ∧ Wr (x.1.1.1 = x.1.1.1) ∧ Wr (x.1.1.2.1 = x.1.1.2.1) ∧ Wr (x.1.1.2.2.1 = x.1.1.2.2.1) ∧ Wr
  (x.1.1.2.2.2.1 = x.1.1.2.2.2.1) ∧ Wr (x.1.1.2.2.2.2.1 = x.1.1.2.2.2.2.1) ∧ Wr (x.1.1.2.2.2.2.2.1 = x.1.1.2.2.2.2.2.1) ∧ Wr
  (x.1.1.2.2.2.2.2.2.1 = x.1.1.2.2.2.2.2.2.1) ∧ Wr (x.1.1.2.2.2.2.2.2.2.1 = x.1.1.2.2.2.2.2.2.2.1) ∧ Wr
  (x.1.1.2.2.2.2.2.2.2.2.1 = x.1.1.2.2.2.2.2.2.2.2.1) ∧ Wr (x.1.2.1 = x.1.2.1) ∧ Wr (x.1.2.2.1 = x.1.2.2.1) ∧ Wr (x.1.2.2.2.1 =
  x.1.2.2.2.1) ∧ Wr (x.1.2.2.2.2.1.1 = x.1.2.2.2.2.1.1) ∧ Wr (x.1.2.2.2.2.1.2.1 = x.1.2.2.2.2.1.2.1) ∧ Wr (x.1.2.2.2.2.1.2.2.1 =
  x.1.2.2.2.2.1.2.2.1) ∧ Wr (x.1.2.2.2.2.2.1 = x.1.2.2.2.2.2.1) ∧ Wr (x.1.2.2.2.2.2.2.1 = x.1.2.2.2.2.2.2.1)) (Wr ((List.length x_1.2 +
  List.length x.1.2.2.1) * (8 : Nat) ≤ (140737488355328 : Nat)) ∧ (x_1.2 ++ x.1.2.2.1, ()) = (ownsL x.1, ()))) := by kernel_rfl
theorem v27_eq : vcFn g27 300 Tryz.f27 cTwice3 = ( ∀ (x : List Int × Unit), Wr (Decidable.decide (List.length x.1 ≤ (3000000 : Nat)) = Bool.true) → (Wr (TwI x.1 (0 : Int)) ∧ Wr ((0 : Int) = (0 : Int)) ∧ Wr (x.1 = x.1)) ∧ ∀ (x_1 : Int), Wr (TwI x.1 x_1) → bcase
  (Decidable.decide (x_1 < (↑(List.length x.1) : Int))) (Wr ((0 : Int) ≤ x_1) ∧ Wr (x_1 < (↑(List.length x.1) : Int)) ∧ Wr (Bool.true = Bool.true) ∧ Wr (Bool.true = Bool.true) ∧ bcase (!Decidable.decide (idxN
  (List.getD x.1 (Int.toNat x_1) (0 : Int)) x.1 = x_1)) ((Bool.true, ()) = (twB x.1, ())) (Wr (TwI x.1 (IntKind.wrap IntKind.i64 (x_1 + (1 : Int)))) ∧ Wr (List.length x.1 - Int.toNat (IntKind.wrap IntKind.i64
  (x_1 + (1 : Int))) < List.length x.1 - Int.toNat x_1) ∧ Wr (IntKind.wrap IntKind.i64 (x_1 + (1 : Int)) = IntKind.wrap IntKind.i64 (x_1 + (1 : Int))) ∧ Wr (x.1 = x.1))) ((Bool.false, ()) = (twB x.1, ()))) := by kernel_rfl
theorem v15_eq : vcFn g15 300 Tryz.f15 cCk = ( ∀ (x : ((Int × Int × Int × Int × Int × Int × Int × Int × Int × Unit) × List (Int × Int × Unit) × List Int × List Int × (Int × Bool × Int × Unit) × List ((Int × (Int × Int × Int × Int × Int × Int × Int × Int × Unit) × Int
  × Unit) × Int × Unit) × Bool × Unit) × Unit), Wr (szB x.1 = Bool.true) → Wr (szB x.1 = Bool.true) ∧ Wr (Bool.true = Bool.true) ∧ Wr ((!(!Decidable.decide (flCk x.1.2.2.2.2.1 = (0 : Int)) ||
  !Decidable.decide (x.1.2.2.2.2.1.2.2.1 = (↑(List.length x.1.2.2.2.1) : Int)) || Decidable.decide ((↑(List.length x.1.2.1) : Int) > x.1.1.2.1))) = Bool.true → Decidable.decide
  (List.length (ownsL x.1) ≤ (3000000 : Nat)) = Bool.true) ∧ Wr ((!(!Decidable.decide (flCk x.1.2.2.2.2.1 = (0 : Int)) || !Decidable.decide (x.1.2.2.2.2.1.2.2.1 = (↑(List.length
  x.1.2.2.2.1) : Int)) || Decidable.decide ((↑(List.length x.1.2.1) : Int) > x.1.1.2.1) || twB (ownsL x.1))) = Bool.true → Decidable.decide (List.length x.1.2.2.2.1 ≤ (3000000 : Nat)) =
  Bool.true) ∧ bcase (!Decidable.decide (flCk x.1.2.2.2.2.1 = (0 : Int)) || !Decidable.decide (x.1.2.2.2.2.1.2.2.1 = (↑(List.length x.1.2.2.2.1) : Int)) || Decidable.decide
  ((↑(List.length x.1.2.1) : Int) > x.1.1.2.1) || twB (ownsL x.1) || twB x.1.2.2.2.1 || Decidable.decide ((↑(List.length x.1.2.2.2.1) : Int) > (0 : Int)) && Decidable.decide
  ((↑(List.length x.1.2.1) : Int) > (0 : Int)) || x.1.2.2.2.2.2.2.1 && Decidable.decide (IntKind.wrap IntKind.i64 ((↑(List.length (ownsL x.1)) : Int) + (↑(List.length x.1.2.2.2.1) : Int))
  > (0 : Int))) (((2 : Int), ()) = (ckE x.1, ())) (((0 : Int), ()) = (ckE x.1, ()))) := by kernel_rfl
theorem v25_eq : vcFn g25 300 Tryz.f25 cGreat = ( ∀ (x : ((Int × Int × Int × Int × Int × Int × Int × Int × Int × Unit) × List (Int × Int × Unit) × List Int × List Int × (Int × Bool × Int × Unit) × List ((Int × (Int × Int × Int × Int × Int × Int × Int × Int × Unit) × Int
  × Unit) × Int × Unit) × Bool × Unit) × Unit), Wr (Bool.true = Bool.true) → (Decidable.decide ((↑(List.length x.1.2.1) : Int) > (60 : Int)) || Decidable.decide ((↑(List.length x.1.2.2.1) : Int) > (100 :
  Int)) || Decidable.decide ((↑(List.length x.1.2.2.2.1) : Int) > (100 : Int)) || Decidable.decide ((↑(List.length x.1.2.2.2.2.2.1) : Int) > (100 : Int)) || Decidable.decide
  (x.1.2.2.2.2.1.2.2.1 > (1099511627776 : Int)), ()) = (greatB x.1, ())) := by kernel_rfl
theorem v57_eq : vcFn g57 300 Tryz.f57 cQuit = ( ∀ (x : ((Int × Int × Int × Int × Int × Int × Int × Int × Int × Unit) × List (Int × Int × Unit) × List Int × List Int × (Int × Bool × Int × Unit) × List ((Int × (Int × Int × Int × Int × Int × Int × Int × Int × Unit) × Int
  × Unit) × Int × Unit) × Bool × Unit) × Int × Unit), Wr (okW x.1 = Bool.true) → Wr (Bool.true = Bool.true) ∧ bcase (Decidable.decide (idxN x.2.1 x.1.2.2.2.1 ≥ (0 : Int))) (Wr (Decidable.decide
  (List.length x.1.2.2.2.1 * (8 : Nat) ≤ (140737488355328 : Nat)) = Bool.true) ∧ Wr ((0 : Ty.El I64) ≤ idxN x.2.1 x.1.2.2.2.1 ∧ idxN x.2.1 x.1.2.2.2.1 ≤ IntKind.wrap IntKind.i64 (idxN
  x.2.1 x.1.2.2.2.1 + (1 : Int)) ∧ IntKind.wrap IntKind.i64 (idxN x.2.1 x.1.2.2.2.1 + (1 : Int)) ≤ (↑(List.length x.1.2.2.2.1) : Int) ∧ List.length x.1.2.2.2.1 ≤ (1000000000
  : Nat)) ∧ Wr (List.length ((x.2.1, (-1 : Int), (191 : Int), ()) :: nilL (Int × Int × Int × Unit)) * (24 : Nat) ≤ (140737488355328 : Nat)) ∧ Wr (Bool.true = Bool.true) ∧ Wr ((!x.1.2.2.2.2.2.2.1) =
  Bool.true → Bool.true = Bool.true) ∧ ((x.1.1, x.1.2.1, x.1.2.2.1, delL x.1.2.2.2.1 (idxN x.2.1 x.1.2.2.2.1) (IntKind.wrap IntKind.i64 (idxN x.2.1 x.1.2.2.2.1 + (1
  : Int))), partF x.1.2.2.2.2.1 (1 : Int), x.1.2.2.2.2.2), ((x.2.1, (-1 : Int), (191 : Int), ()) :: nilL (Int × Int × Int × Unit), nilL Int, !x.1.2.2.2.2.2.2.1 && startsF (partF
  x.1.2.2.2.2.1 (1 : Int)), Bool.false || partC x.1.2.2.2.2.1 (1 : Int), ()), ()) = (quitB x.1 x.2.1, quitT x.1 x.2.1, ())) (Wr ((!x.1.2.2.2.2.2.2.1) = Bool.true →
  Bool.true = Bool.true) ∧ (x.1, (nilL (Int × Int × Int × Unit), nilL Int, !x.1.2.2.2.2.2.2.1 && startsF x.1.2.2.2.2.1, Bool.false, ()), ()) = (quitB x.1 x.2.1, quitT x.1 x.2.1,
  ()))) := by kernel_rfl
end Go.Proofs.YtdkcgcgefgeooaaGreatDoor.Ow
set_option linter.all false
namespace Go.Proofs.YtdkcgcgefgeooaaGreatDoor.Ow
open Go Go.Eng Go.RowKit
set_option maxRecDepth 100000
set_option maxHeartbeats 8000000
abbrev GW (_ : World) : Prop := True
theorem gws : ∀ w w', Below w.heap.size w w' → GW w → GW w' := fun _ _ _ _ => trivial
theorem IdI.zero (x : Int) (l : List Int) : IdI x l 0 := ⟨by omega, by omega, rfl⟩
theorem IdI.succ {x : Int} {l : List Int} {i : Int} (h : IdI x l i) (hl : l.length ≤ 9223372036854775807) (hi : i < l.length) (hx : l.getD i.toNat 0 ≠ x) :
    IdI x l (IntKind.wrap .i64 (i + 1)) ∧ l.length - (IntKind.wrap .i64 (i + 1)).toNat < l.length - i.toNat := by
  have h0 := h.i0
  have e : IntKind.wrap .i64 (i + 1) = i + 1 := wrap_id (by omega) (by omega)
  rw [e]
  refine ⟨⟨by omega, by omega, ?_⟩, by omega⟩
  rw [take_succ l i 0 h0 hi, List.any_append, h.a, List.any_cons, List.any_nil, decide_eq_false hx]
  rfl
theorem idx_split (x : Int) (l : List Int) (i : Nat) (hi : i < l.length) (h : (l.take i).any (fun y => decide (y = x)) = false) (hx : l.getD i 0 = x) : idxN x l = i := by
  unfold idxN
  have e : l = l.take i ++ x :: l.drop (i + 1) := by
    have hg : l[i] = x := by rw [← hx, List.getD_eq_getElem?_getD, List.getElem?_eq_getElem hi]; rfl
    rw [← hg, ← List.drop_eq_getElem_cons hi, List.take_append_drop]
  have ha : l.any (fun y => decide (y = x)) = true := by
    rw [e, List.any_append, List.any_cons]; simp
  rw [ha, cond_true]
  have hf : l.findIdx (fun y => decide (y = x)) = i := by
    rw [e, List.findIdx_append]
    have hn : (l.take i).findIdx (fun y => decide (y = x)) = (l.take i).length := by
      rw [List.findIdx_eq_length]
      intro y hy
      rw [List.any_eq_false] at h
      simpa using h y hy
    rw [hn, if_neg (by omega), List.findIdx_cons]
    simp; omega
  rw [hf]
theorem idx_none {x : Int} {l : List Int} (h : l.any (fun y => decide (y = x)) = false) : idxN x l = -1 := by unfold idxN; rw [h]; rfl
theorem IdI.hit {x : Int} {l : List Int} {i : Int} (h : IdI x l i) (hi : i < l.length) (hx : l.getD i.toNat 0 = x) : i = idxN x l := by
  have h0 := h.i0
  rw [idx_split x l i.toNat (by omega) h.a hx]; omega
theorem IdI.done {x : Int} {l : List Int} {i : Int} (h : IdI x l i) (hi : ¬ i < l.length) : (-1 : Int) = idxN x l := by
  have e : l.take i.toNat = l := List.take_of_length_le (by have := h.i0; omega)
  have := h.a
  rw [e] at this
  rw [idx_none this]
theorem v32 : Vc g32 300 Tryz.f32 cOn := by
  constructor
  rw [v32_eq]
  simp only [Wr_iff, bcase_iff, true_and, and_true, decide_eq_true_eq, decide_eq_false_iff_not, Bool.and_eq_true, Bool.and_eq_false_iff, Bool.or_eq_true, Bool.or_eq_false_iff, Bool.not_eq_true', Bool.not_eq_false', Option.map_some, Option.getD_some, Option.isSome_some, Option.isSome_map, imp_self, nilL, noneO]
  intro x _
  rfl
theorem v92 : Vc g92 300 Tryz.f92 cIdx.T := by
  constructor
  rw [v92_eq]
  simp only [Wr_iff, bcase_iff, true_and, and_true, decide_eq_true_eq, decide_eq_false_iff_not, Bool.and_eq_true, Bool.and_eq_false_iff, Bool.or_eq_true, Bool.or_eq_false_iff, Bool.not_eq_true', Bool.not_eq_false', Option.map_some, Option.getD_some, Option.isSome_some, Option.isSome_map, imp_self, nilL, noneO]
  rintro ⟨l, x, ⟨⟩⟩ ht
  have hl : l.length ≤ 9223372036854775807 := by
    simp only [typedB, Bool.and_eq_true, decide_eq_true_eq] at ht
    exact ht.1.1
  dsimp only
  refine ⟨IdI.zero _ _, fun i hu => ⟨fun hi => ⟨hu.i0, hi, fun hg => ?_, fun hg => hu.succ hl hi fun e => hg e.symm⟩, fun hi => ?_⟩⟩
  · rw [← hu.hit hi hg.symm]
  · rw [← hu.done hi]
theorem v41 : Vc g41 300 Tryz.f41 cIdx.T := by
  constructor
  rw [v41_eq]
  simp only [Wr_iff, bcase_iff, true_and, and_true, decide_eq_true_eq, decide_eq_false_iff_not, Bool.and_eq_true, Bool.and_eq_false_iff, Bool.or_eq_true, Bool.or_eq_false_iff, Bool.not_eq_true', Bool.not_eq_false', Option.map_some, Option.getD_some, Option.isSome_some, Option.isSome_map, imp_self, nilL, noneO]
  rintro ⟨l, x, ⟨⟩⟩ ht
  have hl : l.length ≤ 9223372036854775807 := by
    simp only [typedB, Bool.and_eq_true, decide_eq_true_eq] at ht
    exact ht.1.1
  dsimp only
  refine ⟨IdI.zero _ _, fun i hu => ⟨fun hi => ⟨hu.i0, hi, fun hg => ?_, fun hg => hu.succ hl hi hg⟩, fun hi => ?_⟩⟩
  · rw [← hu.hit hi hg]
  · rw [← hu.done hi]
theorem v94 : Vc g94 300 Tryz.f94 (cClone 3 8 I64) := by
  constructor
  rw [v94_eq]
  simp only [Wr_iff, bcase_iff, true_and, and_true, decide_eq_true_eq, decide_eq_false_iff_not, Bool.and_eq_true, Bool.and_eq_false_iff, Bool.or_eq_true, Bool.or_eq_false_iff, Bool.not_eq_true', Bool.not_eq_false', Option.map_some, Option.getD_some, Option.isSome_some, Option.isSome_map, imp_self, nilL, noneO]
  rintro ⟨l, ⟨⟩⟩ h b hb
  dsimp only at *
  exact ⟨hb, fun _ => ⟨by simpa using h, by simp⟩⟩
theorem typ_i64 {n : Int} (h : IntKind.wrap .i64 n = n) : -9223372036854775808 ≤ n ∧ n ≤ 9223372036854775807 := by
  simp only [IntKind.wrap, IntKind.signed, IntKind.bits] at h
  simp at h
  omega
theorem v111 : Vc g111 300 Tryz.f111 cPart.T := by
  constructor
  rw [v111_eq]
  simp only [Wr_iff, bcase_iff, true_and, and_true, decide_eq_true_eq, decide_eq_false_iff_not, Bool.and_eq_true, Bool.and_eq_false_iff, Bool.or_eq_true, Bool.or_eq_false_iff, Bool.not_eq_true', Bool.not_eq_false', Option.map_some, Option.getD_some, Option.isSome_some, Option.isSome_map, imp_self, nilL, noneO]
  rintro ⟨⟨r, g, k, ⟨⟩⟩, n, ⟨⟩⟩ ht
  have h2 : (-9223372036854775808 ≤ k ∧ k ≤ 9223372036854775807) ∧ (-9223372036854775808 ≤ n ∧ n ≤ 9223372036854775807) := by
    simp only [typedB, Bool.and_eq_true, decide_eq_true_eq, Bool.true_and, Bool.and_true, and_true, true_and] at ht
    exact ⟨typ_i64 ht.1.2, typ_i64 ht.2⟩
  dsimp only
  have e : IntKind.wrap .i64 (max k 0 - max n 0) = max k 0 - max n 0 := wrap_id (by omega) (by omega)
  rw [e]
  simp only [partF, partC, partN, onF, decide_eq_true_eq, decide_eq_false_iff_not]
  constructor
  · rintro ⟨⟨h1, h2⟩, h3⟩
    simp [h1, h2, h3]
  · intro h
    rcases h with (h1 | h2) | h3
    · simp [h1]
    · simp [h2]
    · simp [h3]
theorem v86 : Vc g86 300 Tryz.f86 cStarts := by
  constructor
  rw [v86_eq]
  simp only [Wr_iff, bcase_iff, true_and, and_true, decide_eq_true_eq, decide_eq_false_iff_not, Bool.and_eq_true, Bool.and_eq_false_iff, Bool.or_eq_true, Bool.or_eq_false_iff, Bool.not_eq_true', Bool.not_eq_false', Option.map_some, Option.getD_some, Option.isSome_some, Option.isSome_map, imp_self, nilL, noneO]
  intro x _
  rfl
theorem v91 : Vc g91 300 Tryz.f91 cJoin := by
  constructor
  rw [v91_eq]
  simp only [Wr_iff, bcase_iff, true_and, and_true, decide_eq_true_eq, decide_eq_false_iff_not, Bool.and_eq_true, Bool.and_eq_false_iff, Bool.or_eq_true, Bool.or_eq_false_iff, Bool.not_eq_true', Bool.not_eq_false', Option.map_some, Option.getD_some, Option.isSome_some, Option.isSome_map, imp_self, nilL, noneO]
  rintro ⟨⟨r, g, k, ⟨⟩⟩, l, ⟨⟩⟩ ⟨h1, h2⟩
  dsimp only at *
  rw [h2, wrap_id (by omega) (by omega)]
  rfl
theorem v80 : Vc g80 300 Tryz.f80 cEnd := by
  constructor
  rw [v80_eq]
  simp only [Wr_iff, bcase_iff, true_and, and_true, decide_eq_true_eq, decide_eq_false_iff_not, Bool.and_eq_true, Bool.and_eq_false_iff, Bool.or_eq_true, Bool.or_eq_false_iff, Bool.not_eq_true', Bool.not_eq_false', Option.map_some, Option.getD_some, Option.isSome_some, Option.isSome_map, imp_self, nilL, noneO]
  intro x _
  rfl
theorem v54 : Vc g54 300 Tryz.f54 cBegin := by
  constructor
  rw [v54_eq]
  simp only [Wr_iff, bcase_iff, true_and, and_true, decide_eq_true_eq, decide_eq_false_iff_not, Bool.and_eq_true, Bool.and_eq_false_iff, Bool.or_eq_true, Bool.or_eq_false_iff, Bool.not_eq_true', Bool.not_eq_false', Option.map_some, Option.getD_some, Option.isSome_some, Option.isSome_map, imp_self, nilL, noneO]
  rintro ⟨⟨r, g, k, ⟨⟩⟩, n, ⟨⟩⟩ _
  simp only [beginF, beginE, onF, decide_eq_true_eq, decide_eq_false_iff_not]
  constructor
  · rintro (h | h) <;> simp [h]
  · rintro ⟨h1, h2⟩; simp [h1, h2]
theorem v26 : Vc g26 300 Tryz.f26 cFlCk := by
  constructor
  rw [v26_eq]
  simp only [Wr_iff, bcase_iff, true_and, and_true, decide_eq_true_eq, decide_eq_false_iff_not, Bool.and_eq_true, Bool.and_eq_false_iff, Bool.or_eq_true, Bool.or_eq_false_iff, Bool.not_eq_true', Bool.not_eq_false', Option.map_some, Option.getD_some, Option.isSome_some, Option.isSome_map, imp_self, nilL, noneO]
  rintro ⟨⟨r, g, k, ⟨⟩⟩, ⟨⟩⟩ _
  simp only [flCk, flB, onF, decide_eq_true_eq, decide_eq_false_iff_not]
  constructor
  · rintro ((h | h) | ⟨h1, h2⟩)
    · simp [Int.not_le.2 h]
    · simp [Int.not_le.2 h]
    · simp [h1, Int.not_le.2 h2]
  · rintro ⟨⟨h1, h2⟩, h3⟩
    rw [Int.not_lt] at h1 h2
    rcases h3 with h3 | h3
    · simp [h1, h2, h3]
    · simp [h1, h2, Int.not_lt.1 h3]
theorem OwI.zero (l : List Rs) : OwI l 0 [] := ⟨by omega, by omega, rfl⟩
theorem OwI.succ {l : List Rs} {i : Int} {o : List Int} (h : OwI l i o) (hl : l.length ≤ 1000000) (hi : i < l.length) :
    OwI l (IntKind.wrap .i64 (i + 1)) (o ++ [(l.getD i.toNat (Ty.zero RestT)).1]) ∧ l.length - (IntKind.wrap .i64 (i + 1)).toNat < l.length - i.toNat := by
  have h0 := h.i0
  have e : IntKind.wrap .i64 (i + 1) = i + 1 := wrap_id (by omega) (by omega)
  rw [e]
  refine ⟨⟨by omega, by omega, ?_⟩, by omega⟩
  rw [take_succ l i (Ty.zero RestT) h0 hi, List.map_append, h.a]
  rfl
theorem OwI.len {l : List Rs} {i : Int} {o : List Int} (h : OwI l i o) : o.length ≤ l.length := by rw [h.a, List.length_map, List.length_take]; omega
theorem OwI.done {l : List Rs} {i : Int} {o : List Int} (h : OwI l i o) (hi : ¬ i < l.length) : o = l.map skOf := by
  rw [h.a, List.take_of_length_le (by have := h.i0; omega)]
theorem szB_iff (b : Bk) : szB b = true ↔ (b.2.1.length ≤ 1000000 ∧ b.2.2.1.length ≤ 1000000 ∧ b.2.2.2.1.length ≤ 1000000 ∧ b.2.2.2.2.2.1.length ≤ 1000000 ∧ b.2.2.2.2.1.2.2.1 ≤ 1152921504606846976) := by
  simp only [szB, szI, Bool.and_eq_true, decide_eq_true_eq]
theorem v97 : Vc g97 300 Tryz.f97 cOwns := by
  constructor
  rw [v97_eq]
  simp only [Wr_iff, bcase_iff, true_and, and_true, decide_eq_true_eq, decide_eq_false_iff_not, Bool.and_eq_true, Bool.and_eq_false_iff, Bool.or_eq_true, Bool.or_eq_false_iff, Bool.not_eq_true', Bool.not_eq_false', Option.map_some, Option.getD_some, Option.isSome_some, Option.isSome_map, imp_self, nilL, noneO]
  rintro ⟨b, ⟨⟩⟩ hb
  dsimp only at hb ⊢
  rw [szB_iff] at hb
  refine ⟨OwI.zero _, fun ⟨i, o⟩ hu => ⟨fun hi => ⟨hu.i0, hi, ?_, hu.succ hb.1 hi⟩, fun hi => ⟨?_, ?_⟩⟩⟩
  · have h2 : o.length ≤ _ := hu.len
    simp only [List.length_cons, List.length_nil]
    omega
  · have h2 : o.length ≤ _ := hu.len
    dsimp only
    omega
  · rw [ownsL, ← hu.done hi]
theorem v16 : Vc g16 300 Tryz.f16 cOwns := by
  constructor
  rw [v16_eq]
  simp only [Wr_iff, bcase_iff, true_and, and_true, decide_eq_true_eq, decide_eq_false_iff_not, Bool.and_eq_true, Bool.and_eq_false_iff, Bool.or_eq_true, Bool.or_eq_false_iff, Bool.not_eq_true', Bool.not_eq_false', Option.map_some, Option.getD_some, Option.isSome_some, Option.isSome_map, imp_self, nilL, noneO]
  rintro ⟨b, ⟨⟩⟩ hb
  dsimp only at hb ⊢
  rw [szB_iff] at hb
  refine ⟨OwI.zero _, fun ⟨i, o⟩ hu => ⟨fun hi => ⟨hu.i0, hi, ?_, hu.succ hb.1 hi⟩, fun hi => ⟨?_, ?_⟩⟩⟩
  · have h2 : o.length ≤ _ := hu.len
    simp only [List.length_cons, List.length_nil]
    omega
  · have h2 : o.length ≤ _ := hu.len
    dsimp only
    omega
  · rw [ownsL, ← hu.done hi]
theorem TwI.zero (l : List Int) : TwI l 0 := ⟨by omega, by omega, List.nodup_nil⟩
theorem notin_take {l : List Int} {i : Nat} (hi : i < l.length) (h : idxN (l.getD i 0) l = i) : l.getD i 0 ∉ l.take i := by
  intro hm
  obtain ⟨j, hj, he⟩ := List.mem_iff_getElem.1 hm
  rw [List.length_take] at hj
  rw [List.getElem_take] at he
  unfold idxN at h
  have ha : l.any (fun y => decide (y = l.getD i 0)) = true := List.any_eq_true.2 ⟨_, List.mem_of_mem_take hm, by simp⟩
  rw [ha, cond_true] at h
  have h2 : l.findIdx (fun y => decide (y = l.getD i 0)) = i := by omega
  have h3 := List.not_of_lt_findIdx (p := fun y => decide (y = l.getD i 0)) (xs := l) (i := j) (by omega)
  simp [he] at h3
theorem in_take {l : List Int} {i : Nat} (hi : i < l.length) (h : idxN (l.getD i 0) l ≠ i) : l.getD i 0 ∈ l.take i := by
  apply Classical.byContradiction
  intro hn
  apply h
  apply idx_split _ _ _ hi _ rfl
  rw [List.any_eq_false]
  intro y hy
  simp only [decide_eq_true_eq]
  intro e
  exact hn (e ▸ hy)
theorem TwI.succ {l : List Int} {i : Int} (h : TwI l i) (hl : l.length ≤ 3000000) (hi : i < l.length) (hx : idxN (l.getD i.toNat 0) l = i) :
    TwI l (IntKind.wrap .i64 (i + 1)) ∧ l.length - (IntKind.wrap .i64 (i + 1)).toNat < l.length - i.toNat := by
  have h0 := h.i0
  have e : IntKind.wrap .i64 (i + 1) = i + 1 := wrap_id (by omega) (by omega)
  rw [e]
  refine ⟨⟨by omega, by omega, ?_⟩, by omega⟩
  rw [take_succ l i 0 h0 hi, List.nodup_append]
  refine ⟨h.a, by simp, ?_⟩
  intro a ha b hb
  rw [List.mem_singleton] at hb
  subst hb
  intro e
  exact notin_take (i := i.toNat) (by omega) (by omega) (e ▸ ha)
theorem v27 : Vc g27 300 Tryz.f27 cTwice3 := by
  constructor
  rw [v27_eq]
  simp only [Wr_iff, bcase_iff, true_and, and_true, decide_eq_true_eq, decide_eq_false_iff_not, Bool.and_eq_true, Bool.and_eq_false_iff, Bool.or_eq_true, Bool.or_eq_false_iff, Bool.not_eq_true', Bool.not_eq_false', Option.map_some, Option.getD_some, Option.isSome_some, Option.isSome_map, imp_self, nilL, noneO]
  rintro ⟨l, ⟨⟩⟩ hl
  dsimp only at hl ⊢
  refine ⟨TwI.zero _, fun i hu => ⟨fun hi => ⟨hu.i0, hi, fun hg => ?_, fun hg => hu.succ hl hi hg⟩, fun hi => ?_⟩⟩
  · have h0 := hu.i0
    have hm := in_take (l := l) (i := i.toNat) (by omega) (by omega)
    have hn : ¬ l.Nodup := by
      intro hd
      have e := take_succ l i 0 h0 hi
      have hd2 : (l.take (i + 1).toNat).Nodup := List.Nodup.sublist (List.take_sublist _ _) hd
      rw [e, List.nodup_append] at hd2
      exact hd2.2.2 _ hm _ (List.mem_singleton.2 rfl) rfl
    rw [twB, decide_eq_false hn]; rfl
  · have e : l.take i.toNat = l := List.take_of_length_le (by have := hu.i0; omega)
    have hn := hu.a
    rw [e] at hn
    rw [twB, decide_eq_true hn]; rfl
theorem flCk_0 (f : Fl) : flCk f = 0 ↔ flB f = true := by unfold flCk; cases flB f <;> simp
theorem owns_len (b : Bk) : (ownsL b).length = b.2.1.length + b.2.2.1.length := by rw [ownsL, List.length_append, List.length_map]
theorem ck_yes {b : Bk} (h1 : flB b.2.2.2.2.1 = true) (h2 : b.2.2.2.2.1.2.2.1 = (b.2.2.2.1.length : Int)) (h3 : (b.2.1.length : Int) ≤ b.1.2.1) (h4 : (ownsL b).Nodup) (h5 : b.2.2.2.1.Nodup)
    (h6 : ¬ (0 < (b.2.2.2.1.length : Int) ∧ 0 < (b.2.1.length : Int))) (h7 : b.2.2.2.2.2.2.1 = false ∨ ¬ 0 < ((ownsL b).length : Int) + (b.2.2.2.1.length : Int)) : ckE b = 0 := by
  have : ckB b = true := by
    simp only [ckB, Bool.and_eq_true, Bool.or_eq_true, decide_eq_true_eq, Bool.not_eq_true']
    refine ⟨⟨⟨h1, h2⟩, h3, h4, h5⟩, by omega, ?_⟩
    rcases h7 with h7 | h7
    · exact Or.inl h7
    · exact Or.inr (by omega)
  rw [ckE, this]; rfl
theorem ck_no {b : Bk} (h : flB b.2.2.2.2.1 = true → b.2.2.2.2.1.2.2.1 = (b.2.2.2.1.length : Int) → (b.2.1.length : Int) ≤ b.1.2.1 → (ownsL b).Nodup → b.2.2.2.1.Nodup →
    ¬ (0 < (b.2.2.2.1.length : Int) ∧ 0 < (b.2.1.length : Int)) → (b.2.2.2.2.2.2.1 = false ∨ ¬ 0 < ((ownsL b).length : Int) + (b.2.2.2.1.length : Int)) → False) : ckE b = 2 := by
  have : ckB b = false := by
    rw [← Bool.not_eq_true]
    intro hk
    simp only [ckB, Bool.and_eq_true, Bool.or_eq_true, decide_eq_true_eq, Bool.not_eq_true'] at hk
    refine h hk.1.1.1 hk.1.1.2 hk.1.2.1 hk.1.2.2.1 hk.1.2.2.2 (by have := hk.2.1; omega) ?_
    rcases hk.2.2 with h7 | h7
    · exact Or.inl h7
    · exact Or.inr (by omega)
  rw [ckE, this]; rfl
theorem tw_t (l : List Int) : twB l = true ↔ ¬ l.Nodup := by unfold twB; simp
theorem tw_f (l : List Int) : twB l = false ↔ l.Nodup := by unfold twB; simp
theorem v15 : Vc g15 300 Tryz.f15 cCk := by
  constructor
  rw [v15_eq]
  simp only [Wr_iff, bcase_iff, true_and, and_true, decide_eq_true_eq, decide_eq_false_iff_not, Bool.and_eq_true, Bool.and_eq_false_iff, Bool.or_eq_true, Bool.or_eq_false_iff, Bool.not_eq_true', Bool.not_eq_false', Option.map_some, Option.getD_some, Option.isSome_some, Option.isSome_map, imp_self, nilL, noneO]
  rintro ⟨b, ⟨⟩⟩ hb
  dsimp only at hb ⊢
  have hs := hb
  rw [szB_iff] at hs
  have ho := owns_len b
  have ew : IntKind.wrap .i64 (((ownsL b).length : Int) + (b.2.2.2.1.length : Int)) = ((ownsL b).length : Int) + (b.2.2.2.1.length : Int) := wrap_id (by omega) (by omega)
  rw [ew]
  refine ⟨hb, fun _ => by omega, fun _ => by omega, fun h => ?_, fun h => ?_⟩
  · rw [ck_no]
    intro h1 h2 h3 h4 h5 h6 h7
    rcases h with (((((h | h) | h) | h) | h) | h) | h
    · exact h ((flCk_0 _).2 h1)
    · exact h h2
    · omega
    · exact (tw_t _).1 h h4
    · exact (tw_t _).1 h h5
    · exact h6 h
    · rcases h7 with h7 | h7
      · rw [h7] at h; exact absurd h.1 (by decide)
      · exact h7 h.2
  · obtain ⟨⟨⟨⟨⟨⟨h1, h2⟩, h3⟩, h4⟩, h5⟩, h6⟩, h7⟩ := h
    rw [ck_yes (b := b) ((flCk_0 _).1 h1) h2 (by omega) ((tw_f _).1 h4) ((tw_f _).1 h5) (by omega) (by rcases h7 with h7 | h7; exact Or.inl h7; exact Or.inr (by omega))]
theorem v25 : Vc g25 300 Tryz.f25 cGreat := by
  constructor
  rw [v25_eq]
  simp only [Wr_iff, bcase_iff, true_and, and_true, decide_eq_true_eq, decide_eq_false_iff_not, Bool.and_eq_true, Bool.and_eq_false_iff, Bool.or_eq_true, Bool.or_eq_false_iff, Bool.not_eq_true', Bool.not_eq_false', Option.map_some, Option.getD_some, Option.isSome_some, Option.isSome_map, imp_self, nilL, noneO]
  rintro ⟨b, ⟨⟩⟩ _
  dsimp only
  rw [greatB]
  congr 1
  rw [Bool.eq_iff_iff]
  simp only [Bool.or_eq_true, decide_eq_true_eq]
  omega
theorem EqI.zero {α : Type} (l : List α) : EqI l 0 := ⟨by omega, by omega⟩
theorem EqI.succ {α : Type} {l : List α} {i : Int} (h : EqI l i) (hl : l.length ≤ 9223372036854775807) (hi : i < l.length) :
    EqI l (IntKind.wrap .i64 (i + 1)) ∧ l.length - (IntKind.wrap .i64 (i + 1)).toNat < l.length - i.toNat := by
  have h0 := h.i0
  have e : IntKind.wrap .i64 (i + 1) = i + 1 := wrap_id (by omega) (by omega)
  rw [e]
  exact ⟨⟨by omega, by omega⟩, by omega⟩
theorem typ_sl {t : Ty} {a b : List t.El} (h : typedB (.cons (.sl t) (.cons (.sl t) .unit)) (a, b, ()) = true) : a.length ≤ 9223372036854775807 := by
  simp only [typedB, Bool.and_eq_true, decide_eq_true_eq] at h
  exact h.1.1
theorem idx_cases (x : Int) (l : List Int) : idxN x l = -1 ∨ (0 ≤ idxN x l ∧ idxN x l < l.length) := by
  unfold idxN
  cases h : l.any (fun y => decide (y = x)) with
  | false => exact Or.inl rfl
  | true =>
    right
    rw [cond_true]
    refine ⟨by omega, ?_⟩
    have := List.findIdx_lt_length.2 (List.any_eq_true.1 h)
    omega
theorem v57 : Vc g57 300 Tryz.f57 cQuit := by
  constructor
  rw [v57_eq]
  simp only [Wr_iff, bcase_iff, true_and, and_true, decide_eq_true_eq, decide_eq_false_iff_not, Bool.and_eq_true, Bool.and_eq_false_iff, Bool.or_eq_true, Bool.or_eq_false_iff, Bool.not_eq_true', Bool.not_eq_false', Option.map_some, Option.getD_some, Option.isSome_some, Option.isSome_map, imp_self, nilL, noneO]
  rintro ⟨b, c, ⟨⟩⟩ hb
  dsimp only at hb ⊢
  simp only [okW, szI, decide_eq_true_eq] at hb
  have hi := idx_cases c b.2.2.2.1
  refine ⟨fun h => ?_, fun h => ?_⟩
  · have e : IntKind.wrap .i64 (idxN c b.2.2.2.1 + 1) = idxN c b.2.2.2.1 + 1 := wrap_id (by omega) (by omega)
    rw [e]
    refine ⟨by omega, ⟨h, by omega, by omega, by omega⟩, by simp, fun _ => trivial, ?_⟩
    rw [quitT, quitB, decide_eq_true (show 0 ≤ idxN c b.2.2.2.1 from h)]
    rfl
  · refine ⟨fun _ => trivial, ?_⟩
    rw [quitT, quitB, decide_eq_false h]
    rfl
end Go.Proofs.YtdkcgcgefgeooaaGreatDoor.Ow
namespace Go.Proofs
open Go.Shelf
def Tryz.laysNm223_ren : Go.Shelf.Ren := ⟨fun | 23 => 93 | n => n, fun | 22 => 27 | 3 => 3 | 4 => 4 | 0 => 0 | n => n, fun | n => n⟩
theorem Tryz.laysNm223 : Go.Proofs.Lays2.n23 Tryz.prog Tryz.laysNm223_ren := {
  mixed := by kernel_rfl
  f23 := Tryz.func93.trans (congrArg some (by kernel_rfl))
  t0 := Tryz.underlying0
  a0 := Tryz.isAgg0
  z0 := Tryz.sizeOf0
  v0 := Tryz.zeroValue0
  t3 := Tryz.underlying3
  a3 := Tryz.isAgg3
  z3 := Tryz.sizeOf3
  v3 := Tryz.zeroValue3
  t4 := Tryz.underlying4
  a4 := Tryz.isAgg4
  z4 := Tryz.sizeOf4
  v4 := Tryz.zeroValue4
  t22 := Tryz.underlying27
  a22 := Tryz.isAgg27
  z22 := Tryz.sizeOf27
  v22 := Tryz.zeroValue27
  i3 := by kernel_rfl }
open Go.RowKit Go.Lib Go.Sort in
theorem Tryz.slices_Delete_int (blk off cap i j : Nat) (zs : List Int) (w : World) (hH : Holds (Value.int .i64) w blk off zs.toArray) (hcap : zs.length ≤ cap) (hm : cap ≤ 9223372036854775807) (hij : i ≤ j) (hj : j ≤ zs.length) :
    Calls Tryz.prog 93 #[.slice (some ⟨blk, off, none⟩) zs.length cap, .int .i64 i, .int .i64 j] w fun e w' => e = .returned (.slice (some ⟨blk, off, none⟩) (zs.length - (j - i)) cap) ∧ ∃ q, w' = putRow (Value.int .i64) (Sort.ahead w q) blk off (zs.take i ++ zs.drop j ++ List.replicate (j - i) 0).toArray := Any.slices_Delete_int Tryz.laysNm223 blk off cap i j zs w hH hcap hm hij hj
open Go.RowKit Go.Lib in
theorem Tryz.slices_Delete_int_empty (a : Option Addr) (c : Nat) (w : World) :
    Calls Tryz.prog 93 #[.slice a 0 c, .int .i64 0, .int .i64 0] w fun e w' => e = .returned (.slice a 0 c) ∧ w' = w := Any.slices_Delete_int_empty Tryz.laysNm223 a c w
end Go.Proofs
set_option linter.all false
set_option maxRecDepth 100000
namespace Go.Proofs.YtdkcgcgefgeooaaGreatDoor.Ow
open Go Go.Eng Go.Proofs Go.Sort Go.RowKit
theorem rdl_int {P : Program} {S : Nat → Prop} {w : World} : ∀ {xs : List Int} {cs : List Value}, RdL P I64 S w xs cs → cs = xs.map (Value.int .i64) ∧ ∀ x ∈ xs, IntKind.wrap .i64 x = x
  | [], cs, h => ⟨h, fun x hx => by cases hx⟩
  | x :: r, cs, h => by
    obtain ⟨c1, c2, rfl, h1, h2⟩ := h
    obtain ⟨e, hr⟩ := rdl_int h2
    refine ⟨?_, fun y hy => ?_⟩
    · rw [List.map_cons, e, h1.1]; rfl
    · rcases List.mem_cons.1 hy with rfl | hy
      · exact h1.2
      · exact hr y hy
theorem rdl_int_of {P : Program} {S : Nat → Prop} {w : World} : ∀ {xs : List Int}, (∀ x ∈ xs, IntKind.wrap .i64 x = x) → RdL P I64 S w xs (xs.map (Value.int .i64))
  | [], _ => rfl
  | x :: r, h => ⟨[.int .i64 x], _, rfl, ⟨rfl, h x List.mem_cons_self⟩, rdl_int_of fun y hy => h y (List.mem_cons_of_mem _ hy)⟩
theorem rdc_row {P : Program} {S : Nat → Prop} {w : World} {g cap : Nat} {cur : Array Value} {e : TypeId} {xs zs : List Int} {fr : Nat × Nat} (hS : S g) (hb : w.heap[g]? = some (.cells cur e fr)) (hcap : xs.length ≤ cap) (hmax : cap ≤ maxLen) (hw : ∀ x ∈ xs, IntKind.wrap .i64 x = x)
    (ht : cur.toList.take zs.length = zs.map (Value.int .i64)) (hp : ∃ r, zs = xs ++ r) : RdC P (.sl I64) S w xs [.slice (some ⟨g, 0, none⟩) xs.length cap] := by
  refine ⟨_, cap, rfl, hcap, hmax, fun _ => ⟨g, 0, rfl, hS, fun i x hx => ⟨[.int .i64 x], ⟨rfl, hw x (List.mem_of_getElem? hx)⟩, ?_⟩⟩⟩
  obtain ⟨r, rfl⟩ := hp
  have hi := (List.getElem?_eq_some_iff.1 hx).1
  intro j v hj
  have hj0 : j = 0 := by
    have := (List.getElem?_eq_some_iff.1 hj).1
    simp at this; exact this
  subst hj0
  have hv : v = .int .i64 x := by simpa using hj.symm
  subst hv
  have h1 : (cur.toList.take (xs ++ r).length)[i]? = some (.int .i64 x) := by
    rw [ht, List.getElem?_map, List.getElem?_append_left hi, hx]; rfl
  have h2 : cur[i]? = some (.int .i64 x) := by
    rw [List.getElem?_take_of_lt (by rw [List.length_append]; omega), Array.getElem?_toList] at h1
    exact h1
  have hz : 0 + i * Ty.size I64 + 0 = i := by show 0 + i * 1 + 0 = i; omega
  rw [hz]
  simp only [World.cell?, hb, Option.isSome_none, Bool.false_eq_true, if_false, h2]
theorem del_at (w : World) (base : Nat) (S : Nat → Prop) (v : Value) (xs : List Int) (cs : List Value) (a b : Nat) (hown : w.ownsRow base 3 1 v xs.length cs) (hcs : cs = xs.map (Value.int .i64)) (hw : ∀ x ∈ xs, IntKind.wrap .i64 x = x) (p1 : a ≤ b) (p2 : b ≤ xs.length) (p3 : xs.length ≤ 1000000000) :
    Calls Tryz.prog 93 #[v, .int .i64 a, .int .i64 b] w fun e w' => w.grownBy w' v.ownBlock ∧ ∃ r, e = .returned r ∧ RdC Tryz.prog (.sl I64) (fun b => S b ∨ (w.heap.size ≤ b ∧ b < w'.heap.size) ∨ v.ownBlock = some b) w' (xs.take a ++ xs.drop b) [r] := by
  have hel : (xs.take a ++ xs.drop b).length = xs.length - (b - a) := by rw [List.length_append, List.length_take, List.length_drop]; omega
  have hwF : ∀ x ∈ xs.take a ++ xs.drop b, IntKind.wrap .i64 x = x := fun x hx => by
    rcases List.mem_append.1 hx with hx | hx
    · exact hw x (List.mem_of_mem_take hx)
    · exact hw x (List.mem_of_mem_drop hx)
  rcases hown.2 with ⟨rfl, hn⟩ | ⟨g, cap, cur, rfl, hg, hh, hcap, hmax, hsz, htk⟩
  · obtain rfl : xs = [] := List.length_eq_zero_iff.1 hn
    have hb0 : b = 0 := by simpa using p2
    subst hb0
    have ha0 : a = 0 := by omega
    subst ha0
    refine Calls.mono (Tryz.slices_Delete_int_empty none 0 w) ?_
    rintro e w' ⟨rfl, rfl⟩
    exact ⟨⟨rfl, rfl, rfl, Nat.le_refl _, fun _ _ _ => rfl⟩, _, rfl, ⟨none, 0, rfl, by simp, by simp [maxLen], fun h => absurd rfl h⟩⟩
  · have hlt : g < w.heap.size := (Array.getElem?_eq_some_iff.1 hh).1
    have htk' : cur.toList.take xs.length = xs.map (Value.int .i64) := by
      rw [← hcs, ← htk, Nat.mul_one]
    have hH := holds_of_blockI hh htk'
    have hcall := Tryz.slices_Delete_int g 0 cap a b xs w hH hcap hmax p1 p2
    refine Calls.mono hcall ?_
    rintro e w' ⟨rfl, n, rfl⟩
    have hg0 := grownBy_sortedI (w := w) (g := g) (n := n) (os := #[]) (xs.take a ++ xs.drop b ++ List.replicate (b - a) 0).toArray
    rw [grow_empty] at hg0
    have hh2 := heap_sortedI (w := w) (n := n) (os := #[]) (xs.take a ++ xs.drop b ++ List.replicate (b - a) 0).toArray hh
    rw [grow_empty] at hh2
    have hzl : (xs.take a ++ xs.drop b ++ List.replicate (b - a) (0 : Int)).length = xs.length := by rw [List.length_append, hel, List.length_replicate]; omega
    refine ⟨hg0, _, rfl, ?_⟩
    have hcsz : cur.size = cap := by rw [hsz]; omega
    have htp := take_putCellsI cur (xs.take a ++ xs.drop b ++ List.replicate (b - a) (0 : Int)) (by rw [hzl]; omega)
    generalize putRow (Value.int .i64) (Sort.ahead w n) g 0 (xs.take a ++ xs.drop b ++ List.replicate (b - a) 0).toArray = W' at hg0 hh2 ⊢
    generalize putCells (Value.int .i64) 0 (xs.take a ++ xs.drop b ++ List.replicate (b - a) 0).toArray cur = cur' at hh2 htp
    rw [← hel]
    exact rdc_row (.inr (.inr rfl)) hh2 (by rw [hel]; omega) hmax hwF htp ⟨_, rfl⟩
theorem del_pre {i j : Int} {n : Nat} (h : 0 ≤ i ∧ i ≤ j ∧ j ≤ n ∧ n ≤ 1000000000) : ∃ a b : Nat, i = a ∧ j = b ∧ a ≤ b ∧ b ≤ n ∧ n ≤ 1000000000 := ⟨i.toNat, j.toNat, by omega, by omega, by omega, by omega, h.2.2.2⟩
theorem mval93 : MValid Tryz.prog GW 93 mDel := by
  refine ⟨⟨Tryz.f93, Tryz.func93, by kernel_rfl, rfl⟩, fun w _ base S v xs cs y ys hb hz h1 hown hrl hns hys hpre => ?_⟩
  obtain ⟨i, j, ⟨⟩⟩ := y
  obtain ⟨hcs, hw⟩ := rdl_int hrl
  obtain ⟨c1, c2, rfl, ⟨rfl, _⟩, c3, c4, rfl, ⟨rfl, _⟩, rfl⟩ := hys
  obtain ⟨a, b, rfl, rfl, p1, p2, p3⟩ := del_pre hpre
  refine Calls.mono (del_at w base S v xs cs a b hown hcs hw p1 p2 p3) ?_
  rintro e w' ⟨hg, r, rfl, hr⟩
  exact ⟨hg, .inl ⟨rfl, r, rfl, hr⟩⟩
end Go.Proofs.YtdkcgcgefgeooaaGreatDoor.Ow
namespace Go.Proofs.YtdkcgcgefgeooaaGreatDoor.Ow
open Go Go.Eng 
set_option maxRecDepth 100000
theorem val32 : Valid Tryz.prog GW 32 cOn := mkValid gws To.mix To.tab_ok To.eqs_ok g32 rfl allV_nil (allI_cons Tryz.func46 (by kernel_rfl) allI_nil) Tryz.func32 (by kernel_rfl) v32
theorem val92 : Valid Tryz.prog GW 92 cIdx := Valid.T (mkValid gws To.mix To.tab_ok To.eqs_ok g92 rfl allV_nil allI_nil Tryz.func92 (by kernel_rfl) v92)
theorem val41 : Valid Tryz.prog GW 41 cIdx := Valid.T (mkValid gws To.mix To.tab_ok To.eqs_ok g41 rfl allV_nil allI_nil Tryz.func41 (by kernel_rfl) v41)
theorem val94 : Valid Tryz.prog GW 94 ((cClone 3 8 I64)) := mkValid gws To.mix To.tab_ok To.eqs_ok g94 rfl allV_nil allI_nil Tryz.func94 (by kernel_rfl) v94
theorem val111 : Valid Tryz.prog GW 111 cPart := Valid.T (mkValid gws To.mix To.tab_ok To.eqs_ok g111 rfl (allV_cons val32 allV_nil) (allI_cons Tryz.func70 (by kernel_rfl) allI_nil) Tryz.func111 (by kernel_rfl) v111)
theorem val86 : Valid Tryz.prog GW 86 cStarts := mkValid gws To.mix To.tab_ok To.eqs_ok g86 rfl (allV_cons val32 allV_nil) (allI_cons Tryz.func70 (by kernel_rfl) allI_nil) Tryz.func86 (by kernel_rfl) v86
theorem val91 : Valid Tryz.prog GW 91 cJoin := mkValid gws To.mix To.tab_ok To.eqs_ok g91 rfl allV_nil (allI_cons Tryz.func70 (by kernel_rfl) allI_nil) Tryz.func91 (by kernel_rfl) v91
theorem val80 : Valid Tryz.prog GW 80 cEnd := mkValid gws To.mix To.tab_ok To.eqs_ok g80 rfl allV_nil (allI_cons Tryz.func28 (by kernel_rfl) (allI_cons Tryz.func70 (by kernel_rfl) allI_nil)) Tryz.func80 (by kernel_rfl) v80
theorem val54 : Valid Tryz.prog GW 54 cBegin := mkValid gws To.mix To.tab_ok To.eqs_ok g54 rfl (allV_cons val32 allV_nil) (allI_cons Tryz.func70 (by kernel_rfl) allI_nil) Tryz.func54 (by kernel_rfl) v54
theorem val26 : Valid Tryz.prog GW 26 cFlCk := mkValid gws To.mix To.tab_ok To.eqs_ok g26 rfl allV_nil allI_nil Tryz.func26 (by kernel_rfl) v26
theorem val97 : Valid Tryz.prog GW 97 cOwns := mkValid gws To.mix To.tab_ok To.eqs_ok g97 rfl allV_nil allI_nil Tryz.func97 (by kernel_rfl) v97
theorem val16 : Valid Tryz.prog GW 16 cOwns := mkValid gws To.mix To.tab_ok To.eqs_ok g16 rfl allV_nil allI_nil Tryz.func16 (by kernel_rfl) v16
theorem val27 : Valid Tryz.prog GW 27 cTwice3 := mkValid gws To.mix To.tab_ok To.eqs_ok g27 rfl (allV_cons val41 allV_nil) allI_nil Tryz.func27 (by kernel_rfl) v27
theorem val15 : Valid Tryz.prog GW 15 cCk := mkValid gws To.mix To.tab_ok To.eqs_ok g15 rfl (allV_cons val16 (allV_cons val26 (allV_cons val27 allV_nil))) allI_nil Tryz.func15 (by kernel_rfl) v15
theorem val25 : Valid Tryz.prog GW 25 cGreat := mkValid gws To.mix To.tab_ok To.eqs_ok g25 rfl allV_nil allI_nil Tryz.func25 (by kernel_rfl) v25
theorem val57 : Valid Tryz.prog GW 57 cQuit := mkValidM gws To.mix To.tab_ok To.eqs_ok (by kernel_rfl) g57 rfl (allM_cons mval93 allM_nil) (allV_cons val86 (allV_cons val92 (allV_cons val94 (allV_cons val111 allV_nil)))) (allI_cons Tryz.func61 (by kernel_rfl) (allI_cons Tryz.func63 (by kernel_rfl) (allI_cons Tryz.func69 (by kernel_rfl) (allI_cons Tryz.func73 (by kernel_rfl) (allI_cons Tryz.func87 (by kernel_rfl) (allI_cons Tryz.func95 (by kernel_rfl) (allI_cons Tryz.func96 (by kernel_rfl) allI_nil))))))) Tryz.func57 (by kernel_rfl) v57
end Go.Proofs.YtdkcgcgefgeooaaGreatDoor.Ow
set_option maxRecDepth 100000
namespace Go.Proofs.YtdkcgcgefgeooaaGreatDoor.Ow
open Go Go.Eng
def clT (t : Int) : Int := min (max t 0) 1073741824
def oldT (since age now : Int) : Bool := decide (clT (clT since + clT age) ≤ clT now)
def spent (long now : Int) (dead : List Int) (r : Rs) : Bool := dead.any (fun y => decide (y = r.1)) || oldT r.2.1 long now
def topQ (long now : Int) (dead : List Int) (l : List Rs) : List Rs := (l.reverse.dropWhile (spent long now dead)).reverse
def topO (long now : Int) (dead : List Int) (l : List Rs) : List Int := (l.reverse.takeWhile (spent long now dead)).map skOf
def topK (long now : Int) (dead : List Int) (l : List Rs) : Bool := decide (topQ long now dead l ≠ [])
def topS (long now : Int) (dead : List Int) (l : List Rs) : Int := match (topQ long now dead l).getLast? with
  | some r => r.1
  | none => -1
def topR (long now : Int) (dead : List Int) (l : List Rs) : List Rs := (topQ long now dead l).dropLast
abbrev aTop : Ty := .cons (.sl RestT) (.cons I64 (.cons I64 (.cons IL .unit)))
def topOk (l : List Rs) : Bool := decide (l.length ≤ 1000000)
def cTop : Contract := conD aTop (.cons I64 (.cons (.sl RestT) (.cons IL (.cons .bool .unit)))) (fun x => topOk x.1) fun x =>
  (topS x.2.1 x.2.2.1 x.2.2.2.1 x.1, (topR x.2.1 x.2.2.1 x.2.2.2.1 x.1, (topO x.2.1 x.2.2.1 x.2.2.2.1 x.1, (topK x.2.1 x.2.2.1 x.2.2.2.1 x.1, ()))))
def cSpent : Contract := conD (.cons RestT (.cons (.ptr IL) (.cons (.ptr I64) (.cons (.ptr I64) .unit)))) (.cons .bool .unit) (fun x => (Option.isSome x.2.1 && Option.isSome x.2.2.1) && Option.isSome x.2.2.2.1) fun x => (spent (Option.getD (α := Int) x.2.2.1 0) (Option.getD (α := Int) x.2.2.2.1 0) (Option.getD (α := List Int) x.2.1 []) x.1, ())
def sftG (long now : Int) (dead : List Int) (l : List Rs) : List Rs := l.filter fun r => !spent long now dead r
def sftO (long now : Int) (dead : List Int) (l : List Rs) : List Int := (l.filter (spent long now dead)).map skOf
def cSift : Contract := conD aTop (.cons (.sl RestT) (.cons IL .unit)) (fun x => topOk x.1) fun x => (sftG x.2.1 x.2.2.1 x.2.2.2.1 x.1, (sftO x.2.1 x.2.2.1 x.2.2.2.1 x.1, ()))
structure SfI (long now : Int) (dead : List Int) (l : List Rs) (i : Int) (g : List Rs) (o : List Int) : Prop where
  i0 : 0 ≤ i
  i1 : i ≤ l.length
  a : g = sftG long now dead (l.take i.toNat)
  b : o = sftO long now dead (l.take i.toNat)
def sfA : LoopAnn where
  α := Int × List Rs × List Int
  keep := [1, 2, 3, 10, 17, 18]
  okeep := [0, 1, 2]
  nxt := 2500
  env := fun _ x => [(19, .dat I64 x.1), (8, .own 2000), (9, .own 2001)]
  own := fun _ x => [(2000, .row 72 RestT x.2.1), (2001, .row 3 I64 x.2.2)]
  inv := fun s x => SfI (bDat I64 s 1).out (bDat I64 s 2).out (bDat IL s 3).out (bDat (.sl RestT) s 17).out x.1 x.2.1 x.2.2
  mu := fun s x => List.length (α := Rs) (bDat (.sl RestT) s 17).out - x.1.toNat
  pick := some fun _ s => ((bDat I64 s 19).out, (bRow RestT s 8).out, (bRow I64 s 9).out)
def noteS (l : List Sc) : List Sc := l.drop (l.length - 32)
def cNote : Contract := conD (.cons (.sl ScT) (.cons I64 (.cons (.sl AdT) .unit))) (.cons (.sl ScT) .unit) (fun x => decide (List.length (α := Sc) x.1 ≤ 1000000) && decide (List.length (α := Ad) x.2.2.1 = 0)) fun x => (noteS x.1, ())
def hasN (l : List Int) (x : Int) : Bool := l.any fun y => decide (y = x)
def cHas : Contract := conD (.cons IL (.cons I64 .unit)) (.cons .bool .unit) (fun _ => true) fun x => (hasN x.1 x.2.1, ())
abbrev Dc := Bk × List Rp × List Int × Bool
def outB (d : Dc) : Bk := d.1
def outT (d : Dc) : Tn := (d.2.1, d.2.2.1, endsB d.1, d.2.2.2, ())
def fileD (b : Bk) (re : List Rp) (sh : List Int) (sock now : Int) : Dc := match b.2.2.2.1 with
  | c :: wa => (mkB b.1 b.2.1 (b.2.2.1 ++ [sock]) wa (partF b.2.2.2.2.1 1) b.2.2.2.2.2.1 b.2.2.2.2.2.2.1, re ++ [(c, sock, 0, ())], sh, partC b.2.2.2.2.1 1)
  | [] => bif decide ((b.2.1.length : Int) < b.1.2.1) then (mkB b.1 (b.2.1 ++ [(sock, now, ())]) b.2.2.1 b.2.2.2.1 b.2.2.2.2.1 b.2.2.2.2.2.1 b.2.2.2.2.2.2.1, re, sh, false) else (b, re, sh ++ [sock], false)
def askD (b : Bk) (c now : Int) (dead : List Int) : Dc :=
  bif b.2.2.2.2.2.2.1 then (b, [(c, -1, 240, ())], [], false) else
    bif topK b.1.2.2.2.2.2.1 now dead b.2.1 then (mkB b.1 (topR b.1.2.2.2.2.2.1 now dead b.2.1) (b.2.2.1 ++ [topS b.1.2.2.2.2.2.1 now dead b.2.1]) b.2.2.2.1 b.2.2.2.2.1 b.2.2.2.2.2.1 b.2.2.2.2.2.2.1, [(c, topS b.1.2.2.2.2.2.1 now dead b.2.1, 0, ())], topO b.1.2.2.2.2.2.1 now dead b.2.1, false) else
      bif decide (b.1.2.2.1 ≤ (b.2.2.2.1.length : Int)) then (mkB b.1 (topR b.1.2.2.2.2.2.1 now dead b.2.1) b.2.2.1 b.2.2.2.1 b.2.2.2.2.1 b.2.2.2.2.2.1 b.2.2.2.2.2.2.1, [(c, -1, 230, ())], topO b.1.2.2.2.2.2.1 now dead b.2.1, false) else
        (mkB b.1 (topR b.1.2.2.2.2.2.1 now dead b.2.1) b.2.2.1 (b.2.2.2.1 ++ [c]) (joinF b.2.2.2.2.1) b.2.2.2.2.2.1 b.2.2.2.2.2.2.1, [], topO b.1.2.2.2.2.2.1 now dead b.2.1, false)
def askOk (b : Bk) (dead : List Int) : Bool := szB b && szI dead
def cAsk : Contract := conD (.cons BookT (.cons I64 (.cons I64 (.cons IL .unit)))) (.cons BookT (.cons TurnT .unit)) (fun x => askOk x.1 x.2.2.2.1) fun x => (outB (askD x.1 x.2.1 x.2.2.1 x.2.2.2.1), (outT (askD x.1 x.2.1 x.2.2.1 x.2.2.2.1), ()))
def backD (b : Bk) (c sock : Int) (keep : Bool) (now : Int) (dead : List Int) : Dc :=
  bif b.2.2.2.2.2.2.1 then (b, [(c, -1, 240, ())], [], false) else
    bif decide (idxN sock b.2.2.1 < 0) then (b, [(c, -1, 80, ())], [], false) else
      bif keep && !hasN dead sock then fileD (mkB b.1 b.2.1 (delL b.2.2.1 (idxN sock b.2.2.1) (idxN sock b.2.2.1 + 1)) b.2.2.2.1 b.2.2.2.2.1 b.2.2.2.2.2.1 b.2.2.2.2.2.2.1) [(c, -1, 0, ())] [] sock now else
        (mkB b.1 b.2.1 (delL b.2.2.1 (idxN sock b.2.2.1) (idxN sock b.2.2.1 + 1)) b.2.2.2.1 b.2.2.2.2.1 b.2.2.2.2.2.1 b.2.2.2.2.2.2.1, [(c, -1, 0, ())], [sock], false)
def cBack : Contract := conD (.cons BookT (.cons I64 (.cons I64 (.cons .bool (.cons I64 (.cons IL .unit)))))) (.cons BookT (.cons TurnT .unit)) (fun x => szB x.1 && szI x.2.2.2.2.2.1) fun x =>
  (outB (backD x.1 x.2.1 x.2.2.1 x.2.2.2.1 x.2.2.2.2.1 x.2.2.2.2.2.1), (outT (backD x.1 x.2.1 x.2.2.1 x.2.2.2.1 x.2.2.2.2.1 x.2.2.2.2.2.1), ()))
def failL (l : List Int) (e : Int) : List Rp := l.map fun c => (c, -1, e, ())
def allD (b : Bk) (e : Int) : Dc := (mkB b.1 b.2.1 b.2.2.1 [] (partF b.2.2.2.2.1 (b.2.2.2.1.length : Int)) b.2.2.2.2.2.1 b.2.2.2.2.2.2.1, failL b.2.2.2.1 e, [], partC b.2.2.2.2.1 (b.2.2.2.1.length : Int))
def endB (b : Bk) : Bk := mkB b.1 b.2.1 b.2.2.1 b.2.2.2.1 (endF b.2.2.2.2.1) (noteS b.2.2.2.2.2.1) b.2.2.2.2.2.2.1
def toldD (b : Bk) (sock e now : Int) (dead : List Int) : Dc :=
  bif decide (e = 0) && (b.2.2.2.2.2.2.1 || hasN dead sock) then (endB b, [], [sock], false) else
    bif decide (e = 0) then fileD (endB b) [] [] sock now else
      bif decide (e ≠ 191) then allD (endB b) e else (endB b, [], [], false)
def cTold : Contract := conD (.cons BookT (.cons I64 (.cons I64 (.cons (.sl AdT) (.cons I64 (.cons IL .unit)))))) (.cons BookT (.cons TurnT .unit)) (fun x => (szB x.1 && szI x.2.2.2.2.2.1) && decide (List.length (α := Ad) x.2.2.2.1 = 0)) fun x =>
  (outB (toldD x.1 x.2.1 x.2.2.1 x.2.2.2.2.1 x.2.2.2.2.2.1), (outT (toldD x.1 x.2.1 x.2.2.1 x.2.2.2.2.1 x.2.2.2.2.2.1), ()))
def closeD (b : Bk) (c : Int) : Dc :=
  bif b.2.2.2.2.2.2.1 then (b, [(c, -1, 240, ())], [], false) else
    (mkB b.1 [] [] [] (partF b.2.2.2.2.1 (b.2.2.2.1.length : Int)) b.2.2.2.2.2.1 true, failL b.2.2.2.1 240 ++ [(c, -1, 0, ())], ownsL b, partC b.2.2.2.2.1 (b.2.2.2.1.length : Int))
def cClose : Contract := conD (.cons BookT (.cons I64 .unit)) (.cons BookT (.cons TurnT .unit)) (fun x => szB x.1) fun x => (outB (closeD x.1 x.2.1), (outT (closeD x.1 x.2.1), ()))
def cNone : Contract := conD .unit (.cons FlT .unit) (fun _ => true) fun _ => (noneF, ())
def cNew : Contract := conD (.cons ConfT .unit) (.cons BookT .unit) (fun _ => true) fun x => (mkB x.1 [] [] [] noneF [] false, ())
def cOver : Contract := conD (.cons BookT .unit) (.cons .bool .unit) (fun _ => true) fun x => (x.1.2.2.2.2.2.2.1 && !onF x.1.2.2.2.2.1, ())
def startB (b : Bk) (r : Int) : Bk := bif decide (beginE b.2.2.2.2.1 r = 0) then mkB b.1 b.2.1 b.2.2.1 b.2.2.2.1 (beginF b.2.2.2.2.1 r) b.2.2.2.2.2.1 b.2.2.2.2.2.2.1 else b
def cStarted : Contract := conD (.cons BookT (.cons I64 .unit)) (.cons BookT (.cons I64 .unit)) (fun _ => true) fun x => (startB x.1 x.2.1, (beginE x.1.2.2.2.2.1 x.2.1, ()))
def oldD (b : Bk) (now : Int) (dead : List Int) : Dc := (mkB b.1 (sftG b.1.2.2.2.2.2.1 now dead b.2.1) b.2.2.1 b.2.2.2.1 b.2.2.2.2.1 b.2.2.2.2.2.1 b.2.2.2.2.2.2.1, [], sftO b.1.2.2.2.2.2.1 now dead b.2.1, false)
def cOld : Contract := conD (.cons BookT (.cons I64 (.cons IL .unit))) (.cons BookT (.cons TurnT .unit)) (fun x => askOk x.1 x.2.2.1) fun x => (outB (oldD x.1 x.2.1 x.2.2.1), (outT (oldD x.1 x.2.1 x.2.2.1), ()))
structure AlI (l : List Int) (e : Int) (i : Int) (o : List Rp) : Prop where
  i0 : 0 ≤ i
  i1 : i ≤ l.length
  a : o = failL (l.take i.toNat) e
def ledO (s : St) : Nat := match Go.Eng.look s.env 0 with
  | .pt o _ => o
  | _ => 0
def ledC (s : St) : List D := match lookO s.own (ledO s) with
  | .cells _ ds => ds
  | _ => []
def alA : LoopAnn where
  α := Int × List Rp
  keep := [0, 1, 11, 12]
  okeep := []
  nxt := 9100
  env := fun _ x => [(13, .dat I64 x.1)]
  own := fun s x => [(ledO s, .cells 163 ((ledC s).set 17 (.own 9000))), (9000, .row 85 RepT x.2)]
  inv := fun s x => AlI (bDat IL s 11).out (bDat I64 s 1).out x.1 x.2
  mu := fun s x => List.length (α := Int) (bDat IL s 11).out - x.1.toNat
  pick := some fun _ s => ((bDat I64 s 13).out, (cRow RepT s 0 17).out)
def ntA : LoopAnn where
  α := Int
  keep := [2, 12, 13]
  okeep := []
  nxt := 950
  env := fun _ x => [(14, .dat I64 x), (7, .own 900)]
  own := fun s _ => [(900, .row 142 ScT (bRow ScT s 7).out)]
  inv := fun _ x => x = 0
  mu := fun _ _ => 0
  pick := some fun _ s => (bDat I64 s 14).out
end Go.Proofs.YtdkcgcgefgeooaaGreatDoor.Ow
namespace Go.Proofs.YtdkcgcgefgeooaaGreatDoor.Ow
open Go Go.Eng 
set_option maxRecDepth 100000
noncomputable def g105 : Cfg := { tab := To.tab, cons := [(92, cIdx)], inls := [], loops := [], cuts := [], unroll := false, arrs := [], keys := [] }
noncomputable def g110 : Cfg := { tab := To.tab, cons := [], inls := [], loops := [], cuts := [], unroll := false, arrs := [], keys := [] }
noncomputable def g107 : Cfg := { tab := To.tab, cons := [(105, cHas)], inls := [(64, Tryz.f64), (65, Tryz.f65), (108, Tryz.f108)], loops := [], cuts := [], unroll := false, arrs := [], keys := [] }
noncomputable def g67 : Cfg := { tab := To.tab, cons := [(105, cHas)], inls := [(64, Tryz.f64), (65, Tryz.f65), (85, Tryz.f85), (107, Tryz.f107), (108, Tryz.f108)], loops := [(3, sfA)], cuts := [], unroll := false, arrs := [], keys := [] }
end Go.Proofs.YtdkcgcgefgeooaaGreatDoor.Ow
namespace Go.Proofs.YtdkcgcgefgeooaaGreatDoor.Ow
open Go Go.Eng 
set_option maxRecDepth 100000
theorem v105_eq : vcFn g105 300 Tryz.f105 cHas = ( ∀ (x : List Int × Int × Unit), Wr (Bool.true = Bool.true) → Wr (Bool.true = Bool.true) ∧ (Decidable.decide (idxN x.2.1 x.1 ≥ (0 : Int)), ()) = (hasN x.1 x.2.1, ())) := by kernel_rfl
theorem v110_eq : vcFn g110 300 Tryz.f110 ((cClone 72 16 RestT)) = ( ∀ (x : List (Int × Int × Unit) × Unit), Wr (Decidable.decide (List.length x.1 * (16 : Nat) ≤ (140737488355328 : Nat)) = Bool.true) → ∀ (b : Bool), Wr (b = Bool.true → x.1 = nilL (Int × Int × Unit)) → bcase b (x.1 =
  nilL (Int × Int × Unit)) (Wr ((List.length (nilL (Int × Int × Unit)) + List.length x.1) * (16 : Nat) ≤ (140737488355328 : Nat)) ∧ nilL (Int × Int × Unit) ++ x.1 = x.1)) := by kernel_rfl
theorem v107_eq : vcFn g107 300 Tryz.f107 cSpent = ( ∀ (x : (Int × Int × Unit) × Option (List Int) × Option Int × Option Int × Unit), Wr ((Option.isSome x.2.1 && Option.isSome x.2.2.1 && Option.isSome x.2.2.2.1) = Bool.true) → Wr (Option.isSome x.2.1
  = Bool.true) ∧ Wr (Bool.true = Bool.true) ∧ Wr ((!hasN (Option.getD x.2.1 (Ty.zero IL)) x.1.1) = Bool.true → Option.isSome x.2.2.1 = Bool.true) ∧ Wr ((!hasN (Option.getD x.2.1 (Ty.zero IL)) x.1.1)
  = Bool.true → Option.isSome x.2.2.2.1 = Bool.true) ∧ bcase (!hasN (Option.getD x.2.1 (Ty.zero IL)) x.1.1) ((Bool.false || Decidable.decide (Min.min (Max.max (Option.getD x.2.2.2.1 (0 : Int)) (0 :
  Int)) (1073741824 : Int) ≥ Min.min (Max.max (IntKind.wrap IntKind.i64 (Min.min (Max.max x.1.2.1 (0 : Int)) (1073741824 : Int) + Min.min (Max.max (Option.getD x.2.2.1 (0 : Int)) (0 : Int)) (1073741824 :
  Int))) (0 : Int)) (1073741824 : Int)), ()) = (spent (Option.getD x.2.2.1 (0 : Int)) (Option.getD x.2.2.2.1 (0 : Int)) (Option.getD x.2.1 (nilL Int)) x.1, ())) ((!Bool.false || Bool.false, ()) =
  (spent (Option.getD x.2.2.1 (0 : Int)) (Option.getD x.2.2.2.1 (0 : Int)) (Option.getD x.2.1 (nilL Int)) x.1, ()))) := by kernel_rfl
theorem v67_eq : vcFn g67 300 Tryz.f67 cSift.T = ( ∀ (x : List (Int × Int × Unit) × Int × Int × List Int × Unit), Wr (typedB aTop x = Bool.true ∧ topOk x.1 = Bool.true) → (Wr (SfI x.2.1 x.2.2.1 x.2.2.2.1 x.1 (0 : Int) (nilL (Int × Int × Unit)) (nilL
  Int)) ∧ Wr ((0 : Int) = (0 : Int)) ∧ Wr (x.2.1 = x.2.1) ∧ Wr (x.2.2.1 = x.2.2.1) ∧ Wr (x.2.2.2.1 = x.2.2.2.1) ∧ Wr (x.1 = x.1) ∧ Wr ((↑(List.length x.1) : Int) = (↑(List.length
  x.1) : Int)) ∧ Wr (nilL (Int × Int × Unit) = nilL (Int × Int × Unit)) ∧ Wr (nilL Int = nilL Int) ∧ Wr (x.2.1 = x.2.1) ∧ Wr (x.2.2.1 = x.2.2.1) ∧ Wr (x.2.2.2.1 = x.2.2.2.1)) ∧ ∀ (x_1
  : Int × List (Int × Int × Unit) × List Int), Wr (SfI x.2.1 x.2.2.1 x.2.2.2.1 x.1 x_1.1 x_1.2.1 x_1.2.2) → bcase (Decidable.decide (x_1.1 < (↑(List.length x.1) : Int))) (Wr ((0 : Int) ≤
  x_1.1) ∧ Wr (x_1.1 < (↑(List.length x.1) : Int)) ∧ Wr (Bool.true = Bool.true) ∧ Wr (Bool.true = Bool.true) ∧ bcase (!hasN x.2.2.2.1 (List.getD x.1 (Int.toNat x_1.1) (Ty.zero RestT)).1) (bcase
  (Bool.false || Decidable.decide (Min.min (Max.max x.2.2.1 (0 : Int)) (1073741824 : Int) ≥ Min.min (Max.max (IntKind.wrap IntKind.i64 (Min.min (Max.max (List.getD x.1 (Int.toNat x_1.1) (Ty.zero RestT)).2.1
  (0 : Int)) (1073741824 : Int) + Min.min (Max.max x.2.1 (0 : Int)) (1073741824 : Int))) (0 : Int)) (1073741824 : Int))) (Wr ((List.length x_1.2.2 + List.length ((List.getD x.1 (Int.toNat x_1.1) (Ty.zero
  RestT)).1 :: nilL Int)) * (8 : Nat) ≤ (140737488355328 : Nat)) ∧ Wr (SfI x.2.1 x.2.2.1 x.2.2.2.1 x.1 (IntKind.wrap IntKind.i64 (x_1.1 + (1 : Int))) x_1.2.1 (x_1.2.2 ++ (List.getD x.1
  (Int.toNat x_1.1) (Ty.zero RestT)).1 :: nilL Int)) ∧ Wr (List.length x.1 - Int.toNat (IntKind.wrap IntKind.i64 (x_1.1 + (1 : Int))) < List.length x.1 - Int.toNat x_1.1) ∧ Wr (IntKind.wrap IntKind.i64
  (x_1.1 + (1 : Int)) = IntKind.wrap IntKind.i64 (x_1.1 + (1 : Int))) ∧ Wr (x.2.1 = x.2.1) ∧ Wr (x.2.2.1 = x.2.2.1) ∧ Wr (x.2.2.2.1 = x.2.2.2.1) ∧ Wr (x.1 = x.1) ∧ Wr
  ((↑(List.length x.1) : Int) = (↑(List.length x.1) : Int)) ∧ Wr (x_1.2.1 = x_1.2.1) ∧ Wr (x_1.2.2 ++ (List.getD x.1 (Int.toNat x_1.1) (Ty.zero RestT)).1 :: nilL Int = x_1.2.2 ++ (List.getD x.1
  (Int.toNat x_1.1) (Ty.zero RestT)).1 :: nilL Int) ∧ Wr (x.2.1 = x.2.1) ∧ Wr (x.2.2.1 = x.2.2.1) ∧ Wr (x.2.2.2.1 = x.2.2.2.1)) (Wr ((List.length x_1.2.1 + List.length
  (List.getD x.1 (Int.toNat x_1.1) (Ty.zero RestT) :: nilL (Int × Int × Unit))) * (16 : Nat) ≤ (140737488355328 : Nat)) ∧ Wr (SfI x.2.1 x.2.2.1 x.2.2.2.1 x.1 (IntKind.wrap IntKind.i64 (x_1.1 + (1
  : Int))) (x_1.2.1 ++ List.getD x.1 (Int.toNat x_1.1) (Ty.zero RestT) :: nilL (Int × Int × Unit)) x_1.2.2) ∧ Wr (List.length x.1 - Int.toNat (IntKind.wrap IntKind.i64 (x_1.1 + (1 : Int))) < List.length
  x.1 - Int.toNat x_1.1) ∧ Wr (IntKind.wrap IntKind.i64 (x_1.1 + (1 : Int)) = IntKind.wrap IntKind.i64 (x_1.1 + (1 : Int))) ∧ Wr (x.2.1 = x.2.1) ∧ Wr (x.2.2.1 = x.2.2.1) ∧ Wr (x.2.2.2.1
  = x.2.2.2.1) ∧ Wr (x.1 = x.1) ∧ Wr ((↑(List.length x.1) : Int) = (↑(List.length x.1) : Int)) ∧ Wr (x_1.2.1 ++ List.getD x.1 (Int.toNat x_1.1) (Ty.zero RestT) :: nilL (Int × Int × Unit) =
  x_1.2.1 ++ List.getD x.1 (Int.toNat x_1.1) (Ty.zero RestT) :: nilL (Int × Int × Unit)) ∧ Wr (x_1.2.2 = x_1.2.2) ∧ Wr (x.2.1 = x.2.1) ∧ Wr (x.2.2.1 = x.2.2.1) ∧ Wr (x.2.2.2.1 =
  x.2.2.2.1))) (Wr ((List.length x_1.2.2 + List.length ((List.getD x.1 (Int.toNat x_1.1) (Ty.zero RestT)).1 :: nilL Int)) * (8 : Nat) ≤ (140737488355328 : Nat)) ∧ Wr (SfI x.2.1 x.2.2.1
  x.2.2.2.1 x.1 (IntKind.wrap IntKind.i64 (x_1.1 + (1 : Int))) x_1.2.1 (x_1.2.2 ++ (List.getD x.1 (Int.toNat x_1.1) (Ty.zero RestT)).1 :: nilL Int)) ∧ Wr (List.length x.1 - Int.toNat
  (IntKind.wrap IntKind.i64 (x_1.1 + (1 : Int))) < List.length x.1 - Int.toNat x_1.1) ∧ Wr (IntKind.wrap IntKind.i64 (x_1.1 + (1 : Int)) = IntKind.wrap IntKind.i64 (x_1.1 + (1 : Int))) ∧ Wr (x.2.1 =
  x.2.1) ∧ Wr (x.2.2.1 = x.2.2.1) ∧ Wr (x.2.2.2.1 = x.2.2.2.1) ∧ Wr (x.1 = x.1) ∧ Wr ((↑(List.length x.1) : Int) = (↑(List.length x.1) : Int)) ∧ Wr (x_1.2.1 = x_1.2.1) ∧ Wr
  (x_1.2.2 ++ (List.getD x.1 (Int.toNat x_1.1) (Ty.zero RestT)).1 :: nilL Int = x_1.2.2 ++ (List.getD x.1 (Int.toNat x_1.1) (Ty.zero RestT)).1 :: nilL Int) ∧ Wr (x.2.1 = x.2.1) ∧ Wr
  (x.2.2.1 = x.2.2.1) ∧ Wr (x.2.2.2.1 = x.2.2.2.1))) ((x_1.2.1, x_1.2.2, ()) = (sftG x.2.1 x.2.2.1 x.2.2.2.1 x.1, sftO x.2.1 x.2.2.1 x.2.2.2.1
  x.1, ()))) := by kernel_rfl
end Go.Proofs.YtdkcgcgefgeooaaGreatDoor.Ow
set_option linter.all false
namespace Go.Proofs.YtdkcgcgefgeooaaGreatDoor.Ow
open Go Go.Eng Go.RowKit
set_option maxRecDepth 100000
set_option maxHeartbeats 8000000
theorem v105 : Vc g105 300 Tryz.f105 cHas := by
  constructor
  rw [v105_eq]
  simp only [Wr_iff, bcase_iff, true_and, and_true, decide_eq_true_eq, decide_eq_false_iff_not, Bool.and_eq_true, Bool.and_eq_false_iff, Bool.or_eq_true, Bool.or_eq_false_iff, Bool.not_eq_true', Bool.not_eq_false', Option.map_some, Option.getD_some, Option.isSome_some, Option.isSome_map, imp_self, nilL, noneO]
  rintro ⟨l, x, ⟨⟩⟩ _
  dsimp only
  rw [hasN, idxN]
  cases l.any (fun y => decide (y = x)) with
  | true => rw [cond_true, decide_eq_true (by omega)]
  | false => rw [cond_false]; rfl
theorem v110 : Vc g110 300 Tryz.f110 (cClone 72 16 RestT) := by
  constructor
  rw [v110_eq]
  simp only [Wr_iff, bcase_iff, true_and, and_true, decide_eq_true_eq, decide_eq_false_iff_not, Bool.and_eq_true, Bool.and_eq_false_iff, Bool.or_eq_true, Bool.or_eq_false_iff, Bool.not_eq_true', Bool.not_eq_false', Option.map_some, Option.getD_some, Option.isSome_some, Option.isSome_map, imp_self, nilL, noneO]
  rintro ⟨l, ⟨⟩⟩ h b hb
  dsimp only at *
  exact ⟨hb, fun _ => ⟨by simpa using h, by simp⟩⟩
theorem old_eq (since age now : Int) : decide (min (max now 0) 1073741824 ≥ min (max (IntKind.wrap .i64 (min (max since 0) 1073741824 + min (max age 0) 1073741824)) 0) 1073741824) = oldT since age now := by
  rw [wrap_id (by omega) (by omega)]
  rfl
theorem old_eq' (since age now : Int) : (min (max now 0) 1073741824 ≥ min (max (IntKind.wrap .i64 (min (max since 0) 1073741824 + min (max age 0) 1073741824)) 0) 1073741824) ↔ oldT since age now = true := by
  rw [← old_eq, decide_eq_true_eq]
theorem v107 : Vc g107 300 Tryz.f107 cSpent := by
  constructor
  rw [v107_eq]
  simp only [Wr_iff, bcase_iff, true_and, and_true, decide_eq_true_eq, decide_eq_false_iff_not, Bool.and_eq_true, Bool.and_eq_false_iff, Bool.or_eq_true, Bool.or_eq_false_iff, Bool.not_eq_true', Bool.not_eq_false', Option.map_some, Option.getD_some, Option.isSome_some, Option.isSome_map, imp_self, nilL, noneO]
  rintro ⟨⟨so, si, ⟨⟩⟩, p, q, r, ⟨⟩⟩ ⟨⟨h1, h2⟩, h3⟩
  dsimp only at *
  refine ⟨h1, fun _ => h2, fun _ => h3, fun h => ?_, fun h => ?_⟩
  · have h : hasN (Option.getD p []) so = false := h
    rw [old_eq, spent]
    unfold hasN at h
    rw [h]
  · have h : hasN (Option.getD p []) so = true := h
    rw [spent]
    unfold hasN at h
    rw [h]; rfl
theorem sft_lens (lo now : Int) (dead : List Int) (l : List Rs) : (sftO lo now dead l).length ≤ l.length ∧ (sftG lo now dead l).length ≤ l.length := by
  constructor
  · rw [sftO, List.length_map]; exact List.length_filter_le _ _
  · exact List.length_filter_le _ _
theorem SfI.one {lo now : Int} {dead : List Int} {l : List Rs} {i : Int} {g : List Rs} {o : List Int} (h : SfI lo now dead l i g o) (hl : l.length ≤ 1000000) (hi : i < l.length) :
    l.take (IntKind.wrap .i64 (i + 1)).toNat = l.take i.toNat ++ [l.getD i.toNat (Ty.zero RestT)] ∧ 0 ≤ IntKind.wrap .i64 (i + 1) ∧ IntKind.wrap .i64 (i + 1) ≤ l.length ∧ l.length - (IntKind.wrap .i64 (i + 1)).toNat < l.length - i.toNat ∧ (g.length + 1) * 16 ≤ 140737488355328 ∧ (o.length + 1) * 8 ≤ 140737488355328 := by
  have h0 := h.i0
  have ew : IntKind.wrap .i64 (i + 1) = i + 1 := wrap_id (by omega) (by omega)
  rw [ew]
  have e := take_succ l i (Ty.zero RestT) h0 hi
  have hg := (sft_lens lo now dead (l.take i.toNat)).2
  have ho := (sft_lens lo now dead (l.take i.toNat)).1
  rw [← h.a] at hg
  rw [← h.b] at ho
  rw [List.length_take] at hg ho
  exact ⟨e, by omega, by omega, by omega, by omega, by omega⟩
theorem SfI.bad {lo now : Int} {dead : List Int} {l : List Rs} {i : Int} {g : List Rs} {o : List Int} (h : SfI lo now dead l i g o) (hl : l.length ≤ 1000000) (hi : i < l.length) (hs : spent lo now dead (l.getD i.toNat (Ty.zero RestT)) = true) :
    SfI lo now dead l (IntKind.wrap .i64 (i + 1)) g (o ++ [(l.getD i.toNat (Ty.zero RestT)).1]) := by
  obtain ⟨e, h1, h2, _⟩ := h.one hl hi
  refine ⟨h1, h2, ?_, ?_⟩
  · rw [e, sftG, List.filter_append, h.a, sftG, List.filter_cons_of_neg (by rw [hs]; decide), List.filter_nil, List.append_nil]
  · rw [e, sftO, List.filter_append, List.map_append, h.b, sftO, List.filter_cons_of_pos hs]; rfl
theorem SfI.good {lo now : Int} {dead : List Int} {l : List Rs} {i : Int} {g : List Rs} {o : List Int} (h : SfI lo now dead l i g o) (hl : l.length ≤ 1000000) (hi : i < l.length) (hs : spent lo now dead (l.getD i.toNat (Ty.zero RestT)) = false) :
    SfI lo now dead l (IntKind.wrap .i64 (i + 1)) (g ++ [l.getD i.toNat (Ty.zero RestT)]) o := by
  obtain ⟨e, h1, h2, _⟩ := h.one hl hi
  refine ⟨h1, h2, ?_, ?_⟩
  · rw [e, sftG, List.filter_append, h.a, sftG, List.filter_cons_of_pos (by rw [hs]; rfl)]; rfl
  · rw [e, sftO, List.filter_append, List.map_append, h.b, sftO, List.filter_cons_of_neg (by rw [hs]; decide)]; simp
theorem v67 : Vc g67 300 Tryz.f67 cSift.T := by
  constructor
  rw [v67_eq]
  simp only [Wr_iff, bcase_iff, true_and, and_true, decide_eq_true_eq, decide_eq_false_iff_not, Bool.and_eq_true, Bool.and_eq_false_iff, Bool.or_eq_true, Bool.or_eq_false_iff, Bool.not_eq_true', Bool.not_eq_false', Option.map_some, Option.getD_some, Option.isSome_some, Option.isSome_map, imp_self, nilL, noneO]
  rintro ⟨l, lo, now, dead, ⟨⟩⟩ ⟨ht, hb⟩
  dsimp only at *
  have hl : l.length ≤ 1000000 := of_decide_eq_true hb
  refine ⟨⟨by omega, by omega, rfl, rfl⟩, fun ⟨i, g, o⟩ hu => ⟨fun hi => ?_, fun hi => ?_⟩⟩
  · dsimp only at *
    obtain ⟨e, h1, h2, h3, h4, h5⟩ := hu.one hl hi
    simp only [old_eq', old_eq]
    have hsp : spent lo now dead (l.getD i.toNat (Ty.zero RestT)) = (hasN dead (l.getD i.toNat (Ty.zero RestT)).1 || oldT (l.getD i.toNat (Ty.zero RestT)).2.1 lo now) := rfl
    refine ⟨hu.i0, hi, fun hn => ⟨fun ho => ⟨h5, hu.bad hl hi (by rw [hsp, hn, ho.resolve_left (by decide)]; rfl), h3⟩, fun ho => ⟨h4, hu.good hl hi (by rw [hsp, hn, (Bool.eq_false_iff.2 ho)]; rfl), h3⟩⟩, fun hn => ⟨h5, hu.bad hl hi (by rw [hsp, hn]; rfl), h3⟩⟩
  · have h0 := hu.i0
    have ha := hu.a
    have hb := hu.b
    dsimp only at *
    rw [List.take_of_length_le (by omega)] at ha hb
    rw [ha, hb]
end Go.Proofs.YtdkcgcgefgeooaaGreatDoor.Ow
namespace Go.Proofs.YtdkcgcgefgeooaaGreatDoor.Ow
open Go Go.Eng 
set_option maxRecDepth 100000
theorem val105 : Valid Tryz.prog GW 105 cHas := mkValid gws To.mix To.tab_ok To.eqs_ok g105 rfl (allV_cons val92 allV_nil) allI_nil Tryz.func105 (by kernel_rfl) v105
theorem val110 : Valid Tryz.prog GW 110 ((cClone 72 16 RestT)) := mkValid gws To.mix To.tab_ok To.eqs_ok g110 rfl allV_nil allI_nil Tryz.func110 (by kernel_rfl) v110
theorem val107 : Valid Tryz.prog GW 107 cSpent := mkValid gws To.mix To.tab_ok To.eqs_ok g107 rfl (allV_cons val105 allV_nil) (allI_cons Tryz.func64 (by kernel_rfl) (allI_cons Tryz.func65 (by kernel_rfl) (allI_cons Tryz.func108 (by kernel_rfl) allI_nil))) Tryz.func107 (by kernel_rfl) v107
theorem val67 : Valid Tryz.prog GW 67 cSift := Valid.T (mkValid gws To.mix To.tab_ok To.eqs_ok g67 rfl (allV_cons val105 allV_nil) (allI_cons Tryz.func64 (by kernel_rfl) (allI_cons Tryz.func65 (by kernel_rfl) (allI_cons Tryz.func85 (by kernel_rfl) (allI_cons Tryz.func107 (by kernel_rfl) (allI_cons Tryz.func108 (by kernel_rfl) allI_nil))))) Tryz.func67 (by kernel_rfl) v67)
end Go.Proofs.YtdkcgcgefgeooaaGreatDoor.Ow

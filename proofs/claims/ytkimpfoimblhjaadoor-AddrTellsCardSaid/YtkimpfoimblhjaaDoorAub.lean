/-
  A text of mine, of several parts: EngOps6, EngOps7, EngOps8, EngOps9, EngOps10, EngOps11, EngOps12, EngOps13, EngMut, EngOps14, EngStepOk, EngExec, EngEnt.
-/
import Derived.Test.YtkimpfoimblhjaaDoorAua
import Derived.Laws.Strings3
import Derived.Laws.Tables
import Derived.Laws.Cover1
import Derived.Laws.Concat
import Derived.Laws.Shifts
import Derived.Laws.RangeAny
import Derived.Laws.DeepStrings4
import Derived.Laws.MakeOwn
import Derived.WideShapes4
import Derived.Laws.BytesArg
import Derived.Lib.AppendStr
import Derived.Laws.IdiomCopy
set_option linter.all false
namespace Go.Eng
open Go.RowKit

variable {P : Program} {C : Cfg} {B : Nat} {w0 : World}
section
variable {B : Nat} {w0 : World} {S0 : Nat → Prop} {c : Cx} {a : Act} {o : Oper}

theorem row_reads {base : Nat} {c : Cx} {e : TypeId} {t : Ty} {xs : List t.El} {v : Value} {cs : List Value} {T : Nat → Prop} (h1 : c.w.ownsRow base e t.size v xs.length cs) (h2 : RdL P t c.S c.w xs cs) (hT : ∀ b, c.S b → T b) (hv : ∀ b, v.ownBlock = some b → T b) :
    RdC P (.sl t) T c.w xs [v] := by
  have hst : Stays c.S c.w T c.w := fun b h => ⟨hT b h, rfl⟩
  rcases h1.2 with ⟨hv', hn⟩ | ⟨g, cap, cur, hv', hg, hh, hcap, hmax, hsz, htk⟩
  · obtain rfl : xs = [] := List.length_eq_zero_iff.1 hn
    exact ⟨none, 0, by rw [hv']; rfl, Nat.le_refl _, by simp [maxLen], fun hne => absurd rfl hne⟩
  · refine ⟨some ⟨g, 0, none⟩, cap, by rw [hv'], hcap, hmax, fun _ => ⟨g, 0, rfl, hv g (by rw [hv']; rfl), fun i x hi => ?_⟩⟩
    obtain ⟨es, hes, hin⟩ := h2.get hi
    refine ⟨es, hes.mono hst, fun j v hj => ?_⟩
    have h4 := hin j v hj
    rw [← htk, List.getElem?_take] at h4
    split at h4
    · have h4' : cur[i * t.size + j]? = some v := by simpa using h4
      simp only [Nat.zero_add, World.cell?, hh, Option.isSome_none, Bool.false_eq_true, if_false]
      exact h4'
    · cases h4

theorem ownBlock_blkOf {e : TypeId} {t : Ty} {xs : List t.El} {v : Value} {b : Nat} : blkOf (.row e t xs) v = some b ↔ v.ownBlock = some b := by
  unfold Value.ownBlock blkOf
  cases v <;> simp
  rename_i a n m; cases a <;> simp

theorem Mem.freeze1 (hm : Mem P B w0 S0 c) (d : D) : ∃ c', c'.own = Go.Eng.freeze1 c.own d ∧ c'.w = c.w ∧ c'.ρ = c.ρ ∧ Mem P B w0 S0 c' ∧ Goes c c' ∧ Fr c c' := by
  have same : Go.Eng.freeze1 c.own d = c.own → ∃ c', c'.own = Go.Eng.freeze1 c.own d ∧ c'.w = c.w ∧ c'.ρ = c.ρ ∧ Mem P B w0 S0 c' ∧ Goes c c' ∧ Fr c c' :=
    fun e => ⟨c, e.symm, rfl, rfl, hm, Goes.refl c, Fr.refl c⟩
  cases d with
  | own k =>
    cases hk : lookO c.own k with
    | row e t xs =>
      have hbk := hm.ok k
      unfold BlkOk at hbk
      simp only [hk] at hbk
      obtain ⟨hz, cs, h1, h2, h3⟩ := hbk
      have e1 : Go.Eng.freeze1 c.own (.own k) = (k, .frow t xs) :: c.own := by simp [Go.Eng.freeze1, hk]
      let c' : Cx := { c with S := fun b => c.S b ∨ (c.ρ k).ownBlock = some b, own := (k, .frow t xs) :: c.own }
      have hlo : ∀ j, lookO c'.own j = if j = k then .frow t xs else lookO c.own j := by
        intro j
        simp only [c', lookO]
        by_cases h : k = j
        · rw [if_pos h, if_pos h.symm]
        · rw [if_neg h, if_neg (fun e => h e.symm)]
      have hg : Goes c c' := ⟨fun b hb => ⟨.inl hb, rfl⟩, fun j => by
        rw [hlo]
        by_cases e' : j = k
        · subst e'; rw [if_pos rfl, hk]; rfl
        · rw [if_neg e']; exact Turns.refl _ _⟩
      refine ⟨c', e1.symm, rfl, rfl, ⟨fun j => ?_, fun j j' g hne hj hj' => ?_, ?_, fun b hb => .inl (hm.from_ b hb), ?_, hm.below, hm.base, hm.one, hm.frame⟩, hg, ⟨Nat.le_refl _, fun b _ ho => ⟨rfl, fun hs => ?_, fun j hj => ?_⟩⟩⟩
      · by_cases e' : j = k
        · subst e'
          unfold BlkOk
          rw [hlo, if_pos rfl]
          exact row_reads (c := c) (T := c'.S) h1 h2 (fun b hb => .inl hb) (fun b hb => .inr hb)
        · refine (hm.ok j).keep hg hm.one (by rw [hlo, if_neg e']) rfl fun b hb => ⟨rfl, fun hs => ?_⟩
          rcases hs with hs | hs
          · exact hs
          · exact (hm.apart j k b e' hb (by rw [hk, ownBlock_blkOf]; exact hs)).elim
      · rw [hlo] at hj hj'
        have f : ∀ i, blkOf (if i = k then .frow t xs else lookO c.own i) (c'.ρ i) = some g → blkOf (lookO c.own i) (c.ρ i) = some g := by
          intro i hi
          by_cases e' : i = k
          · rw [if_pos e'] at hi; cases hi
          · rwa [if_neg e'] at hi
        exact hm.apart j j' g hne (f j hj) (f j' hj')
      · rintro b (hb | hb)
        · exact hm.bound b hb
        · exact (h1.lt b hb).2
      · rintro b (hb | hb)
        · exact hm.to_ b hb
        · exact .inr (h1.lt b hb).1
      · rcases hs with hs | hs
        · exact hs
        · exact absurd (by rw [hk, ownBlock_blkOf]; exact hs) (ho k)
      · rw [hlo] at hj
        by_cases e' : j = k
        · rw [if_pos e'] at hj; cases hj
        · rw [if_neg e'] at hj; exact ho j hj
    | cells ty ds => exact same (by simp [Go.Eng.freeze1, hk])
    | frow t xs => exact same (by simp [Go.Eng.freeze1, hk])
    | fcells ty ds => exact same (by simp [Go.Eng.freeze1, hk])
    | brow t xs => exact same (by simp [Go.Eng.freeze1, hk])
    | map T kt vt n f => exact same (by simp [Go.Eng.freeze1, hk])
    | iter s pos => exact same (by simp [Go.Eng.freeze1, hk])
    | miter vt f left cnt cur => exact same (by simp [Go.Eng.freeze1, hk])
    | dead => exact same (by simp [Go.Eng.freeze1, hk])
    | gone => exact same (by simp [Go.Eng.freeze1, hk])
    | far => exact same (by simp [Go.Eng.freeze1, hk])
    | rfar => exact same (by simp [Go.Eng.freeze1, hk])
  | pt k off =>
    by_cases hc : ∃ ty ds, lookO c.own k = .cells ty ds
    · obtain ⟨ty, ds, hk⟩ := hc
      have hbk := hm.ok k
      unfold BlkOk at hbk
      simp only [hk] at hbk
      obtain ⟨b0, cs, h1, h2, h3, h4, h5, h6⟩ := hbk
      have e1 : Go.Eng.freeze1 c.own (.pt k off) = (k, .fcells ty ds) :: c.own := by simp [Go.Eng.freeze1, hk]
      let c' : Cx := { c with S := fun b => c.S b ∨ b = b0, own := (k, .fcells ty ds) :: c.own }
      have hlo : ∀ j, lookO c'.own j = if j = k then .fcells ty ds else lookO c.own j := by
        intro j
        simp only [c', lookO]
        by_cases h : k = j
        · rw [if_pos h, if_pos h.symm]
        · rw [if_neg h, if_neg (fun e => h e.symm)]
      have hg : Goes c c' := ⟨fun b hb => ⟨.inl hb, rfl⟩, fun j => by
        rw [hlo]
        by_cases e' : j = k
        · subst e'; rw [if_pos rfl, hk]; rfl
        · rw [if_neg e']; exact Turns.refl _ _⟩
      have hb0 : blkOf (lookO c.own k) (c.ρ k) = some b0 := by rw [hk]; simp [blkOf, h1]
      refine ⟨c', e1.symm, rfl, rfl, ⟨fun j => ?_, fun j j' g hne hj hj' => ?_, ?_, fun b hb => .inl (hm.from_ b hb), ?_, hm.below, hm.base, hm.one, hm.frame⟩, hg, ⟨Nat.le_refl _, fun b _ ho => ⟨rfl, fun hs => ?_, fun j hj => ?_⟩⟩⟩
      · by_cases e' : j = k
        · subst e'
          unfold BlkOk
          rw [hlo, if_pos rfl]
          exact ⟨b0, cs, h1, h2, RVs.goes hg hm.one h3, h4, .inr rfl⟩
        · refine (hm.ok j).keep hg hm.one (by rw [hlo, if_neg e']) rfl fun b hb => ⟨rfl, fun hs => ?_⟩
          rcases hs with hs | hs
          · exact hs
          · subst hs; exact (hm.apart j k b e' hb hb0).elim
      · rw [hlo] at hj hj'
        have f : ∀ i, blkOf (if i = k then .fcells ty ds else lookO c.own i) (c'.ρ i) = some g → blkOf (lookO c.own i) (c.ρ i) = some g := by
          intro i hi
          by_cases e' : i = k
          · rw [if_pos e'] at hi; cases hi
          · rwa [if_neg e'] at hi
        exact hm.apart j j' g hne (f j hj) (f j' hj')
      · rintro b (hb | hb)
        · exact hm.bound b hb
        · subst hb; exact (Array.getElem?_eq_some_iff.1 h2).1
      · rintro b (hb | hb)
        · exact hm.to_ b hb
        · subst hb; exact .inr h5
      · rcases hs with hs | hs
        · exact hs
        · subst hs; exact absurd hb0 (ho k)
      · rw [hlo] at hj
        by_cases e' : j = k
        · rw [if_pos e'] at hj; cases hj
        · rw [if_neg e'] at hj; exact ho j hj
    · refine same ?_
      unfold Go.Eng.freeze1
      simp only []
      split
      · rename_i ty ds hk; exact absurd ⟨ty, ds, hk⟩ hc
      · rfl
  | _ => exact same rfl

theorem Mem.freeze : ∀ (ds : List D) {c : Cx}, Mem P B w0 S0 c → ∃ c', c'.own = Go.Eng.freeze c.own ds ∧ c'.w = c.w ∧ c'.ρ = c.ρ ∧ Mem P B w0 S0 c' ∧ Goes c c' ∧ Fr c c'
  | [], c, hm => ⟨c, rfl, rfl, rfl, hm, Goes.refl c, Fr.refl c⟩
  | d :: r, c, hm => by
    obtain ⟨c1, e1, e2, e3, hm1, hg1, hf1⟩ := hm.freeze1 d
    obtain ⟨c2, f1, f2, f3, hm2, hg2, hf2⟩ := Mem.freeze r hm1
    exact ⟨c2, by rw [f1, e1]; rfl, f2.trans e2, f3.trans e3, hm2, hg1.trans hg2, hf1.trans hf2⟩

theorem freeze1_gone {own : Own} {d : D} {k : Nat} (h : lookO own k = .gone) : lookO (freeze1 own d) k = .gone := by
  unfold freeze1
  split
  · split
    · rename_i o e t xs hl
      simp only [lookO]
      split
      · rename_i e'; subst e'; rw [h] at hl; cases hl
      · exact h
    · exact h
  · split
    · rename_i o e t xs hl
      simp only [lookO]
      split
      · rename_i e'; subst e'; rw [h] at hl; cases hl
      · exact h
    · exact h
  · exact h
theorem freeze_gone {k : Nat} : ∀ (ds : List D) {own : Own}, lookO own k = .gone → lookO (freeze own ds) k = .gone
  | [], _, h => h
  | _ :: r, _, h => freeze_gone r (freeze1_gone h)

theorem fits_ok : ∀ (t : Ty) {c : Cx} {ds : List D} {vs : List Value}, Handles c → fits t ds = true → RVs P c ds vs → RVs P c (flats ds) (vs.flatMap fun v => v.cells.toList) ∧ (vs.flatMap fun v => v.cells.toList).length = t.size ∧ group t (vs.flatMap fun v => v.cells.toList) = vs
  | .unit, c, ds, vs, hh, hf, hr => by
    cases ds with
    | nil => obtain rfl : vs = [] := hr; exact ⟨rfl, rfl, rfl⟩
    | cons d r => simp [fits] at hf
  | .cons t u, c, ds, vs, hh, hf, hr => by
    cases ds with
    | nil => simp [fits] at hf
    | cons d r =>
      obtain ⟨v, vs', rfl, h1, h2⟩ := hr
      simp only [fits, Bool.and_eq_true] at hf
      obtain ⟨hf1, hf2⟩ := hf
      obtain ⟨g1, g2, g3⟩ := fits_ok u hh hf2 h2
      have key : v.cells.toList.length = t.size ∧ vOf t v.cells.toList = v ∧ RVs P c (flat d) v.cells.toList := by
        have one : t.isAgg = false → v.oneCell' = true → v.cells.toList.length = t.size ∧ vOf t v.cells.toList = v := by
          intro ht hv
          have h3 : v.cells.toList = [v] := by cases v <;> first | rfl | cases hv
          have h4 : t.size = 1 := by cases t <;> simp_all [Ty.isAgg, Ty.size]
          rw [h3, h4]
          exact ⟨rfl, by simp [vOf, ht]⟩
        cases d with
        | agg ds =>
          simp only [Bool.and_eq_true, beq_iff_eq] at hf1
          obtain ⟨cs, rfl, hrs⟩ := id h1
          refine ⟨by simp [Value.cells, hrs.length, hf1.2], by simp [vOf, hf1.1, Value.cells], RV.flat hh h1 trivial⟩
        | dat t' x =>
          simp only [Bool.and_eq_true, beq_iff_eq] at hf1
          refine ⟨?_, ?_, RV.flat hh h1 trivial⟩
          · obtain ⟨cs, hrd, rfl⟩ := h1
            by_cases ht : t'.isAgg = true
            · simp only [vOf, ht, if_true, Value.cells]; rw [hrd.length, hf1.2]
            · have ht : t'.isAgg = false := by simpa using ht
              exact (one (hf1.1.trans ht) (hrd.one _ (by rw [hrd.leaf ht]; simp [vOf, ht]))).1
          · obtain ⟨cs, hrd, rfl⟩ := h1
            by_cases ht : t'.isAgg = true
            · have : t.isAgg = true := hf1.1.trans ht
              simp [vOf, ht, this, Value.cells]
            · have ht : t'.isAgg = false := by simpa using ht
              exact (one (hf1.1.trans ht) (hrd.one _ (by rw [hrd.leaf ht]; simp [vOf, ht]))).2
        | cst u =>
          simp only [Bool.and_eq_true, Bool.not_eq_true'] at hf1
          obtain rfl : v = u := h1
          exact ⟨(one hf1.2 hf1.1).1, (one hf1.2 hf1.1).2, RV.flat hh (d := .cst v) rfl hf1.1⟩
        | any => cases hf1
        | gd t w d => cases hf1
        | tup ds => cases hf1
        | pt k off => exact ⟨(one (by simpa using hf1) (h1.leafB hh rfl)).1, (one (by simpa using hf1) (h1.leafB hh rfl)).2, RV.flat hh h1 trivial⟩
        | arr k i s m => exact ⟨(one (by simpa using hf1) (h1.leafB hh rfl)).1, (one (by simpa using hf1) (h1.leafB hh rfl)).2, RV.flat hh h1 trivial⟩
        | arx k i s m e p => exact ⟨(one (by simpa using hf1) (h1.leafB hh rfl)).1, (one (by simpa using hf1) (h1.leafB hh rfl)).2, RV.flat hh h1 trivial⟩
        | pe k i s => exact ⟨(one (by simpa using hf1) (h1.leafB hh rfl)).1, (one (by simpa using hf1) (h1.leafB hh rfl)).2, RV.flat hh h1 trivial⟩
        | own k => exact ⟨(one (by simpa using hf1) (h1.leafB hh rfl)).1, (one (by simpa using hf1) (h1.leafB hh rfl)).2, RV.flat hh h1 trivial⟩
        | fn f caps => exact ⟨(one (by simpa using hf1) (h1.leafB hh rfl)).1, (one (by simpa using hf1) (h1.leafB hh rfl)).2, RV.flat hh h1 trivial⟩
        | clip t xs => exact ⟨(one (by simpa using hf1) (h1.leafB hh rfl)).1, (one (by simpa using hf1) (h1.leafB hh rfl)).2, RV.flat hh h1 trivial⟩
        | ifc T t x => exact ⟨(one (by simpa using hf1) (h1.leafB hh rfl)).1, (one (by simpa using hf1) (h1.leafB hh rfl)).2, RV.flat hh h1 trivial⟩
      obtain ⟨k1, k2, k3⟩ := key
      simp only [List.flatMap_cons, flats]
      refine ⟨k3.append g1, by rw [List.length_append, k1, g2]; rfl, ?_⟩
      unfold group
      rw [← k1, List.take_left, List.drop_left, k2, g3]
  | .int _, c, ds, vs, _, hf, _ => by cases ds <;> simp [fits] at hf
  | .bool, c, ds, vs, _, hf, _ => by cases ds <;> simp [fits] at hf
  | .str, c, ds, vs, _, hf, _ => by cases ds <;> simp [fits] at hf
  | .sl _, c, ds, vs, _, hf, _ => by cases ds <;> simp [fits] at hf
  | .ptr _, c, ds, vs, _, hf, _ => by cases ds <;> simp [fits] at hf
  | .fn _ _, c, ds, vs, _, hf, _ => by cases ds <;> simp [fits] at hf
  | .err, c, ds, vs, _, hf, _ => by cases ds <;> simp [fits] at hf
  | .fp, c, ds, vs, _, hf, _ => by cases ds <;> simp [fits] at hf

theorem res_ok {c : Cx} : ∀ (r : Ty) {y : r.El} {rs : List Value}, RdC P r c.S c.w y rs → RVs P c (resOf r y) (group r rs)
  | .cons t u, y, rs, h => by
    obtain ⟨c1, c2, rfl, h1, h2⟩ := h
    unfold resOf group
    rw [← h1.length, List.take_left, List.drop_left]
    exact ⟨_, _, rfl, ⟨c1, h1, rfl⟩, res_ok u h2⟩
  | .unit, _, _, _ => rfl
  | .int _, _, _, _ => rfl
  | .bool, _, _, _ => rfl
  | .str, _, _, _ => rfl
  | .sl _, _, _, _ => rfl
  | .ptr _, _, _, _ => rfl
  | .fn _ _, _, _, _ => rfl
  | .err, _, _, _ => rfl
  | .fp, _, _, _ => rfl
theorem ret_ok {c : Cx} {ds : List D} {r : Ty} {rs : List Value} (h : RVs P c ds (group r rs)) : RV P c (retD ds) (retV r rs) := by
  unfold retV
  generalize group r rs = vs at h
  match ds, vs, h with
  | [], vs, h => obtain rfl : vs = [] := h; exact ⟨[], rfl, rfl⟩
  | [d], vs, h => obtain ⟨v, vs', rfl, h1, h2⟩ := h; obtain rfl : vs' = [] := h2; exact h1
  | d :: e :: r, vs, h =>
    obtain ⟨v, vs', rfl, h1, h2⟩ := h
    obtain ⟨u, us, rfl, h3, h4⟩ := h2
    exact ⟨v :: u :: us, rfl, v, _, rfl, h1, u, us, rfl, h3, h4⟩

theorem resC_ok {con : Contract} {c : Cx} {x : con.a.El} {rs : List Value} (h : RdC P con.r c.S c.w (con.F x) rs) (hc : con.clip = true → ∃ base n, retV con.r rs = .slice base n n) : RV P c (resC con x) (retV con.r rs) := by
  unfold resC
  split
  · rename_i hcl
    obtain ⟨base, n, hv⟩ := hc hcl
    split
    · rename_i t y hy
      obtain ⟨a, r, pre, F, preB, preOk, fr, cl⟩ := con
      simp only at h hv hy ⊢
      injection hy with e1 e2
      subst e1
      obtain rfl := eq_of_heq e2
      obtain ⟨c1, c2, rfl, h1, h2⟩ := h
      obtain rfl : c2 = [] := h2
      obtain ⟨b', cap, rfl, h3, h4, h5⟩ := h1
      simp only [retV, group, List.append_nil, Ty.size, List.take_succ_cons, List.take_zero, vOf, Ty.isAgg, List.drop_succ_cons, List.drop_zero, Bool.false_eq_true, if_false, List.headD_cons, Value.slice.injEq] at hv
      obtain ⟨rfl, h6, h7⟩ := hv
      have hcap : cap = List.length (F x).1 := by omega
      subst hcap
      simp only [retV, group, List.append_nil, Ty.size, List.take_succ_cons, List.take_zero, vOf, Ty.isAgg, List.drop_succ_cons, List.drop_zero, Bool.false_eq_true, if_false, List.headD_cons]
      exact ⟨b', rfl, b', _, rfl, h3, h4, h5⟩
    · rename_i r y hno hy
      obtain ⟨a, r', pre, F, preB, preOk, fr, cl⟩ := con
      simp only at h hy ⊢
      injection hy with e1 e2
      subst e1
      obtain rfl := eq_of_heq e2
      exact ret_ok (res_ok _ h)
  · exact ret_ok (res_ok con.r h)

theorem wp_call {f : Operand} {args : Array Operand} {ts : Array TypeId} (ho : o.op = .call { callee := .value f, args, argTypes := ts }) {g : FuncId} {vs : List Value} (hf : a.eval f = .func (.func g) #[] vs.toArray) (hcall : Callable P g)
    {w : World} {R : Ending → World → Prop} (h : Calls P g (args.toList.map a.eval ++ vs).toArray w R) {K : Act → World → Prop} {Q : Exit → Act → World → Prop}
    (hK : ∀ e w', R e w' → ∃ v, e = .returned v ∧ K (a.put o.dst v) w') : o.wp P a w K Q := by
  obtain ⟨fn, h1, h2, h3⟩ := hcall
  unfold Oper.wp execOp
  rw [ho]
  simp only [resolve, hf, Deferred.ofValue, invoke, callFunc, Sem.run_bind, Sem.run_pure, Result.andThen_ok, run_program, h1, h2, h3, Bool.false_eq_true, if_false]
  rw [Oper.upon_enter]
  have e : #[] ++ Array.map a.eval args ++ vs.toArray = (args.toList.map a.eval ++ vs).toArray := by
    apply Array.ext'; simp
  rw [e]
  refine h.mono fun e w' hr => ?_
  obtain ⟨v, rfl, hk⟩ := hK e w' hr
  exact hk

theorem owed_callB (hC : CfgOk P C B w0) (hm : Mem P B w0 S0 c) {lk : Operand → D} (hlk : ∀ x, RV P c (lk x) (a.eval x)) {f : Operand} {args : Array Operand} {ts : Array TypeId} {nxt : Nat} (ho : o.op = .call { callee := .value f, args, argTypes := ts }) {r : Res} {gg : FuncId} {caps : List D} (hl : lk f = .fn gg caps)
    {bc : BCon} (hbc : assoc C.bcons gg = some bc) (h : callB bc c.own nxt (args.toList.map lk ++ caps) = some r) (hs : ∀ p ∈ r.side, p) : Owed P B w0 S0 c a o r := by
  have hf := hlk f
  rw [hl] at hf
  obtain ⟨vs, hfv, hcaps⟩ := hf
  obtain ⟨hcall, hval⟩ := hC.bcons gg bc hbc
  have hargs := (RVs.of_map hlk args.toList).append hcaps
  unfold callB at h
  split at h
  · rename_i dl hdl
    split at h
    · rename_i hfit
      rw [Bool.and_eq_true] at hfit
      split at h
      · rename_i x hx
        split at h
        · rename_i y hy
          obtain rfl := Option.some.inj h
          have hsplit : args.toList.map lk ++ caps = (args.toList.map lk ++ caps).dropLast ++ [dl] := by
            obtain ⟨l, e⟩ := List.getLast?_eq_some_iff.1 hdl
            rw [e, List.dropLast_concat]
          have hargs2 := hargs
          rw [hsplit] at hargs2
          obtain ⟨v1, v2, ev, q1, q2⟩ := hargs2.split
          obtain ⟨k1, k2, k3⟩ := fits_ok bc.a hm.one hfit.1 q1
          obtain ⟨l1, l2, l3⟩ := fits_ok (.cons (.sl bc.t) .unit) hm.one hfit.2 q2
          have hx' : RdC P bc.a c.S c.w x (v1.flatMap fun v => v.cells.toList) := by
            unfold argsOf at hx
            split at hx
            · rename_i z hz
              cases hx
              obtain ⟨c1, c2, e, r1, r2⟩ := gather_ok (Vis.stay hm) bc.a hz k1
              obtain rfl : c2 = [] := r2
              rw [List.append_nil] at e
              rw [e]; exact r1
            · cases hx
          have hy' : RdC P (.cons (.sl bc.t) .unit) (fun b => b < c.w.heap.size) c.w y (v2.flatMap fun v => v.cells.toList) := by
            unfold argsOf at hy
            split at hy
            · rename_i z hz
              cases hy
              obtain ⟨c1, c2, e, r1, r2⟩ := gather_ok (Vis.shown hm) (.cons (.sl bc.t) .unit) hz l1
              obtain rfl : c2 = [] := r2
              rw [List.append_nil] at e
              rw [e]; exact r1
            · cases hy
          obtain ⟨d1, d2, ed, hd1, hd2⟩ := hy'
          obtain rfl : d2 = [] := hd2
          have hone : ∃ u, d1 = [u] := by obtain ⟨_, _, e, _⟩ := hd1; exact ⟨_, e⟩
          obtain ⟨u, rfl⟩ := hone
          have ev2 : v2 = [u] := by
            rw [ed] at l3
            rw [← l3]
            rfl
          intro K Q hK
          refine wp_call ho hfv hcall (R := fun e w' => Below c.w.heap.size c.w w' ∧ ∃ rs, e = .returned (retV bc.r rs) ∧ RdC P bc.r (fun b => c.S b ∨ c.w.heap.size ≤ b ∧ b < w'.heap.size) w' (bc.F x y.1) rs) ?_ fun e w' hr => ?_
          · have := hval c.w hm.below c.S x _ y.1 u hm.bound hx' hd1 (hs _ (List.mem_singleton.2 rfl))
            rw [k3, ← ev2, ← ev] at this
            exact this
          · obtain ⟨hb, rs, rfl, hrd⟩ := hr
            obtain ⟨hm', hg'⟩ := hm.grow hb (fun b => c.w.heap.size ≤ b ∧ b < w'.heap.size) (fun b hb => hb)
            exact ⟨_, rfl, hK _ _ hm' hg' (Fr.grow hb _ fun b hb => hb.1) rfl (ret_ok (res_ok bc.r hrd)) (fun p hp => by cases hp)⟩
        · cases h
      · cases h
    · cases h
  · cases h

theorem owed_callQ (hC : CfgOk P C B w0) (hm : Mem P B w0 S0 c) {lk : Operand → D} (hlk : ∀ x, RV P c (lk x) (a.eval x)) {f : Operand} {args : Array Operand} {ts : Array TypeId} {nxt : Nat} (ho : o.op = .call { callee := .value f, args, argTypes := ts })
    {gg : FuncId} {caps : List D} (hl : lk f = .fn gg caps) {q : QCon} (hq : assoc C.qcons gg = some q) (hnil : args.toList.map lk ++ caps = []) (hgone : lookO c.own nxt = .gone) : Owed P B w0 S0 c a o ⟨[], [], .own nxt, (nxt, .map q.T q.kt q.vt q.n q.f) :: c.own, nxt + 1⟩ := by
  obtain ⟨hcall, hval⟩ := hC.qcons gg q hq
  have hf := hlk f
  rw [hl] at hf
  obtain ⟨vs, hfv, hcaps⟩ := hf
  obtain ⟨h1, rfl⟩ := List.append_eq_nil_iff.1 hnil
  obtain rfl : vs = [] := hcaps
  have ha : args.toList.map a.eval = [] := by rw [List.map_eq_nil_iff] at h1 ⊢; exact h1
  intro K Q hK
  refine wp_call ho hfv hcall (R := fun e w' => Below c.w.heap.size c.w w' ∧ ∃ b D k t, e = .returned (.map (some b)) ∧ c.w.heap.size ≤ b ∧ b < w'.heap.size ∧ P.underlying q.T = some (.map k t) ∧ w'.ownsMap P k heldElem b q.n D ∧ MapIs P (fun _ => False) w' q.kt q.vt D q.f) ?_ fun e w' hr => ?_
  · rw [ha]; exact hval c.w hm.below
  · obtain ⟨hb, b, D, k, t, rfl, hlo, hhi, hu, hown, hmi⟩ := hr
    obtain ⟨hm', hg'⟩ := hm.grow hb (fun _ => False) (fun b h => h.elim)
    have ht : Turns (lookO c.own nxt) (.map q.T q.kt q.vt q.n q.f) (c.ρ nxt) (.map (some b)) := by rw [hgone]; trivial
    have hg2 := Goes.add (c := { c with S := fun b => c.S b ∨ False, w := w' }) (o := nxt) (b := .map q.T q.kt q.vt q.n q.f) (v := .map (some b)) ht
    refine ⟨_, rfl, hK (.map (some b)) _ (hm'.add (o := nxt) (b := .map q.T q.kt q.vt q.n q.f) (v := .map (some b)) ht rfl ?_ ?_) (hg'.trans hg2) ((Fr.grow hb _ fun b h => h.elim).add fun g hg => .inl ?_) (by simp [Cx.add]) ?_ (fun p hp => by cases hp)⟩
    · unfold BlkOk
      rw [lookO_add, if_pos rfl]
      refine ⟨b, D, k, t, by simp [Cx.add], hu, hown, fun x l hl => ?_, Nat.le_trans hm.base hlo, fun hs => ?_⟩
      · obtain ⟨g1, g2⟩ := hmi x l hl
        refine ⟨g1, fun y hy => ?_⟩
        obtain ⟨cs, g3, g4⟩ := g2 y hy
        exact ⟨cs, g3.mono fun b h => h.elim, g4⟩
      · rcases hs with hs | hs
        · have := hm.bound b hs; omega
        · exact hs.elim
    · intro j g hj hg hj'
      simp [blkOf] at hg
      subst hg
      have := hm.blk_lt j _ hj'
      omega
    · simp [blkOf] at hg
      omega
    · simp only [RV, lookO_add, if_true]
      simp [Cx.add]

theorem owed_call (hC : CfgOk P C B w0) (hm : Mem P B w0 S0 c) {lk : Operand → D} (hlk : ∀ x, RV P c (lk x) (a.eval x)) {f : Operand} {args : Array Operand} {ts : Array TypeId} {nxt : Nat} (ho : o.op = .call { callee := .value f, args, argTypes := ts }) {g : Bool} {r : Res}
    (h : stepF C lk c.own nxt o g = some r) (hs : ∀ p ∈ r.side, p) (hfr : r.nxt = nxt ∨ lookO c.own nxt = .gone) : Owed P B w0 S0 c a o r := by
  have hf := hlk f
  unfold stepF at h
  rw [ho] at h
  simp only at h
  split at h
  · rename_i gg caps hl
    split at h
    · rename_i con hcon
      obtain ⟨hcall, hval⟩ := hC.cons gg con hcon
      rw [hl] at hf
      obtain ⟨vs, hfv, hcaps⟩ := hf
      have hargs := (RVs.of_map hlk args.toList).append hcaps
      unfold callCon at h
      split at h
      · rename_i hfit
        obtain ⟨k1, k2, k3⟩ := fits_ok con.a hm.one hfit hargs
        generalize hcs : ((args.toList.map a.eval ++ vs).flatMap fun v => v.cells.toList) = cs at k1 k2 k3
        -- the call, by the contract, where T stays
        have use : ∀ {T : Nat → Prop} {x : con.a.El} {R : Ending → World → Prop}, (∀ b, T b → b < c.w.heap.size) → RdC P con.a T c.w x cs → con.pre x →
            ∀ {K : Act → World → Prop} {Q : Exit → Act → World → Prop}, (∀ (e : Ending) (w' : World), (Below c.w.heap.size c.w w' ∧ match con.fresh with
              | none => ∃ rs, e = .returned (retV con.r rs) ∧ RdC P con.r (fun b => T b ∨ c.w.heap.size ≤ b ∧ b < w'.heap.size) w' (con.F x) rs ∧ (con.clip = true → ∃ base n, retV con.r rs = .slice base n n)
              | some et => match (⟨con.r, con.F x⟩ : Σ r : Ty, r.El) with
                | ⟨.cons (.sl t) .unit, y⟩ => ∃ v cs, e = .returned v ∧ v.oneCell' = true ∧ 0 < t.size ∧ w'.ownsRow c.w.heap.size et t.size v (List.length y.1) cs ∧
                    RdL P t (fun b => T b ∨ c.w.heap.size ≤ b ∧ b < w'.heap.size ∧ v.ownBlock ≠ some b) w' y.1 cs
                | _ => False) → ∃ v, e = .returned v ∧ K (a.put o.dst v) w') → o.wp P a c.w K Q := by
          intro T x R hT hx hp K Q hK
          refine wp_call ho hfv hcall ?_ hK
          have := hval c.w hm.below T x cs hT hx hp
          rw [k3] at this
          exact this
        have gat : ∀ {own : Own} {T : Nat → Prop} {x : con.a.El} {c1 : Cx}, Vis P own c1 T → c1.w = c.w → Goes c c1 → argsOf own con.a (args.toList.map lk ++ caps) = some x → RdC P con.a T c.w x cs := by
          intro own T x c1 hv hw hg hx
          unfold argsOf at hx
          split at hx
          · rename_i y hy
            cases hx
            obtain ⟨c1', c2', e, h1, h2⟩ := gather_ok hv con.a hy (RVs.goes hg hm.one k1)
            obtain rfl : c2' = [] := h2
            rw [List.append_nil] at e
            rw [e, ← hw]
            exact h1
          · cases hx
        split at h
        · -- nothing lies behind the result
          rename_i hflat
          split at h
          · rename_i hfresh
            split at h
            · rename_i x hx
              obtain rfl := Option.some.inj h
              intro K Q hK
              refine use (T := fun b => b < c.w.heap.size) (x := x) (R := fun _ _ => True) (fun b hb => hb) (gat (Vis.shown hm) rfl (Goes.refl c) hx) (hs _ (List.mem_singleton.2 rfl)) fun e w' hr => ?_
              rw [hfresh] at hr
              obtain ⟨hb, rs, rfl, hrd, hclip⟩ := hr
              obtain ⟨hm', hg'⟩ := hm.grow hb (fun b => c.w.heap.size ≤ b ∧ b < w'.heap.size) (fun b hb => hb)
              exact ⟨_, rfl, hK _ _ hm' hg' (Fr.grow hb _ fun b hb => hb.1) rfl (resC_ok (hrd.flat hflat) hclip) (fun p hp => by cases hp)⟩
            · cases h
          · cases h
        · split at h
          · rename_i hfresh
            split at h
            · rename_i x hx
              obtain rfl := Option.some.inj h
              intro K Q hK
              refine use (T := c.S) (x := x) (R := fun _ _ => True) hm.bound (gat (Vis.stay hm) rfl (Goes.refl c) hx) (hs _ (List.mem_singleton.2 rfl)) fun e w' hr => ?_
              rw [hfresh] at hr
              obtain ⟨hb, rs, rfl, hrd, hclip⟩ := hr
              obtain ⟨hm', hg'⟩ := hm.grow hb (fun b => c.w.heap.size ≤ b ∧ b < w'.heap.size) (fun b hb => hb)
              exact ⟨_, rfl, hK _ _ hm' hg' (Fr.grow hb _ fun b hb => hb.1) rfl (resC_ok hrd hclip) (fun p hp => by cases hp)⟩
            · cases h
          · cases h
        · split at h
          · rename_i x hx
            obtain ⟨c1, e1, e2, e3, hm1, hg1, hf1⟩ := hm.freeze (flats (args.toList.map lk ++ caps))
            have hx' := gat (Vis.stay hm1) e2 hg1 (by rw [e1]; exact hx)
            have hb1 : ∀ b, c1.S b → b < c.w.heap.size := fun b hb => by rw [← e2]; exact hm1.bound b hb
            split at h
            · rename_i hfresh
              obtain rfl := Option.some.inj h
              intro K Q hK
              refine use (T := c1.S) (x := x) (R := fun _ _ => True) hb1 hx' (hs _ (List.mem_singleton.2 rfl)) fun e w' hr => ?_
              rw [hfresh] at hr
              obtain ⟨hb, rs, rfl, hrd, hclip⟩ := hr
              rw [← e2] at hb hrd
              obtain ⟨hm', hg'⟩ := hm1.grow hb (fun b => c1.w.heap.size ≤ b ∧ b < w'.heap.size) (fun b hb => hb)
              exact ⟨_, rfl, hK _ _ hm' (hg1.trans hg') (hf1.trans (Fr.grow hb _ fun b hb => hb.1)) e1 (resC_ok hrd hclip) (fun p hp => by cases hp)⟩
            · rename_i et hfresh
              split at h
              · rename_i t y hy
                obtain rfl := Option.some.inj h
                have hgone : lookO c.own nxt = .gone := hfr.resolve_left (by simp)
                intro K Q hK
                refine use (T := c1.S) (x := x) (R := fun _ _ => True) hb1 hx' (hs _ (List.mem_singleton.2 rfl)) fun e w' hr => ?_
                rw [hfresh] at hr
                simp only at hr
                rw [hy] at hr
                obtain ⟨hb, v, rcs, rfl, hv1, hz, hown, hrl⟩ := hr
                rw [← e2] at hb hrl hown
                obtain ⟨hm', hg'⟩ := hm1.grow hb (fun b => c1.w.heap.size ≤ b ∧ b < w'.heap.size ∧ v.ownBlock ≠ some b) (fun b hb => ⟨hb.1, hb.2.1⟩)
                have hgone' : lookO c1.own nxt = .gone := by rw [e1]; exact freeze_gone _ hgone
                have ht : Turns (lookO c1.own nxt) (.row et t y.1) (c1.ρ nxt) v := by rw [hgone']; trivial
                have hg2 := Goes.add (c := { c1 with S := fun b => c1.S b ∨ c1.w.heap.size ≤ b ∧ b < w'.heap.size ∧ v.ownBlock ≠ some b, w := w' }) (o := nxt) (b := .row et t y.1) (v := v) ht
                refine ⟨_, rfl, hK v _ (hm'.add ht hv1 ?_ ?_) ((hg1.trans hg').trans hg2) ((hf1.trans (Fr.grow hb _ fun b hb => hb.1)).add fun g hg => .inl (by rw [← e2]; exact (hown.lt g (ownBlock_blkOf.1 hg)).1)) (by simp [Cx.add, e1]) ?_ (fun p hp => by cases hp)⟩
                · unfold BlkOk
                  rw [lookO_add, if_pos rfl]
                  refine ⟨hz, rcs, ?_, hrl, ?_⟩
                  · simp only [Cx.add, if_true]
                    refine ⟨hown.1, ?_⟩
                    rcases hown.2 with h | ⟨gq, cap, cur, hv, hg, r⟩
                    · exact .inl h
                    · exact .inr ⟨gq, cap, cur, hv, Nat.le_trans hm1.base hg, r⟩
                  · intro b hb' hsb
                    simp only [Cx.add, if_true] at hb' hsb
                    rcases hsb with hsb | hsb
                    · have := (hown.lt b hb').1
                      have := hm1.bound b hsb
                      omega
                    · exact hsb.2.2 hb'
                · intro j gq hj hgq hj'
                  have h5 := (hown.lt gq (ownBlock_blkOf.1 hgq)).1
                  have h6 := hm1.blk_lt j gq hj'
                  omega
                · have := RV.at_row (P := P) (c := Cx.add { c1 with S := fun b => c1.S b ∨ c1.w.heap.size ≤ b ∧ b < w'.heap.size ∧ v.ownBlock ≠ some b, w := w' } nxt (.row et t y.1) v) (k := nxt) (e := et) (t := t) (xs := y.1) (by rw [lookO_add, if_pos rfl])
                  simpa [Cx.add] using this
              · cases h
          · cases h
      · cases h
    · split at h
      · rename_i bc hbc
        exact owed_callB hC hm hlk ho hl hbc h hs
      · split at h
        · rename_i q hq
          split at h
          · rename_i hnil
            obtain rfl := Option.some.inj h
            exact owed_callQ hC hm hlk ho hl hq hnil (hfr.resolve_left (by simp))
          · cases h
        · cases h
  · cases h

end
end Go.Eng
namespace Go.Eng
open Go.RowKit

variable {P : Program} {C : Cfg} {B : Nat} {w0 : World}

theorem sl_cells {t : Ty} {S : Nat → Prop} {w : World} {b : Nat} : ∀ {xs : List t.El} {off : Nat}, (∀ i x, xs[i]? = some x → ∃ es, RdC P t S w x es ∧ Lies w b (off + i * t.size) es) → ∃ news, RdL P t S w xs news ∧ Lies w b off news
  | [], off, _ => ⟨[], rfl, fun j v hj => by simp at hj⟩
  | x :: r, off, h => by
    obtain ⟨es, h1, h2⟩ := h 0 x rfl
    obtain ⟨news, h3, h4⟩ := sl_cells (xs := r) (off := off + t.size) (fun i y hi => by
      obtain ⟨es, h1, h2⟩ := h (i + 1) y (by simpa using hi)
      exact ⟨es, h1, by rwa [show off + t.size + i * t.size = off + (i + 1) * t.size by rw [Nat.succ_mul]; omega]⟩)
    refine ⟨es ++ news, ⟨es, news, rfl, h1, h3⟩, fun j v hj => ?_⟩
    rw [Nat.zero_mul, Nat.add_zero] at h2
    by_cases hlt : j < es.length
    · rw [List.getElem?_append_left hlt] at hj
      exact h2 j v hj
    · rw [List.getElem?_append_right (by omega)] at hj
      have := h4 _ v hj
      rwa [h1.length, show off + t.size + (j - t.size) = off + j by have := h1.length; omega] at this

theorem slice_reads {t : Ty} {S : Nat → Prop} {w : World} {xs : List t.El} {a : Option Addr} {n cap : Nat} (h : RdC P (.sl t) S w xs [.slice a n cap]) {l hh m : Nat} (h1 : l ≤ hh) (h2 : hh ≤ xs.length) (h3 : hh ≤ m) (h4 : m ≤ cap) :
    RdC P (.sl t) S w ((xs.take hh).drop l) [.slice (if m = l then a else a.map (·.add (l * t.size))) (hh - l) (m - l)] := by
  obtain ⟨base, cap', e, h5, h6, h7⟩ := h
  simp only [List.cons.injEq, Value.slice.injEq, and_true] at e
  obtain ⟨rfl, rfl, rfl⟩ := e
  have hlen : List.length ((xs.take hh).drop l) = hh - l := by simp only [List.length_drop, List.length_take]; omega
  refine ⟨_, m - l, by rw [hlen], by rw [hlen]; omega, by omega, fun hne => ?_⟩
  have hlt : l < hh := by
    rcases Nat.lt_or_ge l hh with h | h
    · exact h
    · exfalso; apply hne; apply List.length_eq_zero_iff.1; omega
  have hne' : xs ≠ [] := by intro e; rw [e] at h2; simp at h2; omega
  obtain ⟨b, off, rfl, hS, hel⟩ := h7 hne'
  refine ⟨b, off + l * t.size, ?_, hS, fun i x hi => ?_⟩
  · rw [if_neg (by omega)]
    simp only [Option.map_some]
    rw [add_none]
  · rw [List.getElem?_drop, List.getElem?_take] at hi
    split at hi
    · obtain ⟨es, h8, h9⟩ := hel (l + i) x hi
      exact ⟨es, h8, by rwa [show off + l * t.size + i * t.size = off + (l + i) * t.size by rw [Nat.add_mul]; omega]⟩
    · cases hi

theorem run_sliceBounds {w : World} {len cap : Nat} {lo hi mx : Option Value} {l h m : Nat} (hl : lo = none ∧ l = 0 ∨ ∃ k, lo = some (.int k l)) (hh : hi = none ∧ h = len ∨ ∃ k, hi = some (.int k h))
    (hm : mx = none ∧ m = cap ∨ ∃ k, mx = some (.int k m) ∧ hi ≠ none) (h1 : l ≤ h) (h2 : h ≤ m) (h3 : m ≤ cap) : (Instr.sliceBounds true len cap lo hi mx).run P w = .ok (l, h, m) w := by
  have b : ∀ (k : IntKind) (i y : Nat) (code : BoundsCode), i ≤ y → (Instr.sliceBound (.int k i) y code).run P w = .ok i w := by
    intro k i y code hi
    have := run_sliceBound (P := P) w k (i : Int) y code (by omega) (by omega)
    simpa using this
  unfold Instr.sliceBounds
  rcases hm with ⟨rfl, rfl⟩ | ⟨km, rfl, hne⟩
  · rcases hh with ⟨rfl, rfl⟩ | ⟨kh, rfl⟩
    · rcases hl with ⟨rfl, rfl⟩ | ⟨kl, rfl⟩
      · simp
      · simp [b kl _ _ _ h1]
    · rcases hl with ⟨rfl, rfl⟩ | ⟨kl, rfl⟩
      · simp [b kh _ _ _ h2]
      · simp [b kh _ _ _ h2, b kl _ _ _ h1]
  · rcases hh with ⟨rfl, rfl⟩ | ⟨kh, rfl⟩
    · exact absurd rfl hne
    · rcases hl with ⟨rfl, rfl⟩ | ⟨kl, rfl⟩
      · simp [b km _ _ _ h3, b kh _ _ _ h2]
      · simp [b km _ _ _ h3, b kh _ _ _ h2, b kl _ _ _ h1]

section
variable {B : Nat} {w0 : World} {S0 : Nat → Prop} {c : Cx} {a : Act} {o : Oper}

theorem slOf_frozen (hm : Mem P B w0 S0 c) {d : D} {v : Value} {t : Ty} {xs : List t.El} (hr : RV P c d v) (h : slOf c.own d = some ⟨t, xs⟩) (hd : ∀ k e t' xs', d = .own k → lookO c.own k ≠ .row e t' xs') : RdC P (.sl t) c.S c.w xs [v] := by
  unfold slOf at h
  split at h
  · cases h; exact hr.leaf rfl
  · cases h; obtain ⟨base, rfl, h2⟩ := hr; exact h2
  · rename_i k
    split at h
    · rename_i e t' xs' hk; exact absurd hk (hd k e t' xs' rfl)
    · rename_i t' xs' hk
      cases h
      have hb := hm.ok k
      unfold BlkOk at hb
      simp only [hk] at hb
      simp only [RV, hk] at hr
      rw [hr]; exact hb
    · cases h
  · cases h

theorem bound_ok {lk : Operand → D} (hlk : ∀ x, RV P c (lk x) (a.eval x)) {x : Option Operand} {dflt n : Int} (h : boundD (x.map lk) dflt = some n) (h0 : 0 ≤ n) :
    x.map a.eval = none ∧ n = dflt ∨ ∃ k, x.map a.eval = some (.int k n.toNat) := by
  unfold boundD at h
  cases x with
  | none => simp at h; exact .inl ⟨rfl, h.symm⟩
  | some x =>
    simp only [Option.map_some] at h ⊢
    split at h
    · rename_i k n' hi
      simp only [Option.some.injEq] at h
      subst h
      unfold intD at hi
      split at hi
      · rename_i k2 n2 hl
        simp only [Option.some.injEq, Prod.mk.injEq] at hi
        obtain ⟨rfl, rfl⟩ := hi
        have := hlk x
        rw [hl] at this
        exact .inr ⟨k2, by rw [this.int.1, Int.toNat_of_nonneg h0]⟩
      · cases hi
    · cases h

theorem int_ok {c : Cx} {d : D} {v : Value} {k : IntKind} {n : Int} (h : RV P c d v) (hi : intD d = some (k, n)) : v = .int k n := by
  unfold intD at hi
  split at hi
  · simp only [Option.some.injEq, Prod.mk.injEq] at hi
    obtain ⟨rfl, rfl⟩ := hi
    exact h.int.1
  · cases hi

theorem slice_run (hC : CfgOk P C B w0) {T e : TypeId} {x : Operand} {lo hi mx : Option Operand} (ho : o.op = .slice T x lo hi mx) {w : World} {base : Option Addr} {n cap l h m : Nat} (hv : a.eval x = .slice base n cap) (hu : P.underlying T = some (.slice e)) (hz : sizeT C e ≠ 0)
    (hl : lo.map a.eval = none ∧ l = 0 ∨ ∃ k, lo.map a.eval = some (.int k l)) (hh : hi.map a.eval = none ∧ h = n ∨ ∃ k, hi.map a.eval = some (.int k h))
    (hm : mx.map a.eval = none ∧ m = cap ∨ ∃ k, mx.map a.eval = some (.int k m) ∧ hi.map a.eval ≠ none) (h1 : l ≤ h) (h2 : h ≤ m) (h3 : m ≤ cap) :
    (execOp a.eval o).run P w = .ok (.value (.slice (if m = l then base else base.map (·.add (l * sizeT C e))) (h - l) (m - l))) w := by
  unfold execOp
  rw [ho]
  simp only [Instr.sliceAt, Instr.slice, underlying, hv, Sem.run_bind, run_program, Sem.run_pure, Result.andThen_ok, hu]
  rw [run_sliceBounds hl hh hm h1 h2 h3]
  simp only [Result.andThen_ok, run_sizeOf' hC hz]

theorem owed_slice_core (hC : CfgOk P C B w0) (_hm : Mem P B w0 S0 c) {lk : Operand → D} (hlk : ∀ x, RV P c (lk x) (a.eval x)) {T e : TypeId} {x : Operand} {lo hi mx : Option Operand} {nxt : Nat} (ho : o.op = .slice T x lo hi mx)
    {c1 : Cx} (hm1 : Mem P B w0 S0 c1) (hg1 : Goes c c1) (hf1 : Fr c c1) (hw : c1.w = c.w) (hu : P.underlying T = some (.slice e)) (hz : sizeT C e ≠ 0) {t : Ty} (hsz : t.size = sizeT C e) {xs : List t.El} (hrd : RdC P (.sl t) c1.S c1.w xs [a.eval x])
    {d : D} (hso : slOf c1.own d = some ⟨t, xs⟩) {s : List Cnd} {d' : D} (hsd : sliceD d c1.own (lo.map lk) (hi.map lk) (mx.map lk) = some (s, d')) (hs : ∀ p ∈ s, p) : Owed P B w0 S0 c a o ⟨s, [], d', c1.own, nxt⟩ := by
  obtain ⟨base, cap, hv, h5, h6, h7⟩ := id hrd
  have hv' : a.eval x = .slice base xs.length cap := (List.cons.inj hv).1
  unfold sliceD at hsd
  rw [hso] at hsd
  simp only at hsd
  split at hsd
  · rename_i l hh hl hhi
    have fin : ∀ {m : Nat} {d' : D} {s : List Cnd}, 0 ≤ l → l ≤ hh → hh ≤ (xs.length : Int) → hh.toNat ≤ m → m ≤ cap → (mx.map a.eval = none ∧ m = cap ∨ ∃ k, mx.map a.eval = some (.int k m) ∧ hi.map a.eval ≠ none) →
        (∀ v, v = .slice (if m = l.toNat then base else base.map (·.add (l.toNat * t.size))) (hh.toNat - l.toNat) (m - l.toNat) → RdC P (.sl t) c1.S c1.w ((xs.take hh.toNat).drop l.toNat) [v] → RV P c1 d' v) → Owed P B w0 S0 c a o ⟨s, [], d', c1.own, nxt⟩ := by
      intro m d' s h0 h1 h2 h3 h4 hmx hd
      have hrs := slice_reads (h := (by rw [← hv']; exact hrd : RdC P (.sl t) c1.S c1.w xs [.slice base xs.length cap])) (l := l.toNat) (hh := hh.toNat) (m := m) (by omega) (by omega) h3 h4
      have hlo := bound_ok hlk hl h0
      have hhi' := bound_ok hlk hhi (by omega)
      have hrun := slice_run (P := P) (w := c.w) hC ho (l := l.toNat) (h := hh.toNat) (m := m) hv' hu hz
        (by rcases hlo with ⟨e1, e2⟩ | e; exact .inl ⟨e1, by omega⟩; exact .inr e) (by rcases hhi' with ⟨e1, e2⟩ | e; exact .inl ⟨e1, by omega⟩; exact .inr e) hmx (by omega) h3 h4
      rw [← hsz] at hrun
      intro K Q hK
      unfold Oper.wp
      rw [hrun, Oper.upon_value]
      have := hK _ c1 hm1 hg1 hf1 rfl (hd _ rfl hrs) (fun p hp => by cases hp)
      rw [hw] at this
      exact this
    cases mx with
    | none =>
      simp only [Option.map_none, Option.some.injEq, Prod.mk.injEq] at hsd
      obtain ⟨rfl, rfl⟩ := hsd
      have h0 : 0 ≤ l := hs _ (List.mem_cons_self)
      have h1 : l ≤ hh := hs _ (List.mem_cons_of_mem _ List.mem_cons_self)
      have h2 : hh ≤ (xs.length : Int) := hs _ (List.mem_cons_of_mem _ (List.mem_cons_of_mem _ List.mem_cons_self))
      exact fin (m := cap) h0 h1 h2 (by omega) (Nat.le_refl _) (.inl ⟨rfl, rfl⟩) fun v hv hrv => ⟨[v], hrv, by simp [vOf, Ty.isAgg]⟩
    | some y =>
      cases hi with
      | none => simp at hsd
      | some z =>
        simp only [Option.map_some] at hsd
        split at hsd
        · rename_i x1 x2 dh km m' e1 hm2
          simp only [Option.some.injEq, Prod.mk.injEq] at hsd
          obtain ⟨rfl, rfl⟩ := hsd
          have h0 : 0 ≤ l := hs _ (List.mem_cons_self)
          have h1 : l ≤ hh := hs _ (List.mem_cons_of_mem _ List.mem_cons_self)
          have h2 : hh ≤ (xs.length : Int) := hs _ (List.mem_cons_of_mem _ (List.mem_cons_of_mem _ List.mem_cons_self))
          have h3 : m' = hh := hs _ (List.mem_cons_of_mem _ (List.mem_cons_of_mem _ (List.mem_cons_of_mem _ List.mem_cons_self)))
          subst h3
          have hy := int_ok (hlk y) hm2
          refine fin (m := m'.toNat) h0 h1 h2 (Nat.le_refl _) (by omega) (.inr ⟨km, ?_, ?_⟩) fun v hv hrv => ?_
          · rw [Option.map_some, hy, Int.toNat_of_nonneg (by omega)]
          · rw [Option.map_some]; exact fun e => by cases e
          · have hlen : List.length ((xs.take m'.toNat).drop l.toNat) = m'.toNat - l.toNat := by simp only [List.length_drop, List.length_take]; omega
            exact ⟨_, by rw [hv, hlen], hrv⟩
        · cases hsd
  · cases hsd

theorem strSlice_run {T : TypeId} {x : Operand} {lo hi : Option Operand} (ho : o.op = .slice T x lo hi none) {w : World} {s : ByteArray} {l h : Nat} (hv : a.eval x = .string s) (hu : P.underlying T = some .string)
    (hl : lo.map a.eval = none ∧ l = 0 ∨ ∃ k, lo.map a.eval = some (.int k l)) (hh : hi.map a.eval = none ∧ h = s.size ∨ ∃ k, hi.map a.eval = some (.int k h)) (h1 : l ≤ h) (h2 : h ≤ s.size) :
    (execOp a.eval o).run P w = .ok (.value (.string (s.extract l h))) w := by
  unfold execOp
  rw [ho]
  simp only [Instr.sliceAt, Instr.slice, underlying, hv, Sem.run_bind, run_program, Sem.run_pure, Result.andThen_ok, hu, Option.map_none, Option.isSome_none, Bool.false_eq_true, if_false]
  have : (Instr.sliceBounds false s.size s.size (lo.map a.eval) (hi.map a.eval) none).run P w = .ok (l, h, s.size) w := by
    rcases hl with ⟨e1, rfl⟩ | ⟨k, e1⟩ <;> rcases hh with ⟨e2, rfl⟩ | ⟨k', e2⟩ <;> simp [Instr.sliceBounds, Instr.sliceBound, asIntOf, e1, e2, h1, h2]
  rw [this]
  simp

theorem arrSlice_run {T e : TypeId} {len sz : Nat} {x : Operand} {lo hi : Option Operand} (ho : o.op = .slice T x lo hi none) {w : World} {b m : Nat} {l h : Int} (hv : a.eval x = .pointer (some ⟨b, m, none⟩)) (hu : P.underlying T = some (.array len e))
    (hz : ∀ w, (sizeOf e).run P w = .ok sz w) (hs : sz = 1)
    (hl : lo.map a.eval = none ∧ l.toNat = 0 ∨ ∃ k, lo.map a.eval = some (.int k l.toNat)) (hh : hi.map a.eval = none ∧ h.toNat = len ∨ ∃ k, hi.map a.eval = some (.int k h.toNat)) (h0 : 0 ≤ l) (h1 : l ≤ h) (h2 : h ≤ (len : Int)) :
    (execOp a.eval o).run P w = .ok (.value (arxV b m len l.toNat h.toNat false)) w := by
  have e1 : P.arrayLen T = len := by simp [Program.arrayLen, hu]
  have e2 : P.elem T = e := by simp [Program.elem, hu]
  have ht : P.underlying T = some (.array (P.arrayLen T) (P.elem T)) := by rw [e1, e2]; exact hu
  have fin : slicedAt ⟨b, m, none⟩ l.toNat h.toNat len 1 = arxV b m len l.toNat h.toNat false := by
    simp only [slicedAt, arxV, Nat.mul_one]
    by_cases hc : len = l.toNat
    · rw [if_pos hc, if_pos hc.symm]
    · rw [if_neg hc, if_neg (fun e => hc e.symm), add_none]
  subst hs
  have eq : (Instr.sliceAt T (.pointer (some ⟨b, m, none⟩)) (lo.map a.eval) (hi.map a.eval) none).run P w = .ok (arxV b m len l.toNat h.toNat false) w := by
    rcases hl with ⟨k1, k2⟩ | ⟨k, k1⟩ <;> rcases hh with ⟨k3, k4⟩ | ⟨k', k3⟩
    · rw [k1, k3, run_sliceAt_array_all w T _ ht, e1, e2, hz, Result.andThen_ok, ← fin, k2, k4]
    · rw [k1, k3, run_sliceAt_array_h w T _ ht k' (h.toNat : Int) (by omega) (by rw [e1]; omega), e1, e2, hz, Result.andThen_ok, ← fin, k2]
      rfl
    · rw [k1, k3, run_sliceAt_array_l w T _ ht k (l.toNat : Int) (by omega) (by rw [e1]; omega), e1, e2, hz, Result.andThen_ok, ← fin, k4]
      rfl
    · rw [k1, k3, run_sliceAt_array_lh w T _ ht k k' (l.toNat : Int) (h.toNat : Int) (by omega) (by omega) (by rw [e1]; omega), e1, e2, hz, Result.andThen_ok, ← fin]
      rfl
  unfold execOp
  rw [ho]
  simp only [hv, Option.map_none, Sem.run_bind, eq, Result.andThen_ok, Sem.run_pure]

theorem owed_slice (hC : CfgOk P C B w0) (hm : Mem P B w0 S0 c) {lk : Operand → D} (hlk : ∀ x, RV P c (lk x) (a.eval x)) {T : TypeId} {x : Operand} {lo hi mx : Option Operand} {nxt : Nat} (ho : o.op = .slice T x lo hi mx) {g : Bool} {r : Res}
    (h : stepF C lk c.own nxt o g = some r) (hs : ∀ p ∈ r.side, p) : Owed P B w0 S0 c a o r := by
  have hx := hlk x
  unfold stepF at h
  rw [ho] at h
  simp only at h
  split at h
  · rename_i e hk
    obtain ⟨i, d, z, _, hu, _, _, _, _, hd⟩ := tabOk hC hk (by simp)
    have hu := (kind_sl hd) ▸ hu
    split at h
    · rename_i t xs0 hso
      split at h
      · rename_i hsz
        split at h
        · rename_i k hp
          split at h
          · cases h
          · unfold withS at h
            split at h
            · rename_i s d' hsd
              obtain rfl := Option.some.inj h
              obtain ⟨c1, e1, e2, e3, hm1, hg1, hf1⟩ := hm.freeze [.own k]
              rw [hp] at hso hx
              have hx1 := RV.goes hg1 hm.one hx
              have hf : lookO c1.own k = .frow t xs0 := by
                rw [e1]
                simp only [Go.Eng.freeze, Go.Eng.freeze1]
                unfold slOf at hso
                simp only at hso
                split at hso
                · rename_i e' t' xs' hk'
                  cases hso
                  simp [hk', lookO]
                · rename_i t' xs' hk'
                  cases hso
                  simp [hk']
                · cases hso
              have hrd : RdC P (.sl t) c1.S c1.w xs0 [a.eval x] := slOf_frozen hm1 hx1 (by simp [slOf, hf]) (fun k' e' t' xs' e'' hk' => by cases e''; rw [hf] at hk'; cases hk')
              rw [← e1] at hsd ⊢
              exact owed_slice_core hC hm hlk ho hm1 hg1 hf1 e2 hu hsz.2 hsz.1 hrd (by simp [slOf, hf]) hsd hs
            · cases h
        · rename_i hp
          unfold withS at h
          split at h
          · rename_i s d' hsd
            obtain rfl := Option.some.inj h
            have hrd : RdC P (.sl t) c.S c.w xs0 [a.eval x] := slOf_frozen hm hx hso (fun k' e' t' xs' e'' hk' => absurd e'' (hp k'))
            exact owed_slice_core hC hm hlk ho hm (Goes.refl c) (Fr.refl c) rfl hu hsz.2 hsz.1 hrd hso hsd hs
          · cases h
      · cases h
    · cases h
  · rename_i hk
    obtain ⟨i, d, z, _, hu, _, _, _, _, hd⟩ := tabOk hC hk (by simp)
    have hu := (kind_str hd) ▸ hu
    split at h
    · rename_i s hsx
      rw [hsx] at hx
      split at h
      · rename_i l hh hl hhi
        obtain rfl := Option.some.inj h
        have h0 : 0 ≤ l := hs _ (List.mem_cons_self)
        have h1 : l ≤ hh := hs _ (List.mem_cons_of_mem _ List.mem_cons_self)
        have h2 : hh ≤ (s.size : Int) := hs _ (List.mem_cons_of_mem _ (List.mem_cons_of_mem _ List.mem_cons_self))
        have hlo := bound_ok hlk hl h0
        have hhi' := bound_ok hlk hhi (by omega)
        refine owed_same hm (v := .string (s.extract l.toNat hh.toNat)) (strSlice_run ho hx.str.1 hu (by rcases hlo with ⟨e1, e2⟩ | e; exact .inl ⟨e1, by omega⟩; exact .inr e) (by rcases hhi' with ⟨e1, e2⟩ | e; exact .inl ⟨e1, by omega⟩; exact .inr e) (by omega) (by omega)) ⟨_, ⟨rfl, ?_⟩, rfl⟩
        have := hx.str.2
        simp only [subS, ByteArray.size_extract]
        omega
      · cases h
    · cases h
  · rename_i len e hk
    obtain ⟨i, d, z, _, hu, _, _, _, _, hd⟩ := tabOk hC hk (by simp)
    have hu := (kind_arr hd) ▸ hu
    split at h
    · rename_i hsz
      split at h
      · rename_i k off hp
        rw [hp] at hx
        split at h
        · rename_i l hh hl hhi
          obtain rfl := Option.some.inj h
          have h0 : 0 ≤ l := hs _ (List.mem_cons_self)
          have h1 : l ≤ hh := hs _ (List.mem_cons_of_mem _ List.mem_cons_self)
          have h2 : hh ≤ (len : Int) := hs _ (List.mem_cons_of_mem _ (List.mem_cons_of_mem _ List.mem_cons_self))
          have hlo := bound_ok hlk hl h0
          have hhi' := bound_ok hlk hhi (by omega)
          have run : ∀ {b m : Nat}, a.eval x = .pointer (some ⟨b, m, none⟩) → (execOp a.eval o).run P c.w = .ok (.value (arxV b m len l.toNat hh.toNat false)) c.w := fun hv =>
            arrSlice_run ho hv hu (run_sizeOf' hC (by rw [hsz]; decide)) hsz (by rcases hlo with ⟨e1, e2⟩ | e; exact .inl ⟨e1, by omega⟩; exact .inr e) (by rcases hhi' with ⟨e1, e2⟩ | e; exact .inl ⟨e1, by omega⟩; exact .inr e) h0 h1 h2
          simp only [RV] at hx
          cases hb : lookO c.own k <;> simp only [hb] at hx
          all_goals first
            | exact hx.elim
            | (obtain ⟨b, h3, h4⟩ := hx
               refine owed_same hm (run h4) ?_
               simp only [RV, hb]
               first
                 | exact ⟨by omega, by omega, fun e => (by cases e), b, h3, rfl⟩
                 | exact ⟨by omega, by omega, fun e => (by cases e), b, off, rfl⟩)
            | (obtain ⟨b, kk, h4⟩ := hx
               refine owed_same hm (run h4) ?_
               simp only [RV, hb]
               exact ⟨by omega, by omega, fun e => (by cases e), b, kk, rfl⟩)
        · cases h
      · rename_i k hp
        rw [hp] at hx
        split at h
        · cases h
        split at h
        · rename_i T' t xs hb
          split at h
          · rename_i hc
            obtain ⟨rfl, ht1⟩ := hc
            split at h
            · rename_i l hh hl hhi
              obtain rfl := Option.some.inj h
              have h0 : 0 ≤ l := hs _ (List.mem_cons_self)
              have h1 : l ≤ hh := hs _ (List.mem_cons_of_mem _ List.mem_cons_self)
              have h2 : hh ≤ (len : Int) := hs _ (List.mem_cons_of_mem _ (List.mem_cons_of_mem _ List.mem_cons_self))
              have h3 : List.length xs = len := hs (cn (List.length xs = len)) (by simp)
              have hlo := bound_ok hlk hl h0
              have hhi' := bound_ok hlk hhi (by omega)
              simp only [RV, hb] at hx
              obtain ⟨b, n, m, hρ, hv, _⟩ := hx
              have hv : a.eval x = .pointer (some ⟨b, 0, none⟩) := by rw [hv]; simp
              have run := arrSlice_run (w := c.w) ho hv hu (run_sizeOf' hC (by rw [hsz]; decide)) hsz (by rcases hlo with ⟨e1, e2⟩ | e; exact .inl ⟨e1, by omega⟩; exact .inr e) (by rcases hhi' with ⟨e1, e2⟩ | e; exact .inl ⟨e1, by omega⟩; exact .inr e) h0 h1 h2
              obtain ⟨c1, e1, e2, e3, hm1, hg1, hf1⟩ := hm.freeze [.own k]
              have hf : lookO c1.own k = .frow t xs := by
                rw [e1]
                simp [Go.Eng.freeze, Go.Eng.freeze1, hb, lookO]
              have hk := hm1.ok k
              unfold BlkOk at hk
              simp only [hf] at hk
              rw [e3, hρ] at hk
              obtain ⟨base0, cap0, q1, q2, q3, q4⟩ := id hk
              simp only [List.cons.injEq, and_true, Value.slice.injEq] at q1
              obtain ⟨rfl, q5, rfl⟩ := q1
              have hrs := slice_reads (h := (by rw [← q5]; exact hk : RdC P (.sl t) c1.S c1.w xs [.slice (some ⟨b, 0, none⟩) xs.length m])) (l := l.toNat) (hh := hh.toNat) (m := len) (by omega) (by omega) (by omega) (by omega)
              rw [ht1, Nat.mul_one] at hrs
              have ev : arxV b 0 len l.toNat hh.toNat false = vOf (.sl t) [.slice (if len = l.toNat then some ⟨b, 0, none⟩ else (some (⟨b, 0, none⟩ : Addr)).map (·.add l.toNat)) (hh.toNat - l.toNat) (len - l.toNat)] := by
                simp only [vOf, Ty.isAgg, arxV]
                by_cases hz : len = l.toNat
                · rw [if_pos hz, if_pos hz.symm]; rfl
                · rw [if_neg hz, if_neg (fun e => hz e.symm)]
                  simp [add_none]
              intro K Q hK
              unfold Oper.wp
              rw [run, Oper.upon_value]
              have := hK _ c1 hm1 hg1 hf1 e1 (show RV P c1 (.dat (.sl t) ((xs.take hh.toNat).drop l.toNat)) (arxV b 0 len l.toNat hh.toNat false) from ⟨_, hrs, ev⟩) (fun p hp => by cases hp)
              rw [e2] at this
              exact this
            · cases h
          · cases h
        · cases h
      · cases h
    · cases h
  · cases h

end
end Go.Eng
namespace Go.Eng
open Go.RowKit

variable {P : Program} {C : Cfg} {B : Nat} {w0 : World}

theorem run_append_zero {w : World} (t ty e : TypeId) (i : TypeInfo) (ht : P.underlying t = some (.slice e)) (hi : P.info? e = some i) (base b2 : Option Addr) (n cap c2 : Nat) (h : n ≤ cap) :
    (Builtin.append_ #[t, t] ty #[.slice base n cap, .slice b2 0 c2]).run P w = .ok (.slice base n cap) w := by
  cases b2 <;> cases base <;>
    simp [Builtin.append_, run_underlying ht, sizeOf, typeInfo, hi, Builtin.lenOf, Builtin.firstCells, h, storeCells, loadCells, loadCellsFrom]

section
variable {B : Nat} {w0 : World} {S0 : Nat → Prop} {c : Cx} {a : Act} {o : Oper}

theorem slOf_cells (hm : Mem P B w0 S0 c) {d : D} {v : Value} {t : Ty} {ys : List t.El} (hr : RV P c d v) (h : slOf c.own d = some ⟨t, ys⟩) :
    ∃ base cap, v = .slice base ys.length cap ∧ (ys ≠ [] → ∃ b off news, base = some ⟨b, off, none⟩ ∧ RdL P t c.S c.w ys news ∧ Lies c.w b off news) := by
  by_cases hrow : ∃ k e xs', d = .own k ∧ lookO c.own k = .row e t xs'
  · obtain ⟨k, e, xs', rfl, hk⟩ := hrow
    simp only [slOf, hk, Option.some.injEq, Sigma.mk.injEq, heq_eq_eq, true_and] at h
    subst h
    simp only [RV, hk] at hr
    have hb := hm.ok k
    unfold BlkOk at hb
    simp only [hk] at hb
    obtain ⟨hz, cs, h1, h2, _⟩ := hb
    rcases h1.2 with ⟨hv, hn⟩ | ⟨g, cap, cur, hv, hg, hh, hcap, hmax, hsz, htk⟩
    · exact ⟨none, 0, by rw [hr, hv, hn], fun hne => absurd (List.length_eq_zero_iff.1 hn) hne⟩
    · refine ⟨some ⟨g, 0, none⟩, cap, by rw [hr, hv], fun _ => ⟨g, 0, cs, rfl, h2, fun j v hj => ?_⟩⟩
      rw [← htk, List.getElem?_take] at hj
      split at hj
      · have : cur[j]? = some v := by simpa using hj
        simp [World.cell?, hh, this]
      · cases hj
  · have hrd : RdC P (.sl t) c.S c.w ys [v] := by
      refine slOf_frozen hm hr h fun k e t' xs' e1 hk => ?_
      subst e1
      simp only [slOf, hk, Option.some.injEq, Sigma.mk.injEq] at h
      obtain ⟨rfl, _⟩ := h
      exact hrow ⟨k, e, xs', rfl, hk⟩
    obtain ⟨base, cap, hv, h5, h6, h7⟩ := hrd
    refine ⟨base, cap, (List.cons.inj hv).1, fun hne => ?_⟩
    obtain ⟨b, off, rfl, hS, hel⟩ := h7 hne
    obtain ⟨news, h8, h9⟩ := sl_cells hel
    exact ⟨b, off, news, rfl, h8, h9⟩

theorem Mem.consume (hm : Mem P B w0 S0 c) {k : Nat} {e : TypeId} {t : Ty} {xs : List t.El} (hk : lookO c.own k = .row e t xs) {w' : World} (hg : c.w.grownBy w' (c.ρ k).ownBlock) :
    Mem P B w0 S0 (Cx.add { c with w := w' } k .dead (c.ρ k)) ∧ Goes c (Cx.add { c with w := w' } k .dead (c.ρ k)) := by
  have hlo : ∀ j, lookO (Cx.add { c with w := w' } k .dead (c.ρ k)).own j = if j = k then .dead else lookO c.own j := lookO_add { c with w := w' } k .dead (c.ρ k)
  have hρ : ∀ j, (Cx.add { c with w := w' } k .dead (c.ρ k)).ρ j = c.ρ j := by
    intro j; simp only [Cx.add]; split
    · rename_i e; rw [e]
    · rfl
  have hown : ∀ b, (c.ρ k).ownBlock = some b → ¬ c.S b ∧ B ≤ b := fun b hb => (hm.ok k).notS (fun t xs e => by rw [hk] at e; cases e) (by rw [hk, ownBlock_blkOf]; exact hb)
  have hsame : ∀ b, b < c.w.heap.size → (c.ρ k).ownBlock ≠ some b → w'.heap[b]? = c.w.heap[b]? := fun b hb hne => hg.block b hb (fun e => hne e.symm)
  have hgo : Goes c (Cx.add { c with w := w' } k .dead (c.ρ k)) := ⟨fun b hb => ⟨hb, hsame b (hm.bound b hb) (fun e => (hown b e).1 hb)⟩, fun j => by
    rw [hlo, hρ]
    by_cases e' : j = k
    · subst e'; rw [if_pos rfl, hk]; trivial
    · rw [if_neg e']; exact Turns.refl _ _⟩
  refine ⟨⟨fun j => ?_, fun j j' g hne hj hj' => ?_, fun b hb => Nat.lt_of_lt_of_le (hm.bound b hb) hg.size, hm.from_, hm.to_, ?_, Nat.le_trans hm.base hg.size, fun j => by rw [hρ]; exact hm.one j, hm.frm hgo⟩, hgo⟩
  · by_cases e' : j = k
    · unfold BlkOk; rw [hlo, if_pos e']; trivial
    · refine (hm.ok j).keep hgo hm.one (by rw [hlo, if_neg e']) (hρ j) fun b hb => ⟨hsame b (hm.blk_lt j b hb) (fun e => ?_), id⟩
      exact hm.apart j k b e' hb (by rw [hk, ownBlock_blkOf]; exact e)
  · rw [hlo, hρ] at hj hj'
    by_cases e1 : j = k
    · rw [if_pos e1] at hj; cases hj
    · rw [if_neg e1] at hj
      by_cases e2 : j' = k
      · rw [if_pos e2] at hj'; cases hj'
      · rw [if_neg e2] at hj'
        exact hm.apart j j' g hne hj hj'
  · exact hm.below.trans ⟨hg.os, hg.tape, hg.output, hg.size, fun b hb => hsame b (Nat.lt_of_lt_of_le hb hm.base) (fun e => by have := (hown b e).2; omega)⟩

theorem Fr.consume {k : Nat} {e : TypeId} {t : Ty} {xs : List t.El} (hk : lookO c.own k = .row e t xs) {w' : World} (hg : c.w.grownBy w' (c.ρ k).ownBlock) : Fr c (Cx.add { c with w := w' } k .dead (c.ρ k)) := by
  refine ⟨hg.size, fun j hj ho => ⟨hg.block j hj (fun e' => ho k (by rw [hk, ownBlock_blkOf]; exact e'.symm)), id, fun i hi => ?_⟩⟩
  rw [lookO_add] at hi
  simp only [Cx.add] at hi
  by_cases e' : i = k
  · rw [if_pos e'] at hi; cases hi
  · rw [if_neg e', if_neg e'] at hi; exact ho i hi

theorem Mem.addRow (hm : Mem P B w0 S0 c) {k : Nat} {e : TypeId} {t : Ty} {xs : List t.El} {v : Value} {cs : List Value} (hk : lookO c.own k = .gone) (hz : 0 < t.size) (hv : v.oneCell' = true) (hown : c.w.ownsRow B e t.size v xs.length cs) (hr : RdL P t c.S c.w xs cs)
    (hS : ∀ b, v.ownBlock = some b → ¬ c.S b) (hap : ∀ j b, v.ownBlock = some b → blkOf (lookO c.own j) (c.ρ j) ≠ some b) : Mem P B w0 S0 (c.add k (.row e t xs) v) ∧ Goes c (c.add k (.row e t xs) v) := by
  have ht : Turns (lookO c.own k) (.row e t xs) (c.ρ k) v := by rw [hk]; trivial
  refine ⟨hm.add ht hv ?_ fun j g _ hg hj => hap j g (ownBlock_blkOf.1 hg) hj, Goes.add ht⟩
  unfold BlkOk
  rw [lookO_add, if_pos rfl]
  exact ⟨hz, cs, by simpa [Cx.add] using hown, by simpa [Cx.add] using hr, by simpa [Cx.add] using hS⟩

theorem append_maxLen {n b : Nat} (hb : b ≠ 0) (h : n * b ≤ 140737488355328) : n ≤ maxLen := by
  have : n ≤ n * b := Nat.le_mul_of_pos_right n (Nat.pos_of_ne_zero hb)
  simp only [maxLen]; omega

theorem infoT_ok (hC : CfgOk P C B w0) {T : TypeId} (h : sizeT C T ≠ 0) : ∃ i z, P.info? T = some i ∧ i.zero = some z ∧ i.size = sizeT C T ∧ i.bytes = bytesT C T ∧ z.cells.size = i.size := by
  unfold sizeT bytesT at *
  cases ha : assoc C.tab T with
  | none => rw [ha] at h; exact absurd rfl h
  | some ti =>
    obtain ⟨i, d, z, h1, h2, h3, h4, h5, h6, h7, h8, _⟩ := hC.tab T ti ha
    exact ⟨i, z, h1, h5, h3, h4, h8⟩

theorem grown_row {w : World} {base : Nat} (e : TypeId) (z : Value) {size n m old : Nat} {xs news : List Value} (hx : xs.length = n * size) (hl : news.length = m * size) (hzs : z.cells.size = size) (h63 : n + m ≤ maxLen) (hbase : base ≤ w.heap.size) :
    (w.drew.alloc (.cells (xs.toArray ++ news.toArray ++ Builtin.zeroCells z.cells (grownCap w (n + m) old e - (n + m))) e)).ownsRow base e size
      (.slice (some ⟨w.heap.size, 0, none⟩) (n + m) (grownCap w (n + m) old e)) (n + m) (xs ++ news) := by
  have hge := grownCap_ge w (n + m) old e
  have hcm : grownCap w (n + m) old e ≤ maxLen := grownCap_le_maxLen w (n + m) old e h63
  have hlen : (xs ++ news).length = (n + m) * size := by rw [List.length_append, hx, hl, Nat.add_mul]
  refine ⟨hlen, .inr ⟨w.heap.size, _, _, rfl, hbase, heap_alloc_new w.drew _, hge, hcm, ?_, ?_⟩⟩
  · simp only [Array.size_append, List.size_toArray, size_zeroCells, hzs, hx, hl, ← Nat.add_mul]
    congr 1
    omega
  · simp only [Array.toList_append, List.append_assoc]
    rw [← List.append_assoc, ← hlen]
    exact List.take_left

theorem run_append_op {T : TypeId} {s x : Operand} (ho : o.op = .call { callee := .builtin .append, args := #[s, x], argTypes := #[T, T] }) {w w' : World} {v : Value} (h : (Builtin.append_ #[T, T] o.type #[a.eval s, a.eval x]).run P w = .ok v w') :
    (execOp a.eval o).run P w = .ok (.value v) w' := by
  unfold execOp
  rw [ho]
  simp only [resolve, invoke, builtin, Sem.run_bind, Sem.run_pure, Result.andThen_ok, List.map_toArray, List.map_cons, List.map_nil, h]

set_option maxHeartbeats 1000000 in
theorem owed_append (hC : CfgOk P C B w0) (hm : Mem P B w0 S0 c) {lk : Operand → D} (hlk : ∀ x, RV P c (lk x) (a.eval x)) {T e : TypeId} {s x : Operand} {nxt : Nat} (ho : o.op = .call { callee := .builtin .append, args := #[s, x], argTypes := #[T, T] }) (hT : kindT C T = .sl e)
    {r : Res} (h : appendD C c.own nxt e (lk s) (lk x) = some r) (hs : ∀ p ∈ r.side, p) (hf : r.nxt = nxt ∨ lookO c.own nxt = .gone) : Owed P B w0 S0 c a o r := by
  have hsv := hlk s
  have hxv := hlk x
  obtain ⟨_, d, _, _, hu, _, _, _, _, hd⟩ := tabOk hC hT (by simp)
  have hu := (kind_sl hd) ▸ hu
  unfold appendD at h
  split at h
  · rename_i t ys hso
    split at h
    · rename_i hsz
      obtain ⟨hsz, hz, hby⟩ := hsz
      obtain ⟨i, z, hi, hiz, his, hib, hzs⟩ := infoT_ok hC (T := e) (by omega)
      have his' : i.size = t.size := his.trans hsz
      have hzs' : z.cells.size = t.size := hzs.trans his'
      obtain ⟨bx, capx, hx, hcells⟩ := slOf_cells hm hxv hso
      unfold appendTo at h
      split at h
      · -- onto a row of one's own
        rename_i k hp
        rw [hp] at hsv
        split at h
        · rename_i e' t' xs0 hk
          split at h
          · rename_i xs hc
            split at h
            · rename_i he
              obtain rfl := Option.some.inj h
              subst he
              obtain ⟨et, hxs⟩ := cast?_some hc
              cases et
              subst hxs
              have hgone : lookO c.own nxt = .gone := hf.resolve_left (by simp)
              have hbd : (xs0.length + ys.length) * bytesT C e ≤ 140737488355328 := hs _ (List.mem_singleton.2 rfl)
              simp only [RV, hk] at hsv
              have hb := hm.ok k
              unfold BlkOk at hb
              simp only [hk] at hb
              obtain ⟨_, cs, hown, hrl, hnS⟩ := hb
              -- the run
              obtain ⟨v', w', news, hrun, hown', hgrow, hob, hrl'⟩ : ∃ (v' : Value) (w' : World) (news : List Value), (Builtin.append_ #[T, T] o.type #[a.eval s, a.eval x]).run P c.w = .ok v' w' ∧ w'.ownsRow B e t.size v' (xs0.length + ys.length) (cs ++ news) ∧
                  c.w.grownBy w' (c.ρ k).ownBlock ∧ (v'.ownBlock = (c.ρ k).ownBlock ∨ v'.ownBlock = some c.w.heap.size) ∧ RdL P t c.S c.w ys news := by
                by_cases hys : ys = []
                · subst hys
                  refine ⟨c.ρ k, c.w, [], ?_, by simpa using hown, ⟨rfl, rfl, rfl, Nat.le_refl _, fun _ _ _ => rfl⟩, .inl rfl, rfl⟩
                  rw [hsv, hx]
                  rcases hown.2 with ⟨hv, hn⟩ | ⟨g, cap, cur, hv, _, _, hcap, _⟩
                  · rw [hv]; exact run_append_zero T o.type e i hu hi none bx 0 0 capx (Nat.le_refl _)
                  · rw [hv]; exact run_append_zero T o.type e i hu hi _ bx _ cap capx hcap
                · obtain ⟨b, off, news, rfl, hrn, hlie⟩ := hcells hys
                  obtain ⟨v', w', h1, h2, h3, _, h5⟩ := run_append_own_at (P := P) c.w B T o.type e i z t.size (bytesT C e) hu hi hiz his' hib hzs' hz (c.ρ k) xs0.length cs hown ⟨b, off, none⟩ ys.length capx news hrn.length
                    (fun j u hj => by rw [add_none]; exact hlie j u hj) hrn.one (append_maxLen hby hbd) hbd hm.base
                  exact ⟨v', w', news, by rw [hsv, hx]; exact h1, h2, h3, h5, hrn⟩
              obtain ⟨hm1, hg1⟩ := hm.consume hk hgrow
              have hne : nxt ≠ k := by intro e'; rw [e', hk] at hgone; cases hgone
              have hlo : ∀ j, lookO (Cx.add { c with w := w' } k .dead (c.ρ k)).own j = if j = k then .dead else lookO c.own j := lookO_add { c with w := w' } k .dead (c.ρ k)
              have hρ : ∀ j, (Cx.add { c with w := w' } k .dead (c.ρ k)).ρ j = c.ρ j := by
                intro j; simp only [Cx.add]; split
                · rename_i e; rw [e]
                · rfl
              have hone' : v'.oneCell' = true := by
                rcases hown'.2 with ⟨hv, _⟩ | ⟨g, cap, cur, hv, _⟩ <;> rw [hv] <;> rfl
              obtain ⟨hm2, hg2⟩ := hm1.addRow (k := nxt) (e := e) (t := t) (xs := xs0 ++ ys) (v := v') (cs := cs ++ news) (by rw [hlo, if_neg hne]; exact hgone) hz hone' (by rw [List.length_append]; exact hown') ((hrl.append hrl').mono hg1.stays)
                (fun b hb hS => by
                  rcases hob with e' | e'
                  · rw [e'] at hb; exact hnS b hb hS
                  · rw [e'] at hb; cases hb; exact absurd (hm.bound _ hS) (Nat.lt_irrefl _))
                (fun j b hb hj => by
                  rw [hlo, hρ] at hj
                  by_cases ej : j = k
                  · rw [if_pos ej] at hj; cases hj
                  · rw [if_neg ej] at hj
                    rcases hob with e' | e'
                    · rw [e'] at hb; exact hm.apart j k b ej hj (by rw [hk, ownBlock_blkOf]; exact hb)
                    · rw [e'] at hb; cases hb; exact absurd (hm.blk_lt j _ hj) (Nat.lt_irrefl _))
              intro K Q hK
              unfold Oper.wp
              rw [run_append_op ho hrun, Oper.upon_value]
              refine hK v' _ hm2 (hg1.trans hg2) ((Fr.consume hk hgrow).add fun g hg => by
                rw [ownBlock_blkOf] at hg
                rcases hob with e' | e'
                · rw [e'] at hg; exact .inr ⟨k, by rw [hk, ownBlock_blkOf]; exact hg⟩
                · rw [e'] at hg; cases hg; exact .inl (Nat.le_refl _)) (by simp [Cx.add]) ?_ (fun p hp => by cases hp)
              have := RV.at_row (P := P) (c := Cx.add (Cx.add { c with w := w' } k .dead (c.ρ k)) nxt (.row e t (xs0 ++ ys)) v') (k := nxt) (e := e) (t := t) (xs := xs0 ++ ys) (by rw [lookO_add, if_pos rfl])
              simpa [Cx.add] using this
            · cases h
          · cases h
        · cases h
      · -- onto nil
        rename_i hp
        rw [hp] at hsv
        obtain rfl := Option.some.inj h
        have hgone : lookO c.own nxt = .gone := hf.resolve_left (by simp)
        have hbd : ys.length * bytesT C e ≤ 140737488355328 := hs _ (List.mem_singleton.2 rfl)
        have hsv : a.eval s = .slice none 0 0 := hsv
        obtain ⟨v', w', news, hrun, hown', hgrow, hob, hrl'⟩ : ∃ (v' : Value) (w' : World) (news : List Value), (Builtin.append_ #[T, T] o.type #[a.eval s, a.eval x]).run P c.w = .ok v' w' ∧ w'.ownsRow B e t.size v' ys.length news ∧
            c.w.grownBy w' none ∧ (v'.ownBlock = none ∨ v'.ownBlock = some c.w.heap.size) ∧ RdL P t c.S c.w ys news := by
          by_cases hys : ys = []
          · subst hys
            refine ⟨.slice none 0 0, c.w, [], ?_, World.ownsRow_nil _ _ _ _, ⟨rfl, rfl, rfl, Nat.le_refl _, fun _ _ _ => rfl⟩, .inl rfl, rfl⟩
            rw [hsv, hx]
            exact run_append_zero T o.type e i hu hi none bx 0 0 capx (Nat.le_refl _)
          · obtain ⟨b, off, news, rfl, hrn, hlie⟩ := hcells hys
            obtain ⟨v', w', h1, h2, h3, _, h5⟩ := run_append_own_at (P := P) c.w B T o.type e i z t.size (bytesT C e) hu hi hiz his' hib hzs' hz (.slice none 0 0) 0 [] (World.ownsRow_nil _ _ _ _) ⟨b, off, none⟩ ys.length capx news hrn.length
              (fun j u hj => by rw [add_none]; exact hlie j u hj) hrn.one (by rw [Nat.zero_add]; exact append_maxLen hby hbd) (by rw [Nat.zero_add]; exact hbd) hm.base
            exact ⟨v', w', news, by rw [hsv, hx]; exact h1, by simpa using h2, h3, h5, hrn⟩
        obtain ⟨hm1, hg1⟩ := hm.grow (w' := w') ⟨hgrow.os, hgrow.tape, hgrow.output, hgrow.size, fun b hb => hgrow.block b hb (by simp)⟩ (fun _ => False) (fun b h => h.elim)
        simp only [S_false] at hm1 hg1
        have hone' : v'.oneCell' = true := by
          rcases hown'.2 with ⟨hv, _⟩ | ⟨g, cap, cur, hv, _⟩ <;> rw [hv] <;> rfl
        obtain ⟨hm2, hg2⟩ := hm1.addRow (k := nxt) (e := e) (t := t) (xs := ys) (v := v') (cs := news) hgone hz hone' hown' (hrl'.mono hg1.stays)
          (fun b hb hS => by
            rcases hob with e' | e'
            · rw [e'] at hb; cases hb
            · rw [e'] at hb; cases hb; exact absurd (hm.bound _ hS) (Nat.lt_irrefl _))
          (fun j b hb hj => by
            rcases hob with e' | e'
            · rw [e'] at hb; cases hb
            · rw [e'] at hb; cases hb; exact absurd (hm.blk_lt j _ hj) (Nat.lt_irrefl _))
        intro K Q hK
        unfold Oper.wp
        rw [run_append_op ho hrun, Oper.upon_value]
        refine hK v' _ hm2 (hg1.trans hg2) ((Fr.grow' (w' := w') ⟨hgrow.os, hgrow.tape, hgrow.output, hgrow.size, fun b hb => hgrow.block b hb (by simp)⟩).add fun g hg => by
          rw [ownBlock_blkOf] at hg
          rcases hob with e' | e'
          · rw [e'] at hg; cases hg
          · rw [e'] at hg; cases hg; exact .inl (Nat.le_refl _)) (by simp [Cx.add]) ?_ (fun p hp => by cases hp)
        have := RV.at_row (P := P) (c := Cx.add { c with w := w' } nxt (.row e t ys) v') (k := nxt) (e := e) (t := t) (xs := ys) (by rw [lookO_add, if_pos rfl])
        simpa [Cx.add] using this
      · -- onto a slice without room
        rename_i t' xs0 hp
        rw [hp] at hsv
        split at h
        · rename_i xs hc
          obtain ⟨et, hxs⟩ := cast?_some hc
          cases et
          subst hxs
          split at h
          · obtain rfl := Option.some.inj h
            have hgone : lookO c.own nxt = .gone := hf.resolve_left (by simp)
            have hbd : (xs0.length + ys.length) * bytesT C e ≤ 140737488355328 := hs _ List.mem_cons_self
            have hpos' : 0 < ys.length := hs (cn (0 < ys.length)) (List.mem_cons_of_mem _ List.mem_cons_self)
            have hys : ys ≠ [] := List.length_pos_iff.1 hpos'
            obtain ⟨bs, hsv, hrs⟩ := hsv
            obtain ⟨b, off, news, rfl, hrn, hlie⟩ := hcells hys
            have h63 := append_maxLen hby hbd
            have hpos : 0 < ys.length := List.length_pos_iff.2 hys
            -- what it held
            obtain ⟨olds, hro, hrun⟩ : ∃ olds, RdL P t c.S c.w xs0 olds ∧ (Builtin.append_ #[T, T] o.type #[a.eval s, a.eval x]).run P c.w =
                .ok (.slice (some ⟨c.w.heap.size, 0, none⟩) (xs0.length + ys.length) (grownCap c.w (xs0.length + ys.length) xs0.length e)) (c.w.drew.alloc (.cells (olds.toArray ++ news.toArray ++ Builtin.zeroCells z.cells (grownCap c.w (xs0.length + ys.length) xs0.length e - (xs0.length + ys.length))) e)) := by
              have hmx : xs0.length + ys.length ≤ 9223372036854775807 := by simp only [maxLen] at h63; omega
              have hnw : ∀ j u, news[j]? = some u → c.w.cell? ((⟨b, off, none⟩ : Addr).add j) = some u := fun j u hj => by rw [add_none]; exact hlie j u hj
              by_cases hxs : xs0 = []
              · subst hxs
                refine ⟨[], rfl, ?_⟩
                rw [hsv, hx]
                cases bs with
                | none =>
                  have := run_append_nil (P := P) c.w T o.type e i z hu hi hiz ⟨b, off, none⟩ ys.length capx news (by rw [his']; exact hrn.length) hnw hpos (by simp at hmx; omega) (by rw [hib]; simp at hbd; omega)
                  simpa using this
                | some ab =>
                  have := run_append_grow (P := P) c.w T o.type e i z hu hi hiz ab 0 0 [] (by simp) (fun j v hj => by simp at hj) ⟨b, off, none⟩ ys.length capx news (by rw [his']; exact hrn.length) hnw (by omega) (by simp at hmx; omega) (growslice_fits (by omega) (by rw [hib]; simpa using hbd))
                  simpa using this
              · obtain ⟨base, cap, hv, h5, h6, h7⟩ := hrs
                obtain ⟨bo, oo, rfl, hS, hel⟩ := h7 hxs
                obtain ⟨olds, hro, hlo⟩ := sl_cells hel
                refine ⟨olds, hro, ?_⟩
                have hv' : a.eval s = .slice (some ⟨bo, oo, none⟩) xs0.length cap := (List.cons.inj hv).1
                rw [hsv] at hv'
                simp only [Value.slice.injEq] at hv'
                obtain ⟨rfl, _, _⟩ := hv'
                rw [hsv, hx]
                exact run_append_grow (P := P) c.w T o.type e i z hu hi hiz ⟨bo, oo, none⟩ xs0.length xs0.length olds (by rw [his']; exact hro.length) (fun j u hj => by rw [add_none]; exact hlo j u hj) ⟨b, off, none⟩ ys.length capx news (by rw [his']; exact hrn.length) hnw (by omega) (by omega) (growslice_fits (by omega) (by rw [hib]; exact hbd))
            have hbelow : Below c.w.heap.size c.w (c.w.drew.alloc (.cells (olds.toArray ++ news.toArray ++ Builtin.zeroCells z.cells (grownCap c.w (xs0.length + ys.length) xs0.length e - (xs0.length + ys.length))) e)) := ((Below.refl _ _).drew).alloc (Nat.le_refl _) _
            have hgr := grown_row (w := c.w) (base := B) e z (old := xs0.length) hro.length hrn.length hzs' h63 hm.base
            generalize hw' : c.w.drew.alloc (.cells (olds.toArray ++ news.toArray ++ Builtin.zeroCells z.cells (grownCap c.w (xs0.length + ys.length) xs0.length e - (xs0.length + ys.length))) e) = w' at *
            generalize hv' : Value.slice (some ⟨c.w.heap.size, 0, none⟩) (xs0.length + ys.length) (grownCap c.w (xs0.length + ys.length) xs0.length e) = v' at *
            have hob : v'.ownBlock = some c.w.heap.size := by rw [← hv']; rfl
            have hone' : v'.oneCell' = true := by rw [← hv']; rfl
            obtain ⟨hm1, hg1⟩ := hm.grow hbelow (fun _ => False) (fun b h => h.elim)
            simp only [S_false] at hm1 hg1
            obtain ⟨hm2, hg2⟩ := hm1.addRow (k := nxt) (e := e) (t := t) (xs := xs0 ++ ys) (v := v') (cs := olds ++ news) hgone hz hone' (by rw [List.length_append]; exact hgr) ((hro.append hrn).mono hg1.stays)
              (fun b hb hS => by
                rw [hob] at hb; cases hb; exact absurd (hm.bound _ hS) (Nat.lt_irrefl _))
              (fun j b hb hj => by
                rw [hob] at hb; cases hb; exact absurd (hm.blk_lt j _ hj) (Nat.lt_irrefl _))
            intro K Q hK
            unfold Oper.wp
            rw [run_append_op ho hrun, Oper.upon_value]
            refine hK v' _ hm2 (hg1.trans hg2) ((Fr.grow' (w' := w') hbelow).add fun g hg => by
              rw [ownBlock_blkOf] at hg
              rw [hob] at hg; cases hg; exact .inl (Nat.le_refl _)) (by simp [Cx.add]) ?_ (fun p hp => by cases hp)
            have := RV.at_row (P := P) (c := Cx.add { c with w := w' } nxt (.row e t (xs0 ++ ys)) v') (k := nxt) (e := e) (t := t) (xs := xs0 ++ ys) (by rw [lookO_add, if_pos rfl])
            simpa [Cx.add] using this
          · obtain rfl := Option.some.inj h
            have hbd : (xs0.length + ys.length) * bytesT C e ≤ 140737488355328 := hs _ (List.mem_singleton.2 rfl)
            obtain ⟨bs, hsv, hrs⟩ := hsv
            by_cases hys : ys = []
            · subst hys
              refine owed_same hm (run_append_op ho (v := a.eval s) ?_) ⟨[a.eval s], ?_, by simp [vOf, Ty.isAgg]⟩
              · rw [hx, hsv]; exact run_append_zero T o.type e i hu hi bs bx _ _ capx (Nat.le_refl _)
              · rw [List.append_nil]; exact hrs
            · obtain ⟨b, off, news, rfl, hrn, hlie⟩ := hcells hys
              have h63 := append_maxLen hby hbd
              have hpos : 0 < ys.length := List.length_pos_iff.2 hys
              -- what it held
              obtain ⟨olds, hro, hrun⟩ : ∃ olds, RdL P t c.S c.w xs0 olds ∧ (Builtin.append_ #[T, T] o.type #[a.eval s, a.eval x]).run P c.w =
                  .ok (.slice (some ⟨c.w.heap.size, 0, none⟩) (xs0.length + ys.length) (grownCap c.w (xs0.length + ys.length) xs0.length e)) (c.w.drew.alloc (.cells (olds.toArray ++ news.toArray ++ Builtin.zeroCells z.cells (grownCap c.w (xs0.length + ys.length) xs0.length e - (xs0.length + ys.length))) e)) := by
                have hmx : xs0.length + ys.length ≤ 9223372036854775807 := by simp only [maxLen] at h63; omega
                have hnw : ∀ j u, news[j]? = some u → c.w.cell? ((⟨b, off, none⟩ : Addr).add j) = some u := fun j u hj => by rw [add_none]; exact hlie j u hj
                by_cases hxs : xs0 = []
                · subst hxs
                  refine ⟨[], rfl, ?_⟩
                  rw [hsv, hx]
                  cases bs with
                  | none =>
                    have := run_append_nil (P := P) c.w T o.type e i z hu hi hiz ⟨b, off, none⟩ ys.length capx news (by rw [his']; exact hrn.length) hnw hpos (by simp at hmx; omega) (by rw [hib]; simp at hbd; omega)
                    simpa using this
                  | some ab =>
                    have := run_append_grow (P := P) c.w T o.type e i z hu hi hiz ab 0 0 [] (by simp) (fun j v hj => by simp at hj) ⟨b, off, none⟩ ys.length capx news (by rw [his']; exact hrn.length) hnw (by omega) (by simp at hmx; omega) (growslice_fits (by omega) (by rw [hib]; simpa using hbd))
                    simpa using this
                · obtain ⟨base, cap, hv, h5, h6, h7⟩ := hrs
                  obtain ⟨bo, oo, rfl, hS, hel⟩ := h7 hxs
                  obtain ⟨olds, hro, hlo⟩ := sl_cells hel
                  refine ⟨olds, hro, ?_⟩
                  have hv' : a.eval s = .slice (some ⟨bo, oo, none⟩) xs0.length cap := (List.cons.inj hv).1
                  rw [hsv] at hv'
                  simp only [Value.slice.injEq] at hv'
                  obtain ⟨rfl, _, _⟩ := hv'
                  rw [hsv, hx]
                  exact run_append_grow (P := P) c.w T o.type e i z hu hi hiz ⟨bo, oo, none⟩ xs0.length xs0.length olds (by rw [his']; exact hro.length) (fun j u hj => by rw [add_none]; exact hlo j u hj) ⟨b, off, none⟩ ys.length capx news (by rw [his']; exact hrn.length) hnw (by omega) (by omega) (growslice_fits (by omega) (by rw [hib]; exact hbd))
              have hbelow : Below c.w.heap.size c.w (c.w.drew.alloc (.cells (olds.toArray ++ news.toArray ++ Builtin.zeroCells z.cells (grownCap c.w (xs0.length + ys.length) xs0.length e - (xs0.length + ys.length))) e)) := ((Below.refl _ _).drew).alloc (Nat.le_refl _) _
              obtain ⟨hm1, hg1⟩ := hm.grow hbelow (fun k => k = c.w.heap.size) (fun k hk => by subst hk; exact ⟨Nat.le_refl _, by simp⟩)
              intro K Q hK
              unfold Oper.wp
              rw [run_append_op ho hrun, Oper.upon_value]
              refine hK _ _ hm1 hg1 (Fr.grow hbelow _ fun k hk => by subst hk; exact Nat.le_refl _) rfl ⟨[_], ?_, by simp [vOf, Ty.isAgg]; rfl⟩ (fun p hp => by cases hp)
              have hgr := grown_row (w := c.w) (base := B) e z (old := xs0.length) hro.length hrn.length hzs' h63 hm.base
              have hrl := (hro.append hrn).mono hg1.stays
              refine row_reads (base := B) (e := e) (c := { c with S := fun b => c.S b ∨ b = c.w.heap.size, w := c.w.drew.alloc (.cells (olds.toArray ++ news.toArray ++ Builtin.zeroCells z.cells (grownCap c.w (xs0.length + ys.length) xs0.length e - (xs0.length + ys.length))) e) }) (cs := olds ++ news) ?_ hrl (fun b h => h) (fun b hb => ?_)
              · rw [List.length_append]; exact hgr
              · simp only [Value.ownBlock, Option.some.injEq] at hb
                exact .inr hb.symm
        · cases h
      · cases h
    · cases h
  · cases h

end
end Go.Eng
namespace Go.Eng
open Go.RowKit

variable {P : Program} {C : Cfg} {B : Nat} {w0 : World}
section
variable {B : Nat} {w0 : World} {S0 : Nat → Prop} {c : Cx} {a : Act} {o : Oper}

theorem owed_withS (hm : Mem P B w0 S0 c) {nxt : Nat} {q : Option (List Cnd × D)} {r : Res} (h : withS c.own nxt q = some r) (hs : ∀ p ∈ r.side, p)
    (hq : ∀ s d, q = some (s, d) → (∀ p ∈ s, p) → ∃ v, (execOp a.eval o).run P c.w = .ok (.value v) c.w ∧ RV P c d v) : Owed P B w0 S0 c a o r := by
  unfold withS at h
  split at h
  · rename_i s d
    obtain rfl := Option.some.inj h
    obtain ⟨v, h1, h2⟩ := hq s d rfl hs
    exact owed_same hm h1 h2
  · cases h

theorem small_wrap {m : Nat} (hm' : m ≤ maxLen) : IntKind.wrap .i64 (m : Int) = (m : Int) := by
  simp only [maxLen] at hm'
  rw [IntKind.wrap_i64]; omega

theorem len_op {T : TypeId} {x : Operand} {w : World} {m : Nat} (ho : o.op = .call { callee := .builtin .len, args := #[x], argTypes := #[T] }) (h : (Builtin.len_ #[T] o.type #[a.eval x]).run P w = .ok (goInt m) w) : (execOp a.eval o).run P w = .ok (.value (.int .i64 m)) w := by
  unfold execOp
  rw [ho]
  simp only [resolve, invoke, builtin, Sem.run_bind, Sem.run_pure, Result.andThen_ok, List.map_toArray, List.map_cons, List.map_nil, h]
  rfl

theorem owed_lenStr (hC : CfgOk P C B w0) (hm : Mem P B w0 S0 c) {lk : Operand → D} (hlk : ∀ x, RV P c (lk x) (a.eval x)) {T : TypeId} {x : Operand} {nxt : Nat} (ho : o.op = .call { callee := .builtin .len, args := #[x], argTypes := #[T] })
    (hT : kindT C T = .str) {s : ByteArray} (hl : lk x = .dat .str s) : Owed P B w0 S0 c a o ⟨[], [], .dat (.int .i64) (ByteArray.size s : Int), c.own, nxt⟩ := by
  have hx := hlk x
  rw [hl] at hx
  obtain ⟨_, d, _, _, hu, _, _, _, _, hd⟩ := tabOk hC hT (by simp)
  have hu := (kind_str hd) ▸ hu
  refine owed_same hm (len_op (m := s.size) ho ?_) (.of_int (small_wrap hx.str.2))
  rw [hx.str.1]
  simp [Builtin.len_, underlying, hu]

theorem owed_len (hC : CfgOk P C B w0) (hm : Mem P B w0 S0 c) {lk : Operand → D} (hlk : ∀ x, RV P c (lk x) (a.eval x)) {T : TypeId} {x : Operand} {nxt : Nat} (ho : o.op = .call { callee := .builtin .len, args := #[x], argTypes := #[T] }) {e : TypeId}
    (hT : kindT C T = .sl e) {n : Int} (h : lenD c.own (lk x) = some n) : Owed P B w0 S0 c a o ⟨[], [], .dat (.int .i64) n, c.own, nxt⟩ := by
  have hx := hlk x
  obtain ⟨_, d, _, _, hu, _, _, _, _, hd⟩ := tabOk hC hT (by simp)
  have hu := (kind_sl hd) ▸ hu
  have both : ∀ {base : Option Addr} {m cap : Nat}, a.eval x = .slice base m cap → n = (m : Int) → m ≤ maxLen → Owed P B w0 S0 c a o ⟨[], [], .dat (.int .i64) n, c.own, nxt⟩ := by
    intro base m cap hv hn hmx
    subst hn
    refine owed_same hm (len_op (m := m) ho ?_) (.of_int (small_wrap hmx))
    rw [hv]
    simp [Builtin.len_, underlying, hu]
  unfold lenD at h
  split at h
  · rename_i t xs hl
    rw [hl] at hx
    obtain ⟨base, cap, hv, h5, h6, _⟩ := hx.leaf rfl
    exact both (List.cons.inj hv).1 (Option.some.inj h).symm (Nat.le_trans h5 h6)
  · rename_i t xs hl
    rw [hl] at hx
    obtain ⟨base, hv, hrd⟩ := hx
    obtain ⟨b2, cap, hv2, h5, h6, _⟩ := hrd
    exact both hv (Option.some.inj h).symm (Nat.le_trans h5 h6)
  · rename_i hl
    rw [hl] at hx
    exact both (m := 0) (show a.eval x = _ from hx) (Option.some.inj h).symm (by simp [maxLen])
  · rename_i k off m cp hl
    rw [hl] at hx
    obtain ⟨b, kk, hv⟩ := hx.arr_some
    split at h
    · rename_i hm'
      exact both hv (Option.some.inj h).symm (by simp only [maxLen]; omega)
    · cases h
  · rename_i k base len lo hi hl
    rw [hl] at hx
    have hb := hx
    simp only [RV] at hb
    obtain ⟨b, kk, hv⟩ := hx.arx_some
    split at h
    · rename_i hm'
      exact both hv (Option.some.inj h).symm (by simp only [maxLen]; omega)
    · cases h
  · rename_i k hl
    rw [hl] at hx
    have hb := hm.ok k
    unfold BlkOk at hb
    split at h
    · rename_i e' t xs hk
      simp only [hk] at hb
      simp only [RV, hk] at hx
      obtain ⟨_, cs, hown, _⟩ := hb
      rcases hown.2 with ⟨hv, hn⟩ | ⟨g, cap, cur, hv, _, _, hcap, hmax, _⟩
      · exact both (m := xs.length) (by rw [hx, hv, hn]) (Option.some.inj h).symm (by rw [hn]; simp [maxLen])
      · exact both (by rw [hx]; exact hv) (Option.some.inj h).symm (Nat.le_trans hcap hmax)
    · rename_i t xs hk
      simp only [hk] at hb
      simp only [RV, hk] at hx
      obtain ⟨base, cap, hv, h5, h6, _⟩ := hb
      exact both (by rw [hx]; exact (List.cons.inj hv).1) (Option.some.inj h).symm (Nat.le_trans h5 h6)
    · cases h
  · cases h

theorem owed_maxmin (hm : Mem P B w0 S0 c) {lk : Operand → D} (hlk : ∀ x, RV P c (lk x) (a.eval x)) {ts : Array TypeId} {x y : Operand} {nxt : Nat} {k : IntKind} {m n : Int} (hx : lk x = .dat (.int k) m) (hy : lk y = .dat (.int k) n) :
    (o.op = .call { callee := .builtin .max, args := #[x, y], argTypes := ts } → Owed P B w0 S0 c a o ⟨[], [], .dat (.int k) (max (α := Int) m n), c.own, nxt⟩) ∧
    (o.op = .call { callee := .builtin .min, args := #[x, y], argTypes := ts } → Owed P B w0 S0 c a o ⟨[], [], .dat (.int k) (min (α := Int) m n), c.own, nxt⟩) := by
  have h1 := hlk x
  have h2 := hlk y
  rw [hx] at h1
  rw [hy] at h2
  refine ⟨fun ho => ?_, fun ho => ?_⟩
  · refine owed_same hm (v := .int k (max (α := Int) m n)) ?_ (.of_int (by rcases Int.le_total m n with h | h; rw [Int.max_eq_right h]; exact h2.int.2; rw [Int.max_eq_left h]; exact h1.int.2))
    unfold execOp
    rw [ho]
    simp only [resolve, invoke, builtin, Sem.run_bind, Sem.run_pure, Result.andThen_ok, List.map_toArray, List.map_cons, List.map_nil, h1.int.1, h2.int.1, run_max_int2]
    rcases Int.lt_or_le m n with h | h
    · rw [if_pos h, Int.max_eq_right (by omega)]
    · rw [if_neg (by omega), Int.max_eq_left h]
  · refine owed_same hm (v := .int k (min (α := Int) m n)) ?_ (.of_int (by rcases Int.le_total m n with h | h; rw [Int.min_eq_left h]; exact h1.int.2; rw [Int.min_eq_right h]; exact h2.int.2))
    unfold execOp
    rw [ho]
    simp only [resolve, invoke, builtin, Sem.run_bind, Sem.run_pure, Result.andThen_ok, List.map_toArray, List.map_cons, List.map_nil, h1.int.1, h2.int.1, run_min_int2]
    rcases Int.lt_or_le n m with h | h
    · rw [if_pos h, Int.min_eq_right (by omega)]
    · rw [if_neg (by omega), Int.min_eq_left h]

theorem max_if (a b : Int) : (if b > a then b else a) = max (α := Int) a b := by
  rcases Int.lt_or_le a b with h | h
  · rw [if_pos h, Int.max_eq_right (by omega)]
  · rw [if_neg (by omega), Int.max_eq_left h]
theorem min_if (a b : Int) : (if b < a then b else a) = min (α := Int) a b := by
  rcases Int.lt_or_le b a with h | h
  · rw [if_pos h, Int.min_eq_right (by omega)]
  · rw [if_neg (by omega), Int.min_eq_left h]
theorem owed_maxmin3 (hm : Mem P B w0 S0 c) {lk : Operand → D} (hlk : ∀ x, RV P c (lk x) (a.eval x)) {ts : Array TypeId} {x y z : Operand} {nxt : Nat} {k : IntKind} {m n p : Int} (hx : lk x = .dat (.int k) m) (hy : lk y = .dat (.int k) n) (hz : lk z = .dat (.int k) p) :
    (o.op = .call { callee := .builtin .max, args := #[x, y, z], argTypes := ts } → Owed P B w0 S0 c a o ⟨[], [], .dat (.int k) (max (α := Int) (max (α := Int) m n) p), c.own, nxt⟩) ∧
    (o.op = .call { callee := .builtin .min, args := #[x, y, z], argTypes := ts } → Owed P B w0 S0 c a o ⟨[], [], .dat (.int k) (min (α := Int) (min (α := Int) m n) p), c.own, nxt⟩) := by
  have h1 := hlk x
  have h2 := hlk y
  have h3 := hlk z
  rw [hx] at h1
  rw [hy] at h2
  rw [hz] at h3
  have w2 : ∀ u v : Int, k.wrap u = u → k.wrap v = v → k.wrap (max (α := Int) u v) = max (α := Int) u v ∧ k.wrap (min (α := Int) u v) = min (α := Int) u v := fun u v hu hv => by
    rcases Int.le_total u v with h | h
    · rw [Int.max_eq_right h, Int.min_eq_left h]; exact ⟨hv, hu⟩
    · rw [Int.max_eq_left h, Int.min_eq_right h]; exact ⟨hu, hv⟩
  refine ⟨fun ho => ?_, fun ho => ?_⟩
  · refine owed_same hm (v := .int k (max (α := Int) (max (α := Int) m n) p)) ?_ (.of_int (w2 _ _ (w2 _ _ h1.int.2 h2.int.2).1 h3.int.2).1)
    unfold execOp
    rw [ho]
    simp only [resolve, invoke, builtin, Sem.run_bind, Sem.run_pure, Result.andThen_ok, List.map_toArray, List.map_cons, List.map_nil, h1.int.1, h2.int.1, h3.int.1, run_max_int3, max_if]
  · refine owed_same hm (v := .int k (min (α := Int) (min (α := Int) m n) p)) ?_ (.of_int (w2 _ _ (w2 _ _ h1.int.2 h2.int.2).2 h3.int.2).2)
    unfold execOp
    rw [ho]
    simp only [resolve, invoke, builtin, Sem.run_bind, Sem.run_pure, Result.andThen_ok, List.map_toArray, List.map_cons, List.map_nil, h1.int.1, h2.int.1, h3.int.1, run_min_int3, min_if]

theorem toList_data (s : ByteArray) : s.toList = bytesL s := ByteArray.toList_eq s
theorem data_beq (x y : ByteArray) : (x.toList == y.toList) = decide (x = y) := by
  rw [ByteArray.toList_eq, ByteArray.toList_eq]
  by_cases h : x = y
  · subst h; simp
  · rw [decide_eq_false h]
    apply Bool.eq_false_iff.2
    intro e
    apply h
    have e1 := Array.toList_inj.1 (by simpa using e : x.data.toList = y.data.toList)
    cases x; cases y; simp only at e1; rw [e1]
theorem eqGuard_str (op : BinOp) (T : TypeId) (x y : Operand) (u v : ByteArray) (w : World) : (eqGuard op T x y (.string u) (.string v)).run P w = .ok () w := by
  cases op <;> rfl
theorem binStr_ok {w : World} {op : BinOp} {T : TypeId} {x y : ByteArray} {s : List Cnd} {d : D} (h : binStr op x y = some (s, d)) (hs : ∀ p ∈ s, p) :
    ∃ v, (binOp op T (.string x) (.string y)).run P w = .ok v w ∧ RV P c d v := by
  have e1 : ∀ op, op ≠ .shl → op ≠ .shr → binOp op T (.string x) (.string y) = Op.stringOp op x y := by
    intro op h1 h2; cases op <;> first | rfl | exact absurd rfl h1 | exact absurd rfl h2
  unfold binStr at h
  split at h
  case h_1 =>
    simp only [Option.some.injEq, Prod.mk.injEq] at h
    obtain ⟨rfl, rfl⟩ := h
    have hsz : x.size + y.size ≤ maxLen := hs _ (List.mem_singleton.2 rfl)
    refine ⟨.string (x ++ y), ?_, _, ⟨rfl, by rw [ByteArray.size_append]; exact hsz⟩, rfl⟩
    rw [e1 _ (by simp) (by simp)]
    exact run_string_add_sum _ _ _ (by simpa [maxLen] using hsz)
  case h_8 => cases h
  all_goals
    simp only [Option.some.injEq, Prod.mk.injEq] at h
    obtain ⟨rfl, rfl⟩ := h
    refine ⟨_, ?_, .of_bool _⟩
    rw [e1 _ (by simp) (by simp)]
    simp only [Op.stringOp, data_beq]
    try simp only [toList_data]
    rfl
theorem wrap_shr {k : IntKind} {x : Int} (hx : k.wrap x = x) (n : Nat) : k.wrap (x.fdiv (2 ^ n)) = x.fdiv (2 ^ n) := by
  have hp : (0 : Int) < 2 ^ n := Int.pow_pos (by decide)
  rw [Int.fdiv_eq_ediv_of_nonneg _ (Int.le_of_lt hp)]
  have h1 : (2 : Int) ^ n ≥ 1 := hp
  generalize (2 : Int) ^ n = p at hp h1
  have b1 : 0 ≤ x → 0 ≤ x / p ∧ x / p ≤ x := fun h => ⟨Int.ediv_nonneg h (by omega), Int.ediv_le_self p h⟩
  have b2 : x < 0 → x ≤ x / p ∧ x / p < 0 := fun h => by
    refine ⟨?_, Int.ediv_neg_of_neg_of_pos h hp⟩
    refine Int.le_ediv_of_mul_le hp ?_
    have := Int.mul_le_mul_of_nonneg_left (a := 1) (b := p) (c := -x) h1 (by omega)
    rw [Int.neg_mul, Int.neg_mul] at this
    omega
  generalize x / p = q at b1 b2
  cases k <;> simp [IntKind.wrap, IntKind.signed, IntKind.bits] at hx ⊢ <;> omega
theorem shiftI_ok {w : World} {op : BinOp} {T : TypeId} {k k' : IntKind} {x y : Int} (hx : k.wrap x = x) {s : List Cnd} {d : D} (h : shiftI op k x y = some (s, d)) (hs : ∀ p ∈ s, p) :
    ∃ v, (binOp op T (.int k x) (.int k' y)).run P w = .ok v w ∧ RV P c d v := by
  unfold shiftI at h
  split at h
  · simp only [Option.some.injEq, Prod.mk.injEq] at h
    obtain ⟨rfl, rfl⟩ := h
    have h0 : 0 ≤ y := hs _ (List.mem_singleton.2 rfl)
    refine ⟨_, ?_, .of_int (wrap_wrap _ _)⟩
    show (Op.shift .shl k x k' y).run P w = _
    rw [shift_shl_any k k' x y h0]; rfl
  · simp only [Option.some.injEq, Prod.mk.injEq] at h
    obtain ⟨rfl, rfl⟩ := h
    have h0 : 0 ≤ y := hs _ (List.mem_singleton.2 rfl)
    refine ⟨_, ?_, .of_int (wrap_shr hx _)⟩
    show (Op.shift .shr k x k' y).run P w = _
    unfold Op.shift
    rw [if_neg (by omega)]
    rfl
  · cases h

theorem kind_ifc {d : TypeDesc} (h : kindOf d = .ifc) : ∃ ms, d = .interface ms := by cases d <;> simp_all [kindOf]
theorem kind_ptr {d : TypeDesc} {e : TypeId} (h : kindOf d = .ptr e) : d = .pointer e := by cases d <;> simp_all [kindOf]
theorem kind_fn {d : TypeDesc} (h : kindOf d = .fn) : ∃ x y z, d = .func x y z := by cases d <;> simp_all [kindOf]
def NilLike (u v : Value) : Prop := (∃ t z, u = .iface t z ∧ v = .nilIface) ∨ (u = .nilIface ∧ v = .nilIface) ∨ (∃ p, u = .pointer p ∧ v = .pointer none) ∨ (∃ f x y, u = .func f x y ∧ v = .nilFunc) ∨ (u = .nilFunc ∧ v = .nilFunc)
theorem binOp_nil {T : TypeId} {u v : Value} (h : NilLike u v) : binOp .eql T u v = (do pure (.bool (← Op.equal T u v))) ∧ binOp .neq T u v = (do pure (.bool (!(← Op.equal T u v)))) := by
  rcases h with ⟨t, z, rfl, rfl⟩ | ⟨rfl, rfl⟩ | ⟨p, rfl, rfl⟩ | ⟨f, x, y, rfl, rfl⟩ | ⟨rfl, rfl⟩ <;> exact ⟨rfl, rfl⟩
theorem equal_one (T : TypeId) (u v : Value) : Op.equal T u v = Op.equalIn (9999 + 1) T u v := rfl
theorem eqIn_if (d : Nat) {T : TypeId} {ms : Array (String × TypeId)} (hu : P.underlying T = some (.interface ms)) {t : TypeId} {u : Value} {w : World} : (Op.equalIn (d + 1) T (.iface t u) .nilIface).run P w = .ok false w := by simp [Op.equalIn, underlying, hu]
theorem eqIn_nif (d : Nat) {T : TypeId} {ms : Array (String × TypeId)} (hu : P.underlying T = some (.interface ms)) {w : World} : (Op.equalIn (d + 1) T .nilIface .nilIface).run P w = .ok true w := by simp [Op.equalIn, underlying, hu]
theorem eqIn_pn (d : Nat) {T e : TypeId} (hu : P.underlying T = some (.pointer e)) {w : World} : (Op.equalIn (d + 1) T (.pointer none) (.pointer none)).run P w = .ok true w := by simp [Op.equalIn, underlying, hu]
theorem eqIn_ps (d : Nat) {T e : TypeId} (hu : P.underlying T = some (.pointer e)) {a : Addr} {w : World} : (Op.equalIn (d + 1) T (.pointer (some a)) (.pointer none)).run P w = .ok false w := by simp [Op.equalIn, underlying, hu]
theorem eqIn_fn (d : Nat) {T : TypeId} {x : Array TypeId} {y : Array TypeId} {z : Bool} (hu : P.underlying T = some (.func x y z)) {f : Fn} {a b : Array Value} {w : World} : (Op.equalIn (d + 1) T (.func f a b) .nilFunc).run P w = .ok false w := by simp [Op.equalIn, underlying, hu]
theorem eqIn_nfn (d : Nat) {T : TypeId} {x : Array TypeId} {y : Array TypeId} {z : Bool} (hu : P.underlying T = some (.func x y z)) {w : World} : (Op.equalIn (d + 1) T .nilFunc .nilFunc).run P w = .ok true w := by simp [Op.equalIn, underlying, hu]
theorem nilCmp_ok (hC : CfgOk P C B w0) {T : TypeId} {d : D} {y : Operand} {b : Bool} {v : Value} {w : World} (hv : RV P c d v) (h : nilCmp (kindT C T) d y = some b) :
    ∃ u, y = .const u ∧ NilLike v u ∧ (∀ op x, (eqGuard op T x y v u).run P w = .ok () w) ∧ (Op.equal T v u).run P w = .ok b w := by
  unfold nilCmp at h
  split at h
  · rename_i k d' y' e hk
    obtain ⟨_, dd, _, _, hu, _, _, _, _, hd⟩ := tabOk hC hk (by simp)
    obtain ⟨ms, rfl⟩ := kind_ifc hd
    obtain rfl := Option.some.inj h
    obtain ⟨cs, hcs, rfl⟩ := hv
    refine ⟨_, rfl, ?_⟩
    rcases hcs with ⟨rfl, t, u, rfl⟩ | ⟨rfl, rfl⟩
    · refine ⟨.inl ⟨t, u, rfl, rfl⟩, fun op x => by cases op <;> rfl, ?_⟩
      rw [equal_one]; exact eqIn_if 9999 hu
    · refine ⟨.inr (.inl ⟨rfl, rfl⟩), fun op x => ?_, ?_⟩
      · show (eqGuard op T x _ .nilIface .nilIface).run P w = _
        rw [eqGuard_nil_constR]; rfl
      · rw [equal_one]; exact eqIn_nif 9999 hu
  · rename_i k d' y' e t p hk
    obtain ⟨_, dd, _, _, hu, _, _, _, _, hd⟩ := tabOk hC hk (by simp)
    obtain rfl := kind_ptr hd
    obtain rfl := Option.some.inj h
    obtain ⟨cs, hcs, rfl⟩ := hv
    refine ⟨_, rfl, ?_⟩
    cases p with
    | none =>
      obtain rfl : cs = _ := hcs
      refine ⟨.inr (.inr (.inl ⟨_, rfl, rfl⟩)), fun op x => by cases op <;> rfl, ?_⟩
      rw [equal_one]; exact eqIn_pn 9999 hu
    | some z =>
      obtain ⟨g, off, es, rfl, _⟩ := hcs
      refine ⟨.inr (.inr (.inl ⟨_, rfl, rfl⟩)), fun op x => by cases op <;> rfl, ?_⟩
      rw [equal_one]; exact eqIn_ps 9999 hu
  · rename_i k d' y' e q off hk
    obtain ⟨_, dd, _, _, hu, _, _, _, _, hd⟩ := tabOk hC hk (by simp)
    obtain rfl := kind_ptr hd
    obtain rfl := Option.some.inj h
    obtain ⟨g, k, rfl⟩ := hv.pt_some
    refine ⟨_, rfl, .inr (.inr (.inl ⟨_, rfl, rfl⟩)), fun op x => by cases op <;> rfl, ?_⟩
    rw [equal_one]; exact eqIn_ps 9999 hu
  · rename_i k d' y' f caps hk
    obtain ⟨_, dd, _, _, hu, _, _, _, _, hd⟩ := tabOk hC hk (by simp)
    obtain ⟨_, _, _, rfl⟩ := kind_fn hd
    obtain rfl := Option.some.inj h
    obtain ⟨vs, rfl, _⟩ := hv
    refine ⟨_, rfl, .inr (.inr (.inr (.inl ⟨_, _, _, rfl, rfl⟩))), fun op x => by cases op <;> rfl, ?_⟩
    rw [equal_one]; exact eqIn_fn 9999 hu
  · rename_i k d' y' f hk
    obtain ⟨_, dd, _, _, hu, _, _, _, _, hd⟩ := tabOk hC hk (by simp)
    obtain ⟨_, _, _, rfl⟩ := kind_fn hd
    obtain rfl := Option.some.inj h
    obtain ⟨cs, hcs, rfl⟩ := hv
    refine ⟨_, rfl, ?_⟩
    cases f with
    | none =>
      obtain rfl : cs = _ := hcs
      refine ⟨.inr (.inr (.inr (.inr ⟨rfl, rfl⟩))), fun op x => by cases op <;> rfl, ?_⟩
      rw [equal_one]; exact eqIn_nfn 9999 hu
    | some g =>
      obtain rfl : cs = _ := hcs
      refine ⟨.inr (.inr (.inr (.inl ⟨_, _, _, rfl, rfl⟩))), fun op x => by cases op <;> rfl, ?_⟩
      rw [equal_one]; exact eqIn_fn 9999 hu
  · cases h

theorem owed_binOp (hC : CfgOk P C B w0) (hm : Mem P B w0 S0 c) {lk : Operand → D} (hlk : ∀ x, RV P c (lk x) (a.eval x)) {op : BinOp} {T U : TypeId} {x y : Operand} {nxt : Nat} (ho : o.op = .binOp op T x y U) {g : Bool} {r : Res}
    (h : stepF C lk c.own nxt o g = some r) (hs : ∀ p ∈ r.side, p) : Owed P B w0 S0 c a o r := by
  have hx := hlk x
  have hy := hlk y
  unfold stepF at h
  rw [ho] at h
  simp only at h
  split at h
  · rename_i b hb
    have key : ∀ b', (eqGuard op T x y (a.eval x) (a.eval y)).run P c.w = .ok () c.w → (binOp op T (a.eval x) (a.eval y)).run P c.w = .ok (.bool b') c.w → Owed P B w0 S0 c a o (.val c.own nxt (.dat .bool b')) := by
      intro b' h1 h2
      refine owed_same hm (v := .bool b') ?_ (.of_bool _)
      unfold execOp
      rw [ho]
      simp only [Sem.run_bind, Sem.run_pure, h1, h2, Result.andThen_ok]
    obtain ⟨u, rfl, g0, g1, g2⟩ := nilCmp_ok (w := c.w) hC hx hb
    have hyu : a.eval (.const u) = u := rfl
    rw [hyu] at key
    split at h
    · obtain rfl := Option.some.inj h
      exact key b (g1 .eql x) (by rw [(binOp_nil g0).1]; simp [g2])
    · obtain rfl := Option.some.inj h
      exact key (!b) (g1 .neq x) (by rw [(binOp_nil g0).2]; simp [g2])
    · cases h
  refine owed_withS hm h hs fun s d hq hs => ?_
  have go : ∀ {v : Value}, (eqGuard op T x y (a.eval x) (a.eval y)).run P c.w = .ok () c.w → (binOp op T (a.eval x) (a.eval y)).run P c.w = .ok v c.w → (execOp a.eval o).run P c.w = .ok (.value v) c.w := by
    intro v h1 h2
    unfold execOp
    rw [ho]
    simp only [Sem.run_bind, Sem.run_pure, h1, h2, Result.andThen_ok]
  unfold binD at hq
  split at hq
  · rename_i k m k' n e1 e2
    rw [e1] at hx
    rw [e2] at hy
    split at hq
    · obtain ⟨v, h1, h2⟩ := shiftI_ok (P := P) (c := c) (w := c.w) (T := T) (k' := k') hx.int.2 hq hs
      exact ⟨v, go (by rw [hx.int.1, hy.int.1]; exact run_eqGuard_int ..) (by rw [hx.int.1, hy.int.1]; exact h1), h2⟩
    split at hq
    · rename_i hk
      subst hk
      obtain ⟨v, h1, h2⟩ := binInt_ok (P := P) (c := c) (w := c.w) (T := T) hx.int.2 hq hs
      exact ⟨v, go (by rw [hx.int.1, hy.int.1]; exact run_eqGuard_int ..) (by rw [hx.int.1, hy.int.1]; exact h1), h2⟩
    · cases hq
  · rename_i m n e1 e2
    rw [e1] at hx
    rw [e2] at hy
    obtain ⟨v, h1, h2⟩ := binStr_ok (P := P) (c := c) (w := c.w) (T := T) hq hs
    exact ⟨v, go (by rw [hx.str.1, hy.str.1]; exact eqGuard_str ..) (by rw [hx.str.1, hy.str.1]; exact h1), h2⟩
  · rename_i m n e1 e2
    rw [e1] at hx
    rw [e2] at hy
    split at hq
    · rename_i hk
      obtain ⟨_, d', _, _, hu, _, _, _, _, hd⟩ := tabOk hC hk (by simp)
      have hu := (kind_bool hd) ▸ hu
      split at hq
      · simp only [Option.some.injEq, Prod.mk.injEq] at hq
        obtain ⟨rfl, rfl⟩ := hq
        exact ⟨_, go (by rw [hx.bool, hy.bool]; exact run_eqGuard_bool ..) (by rw [hx.bool, hy.bool]; exact run_eql_bool c.w T m n hu), .of_bool _⟩
      · simp only [Option.some.injEq, Prod.mk.injEq] at hq
        obtain ⟨rfl, rfl⟩ := hq
        exact ⟨_, go (by rw [hx.bool, hy.bool]; exact run_eqGuard_bool ..) (by rw [hx.bool, hy.bool]; exact run_neq_bool c.w T m n hu), .of_bool _⟩
      · cases hq
    · cases hq
  · split at hq
    · rename_i t ht
      split at hq
      · rename_i hagg
        simp only [Bool.and_eq_true] at hagg
        split at hq
        · rename_i d' hd'
          simp only [Option.some.injEq, Prod.mk.injEq] at hq
          obtain ⟨rfl, rfl⟩ := hq
          unfold binAgg at hd'
          split at hd'
          · rename_i hfit
            obtain ⟨k1, k2, k3⟩ := fits_ok (.cons t (.cons t .unit)) hm.one hfit (⟨_, _, rfl, hx, _, _, rfl, hy, rfl⟩ : RVs P c [lk x, lk y] [a.eval x, a.eval y])
            split at hd'
            · rename_i u v h1 h2
              obtain ⟨p1, p2, e, q1, q2⟩ := RVs.split (ds := flat (lk x)) (es := flat (lk y)) (by simpa [flats] using k1)
              obtain ⟨c1, c2, f1, r1, r2⟩ := gather_ok (Vis.all hm) t h1 q1
              obtain ⟨c3, c4, f2, r3, r4⟩ := gather_ok (Vis.all hm) t h2 q2
              obtain rfl : c2 = [] := r2
              obtain rfl : c4 = [] := r4
              rw [List.append_nil] at f1 f2
              subst f1 f2
              have hg : group (.cons t (.cons t .unit)) (p1 ++ p2) = [a.eval x, a.eval y] := by
                rw [← k3]; congr 1; rw [← e]; simp
              unfold group at hg
              rw [← r1.length, List.take_left, List.drop_left] at hg
              simp only [List.cons.injEq] at hg
              obtain ⟨hgx, hg⟩ := hg
              unfold group at hg
              simp only [List.cons.injEq] at hg
              obtain ⟨hgy, _⟩ := hg
              rw [← r3.length, List.take_length] at hgy
              have vx : a.eval x = .agg p1.toArray := by rw [← hgx]; simp [vOf, hagg.1]
              have vy : a.eval y = .agg p2.toArray := by rw [← hgy]; simp [vOf, hagg.1]
              obtain ⟨g1, g2⟩ := hC.eqs T t ht hagg.1 hagg.2 c.w (fun b => b < c.w.heap.size) u v p1 p2 r1 r3
              split at hd'
              · cases hd'
                exact ⟨_, go (by rw [vx, vy]; exact g1 _ _ _) (by rw [vx, vy]; simp [binOp, g2]), .of_bool _⟩
              · cases hd'
                exact ⟨_, go (by rw [vx, vy]; exact g1 _ _ _) (by rw [vx, vy]; simp [binOp, g2]), .of_bool _⟩
              · cases hd'
            · cases hd'
          · cases hd'
        · cases hq
      · cases hq
    · cases hq

end
end Go.Eng
namespace Go.Eng
open Go.RowKit

variable {P : Program} {C : Cfg} {B : Nat} {w0 : World}

theorem fold_splice (off : Nat) (v cells : Array Value) (h : off + v.size ≤ cells.size) :
    (v.zipIdx.foldl (fun cs (x : Value × Nat) => cs.setIfInBounds (off + x.2) x.1) cells).toList = cells.toList.take off ++ (v.toList ++ cells.toList.drop (off + v.toList.length)) := by
  obtain ⟨g1, g2⟩ := Great.foldl_set off v.toList 0 cells
  rw [← Array.foldl_toList, Array.toList_zipIdx]
  apply List.ext_getElem?
  intro k
  rw [Array.getElem?_toList, g2 k]
  simp only [Nat.add_zero, Array.length_toList, List.getElem?_append, List.length_take, List.getElem?_take, List.getElem?_drop, Array.getElem?_toList]
  grind

section
variable {B : Nat} {w0 : World} {S0 : Nat → Prop} {c : Cx} {a : Act} {o : Oper}

theorem buildD_ok (hh : Handles c) {lk : Operand → D} (hlk : ∀ x, RV P c (lk x) (a.eval x)) {T : TypeId} {place : Nat → Option (Nat × Nat)} (hpl : ∀ i off n, placeT C T i = some (off, n) → n ≠ 0 → place i = some (off, n)) :
    ∀ (parts : List (Nat × Operand)) {ds ds' : List D} {cells : Array Value}, buildD C T ds (parts.map fun p => (p.1, lk p.2)) = some ds' → RVs P c ds cells.toList →
      ∃ cells', Instr.fill place cells (parts.map fun p => (p.1, a.eval p.2)) = some cells' ∧ RVs P c ds' cells'.toList
  | [], ds, ds', cells, h, hr => by
    simp only [List.map_nil, buildD, Option.some.injEq] at h
    subst h
    exact ⟨cells, rfl, hr⟩
  | (f, x) :: r, ds, ds', cells, h, hr => by
    simp only [List.map_cons] at h ⊢
    unfold buildD at h
    split at h
    · rename_i off n hp
      split at h
      · rename_i hc
        obtain ⟨hc1, hc2, hc3, hc4⟩ := hc
        have hns := (hlk x).flat' hh hc4
        have hlen : (a.eval x).cells.size = (flat (lk x)).length := by rw [← hns.length]; simp
        have hcl : cells.size = ds.length := by rw [← hr.length]; simp
        have hsp := fold_splice off (a.eval x).cells cells (by rw [hlen, hcl]; exact hc3)
        obtain ⟨cells', h1, h2⟩ := buildD_ok hh hlk hpl r (cells := (a.eval x).cells.zipIdx.foldl (fun cs (x : Value × Nat) => cs.setIfInBounds (off + x.2) x.1) cells) h (by rw [hsp]; exact splice_ok hr hns)
        refine ⟨cells', ?_, h2⟩
        unfold Instr.fill
        simp only [hpl f off n hp hc2]
        rw [if_neg (by simp only [Bool.or_eq_true, decide_eq_true_eq, not_or]; exact ⟨by omega, by omega⟩)]
        exact h1
      · cases h
    · cases h

theorem places_ok {fields : Array Field} (h : fields.toList.all (fun f => (P.info? f.type).isSome) = true) : ∃ places, fields.toList.mapM (fun f => (P.info? f.type).map fun i => (f.offset, i.size)) = some places ∧
    ∀ (i : Nat) (f : Field), fields[i]? = some f → ∃ inf, P.info? f.type = some inf ∧ places[i]? = some (f.offset, inf.size) := by
  have key : ∀ l : List Field, l.all (fun f => (P.info? f.type).isSome) = true → ∃ places, l.mapM (fun f => (P.info? f.type).map fun i => (f.offset, i.size)) = some places ∧
      ∀ (i : Nat) (f : Field), l[i]? = some f → ∃ inf, P.info? f.type = some inf ∧ places[i]? = some (f.offset, inf.size) := by
    intro l
    induction l with
    | nil => intro _; exact ⟨[], rfl, fun i f hi => by simp at hi⟩
    | cons g r ih =>
      intro h
      simp only [List.all_cons, Bool.and_eq_true] at h
      obtain ⟨inf, hinf⟩ := Option.isSome_iff_exists.1 h.1
      obtain ⟨places, h1, h2⟩ := ih h.2
      refine ⟨(g.offset, inf.size) :: places, by simp [List.mapM_cons, hinf, h1], fun i f hi => ?_⟩
      cases i with
      | zero => simp at hi; subst hi; exact ⟨inf, hinf, rfl⟩
      | succ i => simp at hi; simpa using h2 i f hi
  obtain ⟨places, h1, h2⟩ := key _ h
  exact ⟨places, h1, fun i f hi => h2 i f (by simpa using hi)⟩

theorem owed_build (hC : CfgOk P C B w0) (hm : Mem P B w0 S0 c) {lk : Operand → D} (hlk : ∀ x, RV P c (lk x) (a.eval x)) {T : TypeId} {parts : Array (Nat × Operand)} {nxt : Nat} (ho : o.op = .build T parts) {g : Bool} {r : Res}
    (h : stepF C lk c.own nxt o g = some r) : Owed P B w0 S0 c a o r := by
  unfold stepF at h
  rw [ho] at h
  simp only at h
  split at h
  · rename_i zd hz
    split at h
    · rename_i hall
      split at h
      · rename_i ds hb
        obtain rfl := Option.some.inj h
        obtain ⟨inf, z, hi, hiz, rfl, _⟩ := zeroT_ok hC hz
        obtain ⟨h1, _⟩ := constDs_ok (P := P) (c := c) _ hall.1
        have run : ∀ {place : Nat → Option (Nat × Nat)}, (∀ i off n, placeT C T i = some (off, n) → n ≠ 0 → place i = some (off, n)) → (∀ cells', Instr.fill place z.cells (parts.toList.map fun p => (p.1, a.eval p.2)) = some cells' → P.built T (parts.toList.map fun p => (p.1, a.eval p.2)) = some cells') →
            Owed P B w0 S0 c a o (.val c.own nxt (.agg ds)) := by
          intro place hpl hbt
          obtain ⟨cells', h2, h3⟩ := buildD_ok hm.one hlk hpl parts.toList hb h1
          refine owed_same hm (v := .agg cells') ?_ ⟨cells'.toList, by simp, h3⟩
          unfold execOp
          rw [ho]
          have hb2 := hbt cells' h2
          have e : (parts.map fun x => match x with | (i, x) => (i, a.eval x)).toList = parts.toList.map fun p => (p.1, a.eval p.2) := by simp
          simp only [Sem.run_bind, run_build c.w T _ cells' (by rw [e]; exact hb2), Result.andThen_ok, Sem.run_pure]
        obtain ⟨inf2, d, z2, hi2, hu, hs2, _, hz2, _, hd⟩ := tabOk hC (k := kindT C T) rfl (agg_ne hall.2.1)
        rw [hi] at hi2; cases hi2
        rw [hiz] at hz2; cases hz2
        cases hk : kindT C T with
        | st fs =>
          rw [hk] at hd
          obtain ⟨fields, rfl, rfl⟩ := kind_st hd
          have hinfo : fields.toList.all (fun f => (P.info? f.type).isSome) = true := by
            unfold kindT at hk
            cases ha : assoc C.tab T with
            | none => rw [ha] at hk; cases hk
            | some ti =>
              obtain ⟨i', d', z', h1', h2', _, _, _, _, _, _, h9, _⟩ := hC.tab T ti ha
              rw [hu] at h2'; cases h2'
              exact h9 fields rfl
          obtain ⟨places, hp1, hp2⟩ := places_ok hinfo
          refine run (place := (places.toArray[·]?)) (fun i off n hpl hn => ?_) (fun cells' hf => ?_)
          · unfold placeT at hpl
            rw [hk] at hpl
            simp only at hpl
            split at hpl
            · rename_i off' ft hft
              simp only [Option.some.injEq, Prod.mk.injEq] at hpl
              obtain ⟨rfl, rfl⟩ := hpl
              rw [List.getElem?_map] at hft
              cases hfi : fields.toList[i]? with
              | none => rw [hfi] at hft; cases hft
              | some f =>
                rw [hfi] at hft
                simp only [Option.map_some, Option.some.injEq, Prod.mk.injEq] at hft
                obtain ⟨rfl, rfl⟩ := hft
                obtain ⟨inf3, hinf3, hpl3⟩ := hp2 i f (by simpa using hfi)
                obtain ⟨inf4, _, hinf4, _, hsz4, _⟩ := infoT_ok hC hn
                rw [hinf3] at hinf4; cases hinf4
                simpa [hsz4] using hpl3
            · cases hpl
          · unfold Program.built
            rw [hi, hu]
            simp only [hiz, hp1]
            exact hf
        | arr n e =>
          rw [hk] at hd
          obtain rfl := kind_arr hd
          by_cases hse : sizeT C e = 0
          · have := hall.2.2
            unfold arrOk at this
            rw [hk] at this
            simp [hse] at this
          · obtain ⟨inf4, _, hinf4, _, hsz4, _⟩ := infoT_ok hC hse
            refine run (place := fun i => some (i * inf4.size, inf4.size)) (fun i off n hpl hn => ?_) (fun cells' hf => ?_)
            · unfold placeT at hpl
              rw [hk] at hpl
              simp only [Option.some.injEq, Prod.mk.injEq] at hpl
              rw [hsz4, hpl.1, hpl.2]
            · unfold Program.built
              rw [hi, hu]
              simp only [hiz, hinf4]
              exact hf
        | _ => have := hall.2.1; unfold aggT at this; rw [hk] at this; simp [aggK] at this
      · cases h
    · cases h
  · cases h

theorem elems_ok {own : Own} {T : Nat → Prop} (hh : Handles c) (hv : Vis P own c T) {lk : Operand → D} (hlk : ∀ x, RV P c (lk x) (a.eval x)) {t : Ty} : ∀ (parts : List (Nat × Operand)) {k : Nat} {xs : List t.El}, elemsD own t k (parts.map fun p => (p.1, lk p.2)) = some xs →
    (parts.map fun p => (p.1, a.eval p.2)) = ((parts.map fun p => a.eval p.2).zipIdx k).map (fun x => (x.2, x.1)) ∧ (∀ v ∈ (parts.map fun p => a.eval p.2), v.cells.size = t.size) ∧ RdL P t T c.w xs ((parts.map fun p => a.eval p.2).flatMap fun v => v.cells.toList) ∧ xs.length = parts.length
  | [], k, xs, h => by
    simp only [List.map_nil, elemsD, Option.some.injEq] at h
    subst h
    exact ⟨rfl, fun v hv => by simp at hv, rfl, rfl⟩
  | (i, x) :: r, k, xs, h => by
    simp only [List.map_cons] at h ⊢
    unfold elemsD at h
    split at h
    · rename_i hc
      split at h
      · rename_i y hy
        split at h
        · rename_i ys hys
          simp only [Option.some.injEq] at h
          subst h
          obtain ⟨h1, h2, h3, h4⟩ := elems_ok hh hv hlk r hys
          have hns := (hlk x).flat' hh hc.2
          obtain ⟨c1, c2, e, h5, h6⟩ := gather_ok hv t hy hns
          obtain rfl : c2 = [] := h6
          rw [List.append_nil] at e
          refine ⟨by rw [h1, hc.1]; simp [List.zipIdx_cons], fun v hv => ?_, ⟨(a.eval x).cells.toList, _, by rw [List.flatMap_cons], by rw [e]; exact h5, h3⟩, by simp [h4]⟩
          rcases List.mem_cons.1 hv with rfl | hv
          · rw [← h5.length, ← e]; simp
          · exact h2 v hv
        · cases h
      · cases h
    · cases h

theorem arr_elems {c : Cx} {a : Act} (hh : Handles c) {lk : Operand → D} (hlk : ∀ x, RV P c (lk x) (a.eval x)) {t : Ty} : ∀ (parts : List (Nat × Operand)) {k : Nat}, parts.map (·.1) = List.range' k parts.length →
    ((parts.map fun p => flat (lk p.2)).all fun ds => ds.all Go.Eng.leafB && decide (ds.length = t.size)) = true →
    (parts.map fun p => (p.1, a.eval p.2)) = ((parts.map fun p => a.eval p.2).zipIdx k).map (fun x => (x.2, x.1)) ∧ (∀ v ∈ (parts.map fun p => a.eval p.2), v.cells.size = t.size) ∧
    RVs P c (parts.flatMap fun p => flat (lk p.2)) ((parts.map fun p => a.eval p.2).flatMap fun v => v.cells.toList) ∧ (∀ v ∈ ((parts.map fun p => a.eval p.2).flatMap fun v => v.cells.toList), v.oneCell' = true)
  | [], k, _, _ => ⟨rfl, fun v hv => by simp at hv, rfl, fun v hv => by simp at hv⟩
  | (i, x) :: r, k, hix, hall => by
    simp only [List.map_cons, List.length_cons, List.range'_succ, List.cons.injEq] at hix
    obtain ⟨rfl, hix⟩ := hix
    simp only [List.map_cons, List.all_cons, Bool.and_eq_true, decide_eq_true_eq] at hall
    obtain ⟨⟨hl, hn⟩, hall⟩ := hall
    obtain ⟨h1, h2, h3, h4⟩ := arr_elems hh hlk r hix (by simpa using hall)
    have hf : RVs P c (flat (lk x)) (a.eval x).cells.toList := by
      have hr := hlk x
      generalize lk x = d at hl hr
      refine RV.flat hh hr ?_
      cases d <;> simp_all [flat, Go.Eng.leafB]
    refine ⟨by rw [List.map_cons, List.map_cons, h1]; simp [List.zipIdx_cons], fun v hv => ?_, ?_, fun v hv => ?_⟩
    · rcases List.mem_cons.1 hv with rfl | hv
      · have := hf.length; rw [hn] at this; simpa using this
      · exact h2 v hv
    · simp only [List.flatMap_cons, List.map_cons]
      exact hf.append h3
    · simp only [List.map_cons, List.flatMap_cons, List.mem_append] at hv
      rcases hv with hv | hv
      · exact RVs.leafB hh hf hl v hv
      · exact h4 v hv

theorem owed_buildSlice (hC : CfgOk P C B w0) (hm : Mem P B w0 S0 c) {lk : Operand → D} (hlk : ∀ x, RV P c (lk x) (a.eval x)) {T : TypeId} {len : Nat} {parts : Array (Nat × Operand)} {nxt : Nat} (ho : o.op = .buildSlice T len parts) {g : Bool} {r : Res}
    (h : stepF C lk c.own nxt o g = some r) (hf : r.nxt = nxt ∨ lookO c.own nxt = .gone) : Owed P B w0 S0 c a o r := by
  unfold stepF at h
  rw [ho] at h
  simp only at h
  split at h
  · rename_i e hk
    obtain ⟨_, d, _, _, hu, _, _, _, _, hd⟩ := tabOk hC hk (by simp)
    have hu := (kind_sl hd) ▸ hu
    split at h
    · rename_i t ht
      split at h
      · rename_i hc
        obtain ⟨hsz, hz, hlen, hbig⟩ := hc
        obtain ⟨inf, z, hi, hiz, his, _, hzs⟩ := infoT_ok hC (T := e) (by omega)
        -- the run
        have run0 : (parts.toList.map fun p => (p.1, a.eval p.2)) = ((parts.toList.map fun p => a.eval p.2).zipIdx 0).map (fun x => (x.2, x.1)) → (∀ v ∈ (parts.toList.map fun p => a.eval p.2), v.cells.size = t.size) →
            (execOp a.eval o).run P c.w = .ok (.value (.slice (some ⟨c.w.heap.size, 0, none⟩) len len)) (c.w.alloc (.cells ((parts.toList.map fun p => a.eval p.2).flatMap fun v => v.cells.toList).toArray e)) := by
          intro h1 h2
          have hpl : (parts.toList.map fun p => a.eval p.2).length = len := by simpa using hlen
          have e1 : (parts.map fun x => match x with | (i, x) => (i, a.eval x)).toList = parts.toList.map fun p => (p.1, a.eval p.2) := by simp
          unfold execOp
          rw [ho]
          simp only [Instr.buildSlice, underlying, Sem.run_bind, run_program, Sem.run_pure, Result.andThen_ok, hu, run_sizeOf' hC (show sizeT C e ≠ 0 by omega)]
          rw [← hsz, if_neg (by omega)]
          have fill : ∀ cells : Array Value, cells.size = len * t.size → Instr.fill (fun i => some (i * t.size, t.size)) cells (parts.map fun x => match x with | (i, x) => (i, a.eval x)).toList = some ((parts.toList.map fun p => a.eval p.2).flatMap fun v => v.cells.toList).toArray := by
            intro cells hcs
            rw [e1, h1]
            exact Great.fill_whole hz _ cells h2 (by rw [hpl]; exact hcs.symm)
          by_cases h0 : len * t.size = 0
          · simp only [h0, if_true, Sem.run_pure, Sem.run_bind, Result.andThen_ok]
            rw [fill _ (by simp [h0])]
            simp only [newRow, Sem.run_bind, run_newObj, Result.andThen_ok, Sem.run_pure, World.alloc_eq]
          · simp only [h0, if_false, Sem.run_pure, Sem.run_bind, Result.andThen_ok, zeroValue, typeInfo, run_program, hi, hiz]
            rw [fill _ (by simp)]
            simp only [newRow, Sem.run_bind, run_newObj, Result.andThen_ok, Sem.run_pure, World.alloc_eq]
        have run : ∀ {own : Own} {S : Nat → Prop} {c1 : Cx} {xs : List t.El}, Handles c1 → c1.w = c.w → Vis P own c1 S → (∀ x, RV P c1 (lk x) (a.eval x)) → elemsD own t 0 (parts.toList.map fun p => (p.1, lk p.2)) = some xs →
            ∃ cs, RdL P t S c.w xs cs ∧ xs.length = len ∧ (execOp a.eval o).run P c.w = .ok (.value (.slice (some ⟨c.w.heap.size, 0, none⟩) len len)) (c.w.alloc (.cells cs.toArray e)) := by
          intro own S c1 xs hh hw hv hlk1 hx
          obtain ⟨h1, h2, h3, h4⟩ := elems_ok hh hv hlk1 parts.toList hx
          rw [hw] at h3
          refine ⟨_, h3, by rw [h4]; simpa using hlen, ?_⟩
          exact run0 h1 h2
        have hml : len ≤ maxLen := by
          have : len ≤ len * t.size := Nat.le_mul_of_pos_right len hz
          simp only [maxLen]; omega
        split at h
        · split at h
          · rename_i harr
            obtain ⟨hgd, hix, hall⟩ := harr
            obtain rfl := Option.some.inj h
            have hgone : lookO c.own nxt = .gone := hf.resolve_left (by simp)
            obtain ⟨q1, q2, q3, q4⟩ := arr_elems hm.one hlk parts.toList (k := 0) (t := t) (by rw [hix]; simp [← hlen, List.range_eq_range']) hall
            have h3 := run0 q1 q2
            obtain ⟨hm2, hg2⟩ := hm.newVar (k := nxt) (ty := e) hgone q3 q4
            intro K Q hK
            unfold Oper.wp
            rw [h3, Oper.upon_value]
            refine hK _ _ hm2 hg2 (Fr.newBlock (by intro g hg; simp [blkOf] at hg; omega)) (by simp [Cx.add]) ?_ (fun p hp => by cases hp)
            simp only [RV, lookO_add, if_pos]
            exact ⟨_, by simp [Cx.add], rfl⟩
          · cases h
        · split at h
          · split at h
            · rename_i xs hx
              obtain rfl := Option.some.inj h
              obtain ⟨cs, h1, h2, h3⟩ := run hm.one rfl (Vis.stay hm) hlk hx
              obtain ⟨hm1, hg1⟩ := hm.grow (w' := c.w.alloc (.cells cs.toArray e)) ((Below.refl _ _).alloc (Nat.le_refl _) _) (fun k => k = c.w.heap.size) (fun k hk => by subst hk; exact ⟨Nat.le_refl _, by simp⟩)
              intro K Q hK
              unfold Oper.wp
              rw [h3, Oper.upon_value]
              refine hK _ _ hm1 hg1 (Fr.grow ((Below.refl _ _).alloc (Nat.le_refl _) _) _ fun k hk => by subst hk; exact Nat.le_refl _) rfl ⟨[_], ?_, by simp [vOf, Ty.isAgg]; rfl⟩ (fun p hp => by cases hp)
              have hrl := h1.mono hg1.stays
              refine row_reads (base := B) (e := e) (c := { c with S := fun b => c.S b ∨ b = c.w.heap.size, w := c.w.alloc (.cells cs.toArray e) }) (cs := cs) ⟨hrl.length, .inr ⟨c.w.heap.size, len, cs.toArray, by rw [h2], hm.base, heap_alloc_new c.w _, by omega, hml, by simp [h1.length, h2], ?_⟩⟩ hrl (fun b h => h) (fun b hb => ?_)
              · rw [← h1.length]; simp
              · simp only [Value.ownBlock, Option.some.injEq] at hb
                exact .inr hb.symm
            · cases h
          · split at h
            · rename_i xs hx
              obtain rfl := Option.some.inj h
              have hgone : lookO c.own nxt = .gone := hf.resolve_left (by simp)
              obtain ⟨c1, e1, e2, e3, hm1, hg1, hf1⟩ := hm.freeze (flats (parts.toList.map fun p => lk p.2))
              obtain ⟨cs, h1, h2, h3⟩ := run hm1.one e2 (Vis.stay hm1) (fun x => RV.goes hg1 hm.one (hlk x)) (by rw [e1]; exact hx)
              obtain ⟨hm2, hg2⟩ := hm1.newRow (k := nxt) (e := e) (t := t) (xs := xs) (cs := cs) (by rw [e1]; exact freeze_gone _ hgone) hz (by rw [e2]; exact h1) (by rw [h2]; exact hml)
              intro K Q hK
              unfold Oper.wp
              rw [h3, Oper.upon_value]
              have hK' := hK (.slice (some ⟨c.w.heap.size, 0, none⟩) len len) _ hm2 (hg1.trans hg2) (hf1.trans (Fr.newBlock (by intro g hg; simp [blkOf] at hg; omega))) (by simp [Cx.add, e1]) (by
                have := RV.at_row (P := P) (c := Cx.add { c1 with w := c1.w.alloc (.cells cs.toArray e) } nxt (.row e t xs) (.slice (some ⟨c1.w.heap.size, 0, none⟩) xs.length xs.length)) (k := nxt) (e := e) (t := t) (xs := xs) (by rw [lookO_add, if_pos rfl])
                simpa [Cx.add, e2, h2] using this) (fun p hp => by cases hp)
              simpa [Cx.add, e2] using hK'
            · cases h
      · cases h
    · cases h
  · cases h

end
end Go.Eng
namespace Go.Eng
open Go.RowKit

variable {P : Program} {C : Cfg} {B : Nat} {w0 : World}

theorem repl_get (z : List Value) : ∀ (m j : Nat), ((List.replicate m z).flatten)[j]? = if j < m * z.length then z[j % z.length]? else none
  | 0, j => by simp
  | m + 1, j => by
    rw [List.replicate_succ, List.flatten_cons, List.getElem?_append]
    by_cases h : j < z.length
    · rw [if_pos h, Nat.mod_eq_of_lt h, if_pos]
      rw [Nat.succ_mul]; omega
    · rw [if_neg h, repl_get z m (j - z.length), Nat.mod_eq_sub_mod (by omega : j ≥ z.length)]
      have : (j - z.length < m * z.length) ↔ j < (m + 1) * z.length := by rw [Nat.succ_mul]; omega
      simp only [this]
theorem made_take (z : Array Value) (n m : Nat) (hnm : n ≤ m) : (madeCells z (m * z.size)).toList.take (n * z.size) = (List.replicate n z.toList).flatten := by
  apply List.ext_getElem?
  intro j
  have hle : n * z.size ≤ m * z.size := Nat.mul_le_mul_right _ hnm
  rw [List.getElem?_take, repl_get]
  have hl : z.toList.length = z.size := by simp
  rw [hl]
  by_cases h : j < n * z.size
  · rw [if_pos h, if_pos h]
    have hs : 0 < z.size := by
      rcases Nat.eq_zero_or_pos z.size with h0 | h0
      · rw [h0] at h; simp at h
      · exact h0
    have hm : j % z.size < z.size := Nat.mod_lt _ hs
    have h2 : j < m * z.size := by omega
    simp only [madeCells, Array.getElem?_toList]
    rw [Array.getElem?_map]
    have : (Array.range (m * z.size))[j]? = some j := by simp [h2]
    rw [this]
    simp [hm]
  · rw [if_neg h, if_neg h]
theorem RdL.repl {t : Ty} {S : Nat → Prop} {w : World} {x : t.El} {cs : List Value} (h : RdC P t S w x cs) : ∀ n, RdL P t S w (List.replicate n x) ((List.replicate n cs).flatten)
  | 0 => rfl
  | n + 1 => by
    rw [List.replicate_succ, List.replicate_succ, List.flatten_cons]
    exact ⟨cs, _, rfl, h, RdL.repl h n⟩

section
variable {B : Nat} {w0 : World} {S0 : Nat → Prop} {c : Cx} {a : Act} {o : Oper}

theorem Vis.none' (c : Cx) : Vis P [] c c.S := ⟨fun _ h => h, fun o e t xs h => (by cases h), fun o t xs h => (by cases h), fun o ty ds h => (by cases h), fun o ty ds h => (by cases h)⟩

theorem owed_makeSlice (hC : CfgOk P C B w0) (hm : Mem P B w0 S0 c) {lk : Operand → D} (hlk : ∀ x, RV P c (lk x) (a.eval x)) {T : TypeId} {x y : Operand} {nxt : Nat} (ho : o.op = .makeSlice T x y) {g : Bool} {r : Res}
    (h : stepF C lk c.own nxt o g = some r) (hs : ∀ p ∈ r.side, p) (hf : r.nxt = nxt ∨ lookO c.own nxt = .gone) : Owed P B w0 S0 c a o r := by
  unfold stepF at h
  rw [ho] at h
  simp only at h
  split at h
  · rename_i x1 x2 x3 kn n km m e h1 h2 hk
    obtain ⟨_, d, _, _, hu, _, _, _, _, hd⟩ := tabOk hC hk (by simp)
    have hu := (kind_sl hd) ▸ hu
    split at h
    · rename_i t ds ht hz
      split at h
      · rename_i hc
        obtain ⟨hsz, hpos, hall⟩ := hc
        split at h
        · rename_i z0 hga
          obtain ⟨i, z, hi, hiz, rfl, his⟩ := zeroT_ok hC hz
          obtain ⟨i', z', hi', hiz', _, hib, hzs⟩ := infoT_ok hC (T := e) (by omega)
          obtain rfl := Option.some.inj (hi.symm.trans hi')
          obtain rfl := Option.some.inj (hiz.symm.trans hiz')
          obtain ⟨hrs, hone⟩ := constDs_ok (P := P) (c := c) _ hall
          obtain ⟨c1, c2, hcs, hrd, hr2⟩ := gather_ok (Vis.none' c) t hga hrs
          obtain rfl : c2 = [] := hr2
          rw [List.append_nil] at hcs
          subst hcs
          have sides : 0 ≤ n → n ≤ m → (bytesT C e : Int) * m ≤ 281474976710656 → m ≤ 9223372036854775807 → (execOp a.eval o).run P c.w = .ok (.value (.slice (some ⟨c.w.heap.size, 0, none⟩) n.toNat m.toNat)) (c.w.alloc (.cells (madeCells z.cells (m.toNat * i.size)) e)) := by
            intro g1 g2 g3 g4
            unfold execOp
            rw [ho]
            have e1 := int_ok (hlk x) h1
            have e2 := int_ok (hlk y) h2
            simp only [e1, e2, Sem.run_bind, run_make c.w T e i z hu hi hiz kn km n m g1 g2 (by rw [hib]; exact g3) g4, Result.andThen_ok, Sem.run_pure]
          have hown : ∀ {n m : Int}, 0 ≤ n → n ≤ m → m ≤ 9223372036854775807 → ∀ base, base ≤ c.w.heap.size → (c.w.alloc (.cells (madeCells z.cells (m.toNat * i.size)) e)).ownsRow base e t.size (.slice (some ⟨c.w.heap.size, 0, none⟩) n.toNat m.toNat) n.toNat ((List.replicate n.toNat z.cells.toList).flatten) := by
            intro n m g1 g2 g4 base hbase
            have hts : t.size = z.cells.size := by rw [hsz, hzs, his]
            refine ⟨by simp [hts], .inr ⟨c.w.heap.size, m.toNat, _, rfl, hbase, heap_alloc_new c.w _, by omega, by simp only [maxLen]; omega, by rw [size_madeCells, his, hsz], ?_⟩⟩
            have := made_take z.cells n.toNat m.toNat (by omega)
            rw [hts, ← hzs]; exact this
          have hb : Below c.w.heap.size c.w (c.w.alloc (.cells (madeCells z.cells (m.toNat * i.size)) e)) := (Below.refl _ _).alloc (Nat.le_refl _) _
          split at h
          · obtain rfl := Option.some.inj h
            have g1 : 0 ≤ n := hs (cn (0 ≤ n)) (by simp)
            have g2 : n ≤ m := hs (cn (n ≤ m)) (by simp)
            have g3 : (bytesT C e : Int) * m ≤ 281474976710656 := hs (cn ((bytesT C e : Int) * m ≤ 281474976710656)) (by simp)
            have g4 : m ≤ 9223372036854775807 := hs (cn (m ≤ 9223372036854775807)) (by simp)
            obtain ⟨hm1, hg1⟩ := hm.grow hb (fun k => k = c.w.heap.size) (fun k hk => by subst hk; exact ⟨Nat.le_refl _, by simp⟩)
            intro K Q hK
            unfold Oper.wp
            rw [sides g1 g2 g3 g4, Oper.upon_value]
            refine hK _ _ hm1 hg1 (Fr.grow hb _ fun k hk => by subst hk; exact Nat.le_refl _) rfl ⟨[_], ?_, by simp [vOf, Ty.isAgg]; rfl⟩ (fun p hp => by cases hp)
            have hrl := (RdL.repl hrd n.toNat).mono hg1.stays
            refine row_reads (base := B) (e := e) (c := { c with S := fun b => c.S b ∨ b = c.w.heap.size, w := c.w.alloc (.cells (madeCells z.cells (m.toNat * i.size)) e) }) (cs := (List.replicate n.toNat z.cells.toList).flatten) ?_ hrl (fun b h => h) (fun b hb => ?_)
            · rw [List.length_replicate]; exact hown g1 g2 g4 B hm.base
            · simp only [Value.ownBlock, Option.some.injEq] at hb
              exact .inr hb.symm
          · obtain rfl := Option.some.inj h
            have g1 : 0 ≤ n := hs (cn (0 ≤ n)) (by simp)
            have g2 : n ≤ m := hs (cn (n ≤ m)) (by simp)
            have g3 : (bytesT C e : Int) * m ≤ 281474976710656 := hs (cn ((bytesT C e : Int) * m ≤ 281474976710656)) (by simp)
            have g4 : m ≤ 9223372036854775807 := hs (cn (m ≤ 9223372036854775807)) (by simp)
            have hgone : lookO c.own nxt = .gone := hf.resolve_left (by simp)
            obtain ⟨hm1, hg1⟩ := hm.grow hb (fun _ => False) (fun b h => h.elim)
            simp only [S_false] at hm1 hg1
            obtain ⟨hm2, hg2⟩ := hm1.addRow (k := nxt) (e := e) (t := t) (xs := List.replicate n.toNat z0) (v := .slice (some ⟨c.w.heap.size, 0, none⟩) n.toNat m.toNat) (cs := (List.replicate n.toNat z.cells.toList).flatten) hgone hpos rfl
              (by rw [List.length_replicate]; exact hown g1 g2 g4 B hm.base) ((RdL.repl hrd n.toNat).mono hg1.stays)
              (fun b hb hS => by cases hb; exact absurd (hm.bound _ hS) (Nat.lt_irrefl _))
              (fun j b hb hj => by cases hb; exact absurd (hm.blk_lt j _ hj) (Nat.lt_irrefl _))
            intro K Q hK
            unfold Oper.wp
            rw [sides g1 g2 g3 g4, Oper.upon_value]
            refine hK _ _ hm2 (hg1.trans hg2) (Fr.newBlock (by intro g hg; simp [blkOf] at hg; omega)) (by simp [Cx.add]) ?_ (fun p hp => by cases hp)
            have := RV.at_row (P := P) (c := Cx.add { c with w := c.w.alloc (.cells (madeCells z.cells (m.toNat * i.size)) e) } nxt (.row e t (List.replicate n.toNat z0)) (.slice (some ⟨c.w.heap.size, 0, none⟩) n.toNat m.toNat)) (k := nxt) (e := e) (t := t) (xs := List.replicate n.toNat z0) (by rw [lookO_add, if_pos rfl])
            simpa [Cx.add] using this
        · cases h
      · cases h
    · cases h
  · cases h

end
end Go.Eng
namespace Go.Eng
open Go.RowKit

variable {P : Program} {C : Cfg} {B : Nat} {w0 : World}
section
variable {B : Nat} {w0 : World} {S0 : Nat → Prop} {c : Cx} {a : Act} {o : Oper}

theorem kind_mp {d : TypeDesc} {k e : TypeId} (h : kindOf d = .mp k e) : d = .map k e := by cases d <;> simp_all [kindOf]

theorem datum_ok {own : Own} {T : Nat → Prop} (hv : Vis P own c T) (hh : Handles c) {t : Ty} {d : D} {x : t.El} (h : datum own t d = some x) {v : Value} (hr : RV P c d v) : ∃ cs, RdC P t T c.w x cs ∧ v = vOf t cs := by
  unfold datum at h
  split at h
  · rename_i hf
    split at h
    · rename_i y hg
      cases h
      obtain ⟨k1, k2, k3⟩ := fits_ok (.cons t .unit) hh hf (⟨v, [], rfl, hr, rfl⟩ : RVs P c [d] [v])
      obtain ⟨c1, c2, e, r1, r2⟩ := gather_ok hv t hg (by simpa [flats] using k1 : RVs P c (flat d) v.cells.toList)
      obtain rfl : c2 = [] := r2
      rw [List.append_nil] at e
      refine ⟨c1, r1, ?_⟩
      have k3' : group (.cons t .unit) c1 = [v] := by rw [← k3, ← e]; simp
      unfold group at k3'
      rw [← r1.length, List.take_length] at k3'
      exact (List.cons.inj k3').1.symm
    · cases h
  · cases h

theorem zeroD_ok (hC : CfgOk P C B w0) (c : Cx) {e : TypeId} {t : Ty} {x : t.El} (h : zeroD C e t = some x) : ∃ z, (∀ w, (zeroValue e).run P w = .ok z w) ∧ ∃ cs, RdC P t c.S c.w x cs ∧ z = vOf t cs := by
  unfold zeroD at h
  split at h
  · rename_i ds hz
    split at h
    · rename_i hc
      obtain ⟨hsz, hpos, hall, hagg⟩ := hc
      split at h
      · rename_i y hga
        cases h
        obtain ⟨i, z, hi, hiz, rfl, his⟩ := zeroT_ok hC hz
        obtain ⟨hrs, hone⟩ := constDs_ok (P := P) (c := c) _ hall
        obtain ⟨c1, c2, hcs, hrd, hr2⟩ := gather_ok (Vis.none' c) t hga hrs
        obtain rfl : c2 = [] := hr2
        rw [List.append_nil] at hcs
        subst hcs
        refine ⟨z, fun w => ?_, _, hrd, ?_⟩
        · simp only [zeroValue, typeInfo, Sem.run_bind, run_program, Sem.run_pure, Result.andThen_ok, hi, hiz]
        · unfold zeroT at hz
          unfold aggT kindT at hagg
          cases ha : assoc C.tab e with
          | none => rw [ha] at hz; cases hz
          | some ti =>
            obtain ⟨i', _, z', h1, _, _, _, h5, _, _, _, _, h10⟩ := hC.tab e ti ha
            obtain rfl := Option.some.inj (hi.symm.trans h1)
            obtain rfl := Option.some.inj (hiz.symm.trans h5)
            rw [ha] at hagg
            unfold shapeOk at h10
            rw [hagg] at h10
            cases hg : t.isAgg with
            | true =>
              rw [hg] at h10
              simp only at h10
              split at h10
              · simp [vOf, hg, Value.cells]
              · cases h10
            | false =>
              rw [hg] at h10
              have h10 : z.oneCell' = true := h10
              have : z.cells.toList = [z] := by cases z <;> first | rfl | cases h10
              rw [this]; simp [vOf, hg]
      · cases h
    · cases h
  · cases h

theorem lit_int_wf {q : IntKind} {n : Int} (h : q.wrap n = n) : (Lit.int q n).wf = true := by
  have := Go.wf_wrap q n
  rwa [h] at this

theorem key_deep {k : TypeId} {t u : Ty} (h : keyTB P k (.cons t u) = true) : Maps.Keyed P k ∧ (∀ (S : Nat → Prop) (w : World) (x : (Ty.cons t u).El) (cs : List Value), RdC P (.cons t u) S w x cs → ∃ l, litOf (.cons t u) x = some l ∧ keyOf P k (vOf (.cons t u) cs) = some l ∧ WideAt.IsKeyLit l) ∧
    (∀ x y l, litOf (.cons t u) x = some l → litOf (.cons t u) y = some l → x = y) ∧ ∀ x y, (Ty.cons t u).eqb x y = true ↔ x = y := by
  obtain ⟨h1, _, h3, h4⟩ := keyTB_ok h
  refine ⟨h3, fun S w x cs hr => ⟨_, ?_, h4 S w x cs hr, trivial⟩, fun x y l hx hy => ?_, fun x y => eqb_iff _ h1 x y⟩
  · simp only [litOf, litWf_of hr, cond_true]
  · simp only [litOf] at hx hy
    cases wx : litWf (.cons t u) x with
    | false => rw [wx] at hx; cases hx
    | true =>
      cases wy : litWf (.cons t u) y with
      | false => rw [wy] at hy; cases hy
      | true =>
        rw [wx] at hx
        rw [wy] at hy
        simp only [cond_true, Option.some.injEq] at hx hy
        have e : keyBytes (lits (.cons t u) x) = keyBytes (lits (.cons t u) y) := by
          have := hx.trans hy.symm
          injection this
        exact lits_inj _ h1 _ _ (keyBytes_inj (lits_alike _ x y) (lits_wf _ x wx) (lits_wf _ y wy) e)

theorem key_ok (hC : CfgOk P C B w0) {k : TypeId} {kt : Ty} (hk : keyK C k kt = true) : Maps.Keyed P k ∧ (∀ (S : Nat → Prop) (w : World) (x : kt.El) (cs : List Value), RdC P kt S w x cs → ∃ l, litOf kt x = some l ∧ keyOf P k (vOf kt cs) = some l ∧ WideAt.IsKeyLit l) ∧
    (∀ x y l, litOf kt x = some l → litOf kt y = some l → x = y) ∧ ∀ x y, kt.eqb x y = true ↔ x = y := by
  unfold keyK at hk
  split at hk
  · rename_i x1 q q' hkk
    obtain rfl : q = q' := by simpa using hk
    obtain ⟨_, d, _, _, hu, _, _, _, _, hd⟩ := tabOk hC hkk (by simp)
    have hu := (kind_int hd) ▸ hu
    refine ⟨Maps.int_keyed hu, fun S w x cs h => ?_, fun x y l h1 h2 => ?_, fun x y => by simp [Ty.eqb]⟩
    · obtain ⟨rfl, hw⟩ := h
      exact ⟨_, rfl, by simpa [vOf, Ty.isAgg] using Maps.keyOf_int_mk hu (lit_int_wf hw), trivial⟩
    · simp only [litOf, Option.some.injEq] at h1 h2
      subst h1
      injection h2 with _ h2
      exact h2.symm
  · rename_i x1 hkk
    obtain ⟨_, d, _, _, hu, _, _, _, _, hd⟩ := tabOk hC hkk (by simp)
    have hu := (kind_str hd) ▸ hu
    refine ⟨Maps.string_keyed hu, fun S w x cs h => ?_, fun x y l h1 h2 => ?_, fun x y => by simp [Ty.eqb]⟩
    · obtain ⟨rfl, hw⟩ := h
      exact ⟨_, rfl, by simp [vOf, Ty.isAgg, keyOf, hu, mapKey, hw], trivial⟩
    · simp only [litOf, Option.some.injEq] at h1 h2
      subst h1
      injection h2 with h2
      have h3 : ByteArray.data y = ByteArray.data x := Array.toList_inj.1 h2
      cases x; cases y; simp only at h3; rw [h3]
  · rename_i x1 hkk
    obtain ⟨_, d, _, _, hu, _, _, _, _, hd⟩ := tabOk hC hkk (by simp)
    have hu := (kind_bool hd) ▸ hu
    refine ⟨Maps.bool_keyed hu, fun S w x cs h => ?_, fun x y l h1 h2 => ?_, fun x y => by simp [Ty.eqb]⟩
    · obtain rfl := (show cs = _ from h)
      exact ⟨_, rfl, by simpa [vOf, Ty.isAgg] using Maps.keyOf_bool_mk hu x, trivial⟩
    · simp only [litOf, Option.some.injEq] at h1 h2
      subst h1
      injection h2 with h2
      exact h2.symm
  all_goals first
    | (cases hk; done)
    | (rename_i x1 x2 t u hkk
       simp only [Bool.and_eq_true, decide_eq_true_eq, List.contains_iff_mem] at hk
       exact key_deep (hC.keys k hk.1 _ hk.2))

theorem Mem.turn (hm : Mem P B w0 S0 c) {k b : Nat} {nb : Blk} {w' : World} (hb : blkOf (lookO c.own k) (c.ρ k) = some b) (hb' : blkOf nb (c.ρ k) = some b) (hg : c.w.grownBy w' (some b))
    (ht : Turns (lookO c.own k) nb (c.ρ k) (c.ρ k)) (hok : Goes c (Cx.add { c with w := w' } k nb (c.ρ k)) → BlkOk P B (Cx.add { c with w := w' } k nb (c.ρ k)) k) (hnk : notB nb = true := by rfl) :
    Mem P B w0 S0 (Cx.add { c with w := w' } k nb (c.ρ k)) ∧ Goes c (Cx.add { c with w := w' } k nb (c.ρ k)) ∧ Fr c (Cx.add { c with w := w' } k nb (c.ρ k)) := by
  obtain ⟨hnS, hB⟩ := (hm.ok k).notS (ht.notB hnk) hb
  have hlt := hm.blk_lt k b hb
  have hoth : ∀ g, g < c.w.heap.size → g ≠ b → w'.heap[g]? = c.w.heap[g]? := fun g hg' hne => hg.block g hg' (fun e => hne (Option.some.inj e))
  have hlo : ∀ j, lookO (Cx.add { c with w := w' } k nb (c.ρ k)).own j = if j = k then nb else lookO c.own j := lookO_add { c with w := w' } k nb (c.ρ k)
  have hρ : ∀ j, (Cx.add { c with w := w' } k nb (c.ρ k)).ρ j = c.ρ j := by
    intro j; simp only [Cx.add]; split
    · rename_i e; rw [e]
    · rfl
  have hgo : Goes c (Cx.add { c with w := w' } k nb (c.ρ k)) := ⟨fun g hgS => ⟨hgS, hoth g (hm.bound g hgS) (fun e => hnS (e ▸ hgS))⟩, fun j => by
    rw [hlo, hρ]
    by_cases e : j = k
    · subst e; rw [if_pos rfl]; exact ht
    · rw [if_neg e]; exact Turns.refl _ _⟩
  have f : ∀ j g, blkOf (lookO (Cx.add { c with w := w' } k nb (c.ρ k)).own j) ((Cx.add { c with w := w' } k nb (c.ρ k)).ρ j) = some g → blkOf (lookO c.own j) (c.ρ j) = some g := by
    intro j g hj
    rw [hlo, hρ] at hj
    by_cases e : j = k
    · subst e; rw [if_pos rfl, hb'] at hj; rw [hb]; exact hj
    · rwa [if_neg e] at hj
  refine ⟨⟨fun j => ?_, fun j j' g hne hj hj' => hm.apart j j' g hne (f j g hj) (f j' g hj'), fun g hgS => Nat.lt_of_lt_of_le (hm.bound g hgS) hg.size, hm.from_, hm.to_, ?_, Nat.le_trans hm.base hg.size, fun j => by rw [hρ]; exact hm.one j, hm.frm hgo⟩, hgo, ⟨hg.size, fun g hlt' ho => ⟨hoth g hlt' (fun e => ho k (by rw [e]; exact hb)), id, fun j hj => ho j (f j g hj)⟩⟩⟩
  · by_cases e : j = k
    · subst e; exact hok hgo
    · refine (hm.ok j).keep hgo hm.one (by rw [hlo, if_neg e]) (hρ j) fun g hg' => ⟨hoth g (hm.blk_lt j g hg') (fun e' => hm.apart j k b e (e' ▸ hg') hb), id⟩
  · exact hm.below.grown hg hm.base fun g e => by cases e; exact hB

theorem owed_makeMap (hC : CfgOk P C B w0) (hm : Mem P B w0 S0 c) {lk : Operand → D} {T : TypeId} {nxt : Nat} (ho : o.op = .makeMap T none) {g : Bool} {r : Res}
    (h : stepF C lk c.own nxt o g = some r) (hf : r.nxt = nxt ∨ lookO c.own nxt = .gone) : Owed P B w0 S0 c a o r := by
  unfold stepF at h
  rw [ho] at h
  simp only at h
  split at h
  · cases h
  split at h
  · rename_i k e hk
    obtain ⟨_, d, _, _, hu, _, _, _, _, hd⟩ := tabOk hC hk (by simp)
    have hu := (kind_mp hd) ▸ hu
    split at h
    · rename_i kt vt h1 h2
      obtain rfl := Option.some.inj h
      have hgone : lookO c.own nxt = .gone := hf.resolve_left (by simp)
      obtain ⟨hm1, hg1⟩ := hm.block (.map #[] 0)
      have ht : Turns (lookO c.own nxt) (.map T kt vt 0 fun _ => none) (c.ρ nxt) (.map (some c.w.heap.size)) := by rw [hgone]; trivial
      have hg2 := Goes.add (c := { c with w := c.w.alloc (.map #[] 0) }) (o := nxt) (b := .map T kt vt 0 fun _ => none) (v := .map (some c.w.heap.size)) ht
      have hm2 := hm1.add (o := nxt) (b := .map T kt vt 0 fun _ => none) (v := .map (some c.w.heap.size)) ht rfl (by
        unfold BlkOk
        rw [lookO_add, if_pos rfl]
        refine ⟨c.w.heap.size, .map [], k, e, by simp [Cx.add], hu, World.ownsMap_made c.w P k heldElem, fun x l hl => ⟨rfl, fun y hy => by cases hy⟩, hm.base, fun hs => absurd (hm.bound _ hs) (Nat.lt_irrefl _)⟩) (fun j g hj hg hj' => by
        simp [blkOf] at hg
        subst hg
        exact absurd (hm.blk_lt j _ hj') (Nat.lt_irrefl _))
      intro K Q hK
      unfold Oper.wp execOp
      rw [ho]
      simp only [Option.map_none, Sem.run_bind, run_makeMap, Result.andThen_ok, Sem.run_pure, Oper.upon_value]
      refine hK _ _ hm2 (hg1.trans hg2) (Fr.newBlock (by intro g hg; simp [blkOf] at hg; omega)) (by simp [Cx.add]) ?_ (fun p hp => by cases hp)
      simp only [RV, lookO_add, if_true]
      simp [Cx.add]
    · cases h
  · cases h

theorem owed_lookup (hC : CfgOk P C B w0) (hm : Mem P B w0 S0 c) {lk : Operand → D} (hlk : ∀ x, RV P c (lk x) (a.eval x)) {T : TypeId} {m x : Operand} {ok : Bool} {nxt : Nat} (ho : o.op = .lookup T m x ok) {g : Bool} {r : Res}
    (h : stepF C lk c.own nxt o g = some r) : Owed P B w0 S0 c a o r := by
  have hmv := hlk m
  unfold stepF at h
  rw [ho] at h
  simp only at h
  split at h
  · rename_i q hq
    rw [hq] at hmv
    split at h
    · rename_i T' kt vt n f hb
      split at h
      · rename_i hT
        subst hT
        split at h
        · rename_i k e hk
          obtain ⟨_, d, _, _, hu, _, _, _, _, hd⟩ := tabOk hC hk (by simp)
          have hu := (kind_mp hd) ▸ hu
          split at h
          · rename_i hkey
            split at h
            · rename_i kx z hx hz
              obtain rfl := Option.some.inj h
              simp only [RV, hb] at hmv
              have hbk := hm.ok q
              unfold BlkOk at hbk
              simp only [hb] at hbk
              obtain ⟨b, D, k', e', hρ, hu', hown, hmap, _, _⟩ := hbk
              obtain ⟨rfl, rfl⟩ : k = k' ∧ e = e' := by
                have := hu.symm.trans hu'
                simp only [Option.some.injEq, TypeDesc.map.injEq] at this
                exact this
              obtain ⟨K, hkr, hinj, _⟩ := key_ok hC hkey
              obtain ⟨kcs, hkrd, hkv⟩ := datum_ok (Vis.all hm) hm.one hx (hlk x)
              obtain ⟨l, hl, hkl, hkk⟩ := hkr _ _ _ _ hkrd
              obtain ⟨zv, hzrun, zcs, hzrd, hzv⟩ := zeroD_ok hC c hz
              obtain ⟨hhas, hval⟩ := hmap kx l hl
              -- what is found
              have found : ∀ v, heldElem v = some (D.atKey l (.held zv), ([] : List MemPlace)) → RV P c (.dat vt ((f kx).getD z)) v := by
                intro v hv
                have hv : (.held v : DataW Value) = D.atKey l (.held zv) := by
                  simp only [heldElem, Option.some.injEq, Prod.mk.injEq, and_true] at hv
                  exact hv
                cases hf : f kx with
                | none =>
                  rw [hf] at hhas
                  have hno : D.atKey l (.held zv) = .held zv := Maps.atKey_of_not_has hhas _
                  rw [hno] at hv
                  injection hv with hv
                  exact ⟨zcs, hzrd, by rw [hv, hzv]⟩
                | some y =>
                  obtain ⟨cs, h1, h2⟩ := hval y hf
                  rw [h2] at hv
                  injection hv with hv
                  exact ⟨cs, h1, hv⟩
              have hz0 := hzrun c.w
              cases ok with
              | false =>
                obtain ⟨v, ps, hrun, hv⟩ := hown.lookup K hu hz0 (zd := .held zv) (zp := []) rfl (key := a.eval x) (kl := l) (by rw [hkv]; exact hkl)
                obtain rfl : ps = [] := by simp only [heldElem, Option.some.injEq, Prod.mk.injEq] at hv; exact hv.2.symm
                refine owed_same hm (v := v) ?_ (found v hv)
                unfold execOp
                rw [ho]
                simp only [hmv, hρ, Sem.run_bind, hrun, Result.andThen_ok, Sem.run_pure]
              | true =>
                obtain ⟨v, ps, hrun, hv⟩ := hown.look_ok K hu hz0 (zd := .held zv) (zp := []) rfl (key := a.eval x) (kl := l) (by rw [hkv]; exact hkl)
                obtain rfl : ps = [] := by simp only [heldElem, Option.some.injEq, Prod.mk.injEq] at hv; exact hv.2.symm
                refine owed_same hm (v := .tuple #[v, .bool (Maps.has D l)]) ?_ ?_
                · unfold execOp
                  rw [ho]
                  simp only [hmv, hρ, Sem.run_bind, hrun, Result.andThen_ok, Sem.run_pure]
                · refine ⟨[v, .bool (Maps.has D l)], rfl, v, _, rfl, found v hv, _, _, rfl, ?_, rfl⟩
                  rw [hhas]; exact .of_bool _
            · cases h
          · cases h
        · cases h
      · cases h
    · cases h
  · cases h

theorem owed_mapUpdate (hC : CfgOk P C B w0) (hm : Mem P B w0 S0 c) {lk : Operand → D} (hlk : ∀ x, RV P c (lk x) (a.eval x)) {T : TypeId} {m x y : Operand} {nxt : Nat} (ho : o.op = .mapUpdate T m x y) {g : Bool} {r : Res}
    (h : stepF C lk c.own nxt o g = some r) (hs : ∀ p ∈ r.side, p) : Owed P B w0 S0 c a o r := by
  have hmv := hlk m
  unfold stepF at h
  rw [ho] at h
  simp only at h
  split at h
  · cases h
  split at h
  · rename_i q hq
    rw [hq] at hmv
    split at h
    · rename_i T' kt vt n f hb
      split at h
      · rename_i hT
        subst hT
        split at h
        · rename_i k e hk
          obtain ⟨_, d, _, _, hu, _, _, _, _, hd⟩ := tabOk hC hk (by simp)
          have hu := (kind_mp hd) ▸ hu
          split at h
          · rename_i hkey
            split at h
            · rename_i kx yx hx hy
              obtain rfl := Option.some.inj h
              simp only [RV, hb] at hmv
              have hbk := hm.ok q
              unfold BlkOk at hbk
              simp only [hb] at hbk
              obtain ⟨b, D, k', e', hρ, hu', hown, hmap, hB, hnS⟩ := hbk
              obtain ⟨rfl, rfl⟩ : k = k' ∧ e = e' := by
                have := hu.symm.trans hu'
                simp only [Option.some.injEq, TypeDesc.map.injEq] at this
                exact this
              obtain ⟨K, hkr, hinj, heqb⟩ := key_ok hC hkey
              obtain ⟨kcs, hkrd, hkv⟩ := datum_ok (Vis.all hm) hm.one hx (hlk x)
              obtain ⟨l, hl, hkl, hkk⟩ := hkr _ _ _ _ hkrd
              obtain ⟨ycs, hyrd, hyv⟩ := datum_ok (Vis.stay hm) hm.one hy (hlk y)
              have hn : n < maxLen := hs _ (List.mem_singleton.2 rfl)
              obtain ⟨w', hrun, hown', hgrow⟩ := hown.update K hu hn (key := a.eval x) (val := a.eval y) (kl := l) (d := .held (a.eval y)) (ps := []) (by rw [hkv]; exact hkl) rfl
              have hisMap := hown.isMap
              obtain ⟨hm', hg', hf'⟩ := hm.turn (k := q) (b := b) (nb := .map T kt vt (n + 1) (updF kt vt f kx yx)) (w' := w') (by rw [hb]; simp [blkOf, hρ]) (by simp [blkOf, hρ]) hgrow (by rw [hb]; simp [Turns]) (fun hgo => by
                unfold BlkOk
                rw [lookO_add, if_pos rfl]
                refine ⟨b, D.put l (.held (a.eval y)), k, e, by simp [Cx.add, hρ], hu, hown', fun x' l' hl' => ?_, hB, hnS⟩
                by_cases e1 : x' = kx
                · subst e1
                  obtain rfl := Option.some.inj (hl.symm.trans hl')
                  have hup : updF kt vt f x' yx x' = some yx := by unfold updF; rw [(heqb x' x').2 rfl]; rfl
                  rw [hup]
                  refine ⟨Maps.has_put_same hisMap hkk _, fun y' hy' => ?_⟩
                  cases hy'
                  exact ⟨ycs, hyrd.mono hgo.stays, fun z => by rw [Maps.atKey_put_same hisMap hkk, hyv]⟩
                · have hup : updF kt vt f kx yx x' = f x' := by
                    unfold updF
                    have : kt.eqb x' kx = false := by
                      cases h : kt.eqb x' kx with
                      | false => rfl
                      | true => exact absurd ((heqb _ _).1 h) e1
                    rw [this]; rfl
                  have hne : l' ≠ l := fun e2 => e1 (hinj x' kx l (e2 ▸ hl') hl)
                  rw [hup]
                  obtain ⟨g1, g2⟩ := hmap x' l' hl'
                  refine ⟨by rw [Maps.has_put_other hne]; exact g1, fun y' hy' => ?_⟩
                  obtain ⟨cs, g3, g4⟩ := g2 y' hy'
                  exact ⟨cs, g3.mono hgo.stays, fun z => by rw [Maps.atKey_put_other hne]; exact g4 z⟩)
              intro K Q hK
              unfold Oper.wp execOp
              rw [ho]
              simp only [hmv, hρ, Sem.run_bind, hrun, Result.andThen_ok, Sem.run_pure, Oper.upon_skip]
              exact hK undef _ hm' hg' hf' (by simp [Cx.add]) trivial (fun p hp => by cases hp)
            · cases h
          · cases h
        · cases h
      · cases h
    · cases h
  · cases h

theorem owed_insert (hC : CfgOk P C B w0) (hm : Mem P B w0 S0 c) {lk : Operand → D} (hlk : ∀ x, RV P c (lk x) (a.eval x)) {T : TypeId} {m x y : Operand} {nxt : Nat} (ho : o.op = .insert T m x y) {g : Bool} {r : Res}
    (h : stepF C lk c.own nxt o g = some r) (hs : ∀ p ∈ r.side, p) : Owed P B w0 S0 c a o r := by
  have h' : stepF C lk c.own nxt { o with op := .mapUpdate T m x y } g = some r := by
    unfold stepF at h ⊢
    rw [ho] at h
    exact h
  have := owed_mapUpdate (a := a) (o := { o with op := .mapUpdate T m x y }) hC hm hlk rfl h' hs
  intro K Q hK
  have h2 := this K Q hK
  unfold Oper.wp execOp at h2 ⊢
  rw [ho]
  exact h2

theorem owed_makeInterface (hC : CfgOk P C B w0) (hm : Mem P B w0 S0 c) {lk : Operand → D} (hlk : ∀ x, RV P c (lk x) (a.eval x)) {T : TypeId} {x : Operand} {nxt : Nat} (ho : o.op = .makeInterface T x) {g : Bool} {r : Res}
    (h : stepF C lk c.own nxt o g = some r) : Owed P B w0 S0 c a o r := by
  unfold stepF at h
  rw [ho] at h
  simp only at h
  split at h <;> (try (cases h; done))
  rename_i hk
  split at h <;> (try (cases h; done))
  split at h <;> (try (cases h; done))
  rename_i y hd
  obtain rfl := Option.some.inj h
  obtain ⟨cs, hrd, hv⟩ := datum_ok (Vis.stay hm) hm.one hd (hlk x)
  obtain ⟨_, d, _, _, hu, _, _, _, _, hdk⟩ := tabOk hC rfl (k := kindT C T) (by intro e; rw [e] at hk; cases hk)
  refine owed_same hm (v := .iface T (a.eval x)) ?_ ⟨cs, by rw [hv], hrd⟩
  unfold execOp
  rw [ho]
  simp only [Instr.makeInterface, Sem.run_bind, run_underlying hu, Result.andThen_ok]
  cases d <;> first | rfl | (rw [← hdk] at hk; cases hk)

theorem owed_typeAssert (hC : CfgOk P C B w0) (hm : Mem P B w0 S0 c) {lk : Operand → D} (hlk : ∀ x, RV P c (lk x) (a.eval x)) {X T : TypeId} {x : Operand} {ok : Bool} {nxt : Nat} (ho : o.op = .typeAssert x X T ok) {g : Bool} {r : Res}
    (h : stepF C lk c.own nxt o g = some r) : Owed P B w0 S0 c a o r := by
  have hx := hlk x
  unfold stepF at h
  rw [ho] at h
  simp only at h
  split at h <;> (try (cases h; done))
  rename_i hk
  split at h <;> (try (cases h; done))
  rename_i T' t y hl
  rw [hl] at hx
  obtain ⟨cs, hv, hrd⟩ := hx
  obtain ⟨i, d, z, hi, hu, _, _, hz, _, hdk⟩ := tabOk hC rfl (k := kindT C T) (by intro e; rw [e] at hk; cases hk)
  have hni : ∀ m, d ≠ .interface m := by rintro m rfl; rw [← hdk] at hk; cases hk
  split at h
  · rename_i hT
    subst hT
    obtain rfl := Option.some.inj h
    cases ok with
    | true =>
      refine owed_same hm (v := .tuple #[vOf t cs, .bool true]) ?_ ⟨[vOf t cs, .bool true], rfl, _, _, rfl, ⟨cs, hrd, rfl⟩, _, _, rfl, .of_bool true, rfl⟩
      unfold execOp
      rw [ho]
      simp only [Instr.typeAssert, Sem.run_bind, run_underlying hu, Result.andThen_ok, hv]
      cases d <;> first | rfl | (exact absurd rfl (hni _)) | simp
    | false =>
      refine owed_same hm (v := vOf t cs) ?_ ⟨cs, hrd, rfl⟩
      unfold execOp
      rw [ho]
      simp only [Instr.typeAssert, Sem.run_bind, run_underlying hu, Result.andThen_ok, hv]
      cases d <;> first | rfl | (exact absurd rfl (hni _)) | simp
  · rename_i hT
    split at h <;> (try (cases h; done))
    rename_i hok
    obtain rfl : ok = true := hok
    obtain rfl := Option.some.inj h
    refine owed_same hm (v := .tuple #[z, .bool false]) ?_ ⟨[z, .bool false], rfl, _, _, rfl, trivial, _, _, rfl, .of_bool false, rfl⟩
    unfold execOp
    rw [ho]
    simp only [Instr.typeAssert, Sem.run_bind, run_underlying hu, Result.andThen_ok, hv]
    cases d <;> first | (exact absurd rfl (hni _)) | simp [hT, zeroValue, typeInfo, hi, hz]


end
end Go.Eng
namespace Go.Eng
open Go.RowKit

variable {P : Program} {C : Cfg} {B : Nat} {w0 : World}
section
variable {B : Nat} {w0 : World} {S0 : Nat → Prop} {c : Cx} {a : Act} {o : Oper}

theorem byteAt_lt (s : ByteArray) (i : Nat) : 0 ≤ byteAt s i ∧ byteAt s i < 256 := by
  unfold byteAt
  have := ((ByteArray.data s).toList.getD i 0).toNat_lt
  omega

theorem agg_flat {d : D} {v : Value} (h : isAggD d = true) (hr : RV P c d v) : ∃ cs : List Value, v = .agg cs.toArray ∧ RVs P c (flat d) cs := by
  unfold isAggD at h
  split at h
  · rename_i ds
    exact hr
  · rename_i t y
    obtain ⟨cs, h1, rfl⟩ := hr
    refine ⟨cs, by simp [vOf, h], ?_⟩
    unfold flat
    simp only [h, if_true]
    exact leaves_ok (fun _ h => h) t h1
  · cases h
theorem run_index_arr {T e : TypeId} {len sz : Nat} {w : World} {kk k : IntKind} {cs : List Value} {ns : List Int} {n : Int} (hu : P.underlying T = some (.array len e)) (hz : ∀ w, (sizeOf e).run P w = .ok sz w) (hs : sz = 1) (hue : P.underlying e = some (.int kk))
    (hl : ns.length = len) (h0 : 0 ≤ n) (h1 : n < (len : Int)) (hc : cs = ns.map (Value.int kk)) : (Instr.index T (.agg cs.toArray) (.int k n)).run P w = .ok (.int kk (ns[n.toNat]'(by omega))) w := by
  have hn : 0 ≤ n ∧ n < (len : Int) := ⟨h0, h1⟩
  subst hs
  have hz' : (sizeOf e).run P w = .ok 1 w := hz w
  have ha : (isAgg e).run P w = .ok false w := by simp [isAgg, underlying, hue]
  have hget : cs[n.toNat]? = some (.int kk (ns[n.toNat]'(by omega))) := by
    rw [hc, List.getElem?_map, List.getElem?_eq_getElem (by omega)]
    rfl
  simp [Instr.index, run_underlying hu, asIntOf, hn, hz', go_sem, ha, hget]

theorem owed_index (hC : CfgOk P C B w0) (hm : Mem P B w0 S0 c) {lk : Operand → D} (hlk : ∀ x, RV P c (lk x) (a.eval x)) {T : TypeId} {x y : Operand} {nxt : Nat} (ho : o.op = .index T x y) {g : Bool} {r : Res}
    (h : stepF C lk c.own nxt o g = some r) (hs : ∀ p ∈ r.side, p) : Owed P B w0 S0 c a o r := by
  have hx := hlk x
  have hy := hlk y
  unfold stepF at h
  rw [ho] at h
  simp only at h
  split at h
  · rename_i s k n hk hsx hi
    obtain ⟨i, d, z, _, hu, _, _, _, _, hd⟩ := tabOk hC hk (by simp)
    have hu := (kind_str hd) ▸ hu
    rw [hsx] at hx
    obtain rfl := Option.some.inj h
    have h0 : 0 ≤ n := hs _ (List.mem_cons_self)
    have h1 : n < (s.size : Int) := hs _ (List.mem_cons_of_mem _ List.mem_cons_self)
    have hyv := int_ok hy hi
    refine owed_same hm (v := .int .u8 (byteAt s n.toNat)) ?_ (.of_int ?_)
    · unfold execOp
      rw [ho]
      simp only [hx.str.1, hyv, Sem.run_bind, run_index_string _ T s k n hu, h0, h1, and_self, dif_pos, Result.andThen_ok, Sem.run_pure]
      congr 4
      have hlt : n.toNat < s.data.toList.length := by
        have : s.data.size = s.size := rfl
        simp only [Array.length_toList]; omega
      rw [List.getD_eq_getElem?_getD, List.getElem?_eq_getElem hlt]
      simp only [Option.getD_some, Array.getElem_toList]
      rfl
    · have := byteAt_lt s n.toNat
      simp [IntKind.wrap, IntKind.signed, IntKind.bits]; omega
  · rename_i len e k n hk hi
    split at h
    · rename_i kk hke
      split at h
      · rename_i hag
        split at h
        · rename_i ns hns
          split at h
          · rename_i hlen
            obtain rfl := Option.some.inj h
            have h0 : 0 ≤ n := hs (cn (0 ≤ n)) (by simp)
            have h1 : n < (len : Int) := hs (cn (n < (len : Int))) (by simp)
            obtain ⟨_, d, _, _, hu, _, _, _, _, hd⟩ := tabOk hC hk (by simp)
            have hu := (kind_arr hd) ▸ hu
            obtain ⟨_, de, _, _, hue, _, _, _, _, hde⟩ := tabOk hC hke (by simp)
            have hue := (kind_int hde) ▸ hue
            have hyv := int_ok hy hi
            obtain ⟨cs, hcs, hrs⟩ := agg_flat hag hx
            obtain ⟨e1, e2⟩ := intsOf_ok hns hrs
            have hlt : n.toNat < ns.length := by omega
            have hget : ns.getD n.toNat 0 = ns[n.toNat] := by rw [List.getD_eq_getElem?_getD, List.getElem?_eq_getElem hlt]; rfl
            refine owed_same hm (v := .int kk (ns.getD n.toNat 0)) ?_ (.of_int (e2 _ (by rw [hget]; exact List.getElem_mem hlt)))
            unfold execOp
            rw [ho]
            simp only [hcs, hyv, Sem.run_bind]
            rw [run_index_arr hu (run_sizeOf' hC (by rw [hlen.2]; decide)) (by rw [hlen.2]) hue hlen.1 h0 h1 e1]
            rw [hget]
            rfl
          · cases h
        · cases h
      · cases h
    · cases h
  · cases h

theorem owed_range (hC : CfgOk P C B w0) (hm : Mem P B w0 S0 c) {lk : Operand → D} (hlk : ∀ x, RV P c (lk x) (a.eval x)) {T : TypeId} {x : Operand} {nxt : Nat} (ho : o.op = .range T x) {g : Bool} {r : Res}
    (h : stepF C lk c.own nxt o g = some r) (hf : r.nxt = nxt ∨ lookO c.own nxt = .gone) : Owed P B w0 S0 c a o r := by
  have hx := hlk x
  unfold stepF at h
  rw [ho] at h
  simp only at h
  split at h
  · cases h
  split at h
  · rename_i s hk hsx
    obtain ⟨_, d, _, _, hu, _, _, _, _, hd⟩ := tabOk hC hk (by simp)
    have hu := (kind_str hd) ▸ hu
    rw [hsx] at hx
    obtain rfl := Option.some.inj h
    have hgone : lookO c.own nxt = .gone := hf.resolve_left (by simp)
    obtain ⟨hm1, hg1⟩ := hm.block (.stringIter s 0)
    have ht : Turns (lookO c.own nxt) (.iter s 0) (c.ρ nxt) (.pointer (some ⟨c.w.heap.size, 0, none⟩)) := by rw [hgone]; trivial
    have hg2 := Goes.add (c := { c with w := c.w.alloc (.stringIter s 0) }) (o := nxt) (b := .iter s 0) (v := .pointer (some ⟨c.w.heap.size, 0, none⟩)) ht
    have hm2 := hm1.add (o := nxt) (b := .iter s 0) (v := .pointer (some ⟨c.w.heap.size, 0, none⟩)) ht rfl (by
      unfold BlkOk
      rw [lookO_add, if_pos rfl]
      refine ⟨c.w.heap.size, by simp [Cx.add], ?_, hx.str.2, hm.base, fun hs => absurd (hm.bound _ hs) (Nat.lt_irrefl _)⟩
      exact World.iter_heap c.w s 0) (fun j g hj hg hj' => by
      simp [blkOf] at hg
      subst hg
      exact absurd (hm.blk_lt j _ hj') (Nat.lt_irrefl _))
    intro K Q hK
    unfold Oper.wp execOp
    rw [ho]
    simp only [hx.str.1, Sem.run_bind, run_range_string _ T s hu, Result.andThen_ok, Sem.run_pure, Oper.upon_value]
    refine hK _ _ hm2 (hg1.trans hg2) (Fr.newBlock (by intro g hg; simp [blkOf] at hg; omega)) (by simp [Cx.add]) ?_ (fun p hp => by cases hp)
    simp only [RV, lookO_add, if_true]
    simp [Cx.add]
  · rename_i k e mo hk hsx
    split at h
    · rename_i T' vt n f hmo
      split at h
      · rename_i hks
        split at h
        · rename_i hT
          subst hT
          obtain rfl := Option.some.inj h
          rw [hsx] at hx
          have hu : P.underlying T = some (.map k e) := by
            obtain ⟨_, d, _, _, hu, _, _, _, _, hd⟩ := tabOk hC hk (by simp)
            exact (kind_mp hd) ▸ hu
          have huk : P.underlying k = some .string := by
            obtain ⟨_, d, _, _, hu, _, _, _, _, hd⟩ := tabOk hC hks (by simp)
            exact (kind_str hd) ▸ hu
          have hbk := hm.ok mo
          unfold BlkOk at hbk
          simp only [hmo] at hbk
          obtain ⟨b, D, k', e', h1, hu', hom, his, hB, hSb⟩ := hbk
          obtain ⟨rfl, rfl⟩ : k = k' ∧ e = e' := by rw [hu] at hu'; simpa using hu'
          simp only [RV, hmo] at hx
          have hgone : lookO c.own nxt = .gone := hf.resolve_left (by simp)
          have hne : mo ≠ nxt := fun e1 => by rw [e1, hgone] at hmo; cases hmo
          have hbb : blkOf (lookO c.own mo) (c.ρ mo) = some b := by rw [hmo]; simp [blkOf, h1]
          let c1 : Cx := { c with S := fun g => c.S g ∨ g = b, own := (mo, .dead) :: c.own }
          have hlo : ∀ j, lookO c1.own j = if j = mo then .dead else lookO c.own j := by
            intro j
            simp only [c1, lookO]
            by_cases h : mo = j
            · rw [if_pos h, if_pos h.symm]
            · rw [if_neg h, if_neg (fun e => h e.symm)]
          have hg1 : Goes c c1 := ⟨fun g hg => ⟨.inl hg, rfl⟩, fun j => by
            rw [hlo]
            by_cases e' : j = mo
            · subst e'; rw [if_pos rfl, hmo]; trivial
            · rw [if_neg e']; exact Turns.refl _ _⟩
          have hb1 : ∀ j g, blkOf (lookO c1.own j) (c1.ρ j) = some g → j ≠ mo ∧ blkOf (lookO c.own j) (c.ρ j) = some g := by
            intro j g hj
            rw [hlo] at hj
            by_cases e' : j = mo
            · rw [if_pos e'] at hj; cases hj
            · rw [if_neg e'] at hj; exact ⟨e', hj⟩
          have hm1 : Mem P B w0 S0 c1 := by
            refine ⟨fun j => ?_, fun j j' g hne hj hj' => hm.apart j j' g hne (hb1 j g hj).2 (hb1 j' g hj').2, ?_, fun g hg => .inl (hm.from_ g hg), ?_, hm.below, hm.base, hm.one, hm.frame⟩
            · by_cases e' : j = mo
              · subst e'
                unfold BlkOk
                rw [hlo, if_pos rfl]
                trivial
              · refine (hm.ok j).keep hg1 hm.one (by rw [hlo, if_neg e']) rfl fun g hg => ⟨rfl, fun hs => ?_⟩
                rcases hs with hs | rfl
                · exact hs
                · exact (hm.apart j mo g e' hg hbb).elim
            · rintro g (hg | rfl)
              · exact hm.bound g hg
              · exact hom.lt
            · rintro g (hg | rfl)
              · exact hm.to_ g hg
              · exact .inr hB
          have hf1 : Fr c c1 := ⟨Nat.le_refl _, fun g _ ho => ⟨rfl, fun hs => hs.resolve_right fun e' => ho mo (by rw [hbb, e']), fun j hj => ho j (hb1 j g hj).2⟩⟩
          obtain ⟨w', hrun, hrg, hgw, hsz⟩ := hom.range (t := T) (Maps.string_keyed huk) hu
          have hbel : Below c1.w.heap.size c1.w w' := ⟨hgw.os, hgw.tape, hgw.output, hgw.size, fun g hg => hgw.block g hg (by simp)⟩
          obtain ⟨hm2, hg2⟩ := hm1.grow hbel (fun _ => False) (fun _ hn => hn.elim)
          have hf2 : Fr c1 { c1 with S := fun b => c1.S b ∨ False, w := w' } := Fr.grow hbel (fun _ => False) (fun _ hn => hn.elim)
          have ht : Turns (lookO c1.own nxt) (.miter vt f (fun s => (f s).isSome) n none) (c1.ρ nxt) (.pointer (some ⟨c.w.heap.size, 0, none⟩)) := by
            rw [hlo, if_neg hne.symm, hgone]; trivial
          have hg3 := Goes.add (c := { c1 with S := fun b => c1.S b ∨ False, w := w' }) (o := nxt) (b := .miter vt f (fun s => (f s).isSome) n none) (v := .pointer (some ⟨c.w.heap.size, 0, none⟩)) ht
          have hm3 := hm2.add (o := nxt) (b := .miter vt f (fun s => (f s).isSome) n none) (v := .pointer (some ⟨c.w.heap.size, 0, none⟩)) ht rfl (by
            unfold BlkOk
            rw [lookO_add, if_pos rfl]
            refine ⟨c.w.heap.size, b, n, D, k, Maps.has D, Maps.size D, by simp [Cx.add], .inl (.inr rfl), Maps.string_keyed huk, huk, hrg, ?_, (his.mono hg1.stays).mono (hg2.stays.trans hg3.stays), fun s => ?_, hm.base, ?_, fun s y e => by cases e⟩
            · obtain ⟨es, clock, _, _, hs, rfl⟩ := hom
              simpa [Maps.size, length_sorted] using hs
            · exact (his s _ rfl).1
            · rintro (hs | hs)
              · rcases hs with hs | hs
                · exact absurd (hm.bound _ hs) (Nat.lt_irrefl _)
                · exact absurd (hs ▸ hom.lt) (Nat.lt_irrefl _)
              · exact hs) (fun j g hj hg hj' => by
            simp [blkOf] at hg
            subst hg
            have := hm1.blk_lt j _ hj'
            exact absurd this (Nat.lt_irrefl _))
          intro K Q hK
          unfold Oper.wp execOp
          rw [ho]
          simp only [hx, h1, Sem.run_bind, hrun, Result.andThen_ok, Sem.run_pure, Oper.upon_value]
          refine hK _ _ hm3 ((hg1.trans hg2).trans hg3) ((hf1.trans hf2).add (by intro g hg; simp [blkOf] at hg; left; omega)) (by simp [Cx.add, c1]) ?_ (fun p hp => by cases hp)
          simp only [RV, lookO_add, if_true]
          simp [Cx.add]
        · cases h
      · cases h
    · cases h
  · cases h

theorem entry_heap {w w2 : World} {k : TypeId} {R : Value → Option (DataW Value × List MemPlace)} {b r n cnt : Nat} {D : DataW Value} {L : Lit → Bool} (h : w.ranges P k R b r n D L cnt) (hb2 : w2.heap[b]? = w.heap[b]?) (hr2 : w2.heap[r]? = w.heap[r]?) {v : Value}
    (he : (Instr.entry (.pointer (some ⟨r, 0, none⟩))).run P w = .ok v w) : (Instr.entry (.pointer (some ⟨r, 0, none⟩))).run P w2 = .ok v w2 := by
  obtain ⟨es, clock, since, seen, c0, hb, _, _, _, hr, _⟩ := h
  rw [hb] at hb2
  rw [hr] at hr2
  unfold Instr.entry at he ⊢
  simp only [getObj, Sem.run_bind, Sem.run, hr, hr2, Result.andThen] at he ⊢
  cases hs : seen.back? with
  | none => rw [hs] at he; simp [stuck, Sem.run] at he
  | some st =>
    rw [hs] at he
    simp only [getObj, Sem.run_bind, Sem.run, hb, hb2, Result.andThen] at he ⊢
    by_cases hc : (clock != c0) = true
    · simp [hc, Sem.run, unsupported, Result.andThen] at he
    · simp only [hc, if_false, Bool.false_eq_true] at he ⊢
      cases hf : es.find? (·.born == st) with
      | none => rw [hf] at he; simp [Sem.run, unsupported] at he
      | some e =>
        rw [hf] at he
        simp only [Sem.run_pure, Result.ok.injEq] at he ⊢
        exact ⟨he.1, trivial⟩

theorem owed_entry (hm : Mem P B w0 S0 c) {lk : Operand → D} (hlk : ∀ x, RV P c (lk x) (a.eval x)) {x : Operand} {nxt : Nat} (ho : o.op = .entry x) {g : Bool} {r : Res}
    (h : stepF C lk c.own nxt o g = some r) : Owed P B w0 S0 c a o r := by
  have hx := hlk x
  unfold stepF at h
  rw [ho] at h
  simp only at h
  split at h
  · cases h
  split at h
  · rename_i k hl
    split at h
    · rename_i vt f left cnt s y hk
      obtain rfl := Option.some.inj h
      rw [hl] at hx
      have hb := hm.ok k
      unfold BlkOk at hb
      simp only [hk] at hb
      obtain ⟨r, b, n, D, kT, L, cn, h1, hS, hK, hu, hrg, hc, his, hL, hB, hSr, hcur⟩ := hb
      simp only [RV, hk] at hx
      obtain ⟨q1, cs, q2, q3⟩ := hcur s y rfl
      refine owed_same hm (v := .tuple #[.string s, vOf vt cs]) ?_ ⟨_, rfl, _, _, rfl, ⟨_, ⟨rfl, q1⟩, rfl⟩, _, _, rfl, ⟨cs, q2, rfl⟩, rfl⟩
      unfold execOp
      rw [ho]
      simp only [hx, h1, Sem.run_bind, q3 c.w rfl rfl, Result.andThen_ok, Sem.run_pure]
    · cases h
  · cases h

theorem mnext_on {x : Operand} {ty : TypeId} (hm : Mem P B w0 S0 c) {k : Nat} {vt : Ty} {f : ByteArray → Option vt.El} {left : ByteArray → Bool} {cnt : Nat} {cur : Option (ByteArray × vt.El)} (hk : lookO c.own k = .miter vt f left cnt cur) {v : Value} (hv : RV P c (.own k) v) :
    ((∀ s, left s = false) ∧ (Instr.next v false ty).run P c.w = .ok (.tuple #[.bool false]) c.w) ∨
    ∃ s y m c' u, (left s = true ∧ f s = some y ∧ m < cnt) ∧ (Instr.next v false ty).run P c.w = .ok (.tuple #[.bool true, .string s, u]) c'.w ∧ s.size ≤ maxLen ∧ RV P c' (.dat vt y) u ∧ Mem P B w0 S0 c' ∧ Goes c c' ∧ c'.own = (k, .miter vt f (fun x => left x && !decide (x = s)) m (some (s, y))) :: c.own := by
  have hb := hm.ok k
  unfold BlkOk at hb
  simp only [hk] at hb
  obtain ⟨r, b, n, D, kT, L, cn, h1, hS, hK, hu, hrg, hc, his, hL, hB, hSr, _⟩ := hb
  simp only [RV, hk] at hv
  rw [h1] at hv
  subst hv
  rcases hrg.next hK ty with ⟨_, hno, hrun⟩ | ⟨key, v, kl, y, w', cn', hkey, hl, hy, hat, hrun, hrg', hlt, hgw, hsz, hen⟩
  · exact .inl ⟨fun s => by rw [← hL s]; exact hno _, hrun⟩
  · right
    obtain ⟨xs, rfl, rfl, hlen⟩ := Maps.keyOf_str hu hkey
    have hly : y = (.held v, []) := by simpa [heldElem] using hy.symm
    subst hly
    have hat' : ∀ zd, D.atKey (.string xs) zd = .held v := hat
    obtain ⟨hh, hel⟩ := his ⟨xs.toArray⟩ _ rfl
    have hhas : Maps.has D (.string xs) = true := Maps.has_true_of_atKey hat'
    rw [show (Lit.string (ByteArray.data ⟨xs.toArray⟩).toList) = Lit.string xs by simp, hhas] at hh
    obtain ⟨y, hfy⟩ := Option.isSome_iff_exists.1 hh.symm
    obtain ⟨cs, hr, hz⟩ := hel y hfy
    have hvv : v = vOf vt cs := by
      have e1 := hz (.held v)
      have e2 := hat' (.held v)
      rw [show (Lit.string (ByteArray.data ⟨xs.toArray⟩).toList) = Lit.string xs by simp, e2] at e1
      simpa using e1
    have hrb : blkOf (lookO c.own k) (c.ρ k) = some r := by rw [hk]; simp [blkOf, h1]
    obtain ⟨hm', hg', hf'⟩ := hm.turn (k := k) (b := r) (nb := .miter vt f (fun x => left x && !decide (x = ⟨xs.toArray⟩)) cn' (some (⟨xs.toArray⟩, y))) (w' := w') hrb (by simp [blkOf, h1]) hgw (by rw [hk]; simp [Turns]) (fun hgo => by
      unfold BlkOk
      rw [lookO_add, if_pos rfl]
      refine ⟨r, b, n, D, kT, _, cn', by simp [Cx.add, h1], hS, hK, hu, hrg', Nat.le_refl _, his.mono hgo.stays, fun s => ?_, hB, hSr, fun s y' e => ?_⟩
      rotate_left
      · obtain ⟨rfl, rfl⟩ : s = ⟨xs.toArray⟩ ∧ y' = y := by simpa [eq_comm] using e
        refine ⟨by simpa [ByteArray.size] using hlen, cs, hr.mono hgo.stays, fun w2 e1 e2 => ?_⟩
        rw [← hvv]
        exact entry_heap hrg' e2 e1 hen
      show (L (.string (ByteArray.data s).toList) && !(Lit.string (ByteArray.data s).toList).sameKey (.string xs)) = _
      rw [hL]
      congr 2
      rw [Bool.eq_iff_iff, decide_eq_true_iff]
      constructor
      · intro h
        have := WideAt.sameKey_eq h
        simp only [Lit.string.injEq] at this
        cases s with | mk d => simp only at this; rw [← this]
      · rintro rfl
        exact WideAt.sameKey_self trivial)
    refine ⟨⟨xs.toArray⟩, y, cn', _, v, ⟨?_, hfy, by omega⟩, hrun, ?_, ⟨cs, hr.mono hg'.stays, hvv⟩, hm', hg', by simp [Cx.add]⟩
    · rw [← hL]; simpa using hl
    · simpa [ByteArray.size] using hlen

theorem next_on {x : Operand} {ty : TypeId} (hm : Mem P B w0 S0 c) {k : Nat} {s : ByteArray} {pos : Nat} (hk : lookO c.own k = .iter s pos) {v : Value} (hv : RV P c (.own k) v) :
    (pos < s.size → ∃ c', (Instr.next v true ty).run P c.w = .ok (.tuple #[.bool true, .int .i64 pos, .int .i32 (runeAt s pos)]) c'.w ∧ Mem P B w0 S0 c' ∧ Goes c c' ∧ c'.own = (k, .iter s (nextP s pos)) :: c.own) ∧
    (¬ pos < s.size → (Instr.next v true ty).run P c.w = .ok (.tuple #[.bool false]) c.w) ∧ s.size ≤ maxLen := by
  have hb := hm.ok k
  unfold BlkOk at hb
  simp only [hk] at hb
  obtain ⟨b, h1, h2, h3, h5, h6⟩ := hb
  simp only [RV, hk] at hv
  rw [h1] at hv
  subst hv
  refine ⟨fun hp => ?_, fun hp => ?_, h3⟩
  · have hlt : b < c.w.heap.size := (Array.getElem?_eq_some_iff.1 h2).1
    obtain ⟨hm', hg', hf'⟩ := hm.turn (k := k) (b := b) (nb := .iter s (nextP s pos)) (w' := { c.w with heap := c.w.heap.setIfInBounds b (.stringIter s (nextP s pos)) }) (by rw [hk]; simp [blkOf, h1]) (by simp [blkOf, h1]) (by
        refine ⟨rfl, rfl, rfl, by simp, fun j hj hne => ?_⟩
        have : b ≠ j := fun e => hne (by rw [e])
        simp [Array.getElem?_setIfInBounds_ne this]) (by rw [hk]; simp [Turns]) (fun hgo => by
        unfold BlkOk
        rw [lookO_add, if_pos rfl]
        refine ⟨b, by simp [Cx.add, h1], ?_, h3, h5, h6⟩
        simp [Cx.add, hlt])
    refine ⟨_, ?_, hm', hg', by simp [Cx.add]⟩
    simp only [Instr.next, getObj, setObj, Sem.run_bind, Sem.run, h2, Result.andThen, hp, if_true]
    simp [goInt, Sem.run, h2, Cx.add, runeAt, nextP]
  · simp [Instr.next, getObj, Sem.run, h2, hp]

theorem runeAt_wrap (s : ByteArray) (pos : Nat) : IntKind.wrap .i32 (runeAt s pos) = runeAt s pos := by
  have := decode_le s pos
  unfold runeAt
  simp [IntKind.wrap, IntKind.signed, IntKind.bits]
  split <;> omega
end
end Go.Eng
namespace Go.Eng
open Go.RowKit

variable {P : Program} {C : Cfg} {B : Nat} {w0 : World}
section
variable {B : Nat} {w0 : World} {S0 : Nat → Prop} {c : Cx} {a : Act} {o : Oper}

theorem Mem.mut (hm : Mem P B w0 S0 c) {k : Nat} {nb : Blk} {w' : World} {M : Nat → Prop} (hg : c.w.grownBy w' (blkOf (lookO c.own k) (c.ρ k)))
    (hnb : ∀ g, blkOf nb (c.ρ k) = some g → blkOf (lookO c.own k) (c.ρ k) = some g)
    (hM : ∀ g, M g → g < w'.heap.size ∧ (c.w.heap.size ≤ g ∨ (blkOf (lookO c.own k) (c.ρ k) = some g ∧ blkOf nb (c.ρ k) = none)))
    (ht : Turns (lookO c.own k) nb (c.ρ k) (c.ρ k))
    (hok : Goes c (Cx.add { c with S := fun g => c.S g ∨ M g, w := w' } k nb (c.ρ k)) → BlkOk P B (Cx.add { c with S := fun g => c.S g ∨ M g, w := w' } k nb (c.ρ k)) k) (hnk : ∀ t xs, lookO c.own k ≠ .brow t xs) :
    Mem P B w0 S0 (Cx.add { c with S := fun g => c.S g ∨ M g, w := w' } k nb (c.ρ k)) ∧ Goes c (Cx.add { c with S := fun g => c.S g ∨ M g, w := w' } k nb (c.ρ k)) := by
  have hlo : ∀ j, lookO (Cx.add { c with S := fun g => c.S g ∨ M g, w := w' } k nb (c.ρ k)).own j = if j = k then nb else lookO c.own j := lookO_add { c with S := fun g => c.S g ∨ M g, w := w' } k nb (c.ρ k)
  have hρ : ∀ j, (Cx.add { c with S := fun g => c.S g ∨ M g, w := w' } k nb (c.ρ k)).ρ j = c.ρ j := by
    intro j; simp only [Cx.add]; split
    · rename_i e; rw [e]
    · rfl
  have hgo : Goes c (Cx.add { c with S := fun g => c.S g ∨ M g, w := w' } k nb (c.ρ k)) := ⟨fun g hgS => ⟨.inl hgS, hg.block g (hm.bound g hgS) (fun e => ((hm.ok k).notS hnk e.symm).1 hgS)⟩, fun j => by
    rw [hlo, hρ]
    by_cases e : j = k
    · subst e; rw [if_pos rfl]; exact ht
    · rw [if_neg e]; exact Turns.refl _ _⟩
  have f : ∀ j g, blkOf (lookO (Cx.add { c with S := fun g => c.S g ∨ M g, w := w' } k nb (c.ρ k)).own j) ((Cx.add { c with S := fun g => c.S g ∨ M g, w := w' } k nb (c.ρ k)).ρ j) = some g → blkOf (lookO c.own j) (c.ρ j) = some g := by
    intro j g hj
    rw [hlo, hρ] at hj
    by_cases e : j = k
    · subst e; rw [if_pos rfl] at hj; exact hnb g hj
    · rwa [if_neg e] at hj
  refine ⟨⟨fun j => ?_, fun j j' g hne hj hj' => hm.apart j j' g hne (f j g hj) (f j' g hj'), ?_, fun g hgS => .inl (hm.from_ g hgS), ?_, ?_, Nat.le_trans hm.base hg.size, fun j => by rw [hρ]; exact hm.one j, hm.frm hgo⟩, hgo⟩
  · by_cases e : j = k
    · subst e; exact hok hgo
    · refine (hm.ok j).keep hgo hm.one (by rw [hlo, if_neg e]) (hρ j) fun g hg' => ⟨hg.block g (hm.blk_lt j g hg') (fun e' => hm.apart j k g e hg' e'.symm), fun hs => ?_⟩
      rcases hs with hs | hs
      · exact hs
      · rcases (hM g hs).2 with h1 | h1
        · exact absurd (hm.blk_lt j g hg') (by omega)
        · exact (hm.apart j k g e hg' h1.1).elim
  · rintro g (hs | hs)
    · exact Nat.lt_of_lt_of_le (hm.bound g hs) hg.size
    · exact (hM g hs).1
  · rintro g (hs | hs)
    · exact hm.to_ g hs
    · rcases (hM g hs).2 with h1 | h1
      · exact .inr (Nat.le_trans hm.base h1)
      · exact .inr ((hm.ok k).notS hnk h1.1).2
  · exact hm.below.grown hg hm.base fun g e => ((hm.ok k).notS hnk e).2

theorem isFns_ok {c : Cx} : ∀ {fs : List FuncId} {ds : List D} {vs : List Value}, isFns fs ds = true → RVs P c ds vs → vs = fs.map fun f => .func (.func f) #[] #[]
  | [], [], vs, _, h => h
  | f :: fs, .fn g [] :: ds, vs, hf, h => by
    simp only [isFns, Bool.and_eq_true, beq_iff_eq] at hf
    obtain ⟨rfl, hf⟩ := hf
    obtain ⟨v, vs', rfl, ⟨us, rfl, rfl⟩, h2⟩ := h
    rw [isFns_ok hf h2]; rfl
  | [], _ :: _, _, h, _ => by simp [isFns] at h
  | _ :: _, [], _, h, _ => by simp [isFns] at h
  | _ :: _, .dat .. :: _, _, h, _ => by simp [isFns] at h
  | _ :: _, .agg .. :: _, _, h, _ => by simp [isFns] at h
  | _ :: _, .tup .. :: _, _, h, _ => by simp [isFns] at h
  | _ :: _, .pt .. :: _, _, h, _ => by simp [isFns] at h
  | _ :: _, .pe .. :: _, _, h, _ => by simp [isFns] at h
  | _ :: _, .arr .. :: _, _, h, _ => by simp [isFns] at h
  | _ :: _, .arx .. :: _, _, h, _ => by simp [isFns] at h
  | _ :: _, .own .. :: _, _, h, _ => by simp [isFns] at h
  | _ :: _, .fn _ (_ :: _) :: _, _, h, _ => by simp [isFns] at h
  | _ :: _, .cst .. :: _, _, h, _ => by simp [isFns] at h
  | _ :: _, .clip .. :: _, _, h, _ => by simp [isFns] at h
  | _ :: _, .ifc .. :: _, _, h, _ => by simp [isFns] at h
  | _ :: _, .gd .. :: _, _, h, _ => by simp [isFns] at h
  | _ :: _, .any :: _, _, h, _ => by simp [isFns] at h

theorem mcall_ok (hC : CfgOk P C B w0) (hm : Mem P B w0 S0 c) {lk : Operand → D} (hlk : ∀ x, RV P c (lk x) (a.eval x)) {f : Operand} {args : Array Operand} {ts : Array TypeId} (ho : o.op = .call { callee := .value f, args, argTypes := ts }) {g : FuncId} {caps : List D}
    (hl : lk f = .fn g caps) {mc : MCon} (hmc : assoc C.mcons g = some mc) {k : Nat} {xs : List mc.t.El} {y : mc.a.El} (h : mArgs mc c.own (args.toList.map lk ++ caps) = some (k, xs, y)) (hp : mc.pre xs y) {w : World} (hw : c.w = w)
    {K : Act → World → Prop} {Q : Exit → Act → World → Prop}
    (hK : ∀ v c', Mem P B w0 S0 c' → Goes c c' → c'.own = (k, mBlk mc (mc.F xs y)) :: c.own → RV P c' (mRes mc (mc.F xs y)) v → K (a.put o.dst v) c'.w) : o.wp P a w K Q := by
  subst hw
  obtain ⟨hcall, hval⟩ := hC.mcons g mc hmc
  have hf := hlk f
  rw [hl] at hf
  obtain ⟨vs, hfv, hcaps⟩ := hf
  have hargs := (RVs.of_map hlk args.toList).append hcaps
  generalize hds : args.toList.map lk ++ caps = ds at h hargs
  generalize hes : args.toList.map a.eval ++ vs = es at hargs
  unfold mArgs at h
  split at h
  · rename_i k' r
    split at h
    · rename_i e t zs hk
      split at h
      · rename_i he
        subst he
        split at h
        · rename_i xs' hcast
          obtain ⟨et, hx'⟩ := cast?_some hcast
          cases et
          have hx' : zs = xs' := hx'
          subst hx'
          split at h
          · rename_i hfit
            simp only [Bool.and_eq_true] at hfit
            split at h
            · rename_i y' hy
              simp only [Option.some.injEq, Prod.mk.injEq] at h
              obtain ⟨rfl, rfl, rfl⟩ := h
              obtain ⟨v, vs', rfl, hv, hrest⟩ := hargs
              have hd := hrest.drop (r.length - mc.fns.length)
              have ht := hrest.take (r.length - mc.fns.length)
              have hfn := isFns_ok hfit.1 hd
              obtain ⟨q1, q2, q3⟩ := fits_ok mc.a hm.one hfit.2 ht
              generalize hcs : ((vs'.take (r.length - mc.fns.length)).flatMap fun v => v.cells.toList) = ys at q1 q2 q3
              have hys : RdC P mc.a c.S c.w y' ys := by
                unfold argsOf at hy
                split at hy
                · rename_i z hz
                  cases hy
                  obtain ⟨c1', c2', e, h1, h2⟩ := gather_ok (Vis.stay hm) mc.a hz q1
                  obtain rfl : c2' = [] := h2
                  rw [List.append_nil] at e
                  rw [e]; exact h1
                · cases hy
              have hbk := hm.ok k'
              unfold BlkOk at hbk
              simp only [hk] at hbk
              obtain ⟨hz, cs, b1, b2, b3⟩ := hbk
              simp only [RV, hk] at hv
              subst hv
              have hes' : vs' = group mc.a ys ++ mc.fns.map fun f => .func (.func f) #[] #[] := by
                rw [← hfn, q3, List.take_append_drop]
              have hbo : blkOf (lookO c.own k') (c.ρ k') = (c.ρ k').ownBlock := by
                rw [hk]
                apply Option.ext
                intro b
                exact ownBlock_blkOf
              refine wp_call ho hfv hcall (by
                rw [hes, hes']
                exact hval c.w hm.below B c.S (c.ρ k') zs cs y' ys hm.bound hz (hm.one k') b1 b2 b3 hys hp) ?_
              rintro e w' ⟨hgw, hcase⟩
              rw [← hbo] at hgw
              rcases hcase with ⟨he, r, rfl, hr⟩ | ⟨he, rfl, hlen, cs', ho', hl'⟩
              · obtain ⟨hm', hg'⟩ := hm.mut (k := k') (nb := .dead) (M := fun g => (c.w.heap.size ≤ g ∧ g < w'.heap.size) ∨ (c.ρ k').ownBlock = some g) (w' := w') (hnk := fun t xs e => by rw [hk] at e; cases e) hgw (fun g hg => by cases hg) (fun g hg => by
                  rcases hg with hg | hg
                  · exact ⟨hg.2, .inl hg.1⟩
                  · exact ⟨Nat.lt_of_lt_of_le (b1.lt g hg).2 hgw.size, .inr ⟨hbo.trans hg, rfl⟩⟩) (by rw [hk]; trivial) (fun _ => by unfold BlkOk; rw [lookO_add, if_pos rfl]; trivial)
                refine ⟨r, rfl, hK r _ hm' hg' (by simp [Cx.add, mBlk, he]) ?_⟩
                rw [mRes, if_pos he]
                exact ⟨[r], hr, rfl⟩
              · obtain ⟨hm', hg'⟩ := hm.mut (k := k') (nb := .row mc.e mc.t (mc.F zs y')) (M := fun g => c.w.heap.size ≤ g ∧ g < w'.heap.size) (w' := w') (hnk := fun t xs e => by rw [hk] at e; cases e) hgw (fun g hg => hbo.trans (ownBlock_blkOf.1 hg)) (fun g hg => ⟨hg.2, .inl hg.1⟩) (by rw [hk]; exact ⟨rfl, rfl, hlen⟩) (fun _ => by
                  unfold BlkOk
                  rw [lookO_add, if_pos rfl]
                  refine ⟨hz, cs', ?_, hl', fun b hb hs => ?_⟩
                  · rw [hlen]; simp only [Cx.add, if_true]; exact ho'
                  · simp only [Cx.add, if_true] at hb hs
                    rcases hs with hs | hs
                    · exact b3 b hb hs
                    · exact absurd (b1.lt b hb).2 (by omega))
                refine ⟨.tuple #[], rfl, hK _ _ hm' hg' (by simp [Cx.add, mBlk, he]) ?_⟩
                rw [mRes, if_neg (by simp [he])]
                exact ⟨[], rfl, rfl⟩
            · cases h
          · cases h
        · cases h
      · cases h
    · cases h
  · cases h

end
end Go.Eng
namespace Go.Eng
open Go.RowKit Go.Lib

variable {P : Program} {C : Cfg}
section
variable {B : Nat} {w0 : World} {S0 : Nat → Prop} {c : Cx} {a : Act} {o : Oper}

theorem RdL_ints {k : IntKind} {S : Nat → Prop} {w : World} : ∀ {xs : List Int} {cs : List Value}, RdL P (.int k) S w xs cs → cs = xs.map (Value.int k)
  | [], cs, h => h
  | n :: xs, cs, h => by
    obtain ⟨c1, c2, rfl, h1, h2⟩ := h
    rw [h1.1, RdL_ints h2]; rfl

theorem owed_convert (hC : CfgOk P C B w0) (hm : Mem P B w0 S0 c) {lk : Operand → D} (hlk : ∀ x, RV P c (lk x) (a.eval x)) {T U : TypeId} {x : Operand} {nxt : Nat} (ho : o.op = .convert T U x) {g : Bool} {r : Res}
    (h : stepF C lk c.own nxt o g = some r) (hs : ∀ p ∈ r.side, p) : Owed P B w0 S0 c a o r := by
  have hx := hlk x
  unfold stepF at h
  rw [ho] at h
  simp only at h
  split at h
  · rename_i k1 k k2 n h1 h2 hl
    obtain rfl := Option.some.inj h
    rw [hl] at hx
    obtain ⟨i, d, z, _, hu, _, _, _, _, hd⟩ := tabOk hC h1 (by simp)
    obtain ⟨i', d', z', _, hu', _, _, _, _, hd'⟩ := tabOk hC h2 (by simp)
    refine owed_same hm (v := .int k (k.wrap n)) ?_ (.of_int (wrap_wrap _ _))
    unfold execOp
    rw [ho]
    simp [convert, hx.int.1, underlying, hu, hu', kind_int hd, kind_int hd', Conv.intToInt]
  · rename_i s h1 h2 hl
    obtain rfl := Option.some.inj h
    rw [hl] at hx
    obtain ⟨i, d, z, _, hu, _, _, _, _, hd⟩ := tabOk hC h1 (by simp)
    obtain ⟨i', d', z', _, hu', _, _, _, _, hd'⟩ := tabOk hC h2 (by simp)
    refine owed_same hm (v := .string s) ?_ ⟨_, ⟨rfl, hx.str.2⟩, rfl⟩
    unfold execOp
    rw [ho]
    simp [convert, hx.str.1, underlying, hu, hu', kind_str hd, kind_str hd']
  · rename_i e h1 h2
    split at h
    · rename_i xs h3 hso
      obtain rfl := Option.some.inj h
      obtain ⟨i, d, z, _, hu, _, _, _, _, hd⟩ := tabOk hC h1 (by simp)
      obtain ⟨i', d', z', _, hu', _, _, _, _, hd'⟩ := tabOk hC h2 (by simp)
      obtain ⟨i3, d3, z3, _, hu3, _, _, _, _, hd3⟩ := tabOk hC h3 (by simp)
      have hbd : xs.length ≤ maxLen := hs _ (List.mem_singleton.2 rfl)
      have hsz : (strI xs).size ≤ maxLen := by
        have : (strI xs).size = xs.length := by
          show (strI xs).data.size = _
          simp [strI]
        omega
      rw [kind_sl hd] at hu
      rw [kind_str hd'] at hu'
      rw [kind_int hd3] at hu3
      refine owed_same hm (v := .string (strI xs)) ?_ ⟨_, ⟨rfl, hsz⟩, rfl⟩
      unfold execOp
      rw [ho]
      simp only [Sem.run_bind]
      obtain ⟨base, cap, hv, hcells⟩ := slOf_cells hm hx hso
      rw [hv]
      by_cases hne : xs = []
      · subst hne
        cases base with
        | none =>
          rw [run_convert_bytes_nil c.w T e hu hu3 _ _ U hu']
          rfl
        | some ad =>
          rw [run_convert_bytes_string c.w T U e _ _ _ hu hu3 hu', run_bytesToString c.w ad _ cap [] (by simp [loadCells, loadCellsFrom])]
          rfl
      · obtain ⟨b, off, news, rfl, hrl, hlie⟩ := hcells hne
        rw [run_convert_bytes_arg c.w T e hu hu3 b off xs.length cap xs rfl (fun j hj => by
          have := RdL_ints hrl
          exact hlie j _ (by rw [this]; simp [List.getD_eq_getElem?_getD, List.getElem?_eq_getElem hj])) U hu']
        rfl
    · cases h
  · cases h

theorem RdL_bytes {S : Nat → Prop} {w : World} (s : ByteArray) : RdL P (.int .u8) S w (bytesI s) (strCells s) := by
  unfold bytesI strCells
  induction s.data.toList with
  | nil => rfl
  | cons b l ih =>
    refine ⟨[.int .u8 b.toNat], _, rfl, ⟨rfl, ?_⟩, ih⟩
    have := b.toNat_lt
    simp [IntKind.wrap, IntKind.signed, IntKind.bits]; omega
theorem bytesI_length (s : ByteArray) : (bytesI s).length = s.size := by
  unfold bytesI
  rw [List.length_map, Array.length_toList]; rfl

theorem zeroU8_ok (hC : CfgOk P C B w0) {e : TypeId} (h3 : kindT C e = .int .u8) (h : zeroU8 (zeroT C e) = true) (h1 : sizeT C e = 1) (h2 : bytesT C e = 1) : ∃ i, P.info? e = some i ∧ i.zero = some (.int .u8 0) ∧ i.size = 1 ∧ i.bytes = 1 := by
  unfold zeroT at h
  unfold sizeT at h1
  unfold bytesT at h2
  cases ha : assoc C.tab e with
  | none => rw [ha] at h1; cases h1
  | some ti =>
    rw [ha] at h h1 h2
    obtain ⟨i, d, z, g1, g2, g3, g4, g5, g6, g7, g8, g9, g10⟩ := hC.tab e ti ha
    simp only at h h1 h2
    refine ⟨i, g1, ?_, g3.trans h1, g4.trans h2⟩
    rw [g5]
    have hk : ti.kind = .int .u8 := by unfold kindT at h3; rw [ha] at h3; exact h3
    have hz : ti.zero = [.int .u8 0] := by
      unfold zeroU8 at h
      split at h
      · rename_i n e
        have e := Option.some.inj e
        match hz : ti.zero, e with
        | [], e => cases e
        | _ :: _ :: _, e => cases (List.cons.inj e).2
        | [v], e =>
          have e := (List.cons.inj e).1
          unfold constD at e
          split at e
          · split at e
            · cases e
              simp only [decide_eq_true_eq] at h
              rw [h]
            · cases e
          · cases e
          · split at e <;> cases e
          · cases e
      · cases h
    have h1 : z.oneCell' = true := by
      unfold shapeOk at g10
      rw [hk] at g10
      exact g10
    rw [hz] at g6
    cases z <;> simp [Value.cells, Value.oneCell'] at g6 h1
    obtain ⟨rfl, rfl⟩ := g6
    rfl

theorem u8K_ok {k : TK} (h : u8K k = true) : k = .int .u8 := by
  unfold u8K at h
  split at h
  · rfl
  · cases h
theorem own_after {w w' : World} {v' : Value} (base : Nat) (t u ty e : TypeId) (i : TypeInfo) (ht : P.underlying t = some (.slice e)) (hu : P.underlying u = some .string) (hi : P.info? e = some i) (hz : i.zero = some (.int .u8 0))
    (hsize : i.size = 1) (hby : i.bytes = 1) (v : Value) (n : Nat) (xs : List Value) (hown : w.ownsRow base e 1 v n xs) (s : ByteArray) (hb : n + s.size ≤ 140737488355328)
    (hrun : (Builtin.append_ #[t, u] ty #[v, .string s]).run P w = .ok v' w') : v'.ownBlock = v.ownBlock ∨ v'.ownBlock = some w.heap.size := by
  have hxl : xs.length = n := by simpa using hown.1
  rcases hown.2 with ⟨rfl, rfl⟩ | ⟨g, cap, cur, rfl, _, hg, hnc, hcm, hcs, _⟩
  · by_cases hm : s.size = 0
    · have hf := run_firstCells_string (P := P) w 1 s
      rw [hm] at hf
      have hr : (Builtin.append_ #[t, u] ty #[.slice none 0 0, .string s]).run P w = .ok (.slice none 0 0) w := by
        simp [Builtin.append_, run_underlying ht, run_underlying hu, sizeOf, typeInfo, hi, hsize, Builtin.lenOf, hm, hf]
      rw [hr] at hrun
      cases hrun
      exact .inl rfl
    · rw [run_append_nil_string (P := P) w t u ty e i (.int .u8 0) ht hu hi hz s (by omega) (by omega) (by rw [hby]; omega)] at hrun
      cases hrun
      exact .inr rfl
  · by_cases hroom : n + s.size ≤ cap
    · rw [run_append_room_string (P := P) w t u ty e i ht hu hi hsize g n cap cur hg s hroom (by unfold maxLen at hcm; omega)] at hrun
      cases hrun
      exact .inl rfl
    · rw [run_append_grow_string (P := P) w t u ty e i (.int .u8 0) ht hu hi hz ⟨g, 0, none⟩ n cap xs (by rw [hsize]; simpa using hxl) (fun j u hj => hown.cells (g := g) rfl j u hj) s (by omega) (by omega) (by rw [hby]; exact growslice_fits (by omega) (by omega))] at hrun
      cases hrun
      exact .inr rfl

set_option maxHeartbeats 1000000 in
theorem owed_appendS (hC : CfgOk P C B w0) (hm : Mem P B w0 S0 c) {lk : Operand → D} (hlk : ∀ x, RV P c (lk x) (a.eval x)) {T U e : TypeId} {s x : Operand} {str : ByteArray} {nxt : Nat} (ho : o.op = .call { callee := .builtin .append, args := #[s, x], argTypes := #[T, U] }) (hT : kindT C T = .sl e) (hU : kindT C U = .str) (hx : lk x = .dat .str str)
    {r : Res} (h : appendS C c.own nxt e (lk s) str = some r) (hs : ∀ p ∈ r.side, p) (hf : r.nxt = nxt ∨ lookO c.own nxt = .gone) : Owed P B w0 S0 c a o r := by
  have hsv := hlk s
  have hxv := hlk x
  rw [hx] at hxv
  have hxs := hxv.str.1
  obtain ⟨_, d, _, _, hu, _, _, _, _, hd⟩ := tabOk hC hT (by simp)
  have hu := (kind_sl hd) ▸ hu
  obtain ⟨_, d', _, _, hu', _, _, _, _, hd'⟩ := tabOk hC hU (by simp)
  have hu' := (kind_str hd') ▸ hu'
  unfold appendS at h
  split at h
  · rename_i hsz
    obtain ⟨hsz, hby, hz0, hk8⟩ := hsz
    obtain ⟨i, hi, hiz, his, hib⟩ := zeroU8_ok hC (u8K_ok hk8) hz0 hsz hby
    have hop : ∀ {w w' : World} {v : Value}, (Builtin.append_ #[T, U] o.type #[a.eval s, a.eval x]).run P w = .ok v w' → (execOp a.eval o).run P w = .ok (.value v) w' := by
      intro w w' v h
      unfold execOp
      rw [ho]
      simp only [resolve, invoke, builtin, Sem.run_bind, Sem.run_pure, Result.andThen_ok, List.map_toArray, List.map_cons, List.map_nil, h]
    split at h
    · -- onto a row of one's own
      rename_i k hp
      rw [hp] at hsv
      split at h
      · rename_i e' t' xs0' hk
        split at h
        · rename_i xs0 hc
          split at h
          · rename_i he
            obtain rfl := Option.some.inj h
            subst he
            obtain ⟨et, hxs0⟩ := cast?_some hc
            cases et
            subst hxs0
            have hgone : lookO c.own nxt = .gone := hf.resolve_left (by simp)
            have hbd : xs0'.length + str.size ≤ 140737488355328 := hs _ (List.mem_singleton.2 rfl)
            simp only [RV, hk] at hsv
            have hb := hm.ok k
            unfold BlkOk at hb
            simp only [hk] at hb
            obtain ⟨hz, cs, hown, hrl, hnS⟩ := hb
            obtain ⟨v', w', hrun, hown', hgrow, _⟩ := run_append_own_string (P := P) (w := c.w) B T U o.type e i hu hu' hi hiz his hib (c.ρ k) xs0'.length cs hown str (by unfold maxLen; omega) hbd hm.base
            have hob : v'.ownBlock = (c.ρ k).ownBlock ∨ v'.ownBlock = some c.w.heap.size := by
              exact own_after (P := P) B T U o.type e i hu hu' hi hiz his hib (c.ρ k) xs0'.length cs hown str hbd hrun
            rw [← hxs, ← hsv] at hrun
            have hrl' := RdL_bytes (P := P) (S := c.S) (w := c.w) str
            obtain ⟨hm1, hg1⟩ := hm.consume hk hgrow
            have hne : nxt ≠ k := by intro e'; rw [e', hk] at hgone; cases hgone
            have hlo : ∀ j, lookO (Cx.add { c with w := w' } k .dead (c.ρ k)).own j = if j = k then .dead else lookO c.own j := lookO_add { c with w := w' } k .dead (c.ρ k)
            have hρ : ∀ j, (Cx.add { c with w := w' } k .dead (c.ρ k)).ρ j = c.ρ j := by
              intro j; simp only [Cx.add]; split
              · rename_i e; rw [e]
              · rfl
            have hone' : v'.oneCell' = true := by
              rcases hown'.2 with ⟨hv, _⟩ | ⟨g, cap, cur, hv, _⟩ <;> rw [hv] <;> rfl
            obtain ⟨hm2, hg2⟩ := hm1.addRow (k := nxt) (e := e) (t := .int .u8) (xs := xs0' ++ bytesI str) (v := v') (cs := cs ++ strCells str) (by rw [hlo, if_neg hne]; exact hgone) hz hone' (by rw [List.length_append, bytesI_length]; exact hown') ((hrl.append hrl').mono hg1.stays)
              (fun b hb hS => by
                rcases hob with e' | e'
                · rw [e'] at hb; exact hnS b hb hS
                · rw [e'] at hb; cases hb; exact absurd (hm.bound _ hS) (Nat.lt_irrefl _))
              (fun j b hb hj => by
                rw [hlo, hρ] at hj
                by_cases ej : j = k
                · rw [if_pos ej] at hj; cases hj
                · rw [if_neg ej] at hj
                  rcases hob with e' | e'
                  · rw [e'] at hb; exact hm.apart j k b ej hj (by rw [hk, ownBlock_blkOf]; exact hb)
                  · rw [e'] at hb; cases hb; exact absurd (hm.blk_lt j _ hj) (Nat.lt_irrefl _))
            intro K Q hK
            unfold Oper.wp
            rw [hop hrun, Oper.upon_value]
            refine hK v' _ hm2 (hg1.trans hg2) ((Fr.consume hk hgrow).add fun g hg => by
              rw [ownBlock_blkOf] at hg
              rcases hob with e' | e'
              · rw [e'] at hg; exact .inr ⟨k, by rw [hk, ownBlock_blkOf]; exact hg⟩
              · rw [e'] at hg; cases hg; exact .inl (Nat.le_refl _)) (by simp [Cx.add]) ?_ (fun p hp => by cases hp)
            have := RV.at_row (P := P) (c := Cx.add (Cx.add { c with w := w' } k .dead (c.ρ k)) nxt (.row e (.int .u8) (xs0' ++ bytesI str)) v') (k := nxt) (e := e) (t := .int .u8) (xs := xs0' ++ bytesI str) (by rw [lookO_add, if_pos rfl])
            simpa [Cx.add] using this
          · cases h
        · cases h
      · cases h
    · -- onto nil
      rename_i hp
      rw [hp] at hsv
      obtain rfl := Option.some.inj h
      have hgone : lookO c.own nxt = .gone := hf.resolve_left (by simp)
      have hbd : str.size ≤ 140737488355328 := hs _ (List.mem_singleton.2 rfl)
      have hsv : a.eval s = .slice none 0 0 := hsv
      obtain ⟨v', w', hrun, hown', hgrow, _⟩ := run_append_own_string (P := P) (w := c.w) B T U o.type e i hu hu' hi hiz his hib (.slice none 0 0) 0 [] (World.ownsRow_nil _ _ _ _) str (by unfold maxLen; omega) (by omega) hm.base
      have hob : v'.ownBlock = none ∨ v'.ownBlock = some c.w.heap.size := by
        exact own_after (P := P) B T U o.type e i hu hu' hi hiz his hib (.slice none 0 0) 0 [] (World.ownsRow_nil _ _ _ _) str (by omega) hrun
      rw [← hxs, ← hsv] at hrun
      have hrl' := RdL_bytes (P := P) (S := c.S) (w := c.w) str
      obtain ⟨hm1, hg1⟩ := hm.grow (w' := w') ⟨hgrow.os, hgrow.tape, hgrow.output, hgrow.size, fun b hb => hgrow.block b hb (by simp [Value.ownBlock])⟩ (fun _ => False) (fun b h => h.elim)
      simp only [S_false] at hm1 hg1
      have hone' : v'.oneCell' = true := by
        rcases hown'.2 with ⟨hv, _⟩ | ⟨g, cap, cur, hv, _⟩ <;> rw [hv] <;> rfl
      obtain ⟨hm2, hg2⟩ := hm1.addRow (k := nxt) (e := e) (t := .int .u8) (xs := bytesI str) (v := v') (cs := strCells str) hgone (by decide) hone' (by rw [bytesI_length]; have := hown'; rw [Nat.zero_add, List.nil_append] at this; exact this) (hrl'.mono hg1.stays)
        (fun b hb hS => by
          rcases hob with e' | e'
          · rw [e'] at hb; cases hb
          · rw [e'] at hb; cases hb; exact absurd (hm.bound _ hS) (Nat.lt_irrefl _))
        (fun j b hb hj => by
          rcases hob with e' | e'
          · rw [e'] at hb; cases hb
          · rw [e'] at hb; cases hb; exact absurd (hm.blk_lt j _ hj) (Nat.lt_irrefl _))
      intro K Q hK
      unfold Oper.wp
      rw [hop hrun, Oper.upon_value]
      refine hK v' _ hm2 (hg1.trans hg2) ((Fr.grow' (w' := w') ⟨hgrow.os, hgrow.tape, hgrow.output, hgrow.size, fun b hb => hgrow.block b hb (by simp [Value.ownBlock])⟩).add fun g hg => by
        rw [ownBlock_blkOf] at hg
        rcases hob with e' | e'
        · rw [e'] at hg; cases hg
        · rw [e'] at hg; cases hg; exact .inl (Nat.le_refl _)) (by simp [Cx.add]) ?_ (fun p hp => by cases hp)
      have := RV.at_row (P := P) (c := Cx.add { c with w := w' } nxt (.row e (.int .u8) (bytesI str)) v') (k := nxt) (e := e) (t := .int .u8) (xs := bytesI str) (by rw [lookO_add, if_pos rfl])
      simpa [Cx.add] using this
    · cases h
  · cases h

theorem RdL_wrap {k : IntKind} {S : Nat → Prop} {w : World} : ∀ {xs : List Int} {cs : List Value}, RdL P (.int k) S w xs cs → ∀ n ∈ xs, k.wrap n = n
  | [], cs, h => fun n hn => by cases hn
  | m :: xs, cs, h => by
    obtain ⟨c1, c2, rfl, h1, h2⟩ := h
    intro n hn
    rcases List.mem_cons.1 hn with rfl | hn
    · exact h1.2
    · exact RdL_wrap h2 n hn
theorem cp_list {A Z M X : List Value} {base lo n len : Nat} (ha : A.length = base) (hm : M.length = len) (hx : X.length = n) (h : lo + n ≤ len) :
    (A ++ (M ++ Z)).take (base + lo) ++ X ++ (A ++ (M ++ Z)).drop (base + lo + n) = A ++ ((M.take lo ++ (X ++ M.drop (lo + n))) ++ Z) := by
  have t1 : (A ++ (M ++ Z)).take (base + lo) = A ++ M.take lo := by
    rw [List.take_append, ha, List.take_of_length_le (by omega), Nat.add_sub_cancel_left, List.take_append_of_le_length (by omega)]
  have t2 : (A ++ (M ++ Z)).drop (base + lo + n) = M.drop (lo + n) ++ Z := by
    rw [List.drop_append, ha, List.drop_eq_nil_iff.2 (by omega), List.nil_append]
    have : base + lo + n - base = lo + n := by omega
    rw [this, List.drop_append_of_le_length (by omega)]
  rw [t1, t2]
  simp [List.append_assoc]
theorem cpL_length {ns xs : List Int} {lo m len : Nat} (hl : ns.length = len) (h : lo + m ≤ len) : (cpL ns lo m xs).length = len := by
  unfold cpL
  simp only [List.length_append, List.length_take, List.length_drop]
  omega
set_option maxHeartbeats 1000000 in
theorem owed_copy (hC : CfgOk P C B w0) (hm : Mem P B w0 S0 c) {lk : Operand → D} (hlk : ∀ x, RV P c (lk x) (a.eval x)) {T e : TypeId} {x y : Operand} {nxt : Nat} (ho : o.op = .call { callee := .builtin .copy, args := #[x, y], argTypes := #[T, T] }) (hT : kindT C T = .sl e)
    {k base len lo hi : Nat} {ty : TypeId} {ds : List D} {kk : IntKind} {xs : List Int} {ns : List Int} (h1 : lk x = .arx k base len lo hi false) (h2 : lookO c.own k = .cells ty ds) (h3 : slOf c.own (lk y) = some ⟨.int kk, xs⟩) (h4 : kindT C e = .int kk) (h5 : sizeT C e = 1) (h6 : base + len ≤ ds.length)
    (h7 : arxNs c.own k base len kk = some ns) : Owed P B w0 S0 c a o ⟨[], [], .dat (.int .i64) ((min (hi - lo) (List.length xs) : Nat) : Int), (k, .cells ty (splice ds base (mkInts kk len (cpL ns lo (hi - lo) xs)))) :: c.own, nxt⟩ := by
  have hx := hlk x
  rw [h1] at hx
  obtain ⟨_, d, _, _, hu, _, _, _, _, hd⟩ := tabOk hC hT (by simp)
  have hu := (kind_sl hd) ▸ hu
  obtain ⟨inf, z, hinf, _, hsz, _, _⟩ := infoT_ok hC (T := e) (by omega)
  have hs1 : (P.info? e).map (·.size) = some 1 := by rw [hinf]; simp [hsz, h5]
  obtain ⟨ty', ds', b, cs, q1, hρ, hheap, hrs, q5, q6, q7, hone, hB, hS⟩ := arxNs_ok hm h7
  rw [h2] at q1
  cases q1
  simp only [RV, h2] at hx
  obtain ⟨p1, p2, _, b', p4, hv⟩ := hx
  rw [hρ] at p4
  simp only [Value.pointer.injEq, Option.some.injEq, Addr.mk.injEq] at p4
  obtain ⟨rfl, _⟩ := p4
  obtain ⟨e1, e2⟩ := intsOf_ok q6 ((hrs.drop base).take len)
  have hcl : cs.length = ds.length := hrs.length
  obtain ⟨sb, scap, hsv, hcells⟩ := slOf_cells hm (hlk y) h3
  have hop : ∀ {w w' : World} {v : Value}, (Builtin.copy_ #[T, T] o.type #[a.eval x, a.eval y]).run P w = .ok v w' → (execOp a.eval o).run P w = .ok (.value v) w' := by
    intro w w' v h
    unfold execOp
    rw [ho]
    simp only [resolve, invoke, builtin, Sem.run_bind, Sem.run_pure, Result.andThen_ok, List.map_toArray, List.map_cons, List.map_nil, h]
  have hlen : (cpL ns lo (hi - lo) xs).length = len := cpL_length q5 (by omega)
  -- what is copied
  obtain ⟨news, hnews, hw, hwx⟩ : ∃ news : List Value, news = (xs.take (min (hi - lo) xs.length)).map (Value.int kk) ∧ (∀ n ∈ xs.take (min (hi - lo) xs.length), kk.wrap n = n) ∧
      (Builtin.copy_ #[T, T] o.type #[a.eval x, a.eval y]).run P c.w = .ok (goInt news.length) (c.w.setRow b (cs.take base ++ ((cpL ns lo (hi - lo) xs).map (Value.int kk) ++ cs.drop (base + len))).toArray) := by
    have self : cs.take base ++ (ns.map (Value.int kk) ++ cs.drop (base + len)) = cs := by
      rw [← e1]
      have := List.take_append_drop base cs
      conv => rhs; rw [← this]
      congr 1
      have h8 := List.take_append_drop len (cs.drop base)
      rw [List.drop_drop] at h8
      exact h8
    by_cases hz : min (hi - lo) xs.length = 0
    · refine ⟨[], by rw [hz]; rfl, by rw [hz]; simp, ?_⟩
      have hcp : cpL ns lo (hi - lo) xs = ns := by
        unfold cpL
        have h9 : xs.take (hi - lo) = [] := by
          rcases Nat.eq_zero_or_pos (hi - lo) with h | h
          · rw [h]; rfl
          · rw [List.length_eq_zero_iff.1 (by omega : xs.length = 0)]; simp
        rw [h9, hz]
        simp
      rw [hcp, self, hv, hsv]
      have hset : c.w.setRow b cs.toArray = c.w := setRow_self c.w b cs.toArray ty (0, 0) hheap
      rw [hset]
      simp only [arxV]
      exact run_copy_none c.w T T o.type e _ _ _ _ _ _ hu hs1 (by show min xs.length (hi - lo) = 0; omega)
    · have hne : xs ≠ [] := by intro e; rw [e] at hz; simp at hz
      obtain ⟨sb', off, all, rfl, hrl, hlie⟩ := hcells hne
      have hall := RdL_ints hrl
      have hww : ∀ n ∈ xs, kk.wrap n = n := RdL_wrap hrl
      refine ⟨_, rfl, fun n hn => hww n (List.mem_of_mem_take hn), ?_⟩
      have hlo : ¬ lo = len := by omega
      rw [hv, hsv]
      simp only [arxV, if_neg hlo]
      have hrun := run_copy_row (P := P) c.w T T o.type e b (base + lo) (hi - lo) (len - lo) ⟨sb', off, none⟩ xs.length scap cs.toArray ty ((xs.take (min (hi - lo) xs.length)).map (Value.int kk)) hu hs1 hheap
        (by rw [List.length_map, List.length_take]; show min (min (hi - lo) xs.length) xs.length = min xs.length (hi - lo); omega)
        (fun j v hj => by
          rw [add_none]
          apply hlie
          rw [hall]
          rw [List.getElem?_map] at hj ⊢
          rw [List.getElem?_take] at hj
          split at hj
          · exact hj
          · cases hj)
        (by rw [List.length_map, List.length_take, show cs.toArray.size = cs.length from rfl]; omega)
        (fun v hv => by obtain ⟨n, _, rfl⟩ := List.mem_map.1 hv; rfl)
      rw [hrun]
      have hm1 : xs.take (min (hi - lo) xs.length) = xs.take (hi - lo) := by
        rw [← List.take_take, List.take_length]
      have hnsl : (ns.map (Value.int kk)).length = len := by rw [List.length_map, q5]
      have hbl : (cs.take base).length = base := by rw [List.length_take]; omega
      have hcp : cs.take (base + lo) ++ (xs.take (min (hi - lo) xs.length)).map (Value.int kk) ++ cs.drop (base + lo + ((xs.take (min (hi - lo) xs.length)).map (Value.int kk)).length) = cs.take base ++ ((cpL ns lo (hi - lo) xs).map (Value.int kk) ++ cs.drop (base + len)) := by
        have hcl2 := cp_list (Z := cs.drop (base + len)) (X := (xs.take (min (hi - lo) xs.length)).map (Value.int kk)) (lo := lo) (n := min (hi - lo) xs.length) hbl hnsl (by rw [List.length_map, List.length_take]; omega) (by omega)
        rw [self] at hcl2
        rw [List.length_map, List.length_take, show min (min (hi - lo) xs.length) xs.length = min (hi - lo) xs.length by omega, hcl2]
        congr 2
        unfold cpL
        rw [List.map_append, List.map_append, hm1, List.map_take (l := ns), List.map_drop (l := ns)]
      rw [← hcp]
  have hmk := mkInts_ok (P := P) (c := c) (kk := kk) (len := len) (l := cpL ns lo (hi - lo) xs) hlen (by
    intro n hn
    unfold cpL at hn
    rcases List.mem_append.1 hn with hn | hn
    · exact e2 n (List.mem_of_mem_take hn)
    · rcases List.mem_append.1 hn with hn | hn
      · apply hw
        have hm1 : xs.take (min (hi - lo) xs.length) = xs.take (hi - lo) := by
          rw [← List.take_take, List.take_length]
        rw [hm1]; exact hn
      · exact e2 n (List.mem_of_mem_drop hn))
  have hsp := splice_ok (k := base) hrs hmk
  rw [List.length_map, hlen] at hsp
  have hm' := Mem.write (P := P) hm (k := k) (b := b) (nb := .cells ty (splice ds base (mkInts kk len (cpL ns lo (hi - lo) xs)))) (cur := (cs.take base ++ ((cpL ns lo (hi - lo) xs).map (Value.int kk) ++ cs.drop (base + len))).toArray)
    (by rw [h2]; simp [blkOf, hρ]) (by simp [blkOf, hρ]) (by rw [h2]; simp [Turns]) (fun hgo => by
      unfold BlkOk
      rw [lookO_written]
      refine ⟨b, _, by rw [ρ_written]; exact hρ, setRow_heap c.w b _ _ ty _ hheap, RVs.goes hgo hm.one hsp, ?_, hB, hS⟩
      intro u hu'
      rcases List.mem_append.1 hu' with hu' | hu'
      · exact hone u (List.mem_of_mem_take hu')
      · rcases List.mem_append.1 hu' with hu' | hu'
        · obtain ⟨n, _, rfl⟩ := List.mem_map.1 hu'; rfl
        · exact hone u (List.mem_of_mem_drop hu'))
  intro K Q hK
  unfold Oper.wp
  rw [hop hwx, Oper.upon_value]
  have hnl : news.length = min (hi - lo) xs.length := by rw [hnews, List.length_map, List.length_take]; omega
  refine hK _ (c.written k (.cells ty (splice ds base (mkInts kk len (cpL ns lo (hi - lo) xs)))) b _) hm'.1 hm'.2 (Fr.written (k := k) (by rw [h2]; simp [blkOf, hρ]) (by simp [blkOf, hρ])) rfl ?_ (fun p hp => by cases hp)
  rw [hnl]
  refine .of_int (small_wrap ?_)
  unfold maxLen; omega

end
end Go.Eng
namespace Go.Eng
open Go.RowKit

variable {P : Program} {C : Cfg} {B : Nat} {w0 : World}
section
variable {B : Nat} {w0 : World} {S0 : Nat → Prop} {c : Cx} {a : Act} {o : Oper}

theorem stepF_ok (hC : CfgOk P C B w0) (hm : Mem P B w0 S0 c) {lk : Operand → D} (hlk : ∀ x, RV P c (lk x) (a.eval x)) {nxt : Nat} {g : Bool} {r : Res}
    (h : stepF C lk c.own nxt o g = some r) (hs : ∀ p ∈ r.side, p) (hf : r.nxt = nxt ∨ lookO c.own nxt = .gone) : Owed P B w0 S0 c a o r := by
  cases hop : o.op with
  | move x =>
    have h' := h; unfold stepF at h'; rw [hop] at h'; simp only [Option.some.injEq] at h'; subst h'
    exact owed_move hm hlk (.inl hop)
  | assign x =>
    have h' := h; unfold stepF at h'; rw [hop] at h'; simp only [Option.some.injEq] at h'; subst h'
    exact owed_move hm hlk (.inr hop)
  | alloc T => exact owed_alloc hC hm hop h hf
  | box T x => exact owed_box hm hlk hop h hf
  | build T ps => exact owed_build hC hm hlk hop h
  | buildSlice T n ps => exact owed_buildSlice hC hm hlk hop h hf
  | makeMap T r0 =>
    cases r0 with
    | none => exact owed_makeMap hC hm hop h hf
    | some x => unfold stepF at h; rw [hop] at h; cases h
  | lookup T m x ok => exact owed_lookup hC hm hlk hop h
  | makeInterface T x => exact owed_makeInterface hC hm hlk hop h
  | typeAssert x X T ok => exact owed_typeAssert hC hm hlk hop h
  | mapUpdate T m x y => exact owed_mapUpdate hC hm hlk hop h hs
  | insert T m x y => exact owed_insert hC hm hlk hop h hs
  | makeSlice T x y => exact owed_makeSlice hC hm hlk hop h hs hf
  | load T x => exact owed_load hC hm hlk hop h hs
  | store T x y => exact owed_store hC hm hlk hop h
  | nilCheck x => exact owed_nilCheck hm hlk hop h hs
  | fieldAddr T x f => exact owed_fieldAddr hC hm hlk hop h hs
  | field T x f => exact owed_field hC hm hlk hop h
  | indexAddr T x y => exact owed_indexAddr hC hm hlk hop h hs
  | extract x i => exact owed_extract hm hlk hop h
  | index T x y => exact owed_index hC hm hlk hop h hs
  | range T x => exact owed_range hC hm hlk hop h hf
  | entry x => exact owed_entry hm hlk hop h
  | binOp op T x y U => exact owed_binOp hC hm hlk hop h hs
  | unOp op T x => exact owed_unOp hm hlk hop h
  | convert T U x => exact owed_convert hC hm hlk hop h hs
  | slice T x lo hi mx => exact owed_slice hC hm hlk hop h hs
  | makeFunc f first caps =>
    cases f with
    | func f => exact owed_makeFunc hm hlk hop h
    | _ => unfold stepF at h; rw [hop] at h; cases h
  | call cl =>
    obtain ⟨callee, args, ts⟩ := cl
    cases callee with
    | value f => exact owed_call hC hm hlk hop h hs hf
    | invoke x m => unfold stepF at h; rw [hop] at h; cases h
    | builtin b =>
      unfold stepF at h
      rw [hop] at h
      simp only at h
      split at h
      · -- len
        rename_i x T e1 e2
        have ea : args = #[x] := by cases args; simpa using e1
        have et : ts = #[T] := by cases ts; simpa using e2
        subst ea et
        split at h
        · rename_i e hk
          split at h
          · rename_i n hn
            obtain rfl := Option.some.inj h
            exact owed_len hC hm hlk hop hk hn
          · cases h
        · rename_i hk
          split at h
          · rename_i s hl
            obtain rfl := Option.some.inj h
            exact owed_lenStr hC hm hlk hop hk hl
          · cases h
        · cases h
      · -- append
        rename_i s x T T' e1 e2
        have ea : args = #[s, x] := by cases args; simpa using e1
        have et : ts = #[T, T'] := by cases ts; simpa using e2
        subst ea et
        split at h
        · rename_i hT
          obtain ⟨rfl, _⟩ := hT
          split at h
          · rename_i e hk
            exact owed_append hC hm hlk hop hk h hs hf
          · cases h
        · split at h
          · split at h
            · rename_i hk hk' hx
              exact owed_appendS hC hm hlk hop hk hk' hx h hs hf
            · cases h
          · cases h
      · -- copy
        rename_i x y T U e1 e2
        have ea : args = #[x, y] := by cases args; simpa using e1
        have et : ts = #[T, U] := by cases ts; simpa using e2
        subst ea et
        split at h
        · rename_i hT
          obtain ⟨_, rfl⟩ := hT
          split at h
          · rename_i e hk
            split at h
            · rename_i k base len lo hi h1
              split at h
              · rename_i ty ds kk xs k2 h2 h3 h4
                split at h
                · rename_i hc
                  obtain ⟨rfl, h5, h6⟩ := hc
                  split at h
                  · rename_i ns h7
                    obtain rfl := Option.some.inj h
                    exact owed_copy hC hm hlk hop hk h1 h2 h3 h4 h5 h6 h7
                  · cases h
                · cases h
              · cases h
            · cases h
          · cases h
        · cases h
      · rename_i x y T U e1 e2
        have ea : args = #[x, y] := by cases args; simpa using e1
        subst ea
        split at h
        · rename_i k m k' n hx hy
          split at h
          · rename_i hk
            subst hk
            obtain rfl := Option.some.inj h
            exact (owed_maxmin hm hlk hx hy).1 hop
          · cases h
        · cases h
      · rename_i x y T U e1 e2
        have ea : args = #[x, y] := by cases args; simpa using e1
        subst ea
        split at h
        · rename_i k m k' n hx hy
          split at h
          · rename_i hk
            subst hk
            obtain rfl := Option.some.inj h
            exact (owed_maxmin hm hlk hx hy).2 hop
          · cases h
        · cases h
      · rename_i x y z T U V e1 e2
        have ea : args = #[x, y, z] := by cases args; simpa using e1
        subst ea
        split at h
        · rename_i k m k' n k'' p hx hy hz
          split at h
          · rename_i hk
            obtain ⟨rfl, rfl⟩ := hk
            obtain rfl := Option.some.inj h
            exact (owed_maxmin3 hm hlk hx hy hz).1 hop
          · cases h
        · cases h
      · rename_i x y z T U V e1 e2
        have ea : args = #[x, y, z] := by cases args; simpa using e1
        subst ea
        split at h
        · rename_i k m k' n k'' p hx hy hz
          split at h
          · rename_i hk
            obtain ⟨rfl, rfl⟩ := hk
            obtain rfl := Option.some.inj h
            exact (owed_maxmin3 hm hlk hx hy hz).2 hop
          · cases h
        · cases h
      · cases h
  | _ => unfold stepF at h; rw [hop] at h; cases h

theorem withS_same {own : Own} {nxt : Nat} {q : Option (List Cnd × D)} {r : Res} (h : withS own nxt q = some r) : r.own = own ∧ r.nxt = nxt := by
  unfold withS at h; split at h
  · cases h; exact ⟨rfl, rfl⟩
  · cases h
theorem withD_same {own : Own} {nxt : Nat} {q : Option D} {r : Res} (h : withD own nxt q = some r) : r.own = own ∧ r.nxt = nxt := by
  unfold withD at h; split at h
  · cases h; exact ⟨rfl, rfl⟩
  · cases h
theorem callB_same {con : BCon} {own : Own} {nxt : Nat} {ds : List D} {r : Res} (h : callB con own nxt ds = some r) : r.own = own ∧ r.nxt = nxt := by
  unfold callB at h
  repeat' split at h
  all_goals first | (cases h; done) | (cases h; exact ⟨rfl, rfl⟩)
theorem callCon_same {con : Contract} {own : Own} {nxt : Nat} {ds : List D} {r : Res} (h : callCon con own nxt true ds = some r) : r.own = own ∧ r.nxt = nxt := by
  unfold callCon at h
  split at h
  · split at h
    · split at h
      · split at h
        · cases h; exact ⟨rfl, rfl⟩
        · cases h
      · cases h
    · split at h
      · split at h
        · cases h; exact ⟨rfl, rfl⟩
        · cases h
      · cases h
    · rename_i e; cases e
  · cases h

set_option maxHeartbeats 1000000 in
theorem stepF_guard {lk : Operand → D} {own : Own} {nxt : Nat} {r : Res} (h : stepF C lk own nxt o true = some r) : r.own = own ∧ r.nxt = nxt := by
  have val : ∀ {d : D}, some (Res.val own nxt d) = some r → r.own = own ∧ r.nxt = nxt := fun e => by cases e; exact ⟨rfl, rfl⟩
  unfold stepF at h
  simp only [if_true] at h
  cases hop : o.op <;> rw [hop] at h <;> (try simp only at h)
  case move x => exact val h
  case assign x => exact val h
  case alloc => cases h
  case box => cases h
  case build => split at h <;> (try (cases h; done)); split at h <;> (try (cases h; done)); split at h <;> (try (cases h; done)); exact val h
  case buildSlice =>
    split at h <;> (try (cases h; done)); split at h <;> (try (cases h; done)); split at h <;> (try (cases h; done)); split at h
    · split at h
      · rename_i hq; exact absurd hq.1 (by simp)
      · cases h
    · split at h <;> (try (cases h; done)); exact val h
  case makeSlice =>
    split at h <;> (try (cases h; done)); split at h <;> (try (cases h; done)); split at h <;> (try (cases h; done)); split at h <;> (try (cases h; done)); cases h; exact ⟨rfl, rfl⟩
  case makeMap T r0 => cases r0 <;> cases h
  case makeInterface => split at h <;> (try (cases h; done)); split at h <;> (try (cases h; done)); split at h <;> (try (cases h; done)); exact val h
  case typeAssert => split at h <;> (try (cases h; done)); split at h <;> (try (cases h; done)); split at h; exact val h; split at h <;> (try (cases h; done)); exact val h
  case lookup => split at h <;> (try (cases h; done)); split at h <;> (try (cases h; done)); split at h <;> (try (cases h; done)); split at h <;> (try (cases h; done)); split at h <;> (try (cases h; done)); split at h <;> (try (cases h; done)); exact val h
  case mapUpdate => cases h
  case insert => cases h
  case load => split at h <;> (try (cases h; done)); exact withS_same h
  case store => cases h
  case nilCheck => split at h <;> (try (cases h; done)) <;> (cases h; exact ⟨rfl, rfl⟩)
  case fieldAddr => split at h <;> (try (cases h; done)); split at h <;> (try (cases h; done)); exact withS_same h
  case field =>
    split at h <;> (try (cases h; done)); split at h <;> (try (cases h; done)); split at h <;> (try (cases h; done))
    · exact withD_same h
    · split at h <;> (try (cases h; done)); exact withD_same h
  case indexAddr =>
    split at h <;> (try (cases h; done)); split at h <;> (try (cases h; done))
    · split at h <;> (try (cases h; done)); exact withS_same h
    · split at h <;> (try (cases h; done))
      · split at h <;> (try (cases h; done)); split at h <;> (try (cases h; done)); cases h; exact ⟨rfl, rfl⟩
      · split at h <;> (try (cases h; done)); exact val h
      · split at h <;> (try (cases h; done)); cases h; exact ⟨rfl, rfl⟩
  case extract => split at h <;> (try (cases h; done)); split at h <;> (try (cases h; done)); exact val h
  case binOp =>
    split at h
    · split at h <;> (try (cases h; done)) <;> exact val h
    · exact withS_same h
  case index =>
    repeat' (split at h <;> (try (cases h; done)))
    all_goals (cases h; exact ⟨rfl, rfl⟩)
  case range => cases h
  case unOp => split at h <;> (try (cases h; done)) <;> exact val h
  case convert =>
    split at h <;> (try (cases h; done)) <;> (try exact val h)
    split at h <;> (try (cases h; done)); cases h; exact ⟨rfl, rfl⟩
  case makeFunc f _ _ => cases f <;> simp only at h <;> (try (cases h; done)); split at h <;> (try (cases h; done)); exact val h
  case slice =>
    split at h <;> (try (cases h; done))
    · split at h <;> (try (cases h; done)); split at h <;> (try (cases h; done)); split at h <;> (try (cases h; done)); exact withS_same h
    · split at h <;> (try (cases h; done)); split at h <;> (try (cases h; done)); cases h; exact ⟨rfl, rfl⟩
    · split at h <;> (try (cases h; done)); split at h <;> (try (cases h; done)); split at h <;> (try (cases h; done)); cases h; exact ⟨rfl, rfl⟩
  case call cl =>
    obtain ⟨callee, args, ts⟩ := cl
    cases callee with
    | value f =>
      simp only at h
      split at h <;> (try (cases h; done)); split at h
      · exact callCon_same h
      · split at h
        · exact callB_same h
        · split at h <;> (try (cases h; done)); split at h <;> (try (cases h; done))
          rename_i hg
          cases hg
    | invoke x m => cases h
    | builtin b =>
      simp only at h
      split at h <;> (try (cases h; done))
      · split at h <;> (try (cases h; done))
        · split at h <;> (try (cases h; done)); exact val h
        · split at h <;> (try (cases h; done)); exact val h
      · split at h
        · rename_i hc; exact absurd hc.2 (by simp)
        · cases h
      · split at h <;> (try (cases h; done)); split at h <;> (try (cases h; done)); exact val h
      · split at h <;> (try (cases h; done)); split at h <;> (try (cases h; done)); exact val h
      · split at h <;> (try (cases h; done)); split at h <;> (try (cases h; done)); exact val h
      · split at h <;> (try (cases h; done)); split at h <;> (try (cases h; done)); exact val h
  all_goals cases h

end
end Go.Eng
namespace Go.Eng
open Go.RowKit

variable {P : Program} {C : Cfg} {B : Nat} {w0 : World}

def GV (P : Program) (c : Cx) (tm : Array Value) (d : D) (v : Value) : Prop := match d with
  | .gd t w d => (tm.getD t undef = .bool w → RV P c d v) ∧ (tm.getD t undef ≠ .bool w → v = undef)
  | d => RV P c d v

def EnvOk (P : Program) (c : Cx) (env : Env) (tm : Array Value) : Prop := ∀ s, GV P c tm (look env s) (tm.getD s undef)

structure SatC (P : Program) (B : Nat) (w0 : World) (S0 : Nat → Prop) (df : List Deferred) (c : Cx) (st : St) (a : Act) (w : World) : Prop where
  w : c.w = w
  own : c.own = st.own
  mem : Mem P B w0 S0 c
  env : EnvOk P c st.env a.tmps
  size : a.tmps.size = st.n
  defers : a.defers = df

theorem GV.ungd {c : Cx} {tm : Array Value} {d : D} {v : Value} (h : GV P c tm d v) : RV P c (ungd d) v := by
  cases d <;> first | exact h | trivial

theorem GV.goes {c c' : Cx} {tm : Array Value} {d : D} {v : Value} (hg : Goes c c') (hh : Handles c) (h : GV P c tm d v) : GV P c' tm d v := by
  cases d with
  | gd t w d => exact ⟨fun e => RV.goes hg hh (h.1 e), h.2⟩
  | _ => exact RV.goes hg hh h

theorem EnvOk.goes {c c' : Cx} {env : Env} {tm : Array Value} (hg : Goes c c') (hh : Handles c) (h : EnvOk P c env tm) : EnvOk P c' env tm := fun s => (h s).goes hg hh

def TagsOk (env : Env) (rest : List Oper) : Prop := ∀ s t w d, look env s = .gd t w d → ∀ o ∈ rest, o.dst ≠ some t

theorem GV.put {c : Cx} {tm : Array Value} {d : D} {v u : Value} {t0 : Nat} (h : GV P c tm d v) (ht : ∀ t w d', d = .gd t w d' → t ≠ t0) : GV P c (tm.setIfInBounds t0 u) d v := by
  cases d with
  | gd t w d =>
    have hne := ht t w d rfl
    have e : (tm.setIfInBounds t0 u).getD t undef = tm.getD t undef := by simp [Array.getElem?_setIfInBounds_ne (Ne.symm hne)]
    unfold GV
    simp only [e]
    exact h
  | _ => exact h

theorem EnvOk.put {c : Cx} {env : Env} {tm : Array Value} {dst : Option Nat} {d : D} {v : Value} {n : Nat} (h : EnvOk P c env tm) (hn : tm.size = n) (hp : putOk n dst = true) (hd : ∀ t, dst = some t → GV P c (tm.setIfInBounds t v) d v)
    (ht : ∀ s t w d', look env s = .gd t w d' → dst ≠ some t) : EnvOk P c (put env dst d) (match dst with | some t => tm.setIfInBounds t v | none => tm) := by
  cases dst with
  | none => exact h
  | some t0 =>
    intro s
    simp only [Go.Eng.put, look]
    have hlt : t0 < tm.size := by rw [hn]; simpa [putOk] using hp
    by_cases e : t0 = s
    · subst e
      rw [if_pos rfl]
      have : (tm.setIfInBounds t0 v).getD t0 undef = v := by simp [hlt]
      rw [this]
      exact hd t0 rfl
    · rw [if_neg e]
      have : (tm.setIfInBounds t0 v).getD s undef = tm.getD s undef := by simp [Array.getElem?_setIfInBounds_ne e]
      rw [this]
      exact (h s).put fun t w d' hl => by have := ht s t w d' hl; intro e'; exact this (by rw [e'])

theorem Act.put_eq (a : Act) (dst : Option Nat) (v : Value) : a.put dst v = { tmps := (match dst with | some t => a.tmps.setIfInBounds t v | none => a.tmps), defers := a.defers } := by
  cases dst <;> rfl
theorem size_match (tm : Array Value) (dst : Option Nat) (v : Value) : (match dst with | some t => tm.setIfInBounds t v | none => tm).size = tm.size := by
  cases dst <;> simp

theorem TagsOk.put {env : Env} {o : Oper} {rest : List Oper} {d : D} (h : TagsOk env (o :: rest)) (hd : ∀ t w d', d = .gd t w d' → ∀ o ∈ rest, o.dst ≠ some t) : TagsOk (put env o.dst d) rest := by
  intro s t w d' hl o' ho'
  cases hdst : o.dst with
  | none => rw [hdst] at hl; exact h s t w d' hl o' (List.mem_cons_of_mem _ ho')
  | some t0 =>
    rw [hdst] at hl
    simp only [Go.Eng.put, look] at hl
    split at hl
    · exact hd t w d' hl o' ho'
    · exact h s t w d' hl o' (List.mem_cons_of_mem _ ho')

theorem constD_rv {c : Cx} (v : Value) : RV P c (constD v) v := by
  unfold constD
  split
  · split
    · rename_i hw; exact .of_int hw
    · trivial
  · exact .of_bool _
  · split
    · rename_i hw; exact ⟨_, ⟨rfl, hw⟩, rfl⟩
    · trivial
  · rfl

theorem RV.toUngd {c : Cx} {d : D} {v : Value} (h : RV P c d v) : RV P c (ungd d) v := by
  cases d with
  | gd t w d => exact h.elim
  | _ => exact h
theorem RV.toGV {c : Cx} {tm : Array Value} {d : D} {v : Value} (h : RV P c d v) : GV P c tm d v := by
  cases d with
  | gd t w d => exact h.elim
  | _ => exact h

theorem opnd_gv {c : Cx} {env : Env} {a : Act} (h : EnvOk P c env a.tmps) (x : Operand) : GV P c a.tmps (opnd env x) (a.eval x) := by
  cases x with
  | tmp t => exact h t
  | const v => exact (constD_rv v).toGV
  | func f => exact ⟨[], rfl, rfl⟩
  | global g => trivial
theorem opnd_ok {c : Cx} {env : Env} {a : Act} (h : EnvOk P c env a.tmps) (x : Operand) : RV P c (ungd (opnd env x)) (a.eval x) := (opnd_gv h x).ungd

theorem strip_gv {c : Cx} {tm : Array Value} {t : Nat} {w : Bool} (hw : tm.getD t undef = .bool w) {d : D} {v : Value} (h : GV P c tm d v) : GV P c tm (strip' t w d) v := by
  cases d with
  | gd t' w' d =>
    simp only [strip']
    split
    · rename_i e
      obtain ⟨rfl, rfl⟩ := e
      exact (h.1 hw).toGV
    · exact h
  | _ => exact h

theorem opnd_guard {c : Cx} {env : Env} {a : Act} (h : EnvOk P c env a.tmps) {t : Nat} {w : Bool} (hw : a.tmps.getD t undef = .bool w) (x : Operand) : RV P c (ungd (strip' t w (opnd env x))) (a.eval x) :=
  (strip_gv hw (opnd_gv h x)).ungd

theorem condB_ok {c : Cx} {env : Env} {tm : Array Value} (h : EnvOk P c env tm) : ∀ (n : Nat) {t : Nat} {w b : Bool}, condB env n t w = some b → (tm.getD t undef = .bool w ↔ b = true)
  | 0, _, _, _, h' => by cases h'
  | n + 1, t, w, b, h' => by
    have h1 := h t
    unfold condB at h'
    split at h'
    · rename_i g hl
      rw [hl] at h1
      obtain rfl := Option.some.inj h'
      rw [RV.bool h1]
      cases w <;> cases g <;> simp
    · rename_i t' w' g hl
      rw [hl] at h1
      split at h'
      · rename_i c' hc
        obtain rfl := Option.some.inj h'
        have ih := condB_ok h n hc
        by_cases e : tm.getD t' undef = .bool w'
        · have := (h1.1 e).bool
          rw [this, ih.1 e]
          cases w <;> cases g <;> simp
        · have := h1.2 e
          rw [this]
          have hc' : c' = false := by cases c' with | false => rfl | true => exact absurd (ih.2 rfl) e
          rw [hc']
          simp [undef]
      · cases h'
    · cases h'

theorem andL_out {q : Prop} : ∀ {l : List Cnd}, andL l q → (∀ p ∈ l, p.p) ∧ q
  | [], h => ⟨fun p hp => (by cases hp), h⟩
  | p :: r, h => by
    obtain ⟨h1, h2⟩ := andL_out h.2
    exact ⟨fun q hq => (by rcases List.mem_cons.1 hq with rfl | hq; exact h.1.out; exact h1 q hq), h2⟩
theorem impL_out {q : Prop} : ∀ {l : List Prop}, impL l q → (∀ p ∈ l, p) → q
  | [], h, _ => h
  | p :: _, h, hp => impL_out (h ⟨hp p List.mem_cons_self⟩) fun q hq => hp q (List.mem_cons_of_mem _ hq)
theorem allL_out : ∀ {l : List Prop}, allL l → ∀ p ∈ l, p
  | [], _, p, hp => by cases hp
  | [q], h, p, hp => by rcases List.mem_cons.1 hp with rfl | hp; exact h.out; cases hp
  | q :: q' :: r, h, p, hp => by
    rcases List.mem_cons.1 hp with rfl | hp
    · exact h.1.out
    · exact allL_out h.2 p hp

def KeepN (P : Program) (N : List Nat) (c c' : Cx) : Prop := ∀ d v, avN N d = true → RV P c d v → RV P c' d v
def Kept (P : Program) (md : Md) (c c' : Cx) : Prop := match md with
  | .top => True
  | .goes => Goes c c'
  | .keep _ N => KeepN P N c c'
theorem Kept.refl (md : Md) (c : Cx) : Kept P md c c := by cases md <;> first | trivial | exact Goes.refl c | exact fun d v _ h => h
theorem Kept.trans {md : Md} {a b c : Cx} (x : Kept P md a b) (y : Kept P md b c) : Kept P md a c := by
  cases md with
  | top => trivial
  | goes => exact Goes.trans x y
  | keep g N => exact fun d v h hv => y d v h (x d v h hv)
theorem Kept.of {md : Md} {c c' : Cx} (hg : Goes c c') (hh : Handles c) : Kept P md c c' := by
  cases md with
  | top => trivial
  | goes => exact hg
  | keep g N => exact fun d v _ hv => hv.goes hg hh

mutual
theorem avN_mono {N N' : List Nat} (h : ∀ o, N.contains o = true → N'.contains o = true) : ∀ {d : D}, avN N d = true → avN N' d = true
  | .pt o _, hd => h o hd
  | .arr o .., hd => h o hd
  | .arx o .., hd => h o hd
  | .pe .., hd => hd
  | .own o, hd => h o hd
  | .agg ds, hd => avNs_mono h (ds := ds) hd
  | .tup ds, hd => avNs_mono h (ds := ds) hd
  | .fn _ ds, hd => avNs_mono h (ds := ds) hd
  | .gd _ _ d, hd => avN_mono h (d := d) hd
  | .dat .., hd => hd
  | .cst .., hd => hd
  | .clip .., hd => hd
  | .ifc .., hd => hd
  | .any, hd => hd
theorem avNs_mono {N N' : List Nat} (h : ∀ o, N.contains o = true → N'.contains o = true) : ∀ {ds : List D}, avNs N ds = true → avNs N' ds = true
  | [], hd => hd
  | d :: r, hd => by
    simp only [avNs, Bool.and_eq_true] at hd ⊢
    exact ⟨avN_mono h hd.1, avNs_mono h hd.2⟩
end
theorem Kept.sub {md md' : Md} {c c' : Cx} (hs : subMd md md' = true) (hh : Handles c) (h : Kept P md' c c') : Kept P md c c' := by
  cases md with
  | top => trivial
  | goes => cases md' <;> first | exact h | cases hs
  | keep g N =>
    cases md' with
    | top => cases hs
    | goes => exact Kept.of h hh
    | keep g' N' =>
      refine fun d v hd hv => h d v (avN_mono (fun o ho => ?_) hd) hv
      have := List.all_eq_true.1 (show (N.all fun o => N'.contains o) = true from hs) o (List.contains_iff_mem.1 ho)
      exact this

theorem keepE_look {md : Md} (env : Env) (s : Nat) : look (keepE md env) s = .any ∨ (look (keepE md env) s = look env s ∧ ∀ g N, md = .keep g N → avN N (look env s) = true) := by
  cases md with
  | top => exact .inr ⟨rfl, fun g N h => by cases h⟩
  | goes => exact .inr ⟨rfl, fun g N h => by cases h⟩
  | keep g N =>
    induction env with
    | nil => exact .inl rfl
    | cons p r ih =>
      obtain ⟨t, d⟩ := p
      simp only [keepE, List.map_cons, look]
      by_cases e : t = s
      · rw [if_pos e, if_pos e]
        by_cases ha : avN N d = true
        · rw [if_pos ha]; exact .inr ⟨rfl, fun g' N' h => by cases h; exact ha⟩
        · rw [if_neg ha]; exact .inl rfl
      · rw [if_neg e, if_neg e]; exact ih
theorem EnvOk.keep {md : Md} {c c' : Cx} {env : Env} {tm : Array Value} (h : EnvOk P c env tm) (hk : Kept P md c c') (hh : Handles c) (hm : md ≠ .top) : EnvOk P c' (keepE md env) tm := by
  cases md with
  | top => exact absurd rfl hm
  | goes => exact h.goes hk hh
  | keep g N =>
    intro s
    rcases keepE_look (md := .keep g N) env s with e | ⟨e, ha⟩
    · rw [e]; trivial
    · have hs := h s
      have ha := ha g N rfl
      rw [e]
      cases hd : look env s with
      | gd t w d =>
        rw [hd] at hs ha
        exact ⟨fun e => hk _ _ ha (hs.1 e), hs.2⟩
      | _ => rw [hd] at hs ha; exact hk _ _ ha hs
theorem keepE_gd {md : Md} {env : Env} {s t : Nat} {w : Bool} {d : D} (h : look (keepE md env) s = .gd t w d) : look env s = .gd t w d := by
  rcases keepE_look (md := md) env s with e | ⟨e, _⟩
  · rw [e] at h; cases h
  · rw [← e]; exact h

def Post (P : Program) (B : Nat) (w0 : World) (S0 : Nat → Prop) (df : List Deferred) (md : Md) (c : Cx) (K : Exit → St → Prop) (e : Exit) (a : Act) (w : World) : Prop :=
  ∃ st c', K e st ∧ SatC P B w0 S0 df c' st a w ∧ Kept P md c c'

theorem wp_loop_by {α : Type} {cd : Code} {Q : Exit → Act → World → Prop} {a : Act} {w : World} (I : α → Act → World → Prop) (μ : α → Nat) (x0 : α) (h0 : I x0 a w)
    (round : ∀ x a w, I x a w → cd.wp P (Exit.then (fun a' w' => ∃ x', I x' a' w' ∧ μ x' < μ x) Q) a w) : (Code.loop cd).wp P Q a w := by
  classical
  have least : ∀ a w, (∃ x, I x a w) → ∃ x, I x a w ∧ ∀ y, I y a w → μ x ≤ μ y := by
    intro a w ⟨x, hx⟩
    have : ∀ n x, μ x = n → I x a w → ∃ x, I x a w ∧ ∀ y, I y a w → μ x ≤ μ y := by
      intro n
      induction n using Nat.strongRecOn with
      | _ n ih =>
        intro x hn hx
        by_cases h : ∀ y, I y a w → μ x ≤ μ y
        · exact ⟨x, hx, h⟩
        · simp only [Classical.not_forall, Nat.not_le] at h
          obtain ⟨y, hy, hlt⟩ := h
          exact ih (μ y) (hn ▸ hlt) y rfl hy
    exact this _ x rfl hx
  let m : Act → World → Nat := fun a w => if h : ∃ x, I x a w then μ (Classical.choose (least a w h)) else 0
  refine wp_loop (fun a w => ∃ x, I x a w) m ⟨x0, h0⟩ fun a w hI => ?_
  obtain ⟨h1, h2⟩ := Classical.choose_spec (least a w hI)
  refine wp_mono (round _ a w h1) fun e a' w' hq => ?_
  cases e with
  | normal =>
    obtain ⟨x', hx', hlt⟩ := hq
    refine ⟨⟨x', hx'⟩, ?_⟩
    have hI' : ∃ x, I x a' w' := ⟨x', hx'⟩
    have h3 := (Classical.choose_spec (least a' w' hI')).2 x' hx'
    simp only [m, hI, hI', dif_pos]
    omega
  | _ => exact hq

section
variable {B : Nat} {w0 : World} {S0 : Nat → Prop}

theorem clean_look (env : Env) (s : Nat) : look (clean env) s = cleanD (look env s) := by
  induction env with
  | nil => rfl
  | cons p r ih =>
    obtain ⟨t, d⟩ := p
    simp only [clean, List.map_cons, look] at ih ⊢
    split
    · rfl
    · exact ih
theorem clean_ok {c : Cx} {env : Env} {tm : Array Value} (h : EnvOk P c env tm) : EnvOk P c (clean env) tm := by
  intro s
  rw [clean_look]
  have := h s
  cases hd : look env s <;> rw [hd] at this <;> first | exact this | trivial
theorem look_no_gd (env : Env) (s t : Nat) (w : Bool) (d : D) : look (clean env) s ≠ .gd t w d := by
  intro h
  rw [clean_look] at h
  cases hd : look env s <;> rw [hd] at h <;> cases h
theorem clean_tags (env : Env) (rest : List Oper) : TagsOk (clean env) rest := by
  intro s t w d h
  rw [clean_look] at h
  cases hd : look env s <;> rw [hd] at h <;> cases h

theorem pickD_ok {c : Cx} {env : Env} {a : Act} {p x y : Operand} {f : D → D} {d : D}
    (hfx : ∀ z, GV P c a.tmps (f (opnd env z)) (a.eval z)) (h : pickD env p x y f = some d) :
    ∃ b u, a.eval p = .bool b ∧ (if b then a.eval x else a.eval y) = .bool u ∧ d = .dat .bool u := by
  have st : ∀ {t : Nat} {w : Bool} {z : Operand} {u : Bool}, a.tmps.getD t undef = .bool w → strip t w (f (opnd env z)) = .dat .bool u → a.eval z = .bool u := by
    intro t w z u hw hs
    have h1 := hfx z
    cases hd : f (opnd env z) with
    | gd t' w' d' =>
      rw [hd] at hs h1
      simp only [strip] at hs
      split at hs
      · rename_i e
        obtain ⟨rfl, rfl⟩ := e
        have := h1.1 hw
        rw [hs] at this
        exact this.bool
      · cases hs
    | dat t' x' =>
      rw [hd] at hs h1
      simp only [strip] at hs
      cases hs
      exact RV.bool h1
    | _ => rw [hd] at hs; simp [strip] at hs
  unfold pickD at h
  split at h
  · rename_i t
    split at h
    · rename_i b hb
      have hp : a.tmps.getD t undef = .bool b := by
        have := hfx (.tmp t)
        rw [show opnd env (.tmp t) = look env t from rfl, hb] at this
        exact RV.bool this
      refine ⟨b, ?_⟩
      split at h
      · split at h
        · rename_i u hu
          obtain rfl := Option.some.inj h
          refine ⟨b || u, hp, ?_, rfl⟩
          cases b with
          | true => rfl
          | false => simp only [Bool.false_eq_true, if_false, Bool.false_or]; exact st hp hu
        · cases h
      · split at h
        · split at h
          · rename_i u hu
            obtain rfl := Option.some.inj h
            refine ⟨b && u, hp, ?_, rfl⟩
            cases b with
            | false => rfl
            | true => simp only [if_true, Bool.true_and]; exact st hp hu
          · cases h
        · cases h
    · cases h
  · cases h

theorem pick_run {o : Oper} {a : Act} {w : World} {p x y : Operand} (ho : o.op = .pick p x y) {b : Bool} (hp : a.eval p = .bool b) : (execOp a.eval o).run P w = .ok (.value (if b then a.eval x else a.eval y)) w := by
  unfold execOp
  rw [ho]
  simp only [hp, asBool, Sem.run_bind, Sem.run_pure, Result.andThen_ok]

end
end Go.Eng
namespace Go.Eng
open Go.RowKit

variable {P : Program} {C : Cfg} {B : Nat} {w0 : World}
section
variable {B : Nat} {w0 : World} {S0 : Nat → Prop} {df : List Deferred}

theorem both_some {a b : Option (List Prop)} {ps : List Prop} (h : both a b = some ps) : ∃ p q, a = some p ∧ b = some q ∧ ps = p ++ q := by
  unfold both at h
  cases a with
  | none => cases h
  | some p => cases b with
    | none => cases h
    | some q => exact ⟨p, q, rfl, rfl, (Option.some.inj h).symm⟩

def renρ (c : Cx) (ren : List (Nat × D)) (o' : Nat) : Value := match assoc ren o' with
  | some (.own o) => c.ρ o
  | _ => .slice none 0 0
def Cx.renamed (c : Cx) (ren : List (Nat × D)) (own' : Own) : Cx := { c with own := own', ρ := renρ c ren }

theorem isRow_rv {c : Cx} {o : Nat} {v : Value} (h : isRow (lookO c.own o) = true) : RV P c (.own o) v ↔ v = c.ρ o := by
  simp only [RV]
  cases hb : lookO c.own o <;> simp [hb, isRow] at h <;> exact Iff.rfl
theorem isCells_cells {b : Blk} (h : isCells b = true) : ∃ ty ds, b = .cells ty ds := by
  cases b <;> simp [isCells] at h
  exact ⟨_, _, rfl⟩

theorem entD0_ok {c : Cx} (hm : Mem P B w0 S0 c) {own' : Own} {ren : List (Nat × D)} {d d' : D} {ps : List Prop} {v : Value} (h : entD0 c.own own' ren d d' = some ps) (hp : ∀ p ∈ ps, p) (hv : RV P c d v) : RV P (c.renamed ren own') d' v := by
  unfold entD0 at h
  split at h
  · trivial
  · rename_i t y
    split at h
    · rename_i hf
      split at h
      · rename_i x hg
        obtain rfl := Option.some.inj h
        obtain rfl : x = y := hp _ (List.mem_singleton.2 rfl)
        obtain ⟨k1, k2, k3⟩ := fits_ok (.cons t .unit) hm.one hf (⟨v, [], rfl, hv, rfl⟩ : RVs P c [d] [v])
        obtain ⟨c1, c2, e, r1, r2⟩ := gather_ok (Vis.stay hm) t hg (by simpa [flats] using k1 : RVs P c (flat d) v.cells.toList)
        obtain rfl : c2 = [] := r2
        rw [List.append_nil] at e
        refine ⟨c1, r1, ?_⟩
        have k3' : group (.cons t .unit) c1 = [v] := by rw [← k3, ← e]; simp
        unfold group at k3'
        rw [← r1.length, List.take_length] at k3'
        exact (List.cons.inj k3').1.symm
      · cases h
    · cases h
  · rename_i o'
    split at h
    · rename_i hr
      have fin : v = renρ c ren o' → RV P (c.renamed ren own') (.own o') v := by
        intro hv
        exact (isRow_rv (c := c.renamed ren own') hr).2 hv
      split at h
      · rename_i k ha
        split at h
        · rename_i k'
          split at h
          · rename_i hk
            obtain ⟨rfl, hk⟩ := hk
            refine fin ?_
            unfold renρ
            rw [ha]
            exact (isRow_rv hk).1 hv
          · cases h
        · cases h
      · rename_i ha
        split at h
        · refine fin ?_
          unfold renρ
          rw [ha]
          exact hv
        · cases h
      · cases h
    · cases h
  · rename_i o' k'
    split at h
    · rename_i hr
      obtain ⟨ty, ds, hb⟩ := isCells_cells hr
      split at h
      · rename_i k ha
        split at h
        · rename_i k2 off
          split at h
          · rename_i hk
            obtain ⟨rfl, rfl, hk⟩ := hk
            obtain ⟨ty2, ds2, hb2⟩ := isCells_cells hk
            simp only [RV, hb2] at hv
            simp only [RV, Cx.renamed, hb]
            unfold renρ
            rw [ha]
            exact hv
          · cases h
        · cases h
      · cases h
    · cases h
  · rename_i o' k' n' m'
    split at h
    · rename_i hr
      obtain ⟨ty, ds, hb⟩ := isCells_cells hr
      split at h
      · rename_i k ha
        split at h
        · rename_i k2 off n2 m2
          split at h
          · rename_i hk
            obtain ⟨rfl, rfl, rfl, rfl, hk⟩ := hk
            obtain ⟨ty2, ds2, hb2⟩ := isCells_cells hk
            simp only [RV, hb2] at hv
            simp only [RV, Cx.renamed, hb]
            unfold renρ
            rw [ha]
            exact hv
          · cases h
        · cases h
      · cases h
    · cases h
  · split at h
    · exact hv
    · cases h
  · rename_i o' i' s'
    split at h
    · rename_i e' t' xs' hb'
      split at h
      · rename_i k ha
        split at h
        · rename_i k2 i0 s0
          split at h
          · rename_i e0 t0 xs0 hb
            split at h
            · rename_i hk
              obtain ⟨rfl, rfl, rfl, rfl⟩ := hk
              obtain rfl := Option.some.inj h
              have hlt : i0 < List.length xs' := hp _ (List.mem_singleton.2 rfl)
              simp only [RV, hb] at hv
              obtain ⟨b, n, m, h1, h2, _⟩ := hv
              simp only [RV, Cx.renamed, hb']
              refine ⟨b, n, m, ?_, h2, hlt⟩
              unfold renρ
              rw [ha]
              exact h1
            · cases h
          · cases h
        · cases h
      · cases h
    · cases h
  · cases h

theorem entDs0_ok {c : Cx} (hm : Mem P B w0 S0 c) {own' : Own} {ren : List (Nat × D)} : ∀ {ds ds' : List D} {ps : List Prop} {vs : List Value}, entDs0 c.own own' ren ds ds' = some ps → (∀ p ∈ ps, p) → RVs P c ds vs → RVs P (c.renamed ren own') ds' vs
  | [], [], ps, vs, _, _, hv => hv
  | d :: r, d' :: r', ps, vs, h, hp, hv => by
    obtain ⟨v, vs', rfl, h1, h2⟩ := hv
    obtain ⟨p, q, e1, e2, rfl⟩ := both_some h
    exact ⟨v, vs', rfl, entD0_ok hm e1 (fun x hx => hp x (List.mem_append.2 (.inl hx))) h1, entDs0_ok hm e2 (fun x hx => hp x (List.mem_append.2 (.inr hx))) h2⟩
  | [], _ :: _, ps, vs, h, _, _ => by cases h
  | _ :: _, [], ps, vs, h, _, _ => by cases h

theorem entD_ok {c : Cx} (hm : Mem P B w0 S0 c) {own' : Own} {ren : List (Nat × D)} {d d' : D} {ps : List Prop} {v : Value} (h : entD c.own own' ren d d' = some ps) (hp : ∀ p ∈ ps, p) (hv : RV P c d v) : RV P (c.renamed ren own') d' v := by
  unfold entD at h
  split at h
  · rename_i g' caps'
    split at h
    · rename_i g caps
      split at h
      · rename_i e
        subst e
        obtain ⟨vs, hv1, hv2⟩ := hv
        exact ⟨vs, hv1, entDs0_ok hm h hp hv2⟩
      · cases h
    · cases h
  · exact entD0_ok hm h hp hv

theorem entDs_ok {c : Cx} (hm : Mem P B w0 S0 c) {own' : Own} {ren : List (Nat × D)} : ∀ {ds ds' : List D} {ps : List Prop} {vs : List Value}, entDs c.own own' ren ds ds' = some ps → (∀ p ∈ ps, p) → RVs P c ds vs → RVs P (c.renamed ren own') ds' vs
  | [], [], ps, vs, _, _, hv => hv
  | d :: r, d' :: r', ps, vs, h, hp, hv => by
    obtain ⟨v, vs', rfl, h1, h2⟩ := hv
    obtain ⟨p, q, e1, e2, rfl⟩ := both_some h
    exact ⟨v, vs', rfl, entD_ok hm e1 (fun x hx => hp x (List.mem_append.2 (.inl hx))) h1, entDs_ok hm e2 (fun x hx => hp x (List.mem_append.2 (.inr hx))) h2⟩
  | [], _ :: _, ps, vs, h, _, _ => by cases h
  | _ :: _, [], ps, vs, h, _, _ => by cases h

theorem entEnv_ok {c : Cx} (hm : Mem P B w0 S0 c) {env : Env} {tm : Array Value} (he : EnvOk P c env tm) {own' : Own} {ren : List (Nat × D)} : ∀ {env' : Env} {ps : List Prop}, entEnv env c.own own' ren env' = some ps → (∀ p ∈ ps, p) → EnvOk P (c.renamed ren own') env' tm
  | [], ps, _, _ => fun s => trivial
  | (s, d') :: r, ps, h, hp => by
    obtain ⟨p, q, e1, e2, rfl⟩ := both_some h
    have h1 := entD_ok hm e1 (fun x hx => hp x (List.mem_append.2 (.inl hx))) (he s).ungd
    have h2 := entEnv_ok hm he e2 (fun x hx => hp x (List.mem_append.2 (.inr hx)))
    intro s'
    simp only [look]
    split
    · rename_i e; subst e; exact h1.toGV
    · exact h2 s'

theorem lookO_mem : ∀ {own : Own} {o : Nat}, lookO own o ≠ .gone → ∃ p ∈ own, p.1 = o
  | [], o, h => absurd rfl h
  | (s, b) :: r, o, h => by
    by_cases e : s = o
    · exact ⟨_, List.mem_cons_self, e⟩
    · simp only [lookO, if_neg e] at h
      obtain ⟨p, hp, e2⟩ := lookO_mem h
      exact ⟨p, List.mem_cons_of_mem _ hp, e2⟩

theorem entB_ok {c : Cx} (hm : Mem P B w0 S0 c) {own' : Own} {ren : List (Nat × D)} {o' : Nat} {b : Blk} (hb : lookO own' o' = b) {ps : List Prop} (h : entB c.own own' ren o' b = some ps) (hp : ∀ p ∈ ps, p) :
    BlkOk P B (c.renamed ren own') o' := by
  have hρ : ∀ o, assoc ren o' = some (.own o) → (c.renamed ren own').ρ o' = c.ρ o := by
    intro o ha; simp only [Cx.renamed, renρ, ha]
  unfold BlkOk
  rw [show lookO (c.renamed ren own').own o' = b from hb]
  unfold entB at h
  split at h
  · trivial
  · trivial
  · rename_i ty' ds'
    split at h
    · rename_i o ha
      split at h
      · rename_i ty ds hk
        split at h
        · rename_i hty
          subst hty
          have hbk := hm.ok o
          unfold BlkOk at hbk
          simp only [hk] at hbk
          obtain ⟨g, cs, h1, h2, h3, h4, h5, h6⟩ := hbk
          exact ⟨g, cs, by rw [hρ o ha]; exact h1, h2, entDs_ok hm h hp h3, h4, h5, h6⟩
        · cases h
      · cases h
    · cases h
  · rename_i e' t' xs'
    split at h
    · rename_i o ha
      split at h
      · rename_i e t xs hk
        split at h
        · rename_i he
          subst he
          split at h
          · rename_i x hc
            obtain rfl := Option.some.inj h
            obtain ⟨et, hx⟩ := cast?_some hc
            cases et
            subst hx
            obtain rfl : xs = xs' := hp _ (List.mem_singleton.2 rfl)
            have hbk := hm.ok o
            unfold BlkOk at hbk
            simp only [hk] at hbk
            obtain ⟨hz, cs, h1, h2, h3⟩ := hbk
            exact ⟨hz, cs, by rw [hρ o ha]; exact h1, h2, fun b hb => by rw [hρ o ha] at hb; exact h3 b hb⟩
          · cases h
        · cases h
      · cases h
    · rename_i ha
      split at h
      · rename_i hz
        obtain rfl := Option.some.inj h
        obtain rfl : xs' = [] := hp _ (List.mem_singleton.2 rfl)
        have e1 : (c.renamed ren own').ρ o' = .slice none 0 0 := by simp only [Cx.renamed, renρ, ha]
        exact ⟨hz, [], by rw [e1]; exact World.ownsRow_nil _ _ _ _, rfl, fun b hb => by rw [e1] at hb; cases hb⟩
      · cases h
    · cases h
  · rename_i t' xs'
    split at h
    · rename_i o ha
      split at h
      · rename_i t xs hk
        split at h
        · rename_i x hc
          obtain rfl := Option.some.inj h
          obtain ⟨et, hx⟩ := cast?_some hc
          cases et
          subst hx
          obtain rfl : xs = xs' := hp _ (List.mem_singleton.2 rfl)
          have hbk := hm.ok o
          unfold BlkOk at hbk
          simp only [hk] at hbk
          rw [hρ o ha]
          exact hbk
        · cases h
      · cases h
    · cases h
  · rename_i t' xs'
    split at h
    · rename_i o ha
      split at h
      · rename_i t xs hk
        split at h
        · rename_i x hc
          obtain rfl := Option.some.inj h
          obtain ⟨et, hx⟩ := cast?_some hc
          cases et
          subst hx
          obtain rfl : xs = xs' := hp _ (List.mem_singleton.2 rfl)
          have hbk := hm.ok o
          unfold BlkOk at hbk
          simp only [hk] at hbk
          rw [hρ o ha]
          exact hbk
        · cases h
      · cases h
    · cases h
  · rename_i T' kt' vt' n' f'
    split at h
    · rename_i o ha
      split at h
      · rename_i T kt vt n f hk
        split at h
        · rename_i e
          subst e
          split at h
          · rename_i g hc
            obtain rfl := Option.some.inj h
            unfold castF at hc
            split at hc
            · rename_i e1
              subst e1
              split at hc
              · rename_i e2
                subst e2
                cases hc
                have h1 : n ≤ n' := hp _ (by simp)
                obtain rfl : f = f' := hp _ (by simp)
                have hbk := hm.ok o
                unfold BlkOk at hbk
                simp only [hk] at hbk
                rw [hρ o ha]
                obtain ⟨b, D, k, e, g1, g2, g3, g4⟩ := hbk
                exact ⟨b, D, k, e, g1, g2, g3.mono h1, g4⟩
              · cases hc
            · cases hc
          · cases h
        · cases h
      · cases h
    · cases h
  · rename_i s' p'
    split at h
    · rename_i o ha
      split at h
      · rename_i s p hk
        obtain rfl := Option.some.inj h
        obtain rfl : s = s' := hp _ (by simp)
        obtain rfl : p = p' := hp _ (by simp)
        have hbk := hm.ok o
        unfold BlkOk at hbk
        simp only [hk] at hbk
        rw [hρ o ha]
        exact hbk
      · cases h
    · cases h
  · rename_i vt' f' l' n'
    split at h
    · rename_i o ha
      split at h
      · rename_i vt f l n cur hk
        split at h
        · rename_i g hc
          obtain rfl := Option.some.inj h
          unfold castF at hc
          split at hc
          · split at hc
            · rename_i e2
              subst e2
              cases hc
              obtain rfl : f = f' := hp _ (by simp)
              obtain rfl : l = l' := hp _ (by simp)
              obtain rfl : n = n' := hp _ (by simp)
              have hbk := hm.ok o
              unfold BlkOk at hbk
              simp only [hk] at hbk
              rw [hρ o ha]
              obtain ⟨r, b, n, D, kT, L, cn, q1, q2, q3, q4, q5, q6, q7, q8, q9, q10, _⟩ := hbk
              exact ⟨r, b, n, D, kT, L, cn, q1, q2, q3, q4, q5, q6, q7, q8, q9, q10, fun s y e => by cases e⟩
            · cases hc
          · cases hc
        · cases h
      · cases h
    · cases h
  · cases h
  · cases h
  · cases h
  · cases h

theorem entOwn_ok {c : Cx} (hm : Mem P B w0 S0 c) {own0 : Own} {ren : List (Nat × D)} : ∀ {own' : Own} {ps : List Prop}, entOwn c.own own0 ren own' = some ps → (∀ p ∈ ps, p) → ∀ o', ∃ qs, (lookO own' o' = .gone ∨ entB c.own own0 ren o' (lookO own' o') = some qs) ∧ ∀ q ∈ qs, q
  | [], ps, _, _, o' => ⟨[], .inl rfl, fun q hq => (by cases hq)⟩
  | (s, b) :: r, ps, h, hp, o' => by
    obtain ⟨p, q, e1, e2, rfl⟩ := both_some h
    simp only [lookO]
    by_cases e : s = o'
    · subst e
      rw [if_pos rfl]
      exact ⟨p, .inr e1, fun x hx => hp x (List.mem_append.2 (.inl hx))⟩
    · rw [if_neg e]
      exact entOwn_ok hm e2 (fun x hx => hp x (List.mem_append.2 (.inr hx))) o'

theorem blkOf_ren {c : Cx} {own' : Own} {ren : List (Nat × D)} {o' : Nat} {b : Blk} {qs : List Prop} (h : entB c.own own' ren o' b = some qs) (hp : ∀ p ∈ qs, p) {g : Nat} (hg : blkOf b (renρ c ren o') = some g) : ∃ o, assoc ren o' = some (.own o) ∧ blkOf (lookO c.own o) (c.ρ o) = some g := by
  unfold entB at h
  split at h
  · cases hg
  · cases hg
  · split at h
    · rename_i o ha
      split at h
      · rename_i ty ds hk
        refine ⟨o, ha, ?_⟩
        unfold renρ at hg
        rw [ha] at hg
        rw [hk]; exact hg
      · cases h
    · cases h
  · split at h
    · rename_i o ha
      split at h
      · rename_i e t xs hk
        refine ⟨o, ha, ?_⟩
        unfold renρ at hg
        rw [ha] at hg
        rw [hk]; exact hg
      · cases h
    · rename_i ha
      unfold renρ at hg
      rw [ha] at hg
      cases hg
    · cases h
  · cases hg
  · split at h
    · rename_i o ha
      split at h
      · rename_i t xs hk
        split at h
        · rename_i x hc
          obtain rfl := Option.some.inj h
          obtain ⟨et, hx⟩ := cast?_some hc
          cases et
          subst hx
          have e := hp _ (List.mem_singleton.2 rfl)
          refine ⟨o, ha, ?_⟩
          unfold renρ at hg
          rw [ha] at hg
          rw [hk]
          rw [← e] at hg
          exact hg
        · cases h
      · cases h
    · cases h
  · split at h
    · rename_i o ha
      split at h
      · rename_i T kt vt n f hk
        refine ⟨o, ha, ?_⟩
        unfold renρ at hg
        rw [ha] at hg
        rw [hk]; exact hg
      · cases h
    · cases h
  · split at h
    · rename_i o ha
      split at h
      · rename_i s p hk
        refine ⟨o, ha, ?_⟩
        unfold renρ at hg
        rw [ha] at hg
        rw [hk]; exact hg
      · cases h
    · cases h
  · split at h
    · rename_i o ha
      split at h
      · rename_i vt f l n cur hk
        refine ⟨o, ha, ?_⟩
        unfold renρ at hg
        rw [ha] at hg
        rw [hk]; exact hg
      · cases h
    · cases h
  · cases h
  · cases h
  · cases h
  · cases hg

theorem ent_ok {c : Cx} {st st' : St} {a : Act} {w : World} {ren : List (Nat × D)} (h : entWith st st' ren) (hs : SatC P B w0 S0 df c st a w) (hn : st'.n = st.n) : ∃ c', SatC P B w0 S0 df c' st' a w ∧ c' = c.renamed ren st'.own := by
  unfold entWith at h
  split at h
  · rename_i hinj
    split at h
    · rename_i ps hps
      have hall := allL_out h
      rw [← hs.own] at hps
      obtain ⟨p, q, e1, e2, rfl⟩ := both_some hps
      have hm := hs.mem
      have hE := entEnv_ok hm hs.env e1 (fun x hx => hall x (List.mem_append.2 (.inl hx)))
      have hO := entOwn_ok hm e2 (fun x hx => hall x (List.mem_append.2 (.inr hx)))
      refine ⟨c.renamed ren st'.own, ⟨hs.w, rfl, ⟨fun o' => ?_, fun o' o'' g hne hg hg' => ?_, hm.bound, hm.from_, hm.to_, hm.below, hm.base, fun o' => ?_, hm.frame⟩, hE, hs.size.trans hn.symm, hs.defers⟩, rfl⟩
      · obtain ⟨qs, hq, hqs⟩ := hO o'
        rcases hq with hq | hq
        · unfold BlkOk
          rw [show lookO (c.renamed ren st'.own).own o' = .gone from hq]
          trivial
        · exact entB_ok hm rfl hq hqs
      · obtain ⟨qs, hq, hqs⟩ := hO o'
        obtain ⟨qs', hq', hqs'⟩ := hO o''
        rcases hq with hq | hq
        · rw [show lookO (c.renamed ren st'.own).own o' = .gone from hq] at hg; cases hg
        rcases hq' with hq' | hq'
        · rw [show lookO (c.renamed ren st'.own).own o'' = .gone from hq'] at hg'; cases hg'
        obtain ⟨k, ha, hk⟩ := blkOf_ren hq hqs hg
        obtain ⟨k', ha', hk'⟩ := blkOf_ren hq' hqs' hg'
        have hkk : k ≠ k' := by
          have n1 : lookO st'.own o' ≠ .gone := by intro e; rw [show lookO (c.renamed ren st'.own).own o' = .gone from e] at hg; cases hg
          have n2 : lookO st'.own o'' ≠ .gone := by intro e; rw [show lookO (c.renamed ren st'.own).own o'' = .gone from e] at hg'; cases hg'
          obtain ⟨p1, hp1, rfl⟩ := lookO_mem n1
          obtain ⟨p2, hp2, rfl⟩ := lookO_mem n2
          have := List.all_eq_true.1 (List.all_eq_true.1 hinj p1 hp1) p2 hp2
          simp only [ha, ha', Bool.or_eq_true, beq_iff_eq, bne_iff_ne] at this
          exact this.resolve_left hne
        exact hm.apart k k' g hkk hk hk'
      · simp only [Cx.renamed, renρ]
        split
        · exact hm.one _
        · rfl
    · exact h.elim
  · exact h.elim


theorem keptB_ok {g : Nat} {N : List Nat} {ren : List (Nat × D)} {own own' : Own} (h : keptB (.keep g N) ren own own' = true) {o : Nat} (ho : N.contains o = true) : assoc ren o = some (.own o) ∧ turnK (lookO own o) (lookO own' o) = true := by
  have := List.all_eq_true.1 (show (N.all _) = true from h) o (List.contains_iff_mem.1 ho)
  simp only [Bool.and_eq_true] at this
  obtain ⟨h1, h2⟩ := this
  refine ⟨?_, h2⟩
  split at h1
  · rename_i k hk
    have : k = o := by simpa using h1
    rw [hk, this]
  · cases h1

mutual
theorem avN_ren {c : Cx} {g : Nat} {N : List Nat} {ren : List (Nat × D)} {own' : Own} (hh : Handles c) (h : keptB (.keep g N) ren c.own own' = true) : ∀ {d : D} {v : Value}, avN N d = true → RV P c d v → RV P (c.renamed ren own') d v
  | .dat t x, v, _, hv => hv
  | .agg ds, v, ha, hv => by
    obtain ⟨cs, h1, h2⟩ := hv
    exact ⟨cs, h1, avNs_ren hh h ha h2⟩
  | .tup ds, v, ha, hv => by
    obtain ⟨cs, h1, h2⟩ := hv
    exact ⟨cs, h1, avNs_ren hh h ha h2⟩
  | .fn f ds, v, ha, hv => by
    obtain ⟨cs, h1, h2⟩ := hv
    exact ⟨cs, h1, avNs_ren hh h ha h2⟩
  | .pt o off, v, ha, hv => by
    obtain ⟨e1, e2⟩ := keptB_ok h ha
    have er : (c.renamed ren own').ρ o = c.ρ o := by simp only [Cx.renamed, renρ, e1]
    have eo : lookO (c.renamed ren own').own o = lookO own' o := rfl
    simp only [RV] at hv ⊢
    rw [er, eo]
    cases hb : lookO c.own o <;> cases hb' : lookO own' o <;> simp only [hb, hb', turnK] at hv e2 ⊢ <;> first | exact hv | (exact absurd e2 (by simp)) | exact hv.elim
  | .arr o off n m, v, ha, hv => by
    obtain ⟨e1, e2⟩ := keptB_ok h ha
    have er : (c.renamed ren own').ρ o = c.ρ o := by simp only [Cx.renamed, renρ, e1]
    have eo : lookO (c.renamed ren own').own o = lookO own' o := rfl
    simp only [RV] at hv ⊢
    rw [er, eo]
    cases hb : lookO c.own o <;> cases hb' : lookO own' o <;> simp only [hb, hb', turnK] at hv e2 ⊢ <;> first | exact hv | (exact absurd e2 (by simp)) | exact hv.elim
  | .arx o base len lo hi p, v, ha, hv => by
    obtain ⟨e1, e2⟩ := keptB_ok h ha
    have er : (c.renamed ren own').ρ o = c.ρ o := by simp only [Cx.renamed, renρ, e1]
    have eo : lookO (c.renamed ren own').own o = lookO own' o := rfl
    simp only [RV] at hv ⊢
    refine ⟨hv.1, hv.2.1, hv.2.2.1, ?_⟩
    replace hv := hv.2.2.2
    rw [er, eo]
    cases hb : lookO c.own o <;> cases hb' : lookO own' o <;> simp only [hb, hb', turnK] at hv e2 ⊢ <;> first | exact hv | (exact absurd e2 (by simp)) | exact hv.elim
  | .pe .., v, ha, hv => by cases ha
  | .own o, v, ha, hv => by
    obtain ⟨e1, e2⟩ := keptB_ok h ha
    have er : (c.renamed ren own').ρ o = c.ρ o := by simp only [Cx.renamed, renρ, e1]
    have eo : lookO (c.renamed ren own').own o = lookO own' o := rfl
    simp only [RV] at hv ⊢
    rw [er, eo]
    cases hb : lookO c.own o <;> cases hb' : lookO own' o <;> simp only [hb, hb', turnK] at hv e2 ⊢ <;> first | exact hv | (exact absurd e2 (by simp)) | exact hv.elim
  | .cst u, v, _, hv => hv
  | .clip t xs, v, _, hv => hv
  | .ifc T t x, v, _, hv => hv
  | .gd .., v, _, hv => hv
  | .any, v, _, hv => hv
theorem avNs_ren {c : Cx} {g : Nat} {N : List Nat} {ren : List (Nat × D)} {own' : Own} (hh : Handles c) (h : keptB (.keep g N) ren c.own own' = true) : ∀ {ds : List D} {vs : List Value}, avNs N ds = true → RVs P c ds vs → RVs P (c.renamed ren own') ds vs
  | [], vs, _, hv => hv
  | d :: r, vs, ha, hv => by
    obtain ⟨v, vs', e, h1, h2⟩ := hv
    simp only [avNs, Bool.and_eq_true] at ha
    exact ⟨v, vs', e, avN_ren hh h ha.1 h1, avNs_ren hh h ha.2 h2⟩
end

theorem entM_ok {md : Md} (hmd : md ≠ .goes) {c : Cx} {st st' : St} {a : Act} {w : World} (h : entM md st st') (hs : SatC P B w0 S0 df c st a w) (hn : st'.n = st.n) : ∃ c', SatC P B w0 S0 df c' st' a w ∧ Kept P md c c' := by
  unfold entM at h
  split at h
  · rename_i hk
    obtain ⟨c', h1, rfl⟩ := ent_ok h hs hn
    refine ⟨_, h1, ?_⟩
    cases md with
    | top => trivial
    | goes => exact absurd rfl hmd
    | keep g N =>
      rw [← hs.own] at hk
      exact fun d v hd hv => avN_ren hs.mem.one hk hd hv
  · exact h.elim

theorem entM_frz {md : Md} (hmd : md ≠ .goes) {c : Cx} {L : LoopAnn} {st st' : St} {a : Act} {w : World} (h : entM md (L.frS st) st') (hs : SatC P B w0 S0 df c st a w) (hn : st'.n = st.n) : ∃ c', SatC P B w0 S0 df c' st' a w ∧ Kept P md c c' := by
  obtain ⟨c0, e1, e2, e3, hm1, hg1, hf1⟩ := hs.mem.freeze (L.frz st)
  have hs0 : SatC P B w0 S0 df c0 (L.frS st) a w := ⟨e2.trans hs.w, by rw [e1, hs.own]; rfl, hm1, hs.env.goes hg1 hs.mem.one, hs.size, hs.defers⟩
  obtain ⟨c', h1, h2⟩ := entM_ok hmd h hs0 hn
  exact ⟨c', h1, (Kept.of hg1 hs.mem.one).trans h2⟩

end
end Go.Eng

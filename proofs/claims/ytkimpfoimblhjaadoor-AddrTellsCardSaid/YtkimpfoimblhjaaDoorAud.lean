/-
  A text of mine, of several parts: EngRow, LbUtf, LbPlain, LbFn, AdFn, AdLaw, TabTryd, LbDef, AdDef1, AdDef, AdShelf, LbShelf, AdLib, AdCfg, AdVc, AdP1, AdP2, AdP3, AdP4.
-/
import Derived.Test.YtkimpfoimblhjaaDoorAua
import Derived.Test.YtkimpfoimblhjaaDoorAub
import Derived.Test.YtkimpfoimblhjaaDoorAuc
import Derived.Lib.RuneBytes
import Derived.Lib.LastIndexByte
import Derived.Lib.IndexMore
import Derived.Lib.Join
import Derived.Test.YtkimpfoimblhjaaDoorProg
import Derived.KernelRfl
import Derived.Lib.AtoiAll
import Derived.Shelf.Spec.TrailingZeros
import Derived.Shelf.Strings.OnBuilder
import Derived.Shelf.Strings.Cut
import Derived.Shelf.Strings.SplitShaped
import Derived.Shelf.Strings.Split
import Derived.Shelf.Strings.Prefix
import Derived.Shelf.Strings.LastIndex
import Derived.Shelf.Strings.BuilderRune
import Derived.Shelf.Strconv.ErrVarAll
import Derived.Shelf.Strconv.AtoiAll
import Derived.Shelf.Strconv.Itoa3
import Derived.WalkSmall
import Derived.Lib.SmallJoins
import Derived.Lib.AppendIntMem
set_option linter.all false
set_option maxRecDepth 10000
namespace Go.Eng
open Go.RowKit
section
variable (C : Cfg)
def vcFnM (g : FuncId) (fuel : Nat) (fn : Func) (c : MCon) : Prop :=
  match fn.body with
  | some body => ∀ (xs : List c.t.El) (y : c.a.El), Wr (c.pre xs y) → if (resOf c.a y).length + c.fns.length + 1 ≤ fn.ntmps then exec C (.keep g [0]) fuel (.code body)
      ⟨(List.range ((resOf c.a y).length + c.fns.length + 1)).zip (D.own 0 :: (resOf c.a y ++ c.fns.map fun f => .fn f [])), [(0, .row c.e c.t xs)], 1, fn.ntmps⟩ fun e st => match e with
      | .ret | .normal => match retOf C st.env st.own fn.results.toList with
        | some [] => match lookO st.own 0 with
          | .row e' t' zs => if e' = c.e then match cast? (.sl t') (.sl c.t) zs with
              | some zs => zs = c.F xs y
              | none => False
            else False
          | _ => False
        | _ => False
      | _ => False
    else False
  | none => False
end
structure VcM (C : Cfg) (g : FuncId) (fuel : Nat) (fn : Func) (c : MCon) : Prop where
  out : vcFnM C g fuel fn c
variable {P : Program} {C : Cfg}
theorem RdL.flatAny {t : Ty} (hf : t.flat = true) {S S' : Nat → Prop} {w w' : World} : ∀ {xs : List t.El} {cs : List Value}, RdL P t S w xs cs → RdL P t S' w' xs cs
  | [], cs, h => h
  | x :: xs, cs, h => by
    obtain ⟨c1, c2, e, h1, h2⟩ := h
    exact ⟨c1, c2, e, h1.flat hf, RdL.flatAny hf h2⟩
theorem RVs.fns {c : Cx} : ∀ fs : List FuncId, RVs P c (fs.map fun f => D.fn f []) (fs.map fun f => Value.func (.func f) #[] #[])
  | [] => rfl
  | f :: fs => ⟨_, _, rfl, ⟨[], rfl, rfl⟩, RVs.fns fs⟩
theorem ownsRow_base {w : World} {b b' : Nat} {e : TypeId} {s n : Nat} {v : Value} {cs : List Value} (h : w.ownsRow b e s v n cs) (hb : ∀ g, v.ownBlock = some g → b' ≤ g) : w.ownsRow b' e s v n cs := by
  obtain ⟨h1, h2⟩ := h
  refine ⟨h1, h2.imp id ?_⟩
  rintro ⟨g, cap, cur, rfl, _, h3⟩
  exact ⟨g, cap, cur, rfl, hb g rfl, h3⟩
theorem ownsRow_len {w w' : World} {b b' : Nat} {e e' : TypeId} {s s' n n' : Nat} {v : Value} {cs cs' : List Value} (h : w.ownsRow b e s v n cs) (h' : w'.ownsRow b' e' s' v n' cs') : n' = n := by
  obtain ⟨_, h2⟩ := h
  obtain ⟨_, h2'⟩ := h'
  rcases h2 with ⟨e1, e2⟩ | ⟨g, cap, cur, e1, _⟩ <;> rcases h2' with ⟨e3, e4⟩ | ⟨g', cap', cur', e3, _⟩
  · omega
  · rw [e1] at e3; cases e3
  · rw [e1] at e3; cases e3
  · rw [e1] at e3; cases e3; rfl
theorem valid_of_vcM (hC : ∀ B w, CfgOk P C B w) {g : FuncId} {fn : Func} {con : MCon} {fuel : Nat} (hf : P.funcs[g]? = some fn) (hname : (fn.name == "runtime.NumGoroutine") = false) (hfl : con.t.flat = true) (heats : con.eats = false) (h : vcFnM C g fuel fn con) {G : World → Prop} : MValid P G g con := by
  unfold vcFnM at h
  split at h
  · rename_i body hbody
    refine ⟨⟨fn, hf, hname, by rw [hbody]; rfl⟩, fun w _ base S v xs cs y ys hS hz hv1 ho hl hnS hy hpre => ?_⟩
    have h := h xs y ⟨hpre⟩
    split at h
    · rename_i hsz
      let S0 : Nat → Prop := fun b => b < w.heap.size ∧ v.ownBlock ≠ some b
      let c0 : Cx := ⟨S0, w, fun o => if o = 0 then v else .slice none 0 0, [(0, .row con.e con.t xs)]⟩
      have hl0 : ∀ o, lookO c0.own o = if o = 0 then .row con.e con.t xs else .gone := fun o => by
        show lookO [(0, Blk.row con.e con.t xs)] o = _
        simp only [lookO]
        by_cases e : o = 0
        · rw [if_pos e.symm, if_pos e]
        · rw [if_neg (fun e' => e e'.symm), if_neg e]
      have hm0 : Mem P 0 w S0 c0 := by
        refine ⟨fun o => ?_, fun o o' b hne hb hb' => ?_, fun b hb => hb.1, fun b hb => hb, fun b hb => .inl hb, Below.refl _ _, Nat.zero_le _, fun o => ?_, fun _ _ => rfl⟩
        · unfold BlkOk
          rw [hl0]
          by_cases e : o = 0
          · subst e
            rw [if_pos rfl]
            have e0 : c0.ρ 0 = v := rfl
            rw [e0]
            exact ⟨hz, cs, ownsRow_base ho fun _ _ => Nat.zero_le _, hl.flatAny hfl, fun b hb hs => hs.2 hb⟩
          · rw [if_neg e]; trivial
        · rw [hl0] at hb hb'
          by_cases e : o = 0
          · by_cases e' : o' = 0
            · exact hne (e.trans e'.symm)
            · rw [if_neg e'] at hb'; cases hb'
          · rw [if_neg e] at hb; cases hb
        · show (if o = 0 then v else Value.slice none 0 0).oneCell' = true
          split
          · exact hv1
          · rfl
      have hy0 : RdC P con.a c0.S c0.w y ys := hy.mono fun b hb => ⟨⟨hS b hb, fun e => hnS b e hb⟩, rfl⟩
      have hargs : RVs P c0 (D.own 0 :: (resOf con.a y ++ con.fns.map fun f => .fn f [])) (v :: (group con.a ys ++ con.fns.map fun f => .func (.func f) #[] #[])) :=
        ⟨v, _, rfl, (rfl : v = v), (res_ok (c := c0) con.a hy0).append (RVs.fns con.fns)⟩
      have hlen := hargs.length
      have hlen2 : (D.own 0 :: (resOf con.a y ++ con.fns.map fun f => D.fn f [])).length = (resOf con.a y).length + con.fns.length + 1 := by simp
      refine calls_of_wp hf hbody ?_
      generalize hvs : v :: (group con.a ys ++ con.fns.map fun f => Value.func (.func f) #[] #[]) = vs at hargs hlen ⊢
      have hsat : SatC P 0 w S0 [] c0 ⟨(List.range ((resOf con.a y).length + con.fns.length + 1)).zip (D.own 0 :: (resOf con.a y ++ con.fns.map fun f => .fn f [])), [(0, .row con.e con.t xs)], 1, fn.ntmps⟩
          { tmps := vs.toArray ++ Array.replicate (fn.ntmps - vs.toArray.size) undef, defers := [] } w := by
        refine ⟨rfl, rfl, hm0, fun s => ?_, ?_, rfl⟩
        · have := enter_ok (P := P) 0 [] hargs rfl s (fn.ntmps - vs.toArray.size)
          simp only [List.nil_append] at this
          rw [List.range_eq_range', ← hlen2]
          exact this.toGV
        · simp only [Array.size_append, List.size_toArray, Array.size_replicate]
          omega
      refine exec_ok (hC 0 w) fuel (.keep g [0]) (.code body) _ _ _ w c0 _ h hsat trivial fun e a' w' hp => ?_
      obtain ⟨st, c', hk, hs, hkept⟩ := hp
      have fin : (match retOf C st.env st.own fn.results.toList with
          | some [] => match lookO st.own 0 with
            | .row e' t' zs => if e' = con.e then match cast? (.sl t') (.sl con.t) zs with
                | some zs => zs = con.F xs y
                | none => False
              else False
            | _ => False
          | _ => False) → a'.defers = [] ∧ ∃ u, (results fn a'.tmps).run P w' = .ok u w' ∧ (w.grownBy w' v.ownBlock ∧
      ((con.eats = true ∧ ∃ r, Ending.returned u = .returned r ∧ RdC P (.sl con.t) (fun b => S b ∨ (w.heap.size ≤ b ∧ b < w'.heap.size) ∨ v.ownBlock = some b) w' (con.F xs y) [r]) ∨
        (con.eats = false ∧ Ending.returned u = .returned (.tuple #[]) ∧ (con.F xs y).length = xs.length ∧ ∃ cs', w'.ownsRow base con.e con.t.size v xs.length cs' ∧ RdL P con.t (fun b => S b ∨ (w.heap.size ≤ b ∧ b < w'.heap.size)) w' (con.F xs y) cs'))) := by
        intro hk
        split at hk
        · rename_i hds
          rw [← hs.own] at hds
          obtain ⟨rv, hrv, hrun⟩ := results_ok (hC 0 w) hs.mem hs.env hds
          obtain rfl : rv = [] := hrv
          have hw := hs.w
          subst hw
          refine ⟨hs.defers, _, results_run hrun, ?_⟩
          split at hk
          · rename_i e' t' zs hz'
            split at hk
            · rename_i he
              subst he
              split at hk
              · rename_i zs' hcast
                obtain ⟨et, hx'⟩ := cast?_some hcast
                cases et
                have hx' : zs = zs' := hx'
                subst hx'
                subst hk
                rw [← hs.own] at hz'
                have hhand : c'.ρ 0 = v := by
                  have h0 : RV P c0 (.own 0) v := (rfl : v = v)
                  have := hkept (.own 0) v (by rfl) h0
                  simp only [RV, hz'] at this
                  exact this.symm
                have hbk := hs.mem.ok 0
                unfold BlkOk at hbk
                simp only [hz', hhand] at hbk
                obtain ⟨hz2, cs', b1, b2, b3⟩ := hbk
                have hlen' := ownsRow_len ho b1
                refine ⟨⟨hs.mem.below.os, hs.mem.below.tape, hs.mem.below.output, hs.mem.below.size, fun k hk1 hk2 => hs.mem.frame k ⟨hk1, fun e => hk2 e.symm⟩⟩, .inr ⟨heats, rfl, hlen', cs', ?_, b2.flatAny hfl⟩⟩
                rw [← hlen']
                exact ownsRow_base b1 fun g hg => (ho.lt g hg).1
              · exact hk.elim
            · exact hk.elim
          · exact hk.elim
        · exact hk.elim
      cases e with
      | normal => exact fin hk
      | ret => exact fin hk
      | _ => exact (hk : False).elim
    · exact h.elim
  · exact h.elim
theorem mkValidR {P : Program} {tab : List (TypeId × TI)} (hmix : P.follows .mixedOrders = true) (htab : ∀ p ∈ tab, rowOk P p) (heq : eqsB P { tab, cons := [], inls := [], loops := [] } = true)
    {cons : List (FuncId × Contract)} {inls : List (FuncId × Func)} {loops cuts : List (Nat × LoopAnn)} {unroll : Bool} {arrs : List Nat} {keys : List TypeId} {mcons : List (FuncId × MCon)} (hkeys : keysB P { tab, cons := [], inls := [], loops := [], keys } = true) (C : Cfg) (hC : C = { tab, cons, inls, loops, cuts, unroll, arrs, keys, mcons })
    (hm : ∀ p ∈ mcons, MValid P (fun _ => True) p.1 p.2) (hcons : ∀ p ∈ cons, Valid P (fun _ => True) p.1 p.2) (hinls : ∀ p ∈ inls, P.funcs[p.1]? = some p.2 ∧ (p.2.name == "runtime.NumGoroutine") = false)
    {g : FuncId} {fn : Func} {con : MCon} {fuel : Nat} (hf : P.funcs[g]? = some fn) (hname : (fn.name == "runtime.NumGoroutine") = false) (hfl : con.t.flat = true) (heats : con.eats = false) (h : VcM C g fuel fn con) {G : World → Prop} : MValid P G g con := by
  subst hC
  exact valid_of_vcM (fun B w => cfgOk_of (C := { tab, cons, inls, loops, cuts, unroll, arrs, keys, mcons }) hmix htab heq (fun p hp => ⟨(hcons p hp).1, fun w' _ => (hcons p hp).2 w' trivial⟩) hinls hkeys (fun p hp => ⟨(hm p hp).1, fun w' _ => (hm p hp).2 w' trivial⟩)) hf hname hfl heats h.out
end Go.Eng
namespace Go.Lb
open Go Go.Eng


def cont (b : UInt8) : Bool := b.toNat / 64 == 2
def okRune (c : Nat) : Bool := decide (c < 0xD800) || (decide (0xE000 ≤ c) && decide (c ≤ 0x10FFFF))
def u2 (b b1 : UInt8) : Nat := b.toNat % 32 * 64 + b1.toNat % 64
def u3 (b b1 b2 : UInt8) : Nat := b.toNat % 16 * 4096 + b1.toNat % 64 * 64 + b2.toNat % 64
def u4 (b b1 b2 b3 : UInt8) : Nat := b.toNat % 8 * 262144 + b1.toNat % 64 * 4096 + b2.toNat % 64 * 64 + b3.toNat % 64
theorem u2_eq (b b1 : UInt8) : b.toNat % 32 * 64 + b1.toNat % 64 = u2 b b1 := rfl
theorem u3_eq (b b1 b2 : UInt8) : b.toNat % 16 * 4096 + b1.toNat % 64 * 64 + b2.toNat % 64 = u3 b b1 b2 := rfl
theorem u4_eq (b b1 b2 b3 : UInt8) : b.toNat % 8 * 262144 + b1.toNat % 64 * 4096 + b2.toNat % 64 * 64 + b3.toNat % 64 = u4 b b1 b2 b3 := rfl
def dec : List UInt8 → Option (Nat × Nat)
  | [] => none
  | b :: r =>
    if b.toNat < 128 then some (b.toNat, 1)
    else if b.toNat / 32 = 6 then match r with
      | b1 :: _ => if cont b1 ∧ 128 ≤ u2 b b1 then some (u2 b b1, 2) else none
      | [] => none
    else if b.toNat / 16 = 14 then match r with
      | b1 :: b2 :: _ => if cont b1 ∧ cont b2 ∧ 2048 ≤ u3 b b1 b2 ∧ okRune (u3 b b1 b2) then some (u3 b b1 b2, 3) else none
      | _ => none
    else if b.toNat / 8 = 30 then match r with
      | b1 :: b2 :: b3 :: _ => if cont b1 ∧ cont b2 ∧ cont b3 ∧ 65536 ≤ u4 b b1 b2 b3 ∧ okRune (u4 b b1 b2 b3) then some (u4 b b1 b2 b3, 4) else none
      | _ => none
    else none

theorem valid_ok (c : Nat) : Utf8.valid (c : Int) = okRune c := by
  unfold Utf8.valid okRune
  by_cases h1 : c < 0xD800
  · simp [h1]; omega
  · simp only [h1, decide_false, Bool.false_or]
    have : ¬ (c : Int) < 0xD800 := by omega
    simp only [this, decide_false, Bool.and_false, Bool.false_or]
    congr 1 <;> simp <;> omega

theorem get_drop (s : ByteArray) (pos k : Nat) : s.get! (pos + k) = ((bytesL s).drop pos).getD k 0 := by
  unfold bytesL
  rw [List.getD_eq_getElem?_getD, List.getElem?_drop]
  show s.data[pos + k]! = _
  rw [Array.getElem!_eq_getD, Array.getD_eq_getD_getElem?, Array.getElem?_toList]
  rfl
theorem size_drop (s : ByteArray) (pos k : Nat) : decide (pos + k < s.size) = decide (k < ((bytesL s).drop pos).length) := by
  unfold bytesL
  have : s.data.size = s.size := rfl
  simp only [List.length_drop, Array.length_toList, this]
  congr 1
  apply propext; omega
theorem decode_eq (s : ByteArray) (pos : Nat) (h : pos < s.size) : Utf8.decode s pos = (dec ((bytesL s).drop pos)).getD (65533, 1) := by
  have h0 := size_drop s pos 0
  have h1 := size_drop s pos 1
  have h2 := size_drop s pos 2
  have h3 := size_drop s pos 3
  have g := get_drop s pos
  generalize (bytesL s).drop pos = l at h0 h1 h2 h3 g
  unfold Utf8.decode
  simp only [g, h1, h2, h3, u2_eq, u3_eq, u4_eq]
  clear g h1 h2 h3
  match l with
  | [] => simp at h0; omega
  | b :: r =>
    clear h0
    unfold dec
    simp only [List.getD_cons_zero]
    by_cases c1 : b.toNat < 128
    · simp [c1]
    · simp only [c1, if_false]
      by_cases c2 : b.toNat / 32 = 6
      · have c3 : ¬ b.toNat / 16 = 14 := by omega
        have c4 : ¬ b.toNat / 8 = 30 := by omega
        match r with
        | [] => simp [c2, c3, c4, Utf8.runeError]
        | b1 :: r =>
          simp only [List.getD_cons_succ, List.getD_cons_zero]
          by_cases d : b1.toNat / 64 = 2
          · by_cases e : 128 ≤ u2 b b1
            · simp [c2, cont, d, e]
            · simp [c2, cont, d, e, Utf8.runeError]
          · simp [c2, c3, c4, cont, d, Utf8.runeError]
      · by_cases c3 : b.toNat / 16 = 14
        · have c4 : ¬ b.toNat / 8 = 30 := by omega
          match r with
          | [] => simp [c2, c3, c4, Utf8.runeError]
          | [b1] => simp [c2, c3, c4, Utf8.runeError]
          | b1 :: b2 :: r =>
            simp only [List.getD_cons_succ, List.getD_cons_zero]
            by_cases d : b1.toNat / 64 = 2
            · by_cases d2 : b2.toNat / 64 = 2
              · by_cases e1 : 2048 ≤ u3 b b1 b2 <;> by_cases e2 : okRune (u3 b b1 b2) = true <;> simp [c2, c3, cont, d, d2, e1, e2, valid_ok, Utf8.runeError]
              · simp [c2, c3, c4, cont, d, d2, Utf8.runeError]
            · simp [c2, c3, c4, cont, d, Utf8.runeError]
        · by_cases c4 : b.toNat / 8 = 30
          · match r with
            | [] => simp [c2, c3, c4, Utf8.runeError]
            | [b1] => simp [c2, c3, c4, Utf8.runeError]
            | [b1, b2] => simp [c2, c3, c4, Utf8.runeError]
            | b1 :: b2 :: b3 :: r =>
              simp only [List.getD_cons_succ, List.getD_cons_zero]
              by_cases d : b1.toNat / 64 = 2
              · by_cases d2 : b2.toNat / 64 = 2
                · by_cases d3 : b3.toNat / 64 = 2
                  · by_cases e1 : 65536 ≤ u4 b b1 b2 b3 <;> by_cases e2 : okRune (u4 b b1 b2 b3) = true <;> simp [c2, c3, c4, cont, d, d2, d3, e1, e2, valid_ok, Utf8.runeError]
                  · simp [c2, c3, c4, cont, d, d2, d3, Utf8.runeError]
                · simp [c2, c3, c4, cont, d, d2, Utf8.runeError]
              · simp [c2, c3, c4, cont, d, Utf8.runeError]
          · simp [c2, c3, c4, Utf8.runeError]

theorem dec_le {l : List UInt8} {c w : Nat} (h : dec l = some (c, w)) : 1 ≤ w ∧ w ≤ 4 ∧ w ≤ l.length := by
  unfold dec at h
  split at h
  · cases h
  · repeat' split at h
    all_goals (first | (cases h; done) | (simp only [Option.some.injEq, Prod.mk.injEq] at h; obtain ⟨_, rfl⟩ := h; simp))

theorem dec_append {l : List UInt8} {c w : Nat} (h : dec l = some (c, w)) (r : List UInt8) : dec (l ++ r) = some (c, w) := by
  unfold dec at h ⊢
  match l with
  | [] => cases h
  | b :: t =>
    simp only [List.cons_append] at h ⊢
    split at h
    · rename_i c1; rw [if_pos c1]; exact h
    · rename_i c1
      rw [if_neg c1]
      split at h
      · rename_i c2
        rw [if_pos c2]
        match t with
        | [] => cases h
        | b1 :: t => exact h
      · rename_i c2
        rw [if_neg c2]
        split at h
        · rename_i c3
          rw [if_pos c3]
          match t with
          | [] => cases h
          | [b1] => cases h
          | b1 :: b2 :: t => exact h
        · rename_i c3
          rw [if_neg c3]
          split at h
          · rename_i c4
            rw [if_pos c4]
            match t with
            | [] => cases h
            | [b1] => cases h
            | [b1, b2] => cases h
            | b1 :: b2 :: b3 :: t => exact h
          · cases h
theorem dec_stop {l : List UInt8} (hl : l ≠ []) {x : UInt8} (hx : cont x = false) (r : List UInt8) : dec (l ++ x :: r) = dec l := by
  cases hd : dec l with
  | some p => exact dec_append hd _
  | none =>
    unfold dec at hd ⊢
    match l, hl with
    | b :: t, _ =>
      simp only [List.cons_append] at hd ⊢
      split at hd
      · cases hd
      · rename_i c1
        rw [if_neg c1]
        split at hd
        · rename_i c2
          rw [if_pos c2]
          match t with
          | [] => simp [hx]
          | b1 :: t => exact hd
        · rename_i c2
          rw [if_neg c2]
          split at hd
          · rename_i c3
            rw [if_pos c3]
            match t with
            | [] => cases r <;> simp [hx]
            | [b1] => simp [hx]
            | b1 :: b2 :: t => exact hd
          · rename_i c3
            rw [if_neg c3]
            split at hd
            · rename_i c4
              rw [if_pos c4]
              match t with
              | [] => rcases r with _ | ⟨y, _ | ⟨z, r⟩⟩ <;> simp [hx]
              | [b1] => cases r <;> simp [hx]
              | [b1, b2] => simp [hx]
              | b1 :: b2 :: b3 :: t => exact hd
            · rename_i c4
              rw [if_neg c4]

abbrev It := Option Nat × List UInt8
def hd1 (l : List UInt8) : It := match dec l with
  | some (c, w) => (some c, l.take w)
  | none => (none, l.take 1)
def wid (l : List UInt8) : Nat := match dec l with
  | some (_, w) => w
  | none => 1
theorem wid_pos (l : List UInt8) : 1 ≤ wid l := by
  unfold wid; split
  · rename_i h; exact (dec_le h).1
  · omega
theorem wid_le {l : List UInt8} (h : l ≠ []) : wid l ≤ l.length := by
  unfold wid; split
  · rename_i h; exact (dec_le h).2.2
  · have := List.length_pos_iff.2 h; omega
def itsN : Nat → List UInt8 → List It
  | 0, _ => []
  | n + 1, l => if l = [] then [] else hd1 l :: itsN n (l.drop (wid l))
def its (l : List UInt8) : List It := itsN l.length l
theorem itsN_nil (n : Nat) : itsN n [] = [] := by cases n <;> simp [itsN]
theorem itsN_eq : ∀ (n m : Nat) (l : List UInt8), l.length ≤ n → l.length ≤ m → itsN n l = itsN m l
  | 0, m, l, h, _ => by
    obtain rfl : l = [] := List.length_eq_zero_iff.1 (by omega)
    rw [itsN_nil, itsN_nil]
  | n + 1, 0, l, _, h => by
    obtain rfl : l = [] := List.length_eq_zero_iff.1 (by omega)
    rw [itsN_nil, itsN_nil]
  | n + 1, m + 1, l, h, h' => by
    unfold itsN
    by_cases e : l = []
    · simp [e]
    · rw [if_neg e, if_neg e]
      have := wid_pos l
      have h0 := List.length_pos_iff.2 e
      rw [itsN_eq n m _ (by simp only [List.length_drop]; omega) (by simp only [List.length_drop]; omega)]
theorem its_nil : its [] = [] := rfl
theorem its_cons {l : List UInt8} (h : l ≠ []) : its l = hd1 l :: its (l.drop (wid l)) := by
  have h0 := List.length_pos_iff.2 h
  have := wid_pos l
  unfold its
  rw [itsN_eq l.length (l.length + 1) l (Nat.le_refl _) (by omega)]
  conv => lhs; unfold itsN
  rw [if_neg h]
  rw [itsN_eq l.length _ _ (by simp only [List.length_drop]; omega) (Nat.le_refl _)]
theorem its_ind {M : List UInt8 → Prop} (h0 : M []) (h1 : ∀ l, l ≠ [] → M (l.drop (wid l)) → M l) (l : List UInt8) : M l := by
  have : ∀ n (l : List UInt8), l.length ≤ n → M l := by
    intro n
    induction n with
    | zero => intro l h; obtain rfl : l = [] := List.length_eq_zero_iff.1 (by omega); exact h0
    | succ n ih =>
      intro l h
      by_cases e : l = []
      · rw [e]; exact h0
      · have := wid_pos l
        have h2 := List.length_pos_iff.2 e
        exact h1 l e (ih _ (by simp only [List.length_drop]; omega))
  exact this _ l (Nat.le_refl _)
theorem its_stop {x : UInt8} (hx : cont x = false) (r : List UInt8) (a : List UInt8) : its (a ++ x :: r) = its a ++ its (x :: r) := by
  induction a using its_ind with
  | h0 => rfl
  | h1 l hl ih =>
    have hne : l ++ x :: r ≠ [] := by simp
    rw [its_cons hne, its_cons hl]
    have hw : wid (l ++ x :: r) = wid l := by unfold wid; rw [dec_stop hl hx]
    have hle := wid_le hl
    have hh : hd1 (l ++ x :: r) = hd1 l := by
      unfold hd1
      rw [dec_stop hl hx]
      cases hd : dec l with
      | none => simp only; rw [List.take_append_of_le_length (by have := List.length_pos_iff.2 hl; omega)]
      | some p => simp only; rw [List.take_append_of_le_length (dec_le (c := p.1) (w := p.2) hd).2.2]
    rw [hw, hh, List.drop_append_of_le_length hle, ih]
    rfl
theorem its_well (r : List UInt8) (a : List UInt8) (h : ∀ p ∈ its a, p.1.isSome = true) : its (a ++ r) = its a ++ its r := by
  induction a using its_ind with
  | h0 => rfl
  | h1 l hl ih =>
    rw [its_cons hl] at h
    have hne : l ++ r ≠ [] := by simp [hl]
    have h1 := h _ List.mem_cons_self
    have hle := wid_le hl
    unfold hd1 at h1
    cases hd : dec l with
    | none => rw [hd] at h1; cases h1
    | some p =>
      have hda := dec_append (c := p.1) (w := p.2) hd r
      have hw : wid (l ++ r) = wid l := by unfold wid; rw [hda, hd]
      have hh : hd1 (l ++ r) = hd1 l := by
        unfold hd1
        rw [hda, hd]
        simp only
        rw [List.take_append_of_le_length (dec_le (c := p.1) (w := p.2) hd).2.2]
      rw [its_cons hne, its_cons hl, hw, hh, List.drop_append_of_le_length hle, ih fun p hp => h p (List.mem_cons_of_mem _ hp)]
      rfl
theorem its_bytes (l : List UInt8) : (its l).flatMap (·.2) = l := by
  induction l using its_ind with
  | h0 => rfl
  | h1 l hl ih =>
    rw [its_cons hl, List.flatMap_cons, ih]
    have : (hd1 l).2 = l.take (wid l) := by
      unfold hd1 wid
      cases dec l <;> rfl
    rw [this, List.take_append_drop]
end Go.Lb
namespace Go.Lb
open Go Go.Eng

def isLetter (c : Nat) : Bool := (decide (97 ≤ c) && decide (c ≤ 122)) || (decide (65 ≤ c) && decide (c ≤ 90)) || (decide (0xC0 ≤ c) && decide (c ≤ 0x24F) && decide (c ≠ 0xD7) && decide (c ≠ 0xF7))
def isSign (c : Nat) : Bool := decide (c = 45) || (decide (48 ≤ c) && decide (c ≤ 57)) || isLetter c
def signIt (p : It) : Bool := match p.1 with
  | some c => isSign c
  | none => false
def notEnd (b : Option UInt8) : Bool := match b with
  | some b => decide (b ≠ 45)
  | none => false
def partL (l : List UInt8) : Bool := (its l).all signIt && notEnd l.head? && notEnd l.getLast?
def splitC (d : UInt8) : List UInt8 → List (List UInt8)
  | [] => [[]]
  | b :: r => if b = d then [] :: splitC d r else match splitC d r with
    | p :: ps => (b :: p) :: ps
    | [] => [[b]]
abbrev splitL := splitC 46
def validL (l : List UInt8) : Bool := decide (l.length ≤ 64) && (splitL l).all partL
def foldC (c : Nat) : Nat := if (65 ≤ c ∧ c ≤ 90) ∨ (0xC0 ≤ c ∧ c ≤ 0xDE) then c + 32 else c
def foldIt (p : It) : List UInt8 := Lib.encodeRune ((foldC (p.1.getD 65533) : Nat) : Int)
def foldL (l : List UInt8) : List UInt8 := (its l).flatMap foldIt
def wellN (l : List UInt8) : Nat := (its l).countP fun p => p.1.isSome
def illN (l : List UInt8) : Nat := (its l).countP fun p => p.1.isNone

theorem splitC_dot {d : UInt8} (r : List UInt8) : splitC d (d :: r) = [] :: splitC d r := by rw [splitC, if_pos rfl]
theorem splitC_cons {d : UInt8} {b : UInt8} {r p : List UInt8} {ps : List (List UInt8)} (hb : b ≠ d) (h : splitC d r = p :: ps) : splitC d (b :: r) = (b :: p) :: ps := by rw [splitC, if_neg hb, h]
theorem splitC_ne {d : UInt8} (l : List UInt8) : splitC d l ≠ [] := by
  cases l with
  | nil => simp [splitC]
  | cons b r =>
    unfold splitC
    split
    · simp
    · split <;> simp
theorem splitC_cases {d : UInt8} (l : List UInt8) : (d ∉ l ∧ splitC d l = [l]) ∨ ∃ a r, l = a ++ d :: r ∧ d ∉ a ∧ splitC d l = a :: splitC d r := by
  induction l with
  | nil => exact .inl ⟨by simp, rfl⟩
  | cons b r ih =>
    by_cases hb : b = d
    · subst hb
      exact .inr ⟨[], r, rfl, by simp, splitC_dot r⟩
    · rcases ih with ⟨h1, h2⟩ | ⟨a, r', h1, h2, h3⟩
      · exact .inl ⟨by simp [h1, Ne.symm hb], splitC_cons hb h2⟩
      · refine .inr ⟨b :: a, r', by rw [h1]; rfl, by simp [h2, Ne.symm hb], splitC_cons hb h3⟩
theorem splitC_ind {d : UInt8} {M : List UInt8 → Prop} (h0 : ∀ l, d ∉ l → M l) (h1 : ∀ a r, d ∉ a → M r → M (a ++ d :: r)) (l : List UInt8) : M l := by
  have : ∀ n (l : List UInt8), l.length ≤ n → M l := by
    intro n
    induction n with
    | zero => intro l h; obtain rfl : l = [] := List.length_eq_zero_iff.1 (by omega); exact h0 _ (by simp)
    | succ n ih =>
      intro l h
      rcases splitC_cases (d := d) l with ⟨h2, _⟩ | ⟨a, r, rfl, h2, _⟩
      · exact h0 _ h2
      · exact h1 a r h2 (ih r (by simp at h; omega))
  exact this _ l (Nat.le_refl _)
theorem splitC_none {d : UInt8} {l : List UInt8} (h : d ∉ l) : splitC d l = [l] := by
  rcases splitC_cases (d := d) l with ⟨_, h2⟩ | ⟨a, r, rfl, _, _⟩
  · exact h2
  · simp at h
theorem splitC_app {d : UInt8} {a : List UInt8} (r : List UInt8) (h : d ∉ a) : splitC d (a ++ d :: r) = a :: splitC d r := by
  induction a with
  | nil => simp [splitC]
  | cons b a ih =>
    simp only [List.mem_cons, not_or] at h
    rw [List.cons_append]
    exact splitC_cons (Ne.symm h.1) (ih h.2)

theorem dec_ascii {b : UInt8} (r : List UInt8) (h : b.toNat < 128) : dec (b :: r) = some (b.toNat, 1) := by
  unfold dec; simp [h]
theorem dec_none {b : UInt8} {r : List UInt8} (h : dec (b :: r) = none) : 128 ≤ b.toNat := by
  rcases Nat.lt_or_ge b.toNat 128 with h1 | h1
  · rw [dec_ascii r h1] at h; cases h
  · exact h1
theorem dec_hi {b : UInt8} {r : List UInt8} {c w : Nat} (hb : 128 ≤ b.toNat) (h : dec (b :: r) = some (c, w)) : 128 ≤ c ∧ 2 ≤ w ∧ ∀ x ∈ (b :: r).take w, 128 ≤ x.toNat := by
  have hc : ∀ {x : UInt8}, cont x = true → 128 ≤ x.toNat := by
    intro x hx
    unfold cont at hx
    simp only [beq_iff_eq] at hx
    omega
  unfold dec at h
  simp only at h
  rw [if_neg (by omega)] at h
  split at h
  · split at h
    · split at h
      · rename_i b1 _ hh
        simp only [Option.some.injEq, Prod.mk.injEq] at h
        obtain ⟨rfl, rfl⟩ := h
        refine ⟨hh.2, by omega, ?_⟩
        intro x hx
        simp at hx
        rcases hx with rfl | rfl
        · exact hb
        · exact hc hh.1
      · cases h
    · cases h
  · split at h
    · split at h
      · split at h
        · rename_i b1 b2 _ hh
          simp only [Option.some.injEq, Prod.mk.injEq] at h
          obtain ⟨rfl, rfl⟩ := h
          refine ⟨by have := hh.2.2.1; omega, by omega, ?_⟩
          intro x hx
          simp at hx
          rcases hx with rfl | rfl | rfl
          · exact hb
          · exact hc hh.1
          · exact hc hh.2.1
        · cases h
      · cases h
    · split at h
      · split at h
        · split at h
          · rename_i b1 b2 b3 _ hh
            simp only [Option.some.injEq, Prod.mk.injEq] at h
            obtain ⟨rfl, rfl⟩ := h
            refine ⟨by have := hh.2.2.2.1; omega, by omega, ?_⟩
            intro x hx
            simp at hx
            rcases hx with rfl | rfl | rfl | rfl
            · exact hb
            · exact hc hh.1
            · exact hc hh.2.1
            · exact hc hh.2.2.1
          · cases h
        · cases h
      · cases h
theorem enc_dec {l : List UInt8} {c w : Nat} (h : dec l = some (c, w)) (hc : c < 2048) : Lib.encodeRune (c : Int) = l.take w := by
  match l with
  | [] => simp [dec] at h
  | b :: r =>
    unfold dec at h
    simp only at h
    split at h
    · rename_i h1
      simp only [Option.some.injEq, Prod.mk.injEq] at h
      obtain ⟨rfl, rfl⟩ := h
      unfold Lib.encodeRune
      rw [Lib.encodeRuneZ_one (by omega) (by omega)]
      simp
    · split at h
      · rename_i h2
        split at h
        · rename_i b1 _
          split at h
          · rename_i hh
            simp only [Option.some.injEq, Prod.mk.injEq] at h
            obtain ⟨rfl, rfl⟩ := h
            have h3 := hh.1
            unfold cont at h3
            simp only [beq_iff_eq] at h3
            have hu : u2 b b1 = b.toNat % 32 * 64 + b1.toNat % 64 := rfl
            have h4 := hh.2
            have l0 := b.toNat_lt
            have l1 := b1.toNat_lt
            unfold Lib.encodeRune
            rw [Lib.encodeRuneZ_two (by omega) (by omega)]
            simp only [List.map_cons, List.map_nil, List.take_succ_cons, List.take_zero]
            congr 1
            · apply UInt8.toNat_inj.1
              simp only [Nat.toUInt8, UInt8.toNat_ofNat']
              omega
            · congr 1
              apply UInt8.toNat_inj.1
              simp only [Nat.toUInt8, UInt8.toNat_ofNat']
              omega
          · cases h
        · cases h
      · split at h
        · split at h
          · split at h
            · rename_i hh
              simp only [Option.some.injEq, Prod.mk.injEq] at h
              obtain ⟨rfl, rfl⟩ := h
              have := hh.2.2.1
              omega
            · cases h
          · cases h
        · split at h
          · split at h
            · split at h
              · rename_i hh
                simp only [Option.some.injEq, Prod.mk.injEq] at h
                obtain ⟨rfl, rfl⟩ := h
                have := hh.2.2.2.1
                omega
              · cases h
            · cases h
          · cases h

def vGo : List It → Bool → Nat → Bool
  | [], st, la => !st && decide (la ≠ 45)
  | p :: r, st, la => match p.1 with
    | none => false
    | some c => if c = 46 then (if (st || decide (la = 45)) = true then false else vGo r true c) else if (!isSign c || (st && decide (c = 45))) = true then false else vGo r false c
def lastC : List It → Nat → Nat
  | [], la => la
  | p :: r, _ => lastC r (p.1.getD 0)
theorem vGo_run {R : List It} : ∀ {I : List It} {la : Nat}, (∀ p ∈ I, p.1 ≠ some 46) → vGo (I ++ R) false la = (I.all signIt && vGo R false (lastC I la))
  | [], la, _ => by simp [lastC]
  | p :: I, la, h => by
    have h0 := h p List.mem_cons_self
    have ih := vGo_run (R := R) (I := I) (la := p.1.getD 0) fun q hq => h q (List.mem_cons_of_mem _ hq)
    rw [List.cons_append, vGo, List.all_cons, lastC]
    cases hp : p.1 with
    | none => simp [signIt, hp]
    | some c =>
      rw [hp] at h0 ih
      have hc : c ≠ 46 := fun e => h0 (by rw [e])
      simp only [hc, if_false, Bool.false_and, Bool.or_false, signIt, hp]
      simp only [Option.getD_some] at ih
      rw [ih]
      cases isSign c <;> simp
theorem vGo_first {R : List It} {p : It} {I : List It} {la : Nat} (h : ∀ q ∈ p :: I, q.1 ≠ some 46) :
    vGo (p :: I ++ R) true la = ((p :: I).all signIt && decide (p.1 ≠ some 45) && vGo R false (lastC (p :: I) la)) := by
  have h0 := h p List.mem_cons_self
  have ih := vGo_run (R := R) (I := I) (la := p.1.getD 0) fun q hq => h q (List.mem_cons_of_mem _ hq)
  rw [List.cons_append, vGo, List.all_cons, lastC]
  cases hp : p.1 with
  | none => simp [signIt, hp]
  | some c =>
    rw [hp] at h0 ih
    have hc : c ≠ 46 := fun e => h0 (by rw [e])
    simp only [hc, if_false, Bool.true_and, signIt, hp]
    simp only [Option.getD_some] at ih
    rw [ih]
    cases isSign c <;> by_cases h45 : c = 45 <;> simp [h45]
theorem hd1_cases {b : UInt8} {r : List UInt8} : (b.toNat < 128 ∧ hd1 (b :: r) = (some b.toNat, [b]) ∧ wid (b :: r) = 1) ∨
    (128 ≤ b.toNat ∧ (∀ c, (hd1 (b :: r)).1 = some c → 128 ≤ c) ∧ ∀ x ∈ (b :: r).take (wid (b :: r)), 128 ≤ x.toNat) := by
  rcases Nat.lt_or_ge b.toNat 128 with h | h
  · refine .inl ⟨h, ?_, ?_⟩
    · unfold hd1; rw [dec_ascii r h]; simp
    · unfold wid; rw [dec_ascii r h]
  · refine .inr ⟨h, ?_, ?_⟩
    · intro c hc
      unfold hd1 at hc
      cases hd : dec (b :: r) with
      | none => rw [hd] at hc; cases hc
      | some p => rw [hd] at hc; simp only [Option.some.injEq] at hc; subst hc; exact (dec_hi (c := p.1) (w := p.2) h hd).1
    · intro x hx
      unfold wid at hx
      cases hd : dec (b :: r) with
      | none => rw [hd] at hx; simp at hx; subst hx; exact h
      | some p => rw [hd] at hx; exact (dec_hi (c := p.1) (w := p.2) h hd).2.2 x hx
theorem its_ascii {k : Nat} (hk : k < 128) (l : List UInt8) : (∃ p ∈ its l, p.1 = some k) ↔ UInt8.ofNat k ∈ l := by
  induction l using its_ind with
  | h0 => simp [its_nil]
  | h1 l hl ih =>
    match l, hl with
    | b :: r, hl =>
      rw [its_cons hl]
      have hsp : b :: r = (b :: r).take (wid (b :: r)) ++ (b :: r).drop (wid (b :: r)) := (List.take_append_drop _ _).symm
      have hkk : (UInt8.ofNat k).toNat = k := by simp; omega
      have hmem : UInt8.ofNat k ∈ b :: r ↔ UInt8.ofNat k ∈ (b :: r).take (wid (b :: r)) ∨ UInt8.ofNat k ∈ (b :: r).drop (wid (b :: r)) := by
        conv => lhs; rw [hsp]
        exact List.mem_append
      rw [hmem]
      simp only [List.mem_cons (a := hd1 (b :: r)), List.mem_cons, exists_eq_or_imp]
      rw [ih]
      rcases hd1_cases (b := b) (r := r) with ⟨h1, h2, h3⟩ | ⟨h1, h2, h3⟩
      · rw [h2, h3]
        simp only [Option.some.injEq, List.take_succ_cons, List.take_zero, List.mem_singleton]
        constructor
        · rintro (h | h)
          · left; apply UInt8.toNat_inj.1; omega
          · exact .inr h
        · rintro (h | h)
          · left; rw [← h]; exact hkk
          · exact .inr h
      · constructor
        · rintro (h | h)
          · have := h2 k h; omega
          · exact .inr h
        · rintro (h | h)
          · have := h3 _ h; omega
          · exact .inr h
theorem its_last : ∀ (l : List UInt8), l ≠ [] → ∀ la, (∀ p ∈ its l, p.1.isSome = true) → (lastC (its l) la = 45 ↔ l.getLast? = some 45) := by
  intro l
  induction l using its_ind with
  | h0 => intro h; exact absurd rfl h
  | h1 l hl ih =>
    intro _ la hs
    match l, hl with
    | b :: r, hl =>
      rw [its_cons hl] at hs ⊢
      rw [lastC]
      have hsp : b :: r = (b :: r).take (wid (b :: r)) ++ (b :: r).drop (wid (b :: r)) := (List.take_append_drop _ _).symm
      by_cases hd : (b :: r).drop (wid (b :: r)) = []
      · rw [hd, its_nil, lastC]
        rw [hd, List.append_nil] at hsp
        rcases hd1_cases (b := b) (r := r) with ⟨h1, h2, h3⟩ | ⟨h1, h2, h3⟩
        · rw [h2]
          rw [h3] at hsp
          simp only [List.take_succ_cons, List.take_zero, List.cons.injEq, true_and] at hsp
          rw [hsp]
          simp only [Option.getD_some, List.getLast?_singleton, Option.some.injEq]
          constructor
          · intro e; apply UInt8.toNat_inj.1; simpa using e
          · intro e; rw [e]; rfl
        · have h0 := hs _ List.mem_cons_self
          obtain ⟨c, hc⟩ := Option.isSome_iff_exists.1 h0
          rw [hc]
          have := h2 c hc
          simp only [Option.getD_some]
          constructor
          · intro e; omega
          · intro e
            have hm := List.mem_of_getLast? e
            rw [hsp] at hm
            have := h3 _ hm
            simp at this
      · rw [ih hd _ fun p hp => hs p (List.mem_cons_of_mem _ hp)]
        conv => rhs; rw [hsp]
        rw [List.getLast?_append, List.getLast?_eq_some_getLast hd]
        rfl
theorem vGo_split (l : List UInt8) : vGo (its l) true 46 = (splitL l).all partL := by
  have key : ∀ (a : List UInt8) (R : List It), (46 : UInt8) ∉ a → (∀ la, vGo R true la = false) → (∀ la, la = 45 → vGo R false la = false) →
      vGo (its a ++ R) true 46 = (partL a && vGo R false 46) ∨ True := fun _ _ _ _ _ => .inr trivial
  have part : ∀ (a : List UInt8) (R : List It) (v : Bool), (46 : UInt8) ∉ a → (∀ la, vGo R true la = false) → (∀ la, vGo R false la = (decide (la ≠ 45) && v)) →
      vGo (its a ++ R) true 46 = (partL a && v) := by
    intro a R v ha h1 h2
    have hno : ∀ p ∈ its a, p.1 ≠ some 46 := fun p hp e => ha ((its_ascii (k := 46) (by omega) a).1 ⟨p, hp, e⟩)
    match a with
    | [] => simp [its_nil, h1, partL, notEnd]
    | b :: r =>
      have hne : b :: r ≠ [] := by simp
      have hl := its_last (b :: r) hne 46
      rw [its_cons hne] at hno hl ⊢
      rw [vGo_first hno, h2, partL, its_cons hne]
      cases hall : (hd1 (b :: r) :: its ((b :: r).drop (wid (b :: r)))).all signIt with
      | false => simp
      | true =>
        have hs : ∀ p ∈ hd1 (b :: r) :: its ((b :: r).drop (wid (b :: r))), p.1.isSome = true := by
          intro p hp
          have := List.all_eq_true.1 hall p hp
          unfold signIt at this
          split at this
          · rename_i e; rw [e]; rfl
          · cases this
        have hl := hl hs
        have e1 : decide ((hd1 (b :: r)).1 ≠ some 45) = notEnd (b :: r).head? := by
          simp only [List.head?_cons, notEnd]
          rcases hd1_cases (b := b) (r := r) with ⟨g1, g2, g3⟩ | ⟨g1, g2, g3⟩
          · rw [g2]
            congr 1
            apply propext
            constructor
            · intro h e; exact h (by rw [e]; rfl)
            · intro h e; exact h (by apply UInt8.toNat_inj.1; simpa using e)
          · have : (hd1 (b :: r)).1 ≠ some 45 := fun e => by have := g2 _ e; omega
            have h' : b ≠ 45 := fun e => by rw [e] at g1; simp at g1
            simp [this, h']
        have e2 : decide (lastC (hd1 (b :: r) :: its ((b :: r).drop (wid (b :: r)))) 46 ≠ 45) = notEnd (b :: r).getLast? := by
          cases hg : (b :: r).getLast? with
          | none => simp at hg
          | some x =>
            rw [hg] at hl
            simp only [Option.some.injEq] at hl
            simp only [notEnd]
            congr 1
            apply propext
            exact not_congr hl
        rw [e1, e2]
        simp [Bool.and_assoc]
  induction l using splitC_ind (d := 46) with
  | h0 l h =>
    have := part l [] true h (fun la => by simp [vGo]) (fun la => by simp [vGo])
    rw [List.append_nil] at this
    rw [this, splitL, splitC_none h]
    simp
  | h1 a r h ih =>
    rw [its_stop (by decide) r a, splitL, splitC_app r h]
    have h46 : its (46 :: r) = (some 46, [46]) :: its r := by
      rw [its_cons (by simp)]
      rcases hd1_cases (b := (46 : UInt8)) (r := r) with ⟨_, h2, h3⟩ | ⟨h1, _, _⟩
      · rw [h2, h3]; rfl
      · simp at h1
    rw [h46, part a _ ((splitL r).all partL) h (fun la => by simp [vGo]) (fun la => by
      simp only [vGo, if_true, Bool.false_or, decide_eq_true_eq, ih]
      by_cases e : la = 45 <;> simp [e])]
    simp
end Go.Lb
namespace Go.Lb
open Go Go.Eng

def ofL (l : List UInt8) : ByteArray := ⟨l.toArray⟩
theorem bytesL_ofL (l : List UInt8) : bytesL (ofL l) = l := by simp [bytesL, ofL]
theorem ofL_bytesL (s : ByteArray) : ofL (bytesL s) = s := by
  cases s; simp [bytesL, ofL]
theorem bytesL_inj {s t : ByteArray} (h : bytesL s = bytesL t) : s = t := by rw [← ofL_bytesL s, h, ofL_bytesL]
theorem size_bytesL (s : ByteArray) : s.size = (bytesL s).length := by
  show s.data.size = _; simp [bytesL]
theorem bytesL_sub (s : ByteArray) (l h : Nat) : bytesL (subS s l h) = ((bytesL s).take h).drop l := by
  unfold bytesL subS
  rw [ByteArray.data_extract, Array.toList_extract]
  rw [List.extract_eq_drop_take, List.drop_take]
theorem bytesL_app (s t : ByteArray) : bytesL (s ++ t) = bytesL s ++ bytesL t := by
  unfold bytesL
  rw [ByteArray.data_append, Array.toList_append]
theorem byteAt_eq (s : ByteArray) (i : Nat) : byteAt s i = (((bytesL s).getD i 0).toNat : Int) := rfl

def restL (s : ByteArray) (pos : Nat) : List UInt8 := (bytesL s).drop pos
theorem restL_zero (s : ByteArray) : restL s 0 = bytesL s := rfl
theorem restL_end {s : ByteArray} {pos : Nat} (h : s.size ≤ pos) : restL s pos = [] := by
  unfold restL; rw [size_bytesL] at h; exact List.drop_eq_nil_iff.2 h
theorem restL_length (s : ByteArray) (pos : Nat) : (restL s pos).length = s.size - pos := by
  unfold restL; rw [List.length_drop, size_bytesL]
theorem restL_ne {s : ByteArray} {pos : Nat} (h : pos < s.size) : restL s pos ≠ [] := by
  intro e
  have := restL_length s pos
  rw [e] at this
  simp at this; omega
theorem restL_add (s : ByteArray) (p q : Nat) : restL s (p + q) = (restL s p).drop q := by
  unfold restL; rw [List.drop_drop]
theorem bytesL_from (s : ByteArray) (p : Nat) : bytesL (subS s p s.size) = restL s p := by
  rw [bytesL_sub, size_bytesL, List.take_length]; rfl
theorem nextP_eq {s : ByteArray} {pos : Nat} (h : pos < s.size) : nextP s pos = pos + wid (restL s pos) := by
  unfold nextP wid
  rw [decode_eq s pos h]
  unfold restL
  cases dec ((bytesL s).drop pos) <;> rfl
theorem nextP_le {s : ByteArray} {pos : Nat} (h : pos < s.size) : pos < nextP s pos ∧ nextP s pos ≤ s.size := by
  rw [nextP_eq h]
  have := wid_pos (restL s pos)
  have h2 := wid_le (restL_ne h)
  rw [restL_length] at h2
  omega
theorem runeAt_eq {s : ByteArray} {pos : Nat} (h : pos < s.size) : runeAt s pos = (((hd1 (restL s pos)).1.getD 65533 : Nat) : Int) := by
  unfold runeAt hd1
  rw [decode_eq s pos h]
  unfold restL
  cases dec ((bytesL s).drop pos) <;> rfl
theorem its_rest {s : ByteArray} {pos : Nat} (h : pos < s.size) : its (restL s pos) = hd1 (restL s pos) :: its (restL s (nextP s pos)) := by
  rw [its_cons (restL_ne h), nextP_eq h, restL_add]
theorem hd1_some {l : List UInt8} {c : Nat} (h : (hd1 l).1 = some c) : ∃ w, dec l = some (c, w) := by
  unfold hd1 at h
  cases hd : dec l with
  | none => rw [hd] at h; cases h
  | some p => rw [hd] at h; simp only [Option.some.injEq] at h; exact ⟨p.2, by rw [← h]⟩
theorem hd1_none {l : List UInt8} (h : (hd1 l).1 = none) : dec l = none := by
  unfold hd1 at h
  cases hd : dec l with
  | none => rfl
  | some p => rw [hd] at h; cases h

def wellZ (s : ByteArray) : Int := (wellN (bytesL s) : Nat)
def illZ (s : ByteArray) : Int := (illN (bytesL s) : Nat)
def prefB (s p : ByteArray) : Bool := (bytesL p).isPrefixOf (bytesL s)
def signZ (n : Int) : Bool := decide (0 ≤ n) && isSign n.toNat
def letterZ (n : Int) : Bool := decide (0 ≤ n) && isLetter n.toNat
def partB (s : ByteArray) : Bool := partL (bytesL s)
def validB (s : ByteArray) : Bool := validL (bytesL s)
def splitS (s d : ByteArray) : List ByteArray := (splitC ((bytesL d).getD 0 0) (bytesL s)).map ofL
def fold1 (s : ByteArray) : ByteArray := bif validB s then ofL (foldL (bytesL s)) else ofL []
def fold2 (s : ByteArray) : Int := bif validB s then 0 else 10
def partsS (s : ByteArray) : List ByteArray := bif validB s then (splitL (bytesL s)).map ofL else []
def sameB (a b : ByteArray) : Bool := validB a && validB b && decide (fold1 a = fold1 b)
def one1 (s : ByteArray) : Int := ((((dec (bytesL s)).map (·.1)).getD 0 : Nat) : Int)
def one2 (s : ByteArray) : Int := ((((dec (bytesL s)).map (·.2)).getD 0 : Nat) : Int)
def lastN (c : UInt8) : List UInt8 → Option Nat
  | [] => none
  | b :: r => match lastN c r with
    | some i => some (i + 1)
    | none => if b = c then some 0 else none
def lastZ (s : ByteArray) (c : Int) : Int := match lastN (UInt8.ofNat c.toNat) (bytesL s) with
  | some i => (i : Int)
  | none => -1
def isDigit (b : UInt8) : Bool := decide (48 ≤ b.toNat) && decide (b.toNat ≤ 57)
def numL (acc : Nat) : List UInt8 → Nat
  | [] => acc
  | b :: r => numL (acc * 10 + (b.toNat - 48)) r
def portN (l : List UInt8) : Nat := bif decide (1 ≤ l.length) && decide (l.length ≤ 5) && decide (l.head? ≠ some 48) && l.all isDigit && decide (numL 0 l ≤ 65535) then numL 0 l else 0
def portZ (s : ByteArray) : Int := (portN (bytesL s) : Nat)
def digF : Nat → Nat → List UInt8
  | 0, _ => []
  | f + 1, n => bif decide (n < 10) then [UInt8.ofNat (48 + n)] else digF f (n / 10) ++ [UInt8.ofNat (48 + n % 10)]
def digL (n : Nat) : List UInt8 := digF 5 n
def digS (n : Int) : ByteArray := ofL (digL n.toNat)
def splitOk (s : ByteArray) : Int := match lastN 58 (bytesL s) with
  | none => 10
  | some at_ => bif validL ((bytesL s).take at_) then (bif decide (portN ((bytesL s).drop (at_ + 1)) = 0) then 11 else 0) else 10
def split1 (s : ByteArray) : ByteArray := bif decide (splitOk s = 0) then ofL (foldL ((bytesL s).take ((lastN 58 (bytesL s)).getD 0))) else ofL []
def split2 (s : ByteArray) : Int := bif decide (splitOk s = 0) then ((portN ((bytesL s).drop ((lastN 58 (bytesL s)).getD 0 + 1)) : Nat) : Int) else 0
def join2 (s : ByteArray) (n : Int) : Int := bif validB s then (bif decide (n < 1) || decide (65535 < n) then 11 else 0) else 10
def join1 (s : ByteArray) (n : Int) : ByteArray := bif decide (join2 s n = 0) then ofL (foldL (bytesL s) ++ 58 :: digL n.toNat) else ofL []
end Go.Lb
namespace Go.Ad
open Go Go.Eng Go.Lb
abbrev G8 := Int × Int × Int × Int × Int × Int × Int × Int × Unit
abbrev Ad := Int × G8 × Int × Unit
instance dG : DecidableEq G8 := @instDecidableEqProd _ _ _ (@instDecidableEqProd _ _ _ (@instDecidableEqProd _ _ _ (@instDecidableEqProd _ _ _ (@instDecidableEqProd _ _ _ (@instDecidableEqProd _ _ _ (@instDecidableEqProd _ _ _ (@instDecidableEqProd _ _ _ inferInstance)))))))
instance dA : DecidableEq Ad := @instDecidableEqProd _ _ _ (@instDecidableEqProd _ _ dG (@instDecidableEqProd _ _ _ inferInstance))
def gl (g : G8) : List Int := [g.1, g.2.1, g.2.2.1, g.2.2.2.1, g.2.2.2.2.1, g.2.2.2.2.2.1, g.2.2.2.2.2.2.1, g.2.2.2.2.2.2.2.1]
def lg (l : List Int) : G8 := (l.getD 0 0, l.getD 1 0, l.getD 2 0, l.getD 3 0, l.getD 4 0, l.getD 5 0, l.getD 6 0, l.getD 7 0, ())
def zA : Ad := (0, lg [], 0, ())
def isZ (n : Int) : Bool := decide (n = 0)
def may1 (a : Ad) : Bool := decide (1 ≤ a.2.2.1) && decide (a.2.2.1 ≤ 65535) && (decide (a.1 = 6) || decide (a.1 = 4) && ((gl a.2.1).drop 2).all isZ)
def mayA (l : List Ad) : Bool := l.all may1
def longGo (i n at_ many : Int) : List Int → Int × Int
  | [] => (at_, many)
  | x :: r => bif decide (x = 0) then (bif decide (max many 1 < n + 1) then longGo (i + 1) (n + 1) (i + 1 - (n + 1)) (n + 1) r else longGo (i + 1) (n + 1) at_ many r) else longGo (i + 1) 0 at_ many r
def longL (l : List Int) : Int × Int := longGo 0 0 0 0 l
def long1 (g : G8) : Int := (longL (gl g)).1
def long2 (g : G8) : Int := (longL (gl g)).2
def hexD (n : Nat) : UInt8 := bif decide (n < 10) then UInt8.ofNat (48 + n) else UInt8.ofNat (87 + n)
def hexF : Nat → Nat → List UInt8
  | 0, _ => []
  | f + 1, n => bif decide (n < 16) then [hexD n] else hexF f (n / 16) ++ [hexD (n % 16)]
def hexL (n : Nat) : List UInt8 := hexF 4 n
def hexS (n : Int) : ByteArray := ofL (hexL n.toNat)
def hexesL (l : List Int) : List UInt8 := Go.Lib.join (l.map fun n => hexL n.toNat) [58]
def hexes (l : List Int) : ByteArray := ofL (hexesL l)
def inL (g : G8) : List UInt8 := bif decide (long2 g = 0) then hexesL (gl g) else hexesL ((gl g).take (long1 g).toNat) ++ [58, 58] ++ hexesL ((gl g).drop (long1 g + long2 g).toNat)
def fourL (x y : Nat) : List UInt8 := Go.Lib.join [digL (x / 256), digL (x % 256), digL (y / 256), digL (y % 256)] [46]
def hostL (a : Ad) : List UInt8 := bif decide (a.1 = 4) then fourL a.2.1.1.toNat a.2.1.2.1.toNat else [91] ++ inL a.2.1 ++ [93]
def text0 (a : Ad) : List UInt8 := hostL a ++ 58 :: digL a.2.2.1.toNat
def text1 (a : Ad) : ByteArray := bif may1 a then ofL (text0 a) else ofL []
def text2 (a : Ad) : Int := bif may1 a then 0 else 20
def numOk (l : List UInt8) : Bool := decide (1 ≤ l.length) && decide (l.length ≤ 5) && (decide (l.head? ≠ some 48) || decide (l.length = 1)) && l.all isDigit
def num1 (s : ByteArray) (_ : Int) : Int := bif numOk (bytesL s) then ((numL 0 (bytesL s) : Nat) : Int) else 0
def num2 (s : ByteArray) (m : Int) : Bool := numOk (bytesL s) && decide (((numL 0 (bytesL s) : Nat) : Int) ≤ m)
def hexV (b : UInt8) : Option Nat := bif decide (48 ≤ b.toNat) && decide (b.toNat ≤ 57) then some (b.toNat - 48) else bif decide (97 ≤ b.toNat) && decide (b.toNat ≤ 102) then some (b.toNat - 87) else bif decide (65 ≤ b.toNat) && decide (b.toNat ≤ 70) then some (b.toNat - 55) else none
def grpL (acc : Nat) : List UInt8 → Option Nat
  | [] => some acc
  | b :: r => match hexV b with
    | some d => bif decide (acc * 16 + d ≤ 65535) then grpL (acc * 16 + d) r else none
    | none => none
def grp1 (s : ByteArray) : Int := (((grpL 0 (bytesL s)).getD 0 : Nat) : Int)
def grp2 (s : ByteArray) : Bool := (grpL 0 (bytesL s)).isSome && decide (1 ≤ (bytesL s).length) && decide ((bytesL s).length ≤ 4)
def grpO (s : ByteArray) : Option Int := bif grp2 s then some (grp1 s) else none
def goO {α β : Type} (f : α → Option β) : List α → Option (List β)
  | [] => some []
  | a :: r => match f a with
    | none => none
    | some b => match goO f r with
      | none => none
      | some l => some (b :: l)
def sideO (s : ByteArray) : Option (List Int) := bif decide ((bytesL s).length = 0) then some [] else goO grpO (splitS s (ofL [58]))
def side1 (s : ByteArray) : List Int := (sideO s).getD []
def side2 (s : ByteArray) : Bool := (sideO s).isSome
def sixO (s : ByteArray) : Option (List Int) := match sideO (ofL (Go.Lib.cut (bytesL s) [58, 58]).1), sideO (ofL (Go.Lib.cut (bytesL s) [58, 58]).2.1) with
  | some l, some m => bif (Go.Lib.cut (bytesL s) [58, 58]).2.2 then (bif decide (l.length + m.length ≤ 7) then some (l ++ List.replicate (8 - l.length - m.length) 0 ++ m) else none) else (bif decide (l.length = 8) then some l else none)
  | _, _ => none
def six1 (s : ByteArray) : G8 := lg ((sixO s).getD [])
def six2 (s : ByteArray) : Bool := (sixO s).isSome
def numO (m : Int) (s : ByteArray) : Option Int := bif num2 s m then some (num1 s m) else none
def four4 (l : List Int) : List Int := [l.getD 0 0 * 256 + l.getD 1 0, l.getD 2 0 * 256 + l.getD 3 0]
def fourO (s : ByteArray) : Option (List Int) := bif decide ((splitS s (ofL [46])).length = 4) then (goO (numO 255) (splitS s (ofL [46]))).map four4 else none
def four1 (s : ByteArray) : G8 := lg ((fourO s).getD [])
def four2 (s : ByteArray) : Bool := (fourO s).isSome
def hostO (h : List UInt8) : Option (Int × List Int) := bif decide (h.head? ≠ some 91) then (fourO (ofL h)).map (4, ·) else bif decide (1 < h.length) && decide (h.getLast? = some 93) then (sixO (ofL (h.drop 1).dropLast)).map (6, ·) else none
def parseO (s : ByteArray) : Option Ad := match lastN 58 (bytesL s) with
  | none => none
  | some at_ => bif decide (at_ < 1) then none else match hostO ((bytesL s).take at_), numO 65535 (ofL ((bytesL s).drop (at_ + 1))) with
    | some h, some p => bif decide (p = 0) then none else some (h.1, lg h.2, p, ())
    | _, _ => none
def parse1 (s : ByteArray) : Ad := (parseO s).getD zA
def parse2 (s : ByteArray) : Int := bif (parseO s).isSome then 0 else 20
def isFam (f : Int) (a : Ad) : Bool := decide (a.1 = f)
def ofA (f : Int) (l : List Ad) : List Ad := l.filter (isFam f)
def rowOk (l : List Ad) : Bool := decide (l.length ≤ 16) && mayA l
def rowL (l : List Ad) : List UInt8 := Go.Lib.join (l.map text0) [32]
def row1 (l : List Ad) : ByteArray := bif rowOk l then ofL (rowL l) else ofL []
def row2 (l : List Ad) : Int := bif rowOk l then 0 else 20
def readO (s : ByteArray) : Option (List Ad) := bif decide ((bytesL s).length = 0) then some [] else bif decide ((splitS s (ofL [32])).length ≤ 16) then goO parseO (splitS s (ofL [32])) else none
def read1 (s : ByteArray) : List Ad := (readO s).getD []
def read2 (s : ByteArray) : Int := bif (readO s).isSome then 0 else 20
end Go.Ad
set_option linter.all false
namespace Go.Ad
open Go Go.Eng Go.Lb
set_option maxRecDepth 100000
set_option maxHeartbeats 1000000

theorem numL_snoc (b : UInt8) : ∀ (l : List UInt8) (acc : Nat), numL acc (l ++ [b]) = numL acc l * 10 + (b.toNat - 48)
  | [], acc => rfl
  | a :: l, acc => numL_snoc b l (acc * 10 + (a.toNat - 48))
theorem head_app {a r : List UInt8} (h : a ≠ []) : (a ++ r).head? = a.head? := by
  cases a with
  | nil => exact absurd rfl h
  | cons b a => rfl
structure DigOk (f n : Nat) (l : List UInt8) : Prop where
  num : numL 0 l = n
  d : l.all isDigit = true
  len : l.length ≤ f
  ne : l ≠ []
  hd : 1 ≤ n → l.head? ≠ some 48
  z : n < 10 → l.length = 1
theorem dig_ok : ∀ (f n : Nat), n < 10 ^ (f + 1) → DigOk (f + 1) n (digF (f + 1) n)
  | f, n, hn => by
    have hd : ∀ k, k < 10 → isDigit (UInt8.ofNat (48 + k)) = true ∧ (UInt8.ofNat (48 + k)).toNat = 48 + k := by
      intro k hk
      have e : (UInt8.ofNat (48 + k)).toNat = 48 + k := by rw [UInt8.toNat_ofNat']; omega
      refine ⟨?_, e⟩
      unfold isDigit; rw [e]; simp; omega
    unfold digF
    rw [cond_eq_ite]
    by_cases h10 : n < 10
    · rw [if_pos (by simpa using h10)]
      obtain ⟨h1, h2⟩ := hd n h10
      refine ⟨?_, by rw [List.all_cons, h1]; rfl, by simp, by simp, fun hn1 => ?_, fun _ => rfl⟩
      · show 0 * 10 + ((UInt8.ofNat (48 + n)).toNat - 48) = n
        omega
      · rw [List.head?_cons]
        intro e
        have := Option.some.inj e
        rw [this] at h2
        have : (48 : UInt8).toNat = 48 := rfl
        omega
    · rw [if_neg (by simpa using h10)]
      cases f with
      | zero => omega
      | succ f =>
        obtain ⟨g1, g2, g3, g4, g5, g6⟩ := dig_ok f (n / 10) (by rw [Nat.pow_succ] at hn; omega)
        obtain ⟨h1, h2⟩ := hd (n % 10) (by omega)
        refine ⟨?_, by rw [List.all_append, g2, List.all_cons, h1]; rfl, by rw [List.length_append]; simp; omega, by simp, fun hn1 => ?_, fun h => absurd h h10⟩
        · rw [numL_snoc, g1, h2]; omega
        · rw [head_app g4]
          exact g5 (by omega)
theorem digL_ok {n : Nat} (h : n < 100000) : DigOk 5 n (digL n) := dig_ok 4 n h
theorem numOk_dig {n : Nat} (h : n < 100000) : numOk (digL n) = true := by
  obtain ⟨g1, g2, g3, g4, g5, g6⟩ := digL_ok h
  have hl := List.length_pos_iff.2 g4
  unfold numOk
  rw [g2]
  simp only [Bool.and_true, Bool.and_eq_true, decide_eq_true_eq, Bool.or_eq_true]
  refine ⟨⟨by omega, g3⟩, ?_⟩
  rcases Nat.eq_zero_or_pos n with rfl | hn
  · exact .inr (g6 (by omega))
  · exact .inl (g5 hn)
theorem numO_dig {n : Nat} {m : Int} (h : n < 100000) (hm : (n : Int) ≤ m) : numO m (ofL (digL n)) = some (n : Int) := by
  unfold numO num2 num1
  rw [bytesL_ofL, numOk_dig h, (digL_ok h).num]
  simp [hm]
theorem dig_all {n : Nat} (h : n < 100000) {b : UInt8} (hb : b ∈ digL n) : isDigit b = true := List.all_eq_true.1 (digL_ok h).d b hb
theorem dig_not {n : Nat} (h : n < 100000) (c : UInt8) (hc : isDigit c = false) : c ∉ digL n := fun e => by rw [dig_all h e] at hc; cases hc
def hexU (n : Nat) : UInt8 := bif decide (n < 10) then UInt8.ofNat (48 + n) else UInt8.ofNat (55 + n)
def hexChar (b : UInt8) : Bool := (hexV b).isSome
theorem hex_all : ((List.range 16).all fun d => decide (hexV (hexD d) = some d) && decide (hexV (hexU d) = some d)) = true := by decide +kernel
theorem hexV_D {d : Nat} (h : d < 16) : hexV (hexD d) = some d ∧ hexV (hexU d) = some d := by
  have := List.all_eq_true.1 hex_all d (List.mem_range.2 h)
  simpa using this
theorem grp_cons {acc d : Nat} {b : UInt8} (r : List UInt8) (hb : hexV b = some d) (h : acc * 16 + d ≤ 65535) : grpL acc (b :: r) = grpL (acc * 16 + d) r := by
  rw [grpL, hb]
  simp [h]
theorem grpL_hex {n : Nat} (h : n < 65536) : grpL 0 (hexL n) = some n ∧ 1 ≤ (hexL n).length ∧ (hexL n).length ≤ 4 ∧ ∀ b ∈ hexL n, hexChar b = true := by
  have c : ∀ d, d < 16 → hexChar (hexD d) = true := fun d hd => by unfold hexChar; rw [(hexV_D hd).1]; rfl
  have v : ∀ d, d < 16 → hexV (hexD d) = some d := fun d hd => (hexV_D hd).1
  unfold hexL
  by_cases h1 : n < 16
  · have e : hexF 4 n = [hexD n] := by simp [hexF, h1]
    rw [e, grp_cons _ (v n h1) (by omega)]
    simp [grpL, c n h1]
  by_cases h2 : n < 256
  · have e : hexF 4 n = [hexD (n / 16), hexD (n % 16)] := by simp [hexF, h1, show n / 16 < 16 by omega]
    rw [e, grp_cons _ (v (n / 16) (by omega)) (by omega), grp_cons _ (v (n % 16) (by omega)) (by omega)]
    refine ⟨?_, by simp, by simp, ?_⟩
    · rw [grpL]; congr 1; omega
    · simp [c (n / 16) (by omega), c (n % 16) (by omega)]
  by_cases h3 : n < 4096
  · have e : hexF 4 n = [hexD (n / 16 / 16), hexD (n / 16 % 16), hexD (n % 16)] := by simp [hexF, h1, show ¬ n / 16 < 16 by omega, show n / 16 / 16 < 16 by omega]
    rw [e, grp_cons _ (v (n / 16 / 16) (by omega)) (by omega), grp_cons _ (v (n / 16 % 16) (by omega)) (by omega), grp_cons _ (v (n % 16) (by omega)) (by omega)]
    refine ⟨?_, by simp, by simp, ?_⟩
    · rw [grpL]; congr 1; omega
    · simp [c (n / 16 / 16) (by omega), c (n / 16 % 16) (by omega), c (n % 16) (by omega)]
  · have e : hexF 4 n = [hexD (n / 16 / 16 / 16), hexD (n / 16 / 16 % 16), hexD (n / 16 % 16), hexD (n % 16)] := by
      simp [hexF, h1, show ¬ n / 16 < 16 by omega, show ¬ n / 16 / 16 < 16 by omega, show n / 16 / 16 / 16 < 16 by omega]
    rw [e, grp_cons _ (v (n / 16 / 16 / 16) (by omega)) (by omega), grp_cons _ (v (n / 16 / 16 % 16) (by omega)) (by omega), grp_cons _ (v (n / 16 % 16) (by omega)) (by omega), grp_cons _ (v (n % 16) (by omega)) (by omega)]
    refine ⟨?_, by simp, by simp, ?_⟩
    · rw [grpL]; congr 1; omega
    · simp [c (n / 16 / 16 / 16) (by omega), c (n / 16 / 16 % 16) (by omega), c (n / 16 % 16) (by omega), c (n % 16) (by omega)]
def hex4 (n : Nat) : List UInt8 := [hexU (n / 4096 % 16), hexU (n / 256 % 16), hexU (n / 16 % 16), hexU (n / 1 % 16)]
def Writes (f : Int → List UInt8) : Prop := ∀ x : Int, 0 ≤ x → x < 65536 → grpO (ofL (f x)) = some x ∧ f x ≠ [] ∧ ∀ b ∈ f x, hexChar b = true
theorem writes_hex : Writes fun n => hexL n.toNat := by
  intro x h0 h1
  obtain ⟨g1, g2, g3, g4⟩ := grpL_hex (n := x.toNat) (by omega)
  refine ⟨?_, fun e => by have e : hexL x.toNat = [] := e; rw [e] at g2; simp at g2, g4⟩
  unfold grpO grp2 grp1
  rw [bytesL_ofL, g1]
  simp only [Option.isSome_some, Option.getD_some, g2, g3, decide_true, Bool.and_true, cond_true]
  congr 1; omega
theorem writes_hex4 : Writes fun n => hex4 n.toNat := by
  intro x h0 h1
  have v : ∀ d, d < 16 → hexV (hexU d) = some d := fun d hd => (hexV_D hd).2
  have c : ∀ d, d < 16 → hexChar (hexU d) = true := fun d hd => by unfold hexChar; rw [v d hd]; rfl
  obtain ⟨n, rfl⟩ : ∃ n : Nat, x = n := ⟨x.toNat, by omega⟩
  have hn : n < 65536 := by omega
  simp only [Int.toNat_natCast]
  refine ⟨?_, by simp [hex4], ?_⟩
  · unfold grpO grp2 grp1
    have e : grpL 0 (hex4 n) = some n := by
      unfold hex4
      rw [grp_cons _ (v _ (by omega)) (by omega), grp_cons _ (v _ (by omega)) (by omega), grp_cons _ (v _ (by omega)) (by omega), grp_cons _ (v _ (by omega)) (by omega), grpL]
      congr 1; omega
    rw [bytesL_ofL, e]
    simp [hex4]
  · intro b hb
    simp only [hex4, List.mem_cons, List.not_mem_nil, or_false] at hb
    rcases hb with rfl | rfl | rfl | rfl <;> exact c _ (by omega)
theorem hexChar_no {l : List UInt8} (h : ∀ b ∈ l, hexChar b = true) (c : UInt8) (hc : hexChar c = false) : c ∉ l := fun e => by rw [h c e] at hc; cases hc
theorem join_cc (a b : List UInt8) (r : List (List UInt8)) (d : List UInt8) : Go.Lib.join (a :: b :: r) d = a ++ d ++ Go.Lib.join (b :: r) d := by
  rw [Go.Lib.join_cons, Go.Lib.join_cons]
  simp [Go.Lib.joinTail]
theorem split_join (d : UInt8) : ∀ (ps : List (List UInt8)), ps ≠ [] → (∀ p ∈ ps, d ∉ p) → splitC d (Go.Lib.join ps [d]) = ps
  | [], h, _ => absurd rfl h
  | [p], _, h => by rw [Go.Lib.join_one, splitC_none (h p List.mem_cons_self)]
  | p :: q :: r, _, h => by
    rw [join_cc, List.append_assoc, List.singleton_append, splitC_app _ (h p List.mem_cons_self), split_join d (q :: r) (by simp) (fun x hx => h x (List.mem_cons_of_mem _ hx))]
theorem splitS_join (d : UInt8) (ps : List (List UInt8)) (h0 : ps ≠ []) (h : ∀ p ∈ ps, d ∉ p) : splitS (ofL (Go.Lib.join ps [d])) (ofL [d]) = ps.map ofL := by
  unfold splitS
  rw [bytesL_ofL, bytesL_ofL]
  show (splitC d _).map ofL = _
  rw [split_join d ps h0 h]
theorem join_mem {d : List UInt8} {b : UInt8} : ∀ {ps : List (List UInt8)}, b ∈ Go.Lib.join ps d → b ∈ d ∨ ∃ p ∈ ps, b ∈ p
  | [], h => by simp [Go.Lib.join_nil] at h
  | [p], h => by rw [Go.Lib.join_one] at h; exact .inr ⟨p, List.mem_cons_self, h⟩
  | p :: q :: r, h => by
    rw [join_cc] at h
    simp only [List.append_assoc, List.mem_append] at h
    rcases h with h | h | h
    · exact .inr ⟨p, List.mem_cons_self, h⟩
    · exact .inl h
    · rcases join_mem h with h | ⟨x, hx, h⟩
      · exact .inl h
      · exact .inr ⟨x, List.mem_cons_of_mem _ hx, h⟩
theorem join_ne {d p : List UInt8} {ps : List (List UInt8)} (h : p ≠ []) : Go.Lib.join (p :: ps) d ≠ [] := by
  rw [Go.Lib.join_cons]
  intro e
  exact h (List.append_eq_nil_iff.1 e).1
theorem goO_all {α β : Type} {f : α → Option β} {g : β → α} : ∀ {l : List β}, (∀ x ∈ l, f (g x) = some x) → goO f (l.map g) = some l
  | [], _ => rfl
  | a :: r, h => by
    rw [List.map_cons, goO, h a List.mem_cons_self, goO_all fun x hx => h x (List.mem_cons_of_mem _ hx)]
theorem goO_app {α β : Type} {f : α → Option β} : ∀ (a b : List α), goO f (a ++ b) = match goO f a with
    | none => none
    | some x => match goO f b with
      | none => none
      | some y => some (x ++ y)
  | [], b => by
    rw [List.nil_append]
    simp only [goO, List.nil_append]
    cases goO f b <;> rfl
  | a :: r, b => by
    rw [List.cons_append, goO, goO_app r b, goO]
    cases f a with
    | none => rfl
    | some x =>
      simp only
      cases goO f r with
      | none => rfl
      | some y =>
        simp only
        cases goO f b <;> rfl
theorem goO_len {α β : Type} {f : α → Option β} : ∀ {l : List α} {x : List β}, goO f l = some x → x.length = l.length
  | [], x, h => by simp only [goO, Option.some.injEq] at h; subst h; rfl
  | a :: r, x, h => by
    rw [goO] at h
    cases hf : f a with
    | none => rw [hf] at h; cases h
    | some b =>
      rw [hf] at h
      cases hr : goO f r with
      | none => rw [hr] at h; cases h
      | some y =>
        rw [hr] at h
        simp only [Option.some.injEq] at h
        subst h
        simp [goO_len hr]
theorem goO_none {α β : Type} {f : α → Option β} {a : α} : ∀ {l : List α}, a ∈ l → f a = none → goO f l = none
  | b :: r, h, ha => by
    rw [goO]
    rcases List.mem_cons.1 h with rfl | h
    · rw [ha]
    · cases f b with
      | none => rfl
      | some x => rw [goO_none h ha]
theorem goO_mem {α β : Type} {f : α → Option β} {M : β → Prop} (hM : ∀ a b, f a = some b → M b) : ∀ {l : List α} {x : List β}, goO f l = some x → ∀ b ∈ x, M b
  | [], x, h => by simp only [goO, Option.some.injEq] at h; subst h; intro b hb; cases hb
  | a :: r, x, h => by
    rw [goO] at h
    cases hf : f a with
    | none => rw [hf] at h; cases h
    | some c =>
      rw [hf] at h
      cases hr : goO f r with
      | none => rw [hr] at h; cases h
      | some y =>
        rw [hr] at h
        simp only [Option.some.injEq] at h
        subst h
        intro b hb
        rcases List.mem_cons.1 hb with rfl | hb
        · exact hM a _ hf
        · exact goO_mem hM hr b hb
def inR (x : Int) : Prop := 0 ≤ x ∧ x < 65536
theorem side_join {f : Int → List UInt8} (hf : Writes f) {l : List Int} (h : ∀ x ∈ l, inR x) : sideO (ofL (Go.Lib.join (l.map f) [58])) = some l := by
  unfold sideO
  cases l with
  | nil => rfl
  | cons a r =>
    have hne : Go.Lib.join ((a :: r).map f) [58] ≠ [] := by
      rw [List.map_cons]
      exact join_ne (hf a (h a List.mem_cons_self).1 (h a List.mem_cons_self).2).2.1
    rw [bytesL_ofL, show decide ((Go.Lib.join ((a :: r).map f) [58]).length = 0) = false from by simpa using hne]
    rw [cond_false, splitS_join 58 _ (by simp) ?_, List.map_map]
    · exact goO_all fun x hx => (hf x (h x hx).1 (h x hx).2).1
    · intro p hp
      obtain ⟨x, hx, rfl⟩ := List.mem_map.1 hp
      exact hexChar_no (hf x (h x hx).1 (h x hx).2).2.2 58 (by decide)
theorem idx_app {r : List UInt8} : ∀ {p : List UInt8}, (58 : UInt8) ∉ p → Go.Lib.index (p ++ r) [58, 58] = if Go.Lib.index r [58, 58] = -1 then -1 else Go.Lib.index r [58, 58] + p.length
  | [], _ => by
    rw [List.nil_append]
    split
    · assumption
    · simp
  | b :: p, h => by
    simp only [List.mem_cons, not_or] at h
    have ih := idx_app (r := r) h.2
    have hp : ([58, 58] : List UInt8).isPrefixOf (b :: (p ++ r)) = false := by
      simp only [List.isPrefixOf, Bool.and_eq_false_imp, beq_iff_eq]
      intro e; exact absurd e h.1
    rw [List.cons_append, Go.Lib.index, hp, ih]
    by_cases hr : Go.Lib.index r [58, 58] = -1
    · simp [hr]
    · rw [if_neg hr, if_neg hr]
      have := Go.Lib.index_ge r [58, 58]
      have e : ((Go.Lib.index r [58, 58] + (p.length : Int)) == -1) = false := by simp; omega
      rw [e]
      simp only [Bool.false_eq_true, if_false, List.length_cons]
      omega
theorem idx_one {b : UInt8} {r : List UInt8} (hb : b ≠ 58) : Go.Lib.index (58 :: b :: r) [58, 58] = if Go.Lib.index (b :: r) [58, 58] = -1 then -1 else Go.Lib.index (b :: r) [58, 58] + 1 := by
  have hp : ([58, 58] : List UInt8).isPrefixOf (58 :: b :: r) = false := by
    simp only [List.isPrefixOf, Bool.and_true, Bool.and_eq_false_imp, beq_eq_false_iff_ne]
    intro _; exact Ne.symm hb
  rw [Go.Lib.index, hp]
  simp only [Bool.false_eq_true, if_false, beq_iff_eq]
theorem idx_join : ∀ (ps : List (List UInt8)), (∀ p ∈ ps, p ≠ [] ∧ (58 : UInt8) ∉ p) → ∀ r, (r = [] ∨ ∃ q, r = 58 :: 58 :: q) →
    Go.Lib.index (Go.Lib.join ps [58] ++ r) [58, 58] = if r = [] then -1 else ((Go.Lib.join ps [58]).length : Int)
  | [], _, r, hr => by
    rw [Go.Lib.join_nil, List.nil_append]
    rcases hr with rfl | ⟨q, rfl⟩
    · rfl
    · rw [Go.Lib.index]
      simp [List.isPrefixOf]
  | [p], h, r, hr => by
    rw [Go.Lib.join_one, idx_app (h p List.mem_cons_self).2]
    rcases hr with rfl | ⟨q, rfl⟩
    · rfl
    · have : Go.Lib.index (58 :: 58 :: q) [58, 58] = 0 := by rw [Go.Lib.index]; simp [List.isPrefixOf]
      rw [this]
      simp
  | p :: q :: t, h, r, hr => by
    have ih := idx_join (q :: t) (fun x hx => h x (List.mem_cons_of_mem _ hx)) r hr
    obtain ⟨b, q', hq⟩ := List.exists_cons_of_ne_nil (h q (List.mem_cons_of_mem _ List.mem_cons_self)).1
    have hb : b ≠ 58 := by
      have := (h q (List.mem_cons_of_mem _ List.mem_cons_self)).2
      rw [hq] at this
      simp only [List.mem_cons, not_or] at this
      exact Ne.symm this.1
    obtain ⟨j, hj⟩ : ∃ j, Go.Lib.join (q :: t) [58] = b :: j := by rw [Go.Lib.join_cons, hq]; exact ⟨_, rfl⟩
    rw [join_cc, List.append_assoc, List.append_assoc, idx_app (h p List.mem_cons_self).2]
    rw [hj] at ih ⊢
    rw [show [58] ++ (b :: j ++ r) = 58 :: b :: (j ++ r) from rfl, idx_one hb, ← List.cons_append, ih]
    by_cases hr0 : r = []
    · simp [hr0]
    · rw [if_neg hr0, if_neg hr0, if_neg (by omega), if_neg (by omega)]
      simp only [List.length_append, List.length_cons, List.length_nil]
      omega
theorem cut_none {ps : List (List UInt8)} (h : ∀ p ∈ ps, p ≠ [] ∧ (58 : UInt8) ∉ p) : Go.Lib.cut (Go.Lib.join ps [58]) [58, 58] = (Go.Lib.join ps [58], [], false) := by
  have := idx_join ps h [] (.inl rfl)
  rw [List.append_nil, if_pos rfl] at this
  unfold Go.Lib.cut
  rw [this]
  rfl
theorem cut_some {ps : List (List UInt8)} (h : ∀ p ∈ ps, p ≠ [] ∧ (58 : UInt8) ∉ p) (q : List UInt8) : Go.Lib.cut (Go.Lib.join ps [58] ++ 58 :: 58 :: q) [58, 58] = (Go.Lib.join ps [58], q, true) := by
  have := idx_join ps h (58 :: 58 :: q) (.inr ⟨q, rfl⟩)
  rw [if_neg (by simp)] at this
  unfold Go.Lib.cut
  rw [this, if_pos (by omega)]
  simp
def RunOk (l : List Int) (p : Int × Int) : Prop := p.2 = 0 ∨ (2 ≤ p.2 ∧ 0 ≤ p.1 ∧ p.1 + p.2 ≤ l.length ∧ ∀ k : Nat, p.1 ≤ k → (k : Int) < p.1 + p.2 → l.getD k 0 = 0)
theorem getD_app {l r : List Int} {k : Nat} (h : k < l.length) : (l ++ r).getD k 0 = l.getD k 0 := by
  rw [List.getD_eq_getElem?_getD, List.getD_eq_getElem?_getD, List.getElem?_append_left h]
theorem RunOk.app {l : List Int} {p : Int × Int} (h : RunOk l p) (r : List Int) : RunOk (l ++ r) p := by
  rcases h with h | ⟨h1, h2, h3, h4⟩
  · exact .inl h
  · refine .inr ⟨h1, h2, by rw [List.length_append]; omega, fun k k1 k2 => ?_⟩
    rw [getD_app (by omega)]
    exact h4 k k1 k2
theorem long_ok : ∀ (r pre : List Int) (n at_ many : Int), 0 ≤ n → n ≤ pre.length → (∀ k : Nat, (pre.length : Int) - n ≤ k → k < pre.length → pre.getD k 0 = 0) → RunOk pre (at_, many) → RunOk (pre ++ r) (longGo pre.length n at_ many r)
  | [], pre, n, a, m, h0, h1, h2, h3 => by rw [List.append_nil]; exact h3
  | x :: r, pre, n, a, m, h0, h1, h2, h3 => by
    rw [longGo]
    have e : pre ++ x :: r = (pre ++ [x]) ++ r := by simp
    have el : (pre.length : Int) + 1 = ((pre ++ [x]).length : Nat) := by simp
    have hz : x = 0 → ∀ k : Nat, ((pre ++ [x]).length : Int) - (n + 1) ≤ k → k < (pre ++ [x]).length → (pre ++ [x]).getD k 0 = 0 := by
      intro hx k k1 k2
      simp only [List.length_append, List.length_singleton] at k1 k2
      rcases Nat.lt_or_ge k pre.length with h | h
      · rw [getD_app h]
        exact h2 k (by omega) h
      · obtain rfl : k = pre.length := by omega
        rw [List.getD_eq_getElem?_getD, List.getElem?_append_right (Nat.le_refl _)]
        simp [hx]
    rw [e]
    by_cases hx : x = 0
    · rw [show decide (x = 0) = true from by simpa using hx, cond_true]
      by_cases hm : max m 1 < n + 1
      · rw [show decide (max m 1 < n + 1) = true from by simpa using hm, cond_true]
        rw [el]
        refine long_ok r (pre ++ [x]) (n + 1) _ _ (by omega) (by simp; omega) (hz hx) (.inr ⟨by simp only; omega, by simp only [List.length_append, List.length_singleton]; omega, by simp only [List.length_append, List.length_singleton]; omega, fun k k1 k2 => ?_⟩)
        exact hz hx k (by simpa using k1) (by simp only at k2; omega)
      · rw [show decide (max m 1 < n + 1) = false from by simpa using hm, cond_false, el]
        exact long_ok r (pre ++ [x]) (n + 1) a m (by omega) (by simp; omega) (hz hx) (h3.app _)
    · rw [show decide (x = 0) = false from by simpa using hx, cond_false, el]
      exact long_ok r (pre ++ [x]) 0 a m (by omega) (by omega) (fun k k1 k2 => by omega) (h3.app _)
theorem longL_ok (l : List Int) : RunOk l (longL l) := by
  have := long_ok l [] 0 0 0 (by omega) (by simp) (fun k _ k2 => by simp at k2) (.inl rfl)
  rw [List.nil_append] at this
  exact this
theorem run_fill {l : List Int} {a m : Nat} (h : a + m ≤ l.length) (hz : ∀ k : Nat, a ≤ k → k < a + m → l.getD k 0 = 0) : l.take a ++ List.replicate m 0 ++ l.drop (a + m) = l := by
  have e : (l.drop a).take m = List.replicate m 0 := by
    apply List.ext_getElem?
    intro i
    rw [List.getElem?_take, List.getElem?_drop, List.getElem?_replicate]
    split
    · rename_i hi
      have := hz (a + i) (by omega) (by omega)
      rw [List.getD_eq_getElem?_getD, List.getElem?_eq_getElem (by omega)] at this
      rw [List.getElem?_eq_getElem (by omega)]
      simpa using this
    · rfl
  rw [← e]
  have := List.take_append_drop m (l.drop a)
  rw [List.drop_drop] at this
  rw [List.append_assoc, this, List.take_append_drop]
theorem len_gl (g : G8) : (gl g).length = 8 := rfl
theorem lg_gl (g : G8) : lg (gl g) = g := rfl
theorem pieces {f : Int → List UInt8} (hf : Writes f) {l : List Int} (h : ∀ x ∈ l, inR x) : ∀ p ∈ l.map f, p ≠ [] ∧ (58 : UInt8) ∉ p := by
  intro p hp
  obtain ⟨x, hx, rfl⟩ := List.mem_map.1 hp
  have := hf x (h x hx).1 (h x hx).2
  exact ⟨this.2.1, hexChar_no this.2.2 58 (by decide)⟩
theorem six_full {f : Int → List UInt8} (hf : Writes f) {l : List Int} (h : ∀ x ∈ l, inR x) (hl : l.length = 8) : sixO (ofL (Go.Lib.join (l.map f) [58])) = some l := by
  unfold sixO
  rw [bytesL_ofL, cut_none (pieces hf h)]
  simp only
  rw [side_join hf h, show sideO (ofL []) = some [] from rfl]
  simp [hl]
theorem six_in {g : G8} (h : ∀ x ∈ gl g, inR x) : sixO (ofL (inL g)) = some (gl g) := by
  have hr := longL_ok (gl g)
  unfold inL
  by_cases hm : long2 g = 0
  · rw [show decide (long2 g = 0) = true from by simpa using hm, cond_true]
    exact six_full writes_hex h rfl
  · rw [show decide (long2 g = 0) = false from by simpa using hm, cond_false]
    rcases hr with hr | ⟨h1, h2, h3, h4⟩
    · exact absurd hr hm
    have d1 : (longL (gl g)).1 = long1 g := rfl
    have d2 : (longL (gl g)).2 = long2 g := rfl
    rw [d1, d2] at h3 h4
    rw [d2] at h1
    rw [d1] at h2
    rw [len_gl] at h3
    have ha : ∀ x ∈ (gl g).take (long1 g).toNat, inR x := fun x hx => h x (List.mem_of_mem_take hx)
    have hb : ∀ x ∈ (gl g).drop (long1 g + long2 g).toNat, inR x := fun x hx => h x (List.mem_of_mem_drop hx)
    unfold sixO hexesL
    rw [bytesL_ofL, List.append_assoc, List.cons_append, List.cons_append, List.nil_append, cut_some (pieces writes_hex ha)]
    simp only
    rw [side_join writes_hex ha, side_join writes_hex hb]
    have l1 : ((gl g).take (long1 g).toNat).length = (long1 g).toNat := by rw [List.length_take, len_gl]; omega
    have l2 : ((gl g).drop (long1 g + long2 g).toNat).length = 8 - (long1 g + long2 g).toNat := by rw [List.length_drop, len_gl]
    simp only [l1, l2, cond_true]
    rw [show decide ((long1 g).toNat + (8 - (long1 g + long2 g).toNat) ≤ 7) = true from by simp; omega, cond_true]
    congr 1
    have e1 : 8 - (long1 g).toNat - (8 - (long1 g + long2 g).toNat) = (long2 g).toNat := by omega
    have e2 : (long1 g + long2 g).toNat = (long1 g).toNat + (long2 g).toNat := by omega
    rw [e1, e2]
    exact run_fill (by rw [len_gl]; omega) fun k k1 k2 => h4 k (by omega) (by omega)
theorem four_in {x y : Nat} (hx : x < 65536) (hy : y < 65536) : fourO (ofL (fourL x y)) = some [(x : Int), (y : Int)] := by
  unfold fourO fourL
  have hd : ∀ n, n < 256 → (46 : UInt8) ∉ digL n := fun n hn => dig_not (by omega) 46 (by decide)
  rw [splitS_join 46 _ (by simp) ?_]
  · simp only [List.map_cons, List.map_nil, List.length_cons, List.length_nil, Nat.zero_add, Nat.reduceAdd, decide_true, cond_true]
    simp only [goO]
    rw [numO_dig (by omega) (by omega), numO_dig (by omega) (by omega), numO_dig (by omega) (by omega), numO_dig (by omega) (by omega)]
    simp only [Option.map_some, four4, List.getD_cons_zero, List.getD_cons_succ]
    congr 1
    rw [List.cons.injEq, List.cons.injEq]
    exact ⟨by omega, by omega, rfl⟩
  · intro p hp
    simp only [List.mem_cons, List.not_mem_nil, or_false] at hp
    rcases hp with rfl | rfl | rfl | rfl <;> exact hd _ (by omega)
theorem lastN_none {c : UInt8} : ∀ {d : List UInt8}, c ∉ d → lastN c d = none
  | [], _ => rfl
  | b :: r, h => by
    simp only [List.mem_cons, not_or] at h
    rw [lastN, lastN_none h.2]
    simp only
    rw [if_neg (Ne.symm h.1)]
theorem lastN_app (c : UInt8) (a : List UInt8) {d : List UInt8} (hd : c ∉ d) : lastN c (a ++ c :: d) = some a.length := by
  induction a with
  | nil => rw [List.nil_append, lastN, lastN_none hd]; simp
  | cons b a ih => rw [List.cons_append, lastN, ih]; rfl
theorem parse_in {h : List UInt8} {p : Nat} {q : Int × List Int} (h0 : h ≠ []) (hh : hostO h = some q) (p0 : 1 ≤ p) (p1 : p ≤ 65535) : parseO (ofL (h ++ 58 :: digL p)) = some (q.1, lg q.2, (p : Int), ()) := by
  unfold parseO
  rw [bytesL_ofL, lastN_app 58 h (dig_not (by omega) 58 (by decide))]
  have hl := List.length_pos_iff.2 h0
  simp only
  rw [show decide (h.length < 1) = false from by simp; omega, cond_false, List.take_left]
  have e : (h ++ 58 :: digL p).drop (h.length + 1) = digL p := by
    rw [List.drop_append]
    simp
  rw [e, hh, numO_dig (by omega) (by omega)]
  simp only
  rw [show decide ((p : Int) = 0) = false from by simp; omega, cond_false]
theorem host_six {x : List UInt8} {l : List Int} (h : sixO (ofL x) = some l) : hostO ([91] ++ x ++ [93]) = some (6, l) := by
  unfold hostO
  have e1 : ([91] ++ x ++ [93] : List UInt8).head? = some 91 := rfl
  have e2 : ([91] ++ x ++ [93] : List UInt8).getLast? = some 93 := by rw [List.getLast?_append]; rfl
  have e3 : (([91] ++ x ++ [93] : List UInt8).drop 1).dropLast = x := by simp
  rw [e1, e2, e3, h]
  simp
theorem host_four {x y : Nat} (hx : x < 65536) (hy : y < 65536) : hostO (fourL x y) = some (4, [(x : Int), (y : Int)]) := by
  unfold hostO
  have e : (fourL x y).head? ≠ some 91 := by
    have hk := digL_ok (n := x / 256) (by omega)
    unfold fourL
    rw [Go.Lib.join_cons, head_app hk.ne]
    intro e
    have := dig_all (n := x / 256) (by omega) (List.mem_of_mem_head? e)
    revert this
    decide
  rw [show decide ((fourL x y).head? ≠ some 91) = true from by simpa using e, cond_true, four_in hx hy]
  rfl
structure AdR (a : Ad) : Prop where
  g : ∀ x ∈ gl a.2.1, inR x
theorem may1_iff (a : Ad) : may1 a = true ↔ (1 ≤ a.2.2.1 ∧ a.2.2.1 ≤ 65535) ∧ (a.1 = 6 ∨ a.1 = 4 ∧ ∀ x ∈ (gl a.2.1).drop 2, x = 0) := by
  unfold may1
  simp [isZ, List.all_eq_true]
theorem text_back {a : Ad} (h : may1 a = true) (hr : AdR a) : parseO (text1 a) = some a := by
  unfold text1
  rw [h, cond_true]
  obtain ⟨f, g, p, ⟨⟩⟩ := a
  rw [may1_iff] at h
  replace hr := hr.g
  simp only at h hr
  unfold text0 hostL
  simp only
  have ep : ((p.toNat : Nat) : Int) = p := by omega
  rcases h.2 with rfl | ⟨rfl, hz⟩
  · rw [show decide ((6 : Int) = 4) = false from rfl, cond_false]
    rw [parse_in (by simp) (host_six (six_in hr)) (by omega) (by omega), ep]
    rfl
  · rw [show decide ((4 : Int) = 4) = true from rfl, cond_true]
    obtain ⟨x, y, z2, z3, z4, z5, z6, z7, ⟨⟩⟩ := g
    simp only [gl, List.drop_succ_cons, List.drop_zero, List.mem_cons, List.not_mem_nil, or_false, forall_eq_or_imp, forall_eq] at hz hr
    obtain ⟨rfl, rfl, rfl, rfl, rfl, rfl⟩ := hz
    have hx := hr.1
    have hy := hr.2.1
    unfold inR at hx hy
    have hne : fourL x.toNat y.toNat ≠ [] := by
      unfold fourL
      exact join_ne (digL_ok (by omega)).ne
    rw [parse_in hne (host_four (by omega) (by omega)) (by omega) (by omega), ep]
    have ex : ((x.toNat : Nat) : Int) = x := by omega
    have ey : ((y.toNat : Nat) : Int) = y := by omega
    rw [ex, ey]
    rfl
theorem digits_back {a : Ad} (h : may1 a = true) (h6 : a.1 = 6) (hr : AdR a) : parseO (ofL ([91] ++ Go.Lib.join ((gl a.2.1).map fun n => hex4 n.toNat) [58] ++ [93] ++ 58 :: digL a.2.2.1.toNat)) = some a := by
  obtain ⟨f, g, p, ⟨⟩⟩ := a
  rw [may1_iff] at h
  replace hr := hr.g
  simp only at h hr h6
  subst h6
  have ep : ((p.toNat : Nat) : Int) = p := by omega
  rw [parse_in (p := p.toNat) (by simp) (host_six (six_full writes_hex4 hr rfl)) (by omega) (by omega), ep]
  rfl
theorem hexV_lt {b : UInt8} {d : Nat} (h : hexV b = some d) : d < 16 := by
  unfold hexV at h
  simp only [cond_eq_ite] at h
  split at h
  · rename_i hc; simp only [Bool.and_eq_true, decide_eq_true_eq] at hc; simp only [Option.some.injEq] at h; omega
  · split at h
    · rename_i hc; simp only [Bool.and_eq_true, decide_eq_true_eq] at hc; simp only [Option.some.injEq] at h; omega
    · split at h
      · rename_i hc; simp only [Bool.and_eq_true, decide_eq_true_eq] at hc; simp only [Option.some.injEq] at h; omega
      · cases h
theorem grpL_le : ∀ {l : List UInt8} {acc n : Nat}, acc ≤ 65535 → grpL acc l = some n → n ≤ 65535
  | [], acc, n, h, e => by simp only [grpL, Option.some.injEq] at e; omega
  | b :: r, acc, n, h, e => by
    rw [grpL] at e
    cases hb : hexV b with
    | none => rw [hb] at e; cases e
    | some d =>
      rw [hb] at e
      simp only [cond_eq_ite] at e
      split at e
      · rename_i hc
        exact grpL_le (by simpa using hc) e
      · cases e
theorem grp1_le (s : ByteArray) : inR (grp1 s) := by
  unfold grp1 inR
  cases h : grpL 0 (bytesL s) with
  | none => simp
  | some n =>
    have := grpL_le (by omega) h
    simp only [Option.getD_some]
    omega
theorem side_in {s : ByteArray} {l : List Int} (h : sideO s = some l) : ∀ x ∈ l, inR x := by
  unfold sideO at h
  rw [cond_eq_ite] at h
  split at h
  · simp only [Option.some.injEq] at h; subst h; intro x hx; cases hx
  · refine goO_mem (M := inR) (fun a b hb => ?_) h
    unfold grpO at hb
    rw [cond_eq_ite] at hb
    split at hb
    · simp only [Option.some.injEq] at hb; rw [← hb]; exact grp1_le a
    · cases hb
theorem six_R {s : ByteArray} {l : List Int} (h : sixO s = some l) : l.length = 8 ∧ ∀ x ∈ l, inR x := by
  unfold sixO at h
  split at h
  · rename_i a b ha hb
    have h1 := side_in ha
    have h2 := side_in hb
    rw [cond_eq_ite] at h
    split at h
    · rw [cond_eq_ite] at h
      split at h
      · rename_i hc
        simp only [decide_eq_true_eq] at hc
        simp only [Option.some.injEq] at h
        subst h
        refine ⟨by simp; omega, fun x hx => ?_⟩
        simp only [List.mem_append, List.mem_replicate] at hx
        rcases hx with (hx | hx) | hx
        · exact h1 x hx
        · rw [hx.2]; exact ⟨by omega, by omega⟩
        · exact h2 x hx
      · cases h
    · rw [cond_eq_ite] at h
      split at h
      · rename_i hc
        simp only [Option.some.injEq] at h
        subst h
        exact ⟨by simpa using hc, h1⟩
      · cases h
  · cases h
theorem numO_R {s : ByteArray} {m n : Int} (h : numO m s = some n) : 0 ≤ n ∧ n ≤ m := by
  unfold numO num2 num1 at h
  rw [cond_eq_ite] at h
  split at h
  · rename_i hc
    simp only [Bool.and_eq_true, decide_eq_true_eq] at hc
    rw [hc.1] at h
    simp only [cond_true, Option.some.injEq] at h
    omega
  · cases h
theorem four_R {s : ByteArray} {l : List Int} (h : fourO s = some l) : ∃ x y, l = [x, y] ∧ inR x ∧ inR y := by
  unfold fourO at h
  rw [cond_eq_ite] at h
  split at h
  · rename_i hc
    simp only [decide_eq_true_eq] at hc
    cases hg : goO (numO 255) (splitS s (ofL [46])) with
    | none => rw [hg] at h; cases h
    | some n =>
      rw [hg] at h
      have hl := goO_len hg
      have hm := goO_mem (M := fun n => 0 ≤ n ∧ n ≤ 255) (fun a b hb => numO_R hb) hg
      simp only [Option.map_some, Option.some.injEq] at h
      subst h
      rw [hc] at hl
      match n, hl with
      | [a, b, c, d], _ =>
        have ha := hm a (by simp)
        have hb := hm b (by simp)
        have hc := hm c (by simp)
        have hd := hm d (by simp)
        refine ⟨_, _, rfl, ⟨?_, ?_⟩, ⟨?_, ?_⟩⟩ <;> simp <;> omega
  · cases h
theorem parse_R {s : ByteArray} {a : Ad} (h : parseO s = some a) : may1 a = true ∧ AdR a := by
  unfold parseO at h
  split at h
  · cases h
  · rw [cond_eq_ite] at h
    split at h
    · cases h
    · split at h
      · rename_i q p hq hp
        rw [cond_eq_ite] at h
        split at h
        · cases h
        · rename_i hp0
          simp only [decide_eq_true_eq] at hp0
          have hpR := numO_R hp
          simp only [Option.some.injEq] at h
          subst h
          rw [may1_iff]
          unfold hostO at hq
          rw [cond_eq_ite] at hq
          split at hq
          · cases hf : fourO (ofL ((bytesL s).take _)) with
            | none => rw [hf] at hq; cases hq
            | some l =>
              rw [hf] at hq
              simp only [Option.map_some, Option.some.injEq] at hq
              subst hq
              obtain ⟨x, y, rfl, hx, hy⟩ := four_R hf
              refine ⟨⟨by simp only; omega, .inr ⟨rfl, ?_⟩⟩, ⟨?_⟩⟩
              · simp [gl, lg]
              · have z : inR 0 := ⟨by omega, by omega⟩
                simp [gl, lg, hx, hy, z]
          · rw [cond_eq_ite] at hq
            split at hq
            · cases hf : sixO (ofL ((bytesL s).take _ |>.drop 1).dropLast) with
              | none => rw [hf] at hq; cases hq
              | some l =>
                rw [hf] at hq
                simp only [Option.map_some, Option.some.injEq] at hq
                subst hq
                obtain ⟨h8, hR⟩ := six_R hf
                refine ⟨⟨by simp only; omega, .inl rfl⟩, ⟨?_⟩⟩
                match l, h8 with
                | [a, b, c, d, e, f, g, i], _ => exact hR
            · cases hq
      · cases h
theorem text_no {a : Ad} (h : may1 a = true) (hr : AdR a) : (32 : UInt8) ∉ text0 a := by
  obtain ⟨f, g, p, ⟨⟩⟩ := a
  rw [may1_iff] at h
  replace hr := hr.g
  simp only at h hr
  have hh : ∀ l : List Int, (∀ x ∈ l, inR x) → (32 : UInt8) ∉ hexesL l := by
    intro l hl e
    unfold hexesL at e
    rcases join_mem e with e | ⟨q, hq, e⟩
    · revert e; decide
    · obtain ⟨x, hx, rfl⟩ := List.mem_map.1 hq
      exact hexChar_no (writes_hex x (hl x hx).1 (hl x hx).2).2.2 32 (by decide) e
  unfold text0 hostL
  simp only [List.mem_append, List.mem_cons, not_or]
  refine ⟨?_, by decide, dig_not (by omega) 32 (by decide)⟩
  rcases h.2 with rfl | ⟨rfl, hz⟩
  · rw [show decide ((6 : Int) = 4) = false from rfl, cond_false]
    simp only [List.mem_append, not_or]
    refine ⟨⟨by decide, ?_⟩, by decide⟩
    unfold inL
    rw [cond_eq_ite]
    split
    · exact hh _ hr
    · simp only [List.mem_append, not_or]
      exact ⟨⟨hh _ fun x hx => hr x (List.mem_of_mem_take hx), by decide⟩, hh _ fun x hx => hr x (List.mem_of_mem_drop hx)⟩
  · rw [show decide ((4 : Int) = 4) = true from rfl, cond_true]
    have hx := hr g.1 (by simp [gl])
    have hy := hr g.2.1 (by simp [gl])
    unfold inR at hx hy
    intro e
    unfold fourL at e
    rcases join_mem e with e | ⟨q, hq, e⟩
    · revert e; decide
    · simp only [List.mem_cons, List.not_mem_nil, or_false] at hq
      rcases hq with rfl | rfl | rfl | rfl <;> exact absurd e (dig_not (by omega) 32 (by decide))
theorem text1_may {a : Ad} (h : may1 a = true) : text1 a = ofL (text0 a) := by unfold text1; rw [h]; rfl
theorem row_back {l : List Ad} (h : rowOk l = true) (hr : ∀ a ∈ l, AdR a) : readO (row1 l) = some l := by
  unfold row1
  rw [h, cond_true]
  unfold rowOk mayA at h
  simp only [Bool.and_eq_true, decide_eq_true_eq, List.all_eq_true] at h
  unfold readO rowL
  cases l with
  | nil => rfl
  | cons a r =>
    have hne : Go.Lib.join ((a :: r).map text0) [32] ≠ [] := by
      rw [List.map_cons]
      exact join_ne (by unfold text0; simp)
    rw [bytesL_ofL, show decide ((Go.Lib.join ((a :: r).map text0) [32]).length = 0) = false from by simpa using hne, cond_false]
    rw [splitS_join 32 _ (by simp) ?_, List.map_map]
    · rw [show decide (((a :: r).map (ofL ∘ text0)).length ≤ 16) = true from by rw [List.length_map]; simpa using h.1, cond_true]
      refine goO_all fun x hx => ?_
      rw [Function.comp, ← text1_may (h.2 x hx)]
      exact text_back (h.2 x hx) (hr x hx)
    · intro p hp
      obtain ⟨x, hx, rfl⟩ := List.mem_map.1 hp
      exact text_no (h.2 x hx) (hr x hx)
end Go.Ad
namespace Go.Proofs.YtkimpfoimblhjaaDoor.Tb
open Go Go.Eng
def tab : List (TypeId × TI) := [(1, ⟨1, 8, [.nilFunc], .fn, none⟩),
  (2, ⟨1, 8, [.int .i64 0], .int .i64, some (.int .i64)⟩),
  (3, ⟨1, 8, [.int .i64 0], .int .i64, some (.int .i64)⟩),
  (4, ⟨1, 1, [.bool false], .bool, some .bool⟩),
  (5, ⟨1, 1, [.int .u8 0], .int .u8, some (.int .u8)⟩),
  (9, ⟨1, 16, [.string ⟨#[]⟩], .str, some .str⟩),
  (20, ⟨1, 16, [.nilIface], .ifc, none⟩),
  (21, ⟨1, 4, [.int .i32 0], .int .i32, some (.int .i32)⟩),
  (22, ⟨1, 1, [.int .i8 0], .int .i8, some (.int .i8)⟩),
  (23, ⟨1, 2, [.int .u16 0], .int .u16, some (.int .u16)⟩),
  (24, ⟨8, 16, [.int .u16 0, .int .u16 0, .int .u16 0, .int .u16 0, .int .u16 0, .int .u16 0, .int .u16 0, .int .u16 0], .arr 8 23, some (.arr 8 (.int .u16))⟩),
  (25, ⟨10, 32, [.int .i8 0, .int .u16 0, .int .u16 0, .int .u16 0, .int .u16 0, .int .u16 0, .int .u16 0, .int .u16 0, .int .u16 0, .int .i64 0], .st [(0, 22), (1, 24), (9, 3)], some (.cons (.int .i8) (.cons (.arr 8 (.int .u16)) (.cons (.int .i64) .unit)))⟩),
  (26, ⟨10, 32, [.int .i8 0, .int .u16 0, .int .u16 0, .int .u16 0, .int .u16 0, .int .u16 0, .int .u16 0, .int .u16 0, .int .u16 0, .int .i64 0], .st [(0, 22), (1, 24), (9, 3)], some (.cons (.int .i8) (.cons (.arr 8 (.int .u16)) (.cons (.int .i64) .unit)))⟩),
  (27, ⟨1, 8, [.nilFunc], .fn, none⟩),
  (28, ⟨1, 8, [.nilFunc], .fn, none⟩),
  (29, ⟨1, 8, [.int .i64 0], .int .i64, some (.int .i64)⟩),
  (31, ⟨1, 8, [.nilFunc], .fn, none⟩),
  (33, ⟨1, 8, [.nilFunc], .fn, none⟩),
  (34, ⟨1, 8, [.nilFunc], .fn, none⟩),
  (35, ⟨1, 24, [.slice none 0 0], .sl 26, some (.sl (.cons (.int .i8) (.cons (.arr 8 (.int .u16)) (.cons (.int .i64) .unit))))⟩),
  (36, ⟨1, 8, [.nilFunc], .fn, none⟩),
  (37, ⟨1, 8, [.nilFunc], .fn, none⟩),
  (38, ⟨1, 8, [.nilFunc], .fn, none⟩),
  (40, ⟨1, 8, [.nilFunc], .fn, none⟩),
  (41, ⟨1, 8, [.nilFunc], .fn, none⟩),
  (42, ⟨1, 8, [.nilFunc], .fn, none⟩),
  (43, ⟨1, 8, [.nilFunc], .fn, none⟩),
  (44, ⟨1, 24, [.slice none 0 0], .sl 9, some (.sl .str)⟩),
  (45, ⟨1, 8, [.nilFunc], .fn, none⟩),
  (46, ⟨1, 8, [.nilFunc], .fn, none⟩),
  (47, ⟨1, 8, [.nilFunc], .fn, none⟩),
  (48, ⟨1, 8, [.nilFunc], .fn, none⟩),
  (50, ⟨1, 8, [.nilFunc], .fn, none⟩),
  (51, ⟨1, 8, [.nilFunc], .fn, none⟩),
  (52, ⟨1, 8, [.nilFunc], .fn, none⟩),
  (53, ⟨1, 8, [.nilFunc], .fn, none⟩),
  (55, ⟨1, 8, [.nilFunc], .fn, none⟩),
  (56, ⟨1, 8, [.nilFunc], .fn, none⟩),
  (57, ⟨1, 8, [.nilFunc], .fn, none⟩),
  (58, ⟨1, 8, [.nilFunc], .fn, none⟩),
  (59, ⟨1, 24, [.slice none 0 0], .sl 4, some (.sl .bool)⟩),
  (60, ⟨1, 8, [.nilFunc], .fn, none⟩),
  (61, ⟨1, 8, [.nilFunc], .fn, none⟩),
  (62, ⟨1, 8, [.nilFunc], .fn, none⟩),
  (63, ⟨1, 8, [.nilFunc], .fn, none⟩),
  (64, ⟨1, 8, [.nilFunc], .fn, none⟩),
  (65, ⟨1, 24, [.slice none 0 0], .sl 23, some (.sl (.int .u16))⟩),
  (66, ⟨1, 8, [.int .u64 0], .int .u64, some (.int .u64)⟩),
  (67, ⟨1, 8, [.nilFunc], .fn, none⟩),
  (68, ⟨1, 8, [.nilFunc], .fn, none⟩),
  (69, ⟨1, 8, [.nilFunc], .fn, none⟩),
  (70, ⟨1, 8, [.nilFunc], .fn, none⟩),
  (72, ⟨1, 8, [.nilFunc], .fn, none⟩),
  (74, ⟨1, 8, [.nilFunc], .fn, none⟩),
  (75, ⟨1, 8, [.nilFunc], .fn, none⟩),
  (76, ⟨1, 8, [.nilFunc], .fn, none⟩),
  (77, ⟨1, 8, [.pointer none], .ptr 80, none⟩),
  (78, ⟨1, 24, [.slice none 0 0], .sl 5, some (.sl (.int .u8))⟩),
  (79, ⟨2, 32, [.pointer none, .slice none 0 0], .st [(0, 77), (1, 78)], none⟩),
  (80, ⟨2, 32, [.pointer none, .slice none 0 0], .st [(0, 77), (1, 78)], none⟩),
  (81, ⟨1, 16, [.nilIface], .ifc, none⟩),
  (82, ⟨1, 16, [.nilIface], .ifc, none⟩),
  (84, ⟨1, 8, [.nilFunc], .fn, none⟩),
  (85, ⟨1, 8, [.nilFunc], .fn, none⟩),
  (86, ⟨1, 8, [.nilFunc], .fn, none⟩),
  (87, ⟨1, 8, [.nilFunc], .fn, none⟩),
  (89, ⟨1, 8, [.nilFunc], .fn, none⟩),
  (90, ⟨1, 8, [.nilFunc], .fn, none⟩),
  (91, ⟨1, 8, [.nilFunc], .fn, none⟩),
  (92, ⟨1, 8, [.nilFunc], .fn, none⟩),
  (93, ⟨1, 8, [.nilFunc], .fn, none⟩),
  (94, ⟨1, 8, [.nilFunc], .fn, none⟩),
  (95, ⟨1, 8, [.nilFunc], .fn, none⟩),
  (96, ⟨1, 8, [.nilFunc], .fn, none⟩),
  (97, ⟨1, 8, [.nilFunc], .fn, none⟩),
  (99, ⟨1, 8, [.nilFunc], .fn, none⟩),
  (101, ⟨1, 8, [.nilFunc], .fn, none⟩),
  (102, ⟨1, 8, [.nilFunc], .fn, none⟩),
  (103, ⟨1, 8, [.nilFunc], .fn, none⟩),
  (104, ⟨1, 8, [.pointer none], .ptr 5, some (.ptr (.int .u8))⟩),
  (105, ⟨1, 8, [.nilFunc], .fn, none⟩),
  (106, ⟨1, 8, [.nilFunc], .fn, none⟩),
  (107, ⟨1, 8, [.nilFunc], .fn, none⟩),
  (108, ⟨1, 8, [.nilFunc], .fn, none⟩),
  (109, ⟨1, 8, [.nilFunc], .fn, none⟩),
  (110, ⟨1, 8, [.nilFunc], .fn, none⟩),
  (111, ⟨1, 8, [.nilFunc], .fn, none⟩),
  (113, ⟨1, 8, [.nilFunc], .fn, none⟩),
  (114, ⟨1, 8, [.nilFunc], .fn, none⟩),
  (115, ⟨1, 8, [.nilFunc], .fn, none⟩),
  (118, ⟨1, 4, [.int .u32 0], .int .u32, some (.int .u32)⟩),
  (119, ⟨1, 8, [.int .i64 0], .int .i64, some (.int .i64)⟩),
  (121, ⟨1, 8, [.nilFunc], .fn, none⟩),
  (122, ⟨1, 8, [.pointer none], .ptr 142, none⟩),
  (123, ⟨1, 8, [.nilFunc], .fn, none⟩),
  (124, ⟨1, 8, [.nilFunc], .fn, none⟩),
  (125, ⟨1, 24, [.slice none 0 0], .sl 3, some (.sl (.int .i64))⟩),
  (126, ⟨1, 8, [.nilFunc], .fn, none⟩),
  (127, ⟨1, 8, [.nilFunc], .fn, none⟩),
  (128, ⟨1, 8, [.nilFunc], .fn, none⟩),
  (129, ⟨1, 8, [.nilFunc], .fn, none⟩),
  (130, ⟨1, 8, [.nilFunc], .fn, none⟩),
  (131, ⟨24, 24, [.int .u8 0, .int .u8 0, .int .u8 0, .int .u8 0, .int .u8 0, .int .u8 0, .int .u8 0, .int .u8 0, .int .u8 0, .int .u8 0, .int .u8 0, .int .u8 0, .int .u8 0, .int .u8 0, .int .u8 0, .int .u8 0, .int .u8 0, .int .u8 0, .int .u8 0, .int .u8 0, .int .u8 0, .int .u8 0, .int .u8 0, .int .u8 0], .arr 24 5, some (.arr 24 (.int .u8))⟩),
  (132, ⟨1, 8, [.int .u64 0], .int .u64, some (.int .u64)⟩),
  (133, ⟨1, 8, [.nilFunc], .fn, none⟩),
  (134, ⟨1, 8, [.nilFunc], .fn, none⟩),
  (136, ⟨1, 8, [.nilFunc], .fn, none⟩),
  (137, ⟨1, 8, [.nilFunc], .fn, none⟩),
  (139, ⟨1, 8, [.nilFunc], .fn, none⟩),
  (140, ⟨1, 8, [.nilFunc], .fn, none⟩),
  (141, ⟨3, 48, [.string ⟨#[]⟩, .string ⟨#[]⟩, .nilIface], .st [(0, 9), (1, 9), (2, 82)], none⟩),
  (142, ⟨3, 48, [.string ⟨#[]⟩, .string ⟨#[]⟩, .nilIface], .st [(0, 9), (1, 9), (2, 82)], none⟩),
  (143, ⟨1, 8, [.nilFunc], .fn, none⟩),
  (144, ⟨1, 8, [.nilFunc], .fn, none⟩),
  (145, ⟨1, 8, [.nilFunc], .fn, none⟩),
  (146, ⟨1, 8, [.nilFunc], .fn, none⟩),
  (147, ⟨20, 160, [.int .u64 0, .int .u64 0, .int .u64 0, .int .u64 0, .int .u64 0, .int .u64 0, .int .u64 0, .int .u64 0, .int .u64 0, .int .u64 0, .int .u64 0, .int .u64 0, .int .u64 0, .int .u64 0, .int .u64 0, .int .u64 0, .int .u64 0, .int .u64 0, .int .u64 0, .int .u64 0], .arr 20 132, some (.arr 20 (.int .u64))⟩),
  (148, ⟨65, 65, [.int .u8 0, .int .u8 0, .int .u8 0, .int .u8 0, .int .u8 0, .int .u8 0, .int .u8 0, .int .u8 0, .int .u8 0, .int .u8 0, .int .u8 0, .int .u8 0, .int .u8 0, .int .u8 0, .int .u8 0, .int .u8 0, .int .u8 0, .int .u8 0, .int .u8 0, .int .u8 0, .int .u8 0, .int .u8 0, .int .u8 0, .int .u8 0, .int .u8 0, .int .u8 0, .int .u8 0, .int .u8 0, .int .u8 0, .int .u8 0, .int .u8 0, .int .u8 0, .int .u8 0, .int .u8 0, .int .u8 0, .int .u8 0, .int .u8 0, .int .u8 0, .int .u8 0, .int .u8 0, .int .u8 0, .int .u8 0, .int .u8 0, .int .u8 0, .int .u8 0, .int .u8 0, .int .u8 0, .int .u8 0, .int .u8 0, .int .u8 0, .int .u8 0, .int .u8 0, .int .u8 0, .int .u8 0, .int .u8 0, .int .u8 0, .int .u8 0, .int .u8 0, .int .u8 0, .int .u8 0, .int .u8 0, .int .u8 0, .int .u8 0, .int .u8 0, .int .u8 0], .arr 65 5, some (.arr 65 (.int .u8))⟩),
  (149, ⟨1, 8, [.nilFunc], .fn, none⟩),
  (150, ⟨1, 8, [.nilFunc], .fn, none⟩),
  (151, ⟨1, 8, [.pointer none], .ptr 153, some (.ptr (.cons .str .unit))⟩),
  (152, ⟨1, 16, [.string ⟨#[]⟩], .st [(0, 9)], some (.cons .str .unit)⟩),
  (153, ⟨1, 16, [.string ⟨#[]⟩], .st [(0, 9)], some (.cons .str .unit)⟩),
  (154, ⟨1, 8, [.nilFunc], .fn, none⟩),
  (156, ⟨1, 8, [.nilFunc], .fn, none⟩),
  (157, ⟨256, 256, [.int .u8 0, .int .u8 0, .int .u8 0, .int .u8 0, .int .u8 0, .int .u8 0, .int .u8 0, .int .u8 0, .int .u8 0, .int .u8 0, .int .u8 0, .int .u8 0, .int .u8 0, .int .u8 0, .int .u8 0, .int .u8 0, .int .u8 0, .int .u8 0, .int .u8 0, .int .u8 0, .int .u8 0, .int .u8 0, .int .u8 0, .int .u8 0, .int .u8 0, .int .u8 0, .int .u8 0, .int .u8 0, .int .u8 0, .int .u8 0, .int .u8 0, .int .u8 0, .int .u8 0, .int .u8 0, .int .u8 0, .int .u8 0, .int .u8 0, .int .u8 0, .int .u8 0, .int .u8 0, .int .u8 0, .int .u8 0, .int .u8 0, .int .u8 0, .int .u8 0, .int .u8 0, .int .u8 0, .int .u8 0, .int .u8 0, .int .u8 0, .int .u8 0, .int .u8 0, .int .u8 0, .int .u8 0, .int .u8 0, .int .u8 0, .int .u8 0, .int .u8 0, .int .u8 0, .int .u8 0, .int .u8 0, .int .u8 0, .int .u8 0, .int .u8 0, .int .u8 0, .int .u8 0, .int .u8 0, .int .u8 0, .int .u8 0, .int .u8 0, .int .u8 0, .int .u8 0, .int .u8 0, .int .u8 0, .int .u8 0, .int .u8 0, .int .u8 0, .int .u8 0, .int .u8 0, .int .u8 0, .int .u8 0, .int .u8 0, .int .u8 0, .int .u8 0, .int .u8 0, .int .u8 0, .int .u8 0, .int .u8 0, .int .u8 0, .int .u8 0, .int .u8 0, .int .u8 0, .int .u8 0, .int .u8 0, .int .u8 0, .int .u8 0, .int .u8 0, .int .u8 0, .int .u8 0, .int .u8 0, .int .u8 0, .int .u8 0, .int .u8 0, .int .u8 0, .int .u8 0, .int .u8 0, .int .u8 0, .int .u8 0, .int .u8 0, .int .u8 0, .int .u8 0, .int .u8 0, .int .u8 0, .int .u8 0, .int .u8 0, .int .u8 0, .int .u8 0, .int .u8 0, .int .u8 0, .int .u8 0, .int .u8 0, .int .u8 0, .int .u8 0, .int .u8 0, .int .u8 0, .int .u8 0, .int .u8 0, .int .u8 0, .int .u8 0, .int .u8 0, .int .u8 0, .int .u8 0, .int .u8 0, .int .u8 0, .int .u8 0, .int .u8 0, .int .u8 0, .int .u8 0, .int .u8 0, .int .u8 0, .int .u8 0, .int .u8 0, .int .u8 0, .int .u8 0, .int .u8 0, .int .u8 0, .int .u8 0, .int .u8 0, .int .u8 0, .int .u8 0, .int .u8 0, .int .u8 0, .int .u8 0, .int .u8 0, .int .u8 0, .int .u8 0, .int .u8 0, .int .u8 0, .int .u8 0, .int .u8 0, .int .u8 0, .int .u8 0, .int .u8 0, .int .u8 0, .int .u8 0, .int .u8 0, .int .u8 0, .int .u8 0, .int .u8 0, .int .u8 0, .int .u8 0, .int .u8 0, .int .u8 0, .int .u8 0, .int .u8 0, .int .u8 0, .int .u8 0, .int .u8 0, .int .u8 0, .int .u8 0, .int .u8 0, .int .u8 0, .int .u8 0, .int .u8 0, .int .u8 0, .int .u8 0, .int .u8 0, .int .u8 0, .int .u8 0, .int .u8 0, .int .u8 0, .int .u8 0, .int .u8 0, .int .u8 0, .int .u8 0, .int .u8 0, .int .u8 0, .int .u8 0, .int .u8 0, .int .u8 0, .int .u8 0, .int .u8 0, .int .u8 0, .int .u8 0, .int .u8 0, .int .u8 0, .int .u8 0, .int .u8 0, .int .u8 0, .int .u8 0, .int .u8 0, .int .u8 0, .int .u8 0, .int .u8 0, .int .u8 0, .int .u8 0, .int .u8 0, .int .u8 0, .int .u8 0, .int .u8 0, .int .u8 0, .int .u8 0, .int .u8 0, .int .u8 0, .int .u8 0, .int .u8 0, .int .u8 0, .int .u8 0, .int .u8 0, .int .u8 0, .int .u8 0, .int .u8 0, .int .u8 0, .int .u8 0, .int .u8 0, .int .u8 0, .int .u8 0, .int .u8 0, .int .u8 0, .int .u8 0, .int .u8 0, .int .u8 0, .int .u8 0, .int .u8 0, .int .u8 0, .int .u8 0, .int .u8 0, .int .u8 0, .int .u8 0, .int .u8 0, .int .u8 0, .int .u8 0, .int .u8 0, .int .u8 0, .int .u8 0, .int .u8 0], .arr 256 5, some (.arr 256 (.int .u8))⟩),
  (158, ⟨2, 2, [.int .u8 0, .int .u8 0], .st [(0, 5), (1, 5)], some (.cons (.int .u8) (.cons (.int .u8) .unit))⟩),
  (159, ⟨2, 2, [.int .u8 0, .int .u8 0], .st [(0, 5), (1, 5)], some (.cons (.int .u8) (.cons (.int .u8) .unit))⟩),
  (160, ⟨32, 32, [.int .u8 0, .int .u8 0, .int .u8 0, .int .u8 0, .int .u8 0, .int .u8 0, .int .u8 0, .int .u8 0, .int .u8 0, .int .u8 0, .int .u8 0, .int .u8 0, .int .u8 0, .int .u8 0, .int .u8 0, .int .u8 0, .int .u8 0, .int .u8 0, .int .u8 0, .int .u8 0, .int .u8 0, .int .u8 0, .int .u8 0, .int .u8 0, .int .u8 0, .int .u8 0, .int .u8 0, .int .u8 0, .int .u8 0, .int .u8 0, .int .u8 0, .int .u8 0], .arr 16 159, some (.arr 16 (.cons (.int .u8) (.cons (.int .u8) .unit)))⟩),
  (161, ⟨32, 32, [.int .u8 0, .int .u8 0, .int .u8 0, .int .u8 0, .int .u8 0, .int .u8 0, .int .u8 0, .int .u8 0, .int .u8 0, .int .u8 0, .int .u8 0, .int .u8 0, .int .u8 0, .int .u8 0, .int .u8 0, .int .u8 0, .int .u8 0, .int .u8 0, .int .u8 0, .int .u8 0, .int .u8 0, .int .u8 0, .int .u8 0, .int .u8 0, .int .u8 0, .int .u8 0, .int .u8 0, .int .u8 0, .int .u8 0, .int .u8 0, .int .u8 0, .int .u8 0], .arr 32 5, some (.arr 32 (.int .u8))⟩),
  (162, ⟨64, 64, [.int .u8 0, .int .u8 0, .int .u8 0, .int .u8 0, .int .u8 0, .int .u8 0, .int .u8 0, .int .u8 0, .int .u8 0, .int .u8 0, .int .u8 0, .int .u8 0, .int .u8 0, .int .u8 0, .int .u8 0, .int .u8 0, .int .u8 0, .int .u8 0, .int .u8 0, .int .u8 0, .int .u8 0, .int .u8 0, .int .u8 0, .int .u8 0, .int .u8 0, .int .u8 0, .int .u8 0, .int .u8 0, .int .u8 0, .int .u8 0, .int .u8 0, .int .u8 0, .int .u8 0, .int .u8 0, .int .u8 0, .int .u8 0, .int .u8 0, .int .u8 0, .int .u8 0, .int .u8 0, .int .u8 0, .int .u8 0, .int .u8 0, .int .u8 0, .int .u8 0, .int .u8 0, .int .u8 0, .int .u8 0, .int .u8 0, .int .u8 0, .int .u8 0, .int .u8 0, .int .u8 0, .int .u8 0, .int .u8 0, .int .u8 0, .int .u8 0, .int .u8 0, .int .u8 0, .int .u8 0, .int .u8 0, .int .u8 0, .int .u8 0, .int .u8 0], .arr 64 5, some (.arr 64 (.int .u8))⟩),
  (168, ⟨1, 8, [.nilFunc], .fn, none⟩)]

set_option maxRecDepth 100000 in
theorem tab_ok : ∀ p ∈ tab, rowOk Go.Proofs.Tryd.prog p := by
  intro p hp
  simp only [tab, List.mem_cons, List.not_mem_nil, or_false] at hp
  rcases hp with rfl|rfl|rfl|rfl|rfl|rfl|rfl|rfl|rfl|rfl|rfl|rfl|rfl|rfl|rfl|rfl|rfl|rfl|rfl|rfl|rfl|rfl|rfl|rfl|rfl|rfl|rfl|rfl|rfl|rfl|rfl|rfl|rfl|rfl|rfl|rfl|rfl|rfl|rfl|rfl|rfl|rfl|rfl|rfl|rfl|rfl|rfl|rfl|rfl|rfl|rfl|rfl|rfl|rfl|rfl|rfl|rfl|rfl|rfl|rfl|rfl|rfl|rfl|rfl|rfl|rfl|rfl|rfl|rfl|rfl|rfl|rfl|rfl|rfl|rfl|rfl|rfl|rfl|rfl|rfl|rfl|rfl|rfl|rfl|rfl|rfl|rfl|rfl|rfl|rfl|rfl|rfl|rfl|rfl|rfl|rfl|rfl|rfl|rfl|rfl|rfl|rfl|rfl|rfl|rfl|rfl|rfl|rfl|rfl|rfl|rfl|rfl|rfl|rfl|rfl|rfl|rfl|rfl|rfl|rfl|rfl|rfl|rfl|rfl|rfl|rfl|rfl|rfl|rfl|rfl|rfl|rfl <;> exact rowOk_of (by kernel_rfl) (by kernel_rfl) (by kernel_rfl)
theorem eqs_ok : eqsB Go.Proofs.Tryd.prog { tab, cons := [], inls := [], loops := [] } = true := by kernel_rfl
theorem mix : Go.Proofs.Tryd.prog.follows .mixedOrders = true := by kernel_rfl
end Go.Proofs.YtkimpfoimblhjaaDoor.Tb
set_option maxRecDepth 100000
namespace Go.Proofs.YtkimpfoimblhjaaDoor.Lb
open Go Go.Eng Go.Lb
abbrev I64 : Ty := .int .i64
abbrev I32 : Ty := .int .i32
abbrev U8 : Ty := .int .u8
abbrev Big : Nat := 4000000000
def conD (a r : Ty) (p : a.El → Bool) (F : a.El → r.El) : Contract := { a := a, r := r, pre := fun x => p x = true, F := F, preB := p, preOk := fun _ h => h }
def szOk (s : ByteArray) : Bool := decide (s.size ≤ 4000000000)
-- the library
def cPref : Contract := conD (.cons .str (.cons .str .unit)) (.cons .bool .unit) (fun _ => true) fun x => (prefB x.1 x.2.1, ())
def cLast : Contract := conD (.cons .str (.cons U8 .unit)) (.cons I64 .unit) (fun x => szOk x.1 && decide ((0 : Int) ≤ x.2.1) && decide (x.2.1 < (256 : Int))) fun x => (lastZ x.1 x.2.1, ())
def cSplitS : Contract := conD (.cons .str (.cons .str .unit)) (.cons (.sl .str) .unit) (fun x => szOk x.1 && decide (x.2.1.size = 1)) fun x => (splitS x.1 x.2.1, ())
def atoi1 (s : ByteArray) : Int := match Go.Lib.atoiAll (bytesL s) with
  | .ok v => v
  | .range => Go.Lib.atoiSat (bytesL s)
  | _ => 0
def atoi2 (s : ByteArray) : Bool := match Go.Lib.atoiAll (bytesL s) with
  | .ok _ => false
  | _ => true
def cAtoi : Contract := conD (.cons .str .unit) (.cons I64 (.cons .err .unit)) (fun x => szOk x.1) fun x => (atoi1 x.1, (atoi2 x.1, ()))
def cItoa : Contract := conD (.cons I64 .unit) (.cons .str .unit) (fun x => decide ((0 : Int) ≤ x.1) && decide (x.1 ≤ (65535 : Int))) fun x => (digS x.1, ())
-- label
def cSign : Contract := conD (.cons I32 .unit) (.cons .bool .unit) (fun _ => true) fun x => (signZ x.1, ())
def cLetter : Contract := conD (.cons I32 .unit) (.cons .bool .unit) (fun _ => true) fun x => (letterZ x.1, ())
def cRunes : Contract := conD (.cons .str .unit) (.cons I64 (.cons I64 .unit)) (fun x => szOk x.1) fun x => (wellZ x.1, (illZ x.1, ()))
def cPart : Contract := conD (.cons .str .unit) (.cons .bool .unit) (fun x => szOk x.1) fun x => (partB x.1, ())
def listOk (l : List ByteArray) : Bool := decide (l.length ≤ 100000) && l.all szOk
def allValid (l : List ByteArray) : Bool := l.all validB
def cValid : Contract := conD (.cons (.sl .str) .unit) (.cons .bool .unit) (fun x => listOk x.1) fun x => (allValid x.1, ())
def cFold : Contract := conD (.cons .str .unit) (.cons .str (.cons I64 .unit)) (fun x => szOk x.1) fun x => (fold1 x.1, (fold2 x.1, ()))
def cParts : Contract := conD (.cons .str .unit) (.cons (.sl .str) .unit) (fun x => szOk x.1) fun x => (partsS x.1, ())
def cSame : Contract := conD (.cons .str (.cons .str .unit)) (.cons .bool .unit) (fun x => szOk x.1 && szOk x.2.1) fun x => (sameB x.1 x.2.1, ())
def cSplit : Contract := conD (.cons .str .unit) (.cons .str (.cons I64 (.cons I64 .unit))) (fun x => szOk x.1) fun x => (split1 x.1, (split2 x.1, (splitOk x.1, ())))
def cJoin : Contract := conD (.cons .str (.cons I64 .unit)) (.cons .str (.cons I64 .unit)) (fun x => szOk x.1) fun x => (join1 x.1 x.2.1, (join2 x.1 x.2.1, ()))
-- the document's answer
def cOne : Contract := conD (.cons .str .unit) (.cons I32 (.cons I64 .unit)) (fun x => szOk x.1 && decide (0 < x.1.size)) fun x => (one1 x.1, (one2 x.1, ()))
def cValid1 : Contract := conD (.cons .str .unit) (.cons .bool .unit) (fun x => szOk x.1) fun x => (validB x.1, ())
def cPort : Contract := conD (.cons .str .unit) (.cons I64 .unit) (fun x => szOk x.1) fun x => (portZ x.1, ())
def cDigits : Contract := conD (.cons I64 .unit) (.cons .str .unit) (fun x => decide ((1 : Int) ≤ x.1) && decide (x.1 ≤ (65535 : Int))) fun x => (digS x.1, ())
def cSameTexts : Contract := conD (.cons (.sl .str) (.cons (.sl .str) .unit)) (.cons .bool .unit) (fun x => decide (x.1 = x.2.1) && decide (List.length (α := ByteArray) x.1 ≤ 100000)) fun _ => (true, ())
def cWakes : Contract := { a := .unit, r := .cons .bool .unit, pre := fun _ => True, F := fun _ => (true, ()), preB := fun _ => true, preOk := fun _ _ => trivial }

def iterP (s : St) (sl : Nat) : Box Nat := match Go.Eng.look s.env sl with
  | .own o => match lookO s.own o with
    | .iter _ p => ⟨p⟩
    | _ => ⟨0⟩
  | _ => ⟨0⟩
def iterO (s : St) (sl : Nat) (str : ByteArray) (p : Nat) : Go.Eng.Own := match Go.Eng.look s.env sl with
  | .own o => [(o, .iter str p)]
  | _ => []
def wellR (s : ByteArray) (p : Nat) : Int := (wellN (restL s p) : Nat)
def illR (s : ByteArray) (p : Nat) : Int := (illN (restL s p) : Nat)
structure RunesI (s : ByteArray) (w i : Int) (p : Nat) : Prop where
  w0 : 0 ≤ w
  i0 : 0 ≤ i
  w : w + wellR s p = wellZ s
  i : i + illR s p = illZ s
  p : p ≤ s.size
def runesL : LoopAnn where
  α := Int × Int × Nat
  keep := [0, 7]
  okeep := []
  nxt := 5
  env := fun _ x => [(2, .dat I64 x.1), (3, .dat I64 x.2.1)]
  own := fun s x => iterO s 7 (bDat .str s 0).out x.2.2
  inv := fun s x => RunesI (bDat .str s 0).out x.1 x.2.1 x.2.2
  mu := fun s x => (bDat .str s 0).out.size - x.2.2
  pick := some fun e s => ((bDat I64 s 2).out, (bDat I64 s 3).out, (iterP s 7).out)
def signR (s : ByteArray) (p : Nat) : Bool := (its (restL s p)).all signIt
structure PartI (s : ByteArray) (p : Nat) : Prop where
  a : signR s p = signR s 0
  p : p ≤ s.size
def partA : LoopAnn where
  α := Nat
  keep := [0, 6]
  okeep := []
  nxt := 5
  env := fun _ _ => []
  own := fun s x => iterO s 6 (bDat .str s 0).out x
  inv := fun s x => PartI (bDat .str s 0).out x
  mu := fun s x => (bDat .str s 0).out.size - x
  pick := some fun _ s => (iterP s 6).out
structure AllI (p : ByteArray → Bool) (l : List ByteArray) (i : Int) : Prop where
  i0 : 0 ≤ i
  i1 : i ≤ l.length
  a : (l.drop i.toNat).all p = l.all p
def validA : LoopAnn where
  α := Int
  keep := [0, 8, 9]
  okeep := []
  nxt := 20
  env := fun _ x => [(10, .dat I64 x), (3, .dat .bool true)]
  own := fun _ _ => []
  inv := fun s x => AllI validB (bDat (.sl .str) s 8).out x
  mu := fun s x => (bDat (.sl .str) s 8).out.length - x.toNat
  pick := some fun _ s => (bDat I64 s 10).out
def validB8 : LoopAnn where
  α := Int
  keep := [0, 5, 8, 9, 10, 20, 21]
  okeep := []
  nxt := 20
  env := fun _ x => [(22, .dat I64 x), (3, .dat .bool true)]
  own := fun _ _ => []
  inv := fun s x => AllI partB (bDat (.sl .str) s 20).out x
  mu := fun s x => (bDat (.sl .str) s 20).out.length - x.toNat
  pick := some fun _ s => (bDat I64 s 22).out
-- the document's: 36
structure Runes2I (s : ByteArray) (w i p : Int) : Prop where
  w0 : 0 ≤ w
  i0 : 0 ≤ i
  p0 : 0 ≤ p
  w : w + wellR s p.toNat = wellZ s
  i : i + illR s p.toNat = illZ s
  p : p ≤ s.size
def runes2L : LoopAnn where
  α := Int × Int × Int
  keep := [0]
  okeep := []
  nxt := 5
  env := fun _ x => [(4, .dat I64 x.1), (5, .dat I64 x.2.1), (6, .dat I64 x.2.2)]
  own := fun _ _ => []
  inv := fun s x => Runes2I (bDat .str s 0).out x.1 x.2.1 x.2.2
  mu := fun s x => (bDat .str s 0).out.size - x.2.2.toNat
  pick := some fun e s => ((bDat I64 s 4).out, (bDat I64 s 5).out, (bDat I64 s 6).out)
-- 68
def vRest (s : ByteArray) (p : Int) (st : Bool) (la : Int) : Bool := vGo (its (restL s p.toNat)) st la.toNat
structure ValidI (s : ByteArray) (st : Bool) (la p : Int) : Prop where
  l0 : 0 ≤ la
  l1 : la ≤ 1114111
  p0 : 0 ≤ p
  p1 : p ≤ s.size
  a : vRest s p st la = vRest s 0 true 46
def valid1L : LoopAnn where
  α := Bool × Int × Int
  keep := [0]
  okeep := []
  nxt := 5
  env := fun _ x => [(3, .dat .bool x.1), (4, .dat I32 x.2.1), (5, .dat I64 x.2.2)]
  own := fun _ _ => []
  inv := fun s x => ValidI (bDat .str s 0).out x.1 x.2.1 x.2.2
  mu := fun s x => (bDat .str s 0).out.size - x.2.2.toNat
  pick := some fun e s => ((bDat .bool s 3).out, (bDat I32 s 4).out, (bDat I64 s 5).out)
-- 37
def valid2L : LoopAnn where
  α := Int
  keep := [0]
  okeep := []
  nxt := 5
  env := fun _ x => [(3, .dat I64 x)]
  own := fun _ _ => []
  inv := fun s x => AllI validB (bDat (.sl .str) s 0).out x
  mu := fun s x => (bDat (.sl .str) s 0).out.length - x.toNat
  pick := some fun _ s => (bDat I64 s 3).out
-- 40
def sameTL : LoopAnn where
  α := Int
  keep := [0, 1]
  okeep := []
  nxt := 5
  env := fun _ x => [(5, .dat I64 x)]
  own := fun _ _ => []
  inv := fun s x => 0 ≤ x ∧ x ≤ (bDat (.sl .str) s 0).out.length
  mu := fun s x => (bDat (.sl .str) s 0).out.length - x.toNat
  pick := some fun _ s => (bDat I64 s 5).out
-- 31
def lastIs (s : ByteArray) (p : Int) : Int := match lastN 58 ((bytesL s).take p.toNat) with
  | some i => (i : Int)
  | none => -1
structure LastI (s : ByteArray) (a p : Int) : Prop where
  p0 : 0 ≤ p
  p1 : p ≤ s.size
  a : a = lastIs s p
def split2L : LoopAnn where
  α := Int × Int
  keep := [0]
  okeep := []
  nxt := 5
  env := fun _ x => [(5, .dat I64 x.1), (6, .dat I64 x.2)]
  own := fun _ _ => []
  inv := fun s x => LastI (bDat .str s 0).out x.1 x.2
  mu := fun s x => (bDat .str s 0).out.size - x.2.toNat
  pick := some fun _ s => ((bDat I64 s 5).out, (bDat I64 s 6).out)
-- 65
structure PortI (s : ByteArray) (n p : Int) : Prop where
  p0 : 0 ≤ p
  p1 : p ≤ s.size
  nn : 0 ≤ n
  n1 : n < 10 ^ p.toNat
  d : (restL s p.toNat).all isDigit = (bytesL s).all isDigit
  a : numL n.toNat (restL s p.toNat) = numL 0 (bytesL s)
def portL : LoopAnn where
  α := Int × Int
  keep := [0]
  okeep := []
  nxt := 5
  env := fun _ x => [(3, .dat I64 x.1), (4, .dat I64 x.2)]
  own := fun _ _ => []
  inv := fun s x => PortI (bDat .str s 0).out x.1 x.2
  mu := fun s x => (bDat .str s 0).out.size - x.2.toNat
  pick := some fun _ s => ((bDat I64 s 3).out, (bDat I64 s 4).out)
-- 66
structure DigI (n0 : Int) (s : ByteArray) (n : Int) : Prop where
  k : s.size ≤ 5
  nn : 0 ≤ n
  n1 : n < 10 ^ (5 - s.size)
  a : digL n0.toNat = (if n = 0 then [] else digF (5 - s.size) n.toNat) ++ bytesL s
def digitsL : LoopAnn where
  α := ByteArray × Int
  keep := []
  okeep := []
  nxt := 9
  env := fun _ x => [(3, .dat .str x.1), (0, .dat I64 x.2)]
  own := fun _ _ => []
  inv := fun s x => DigI (bDat I64 s 0).out x.1 x.2
  mu := fun _ x => 5 - x.1.size
  pick := some fun _ s => ((bDat .str s 3).out, (bDat I64 s 0).out)
-- 41
def partsR (s : ByteArray) (f p : Int) (out : List ByteArray) : List ByteArray := out ++ match splitL (restL s p.toNat) with
  | a :: r => ofL (((bytesL s).take p.toNat).drop f.toNat ++ a) :: r.map ofL
  | [] => []
structure PartsI (s : ByteArray) (out : List ByteArray) (f p : Int) : Prop where
  f0 : 0 ≤ f
  f1 : f ≤ p
  p1 : p ≤ s.size
  n : out.length ≤ p
  a : partsR s f p out = (splitL (bytesL s)).map ofL
def rowO (s : St) (sl : Nat) (e : Nat) (xs : List ByteArray) : Go.Eng.Own := match Go.Eng.look s.env sl with
  | .own o => [(o, .row e .str xs)]
  | _ => []
def partsL : LoopAnn where
  α := List ByteArray × Int × Int
  keep := [0]
  okeep := []
  nxt := 30
  env := fun _ x => [(3, .own 20), (4, .dat I64 x.2.1), (5, .dat I64 x.2.2)]
  own := fun _ x => [(20, .row 9 .str x.1)]
  inv := fun s x => PartsI (bDat .str s 0).out x.1 x.2.1 x.2.2
  mu := fun s x => (bDat .str s 0).out.size - x.2.2.toNat
  pick := some fun _ s => ((bRow .str s 3).out, (bDat I64 s 4).out, (bDat I64 s 5).out)
-- 35
def goodIt (q : It) : Prop := ∃ c, q.1 = some c ∧ (isSign c = true ∨ c = 46)
structure FoldI (s : ByteArray) (out : List Int) (p : Int) : Prop where
  v : validB s = true
  p0 : 0 ≤ p
  p1 : p ≤ s.size
  n : out.length ≤ 4 * p.toNat
  g : ∀ q ∈ its (restL s p.toNat), goodIt q
  a : (out.map fun n => UInt8.ofNat n.toNat) ++ foldL (restL s p.toNat) = foldL (bytesL s)
def fold2L : LoopAnn where
  α := List Int × Int
  keep := [0]
  okeep := []
  nxt := 30
  env := fun _ x => [(4, .own 20), (5, .dat I64 x.2)]
  own := fun _ x => [(20, .row 5 U8 x.1)]
  inv := fun s x => FoldI (bDat .str s 0).out x.1 x.2
  mu := fun s x => (bDat .str s 0).out.size - x.2.toNat
  pick := some fun _ s => ((bRow U8 s 4).out, (bDat I64 s 5).out)
end Go.Proofs.YtkimpfoimblhjaaDoor.Lb
set_option maxRecDepth 100000
namespace Go.Proofs.YtkimpfoimblhjaaDoor.Lb
open Go Go.Eng Go.Lb
abbrev U64 : Ty := .int .u64
abbrev U16 : Ty := .int .u16
abbrev I8 : Ty := .int .i8
def joinL (l : List ByteArray) (d : ByteArray) : List UInt8 := Go.Lib.join (l.map bytesL) (bytesL d)
def joinS (l : List ByteArray) (d : ByteArray) : ByteArray := ofL (joinL l d)
def cut1 (s d : ByteArray) : ByteArray := ofL (Go.Lib.cut (bytesL s) (bytesL d)).1
def cut2 (s d : ByteArray) : ByteArray := ofL (Go.Lib.cut (bytesL s) (bytesL d)).2.1
def cutOk (s d : ByteArray) : Bool := (Go.Lib.cut (bytesL s) (bytesL d)).2.2
def ctzZ (n : Int) : Int := (Go.Lib.ctz 64 n.toNat : Nat)
def cJoinS : Contract := conD (.cons (.sl .str) (.cons .str .unit)) (.cons .str .unit) (fun x => decide (List.length (α := ByteArray) x.1 ≤ 100000) && decide ((joinL x.1 x.2.1).length ≤ 4000000000)) fun x => (joinS x.1 x.2.1, ())
def cCut : Contract := conD (.cons .str (.cons .str .unit)) (.cons .str (.cons .str (.cons .bool .unit))) (fun x => szOk x.1) fun x => (cut1 x.1 x.2.1, (cut2 x.1 x.2.1, (cutOk x.1 x.2.1, ())))
def cTZ : Contract := conD (.cons U64 .unit) (.cons I64 .unit) (fun x => decide ((0 : Int) ≤ x.1) && decide (x.1 < (18446744073709551616 : Int))) fun x => (ctzZ x.1, ())
end Go.Proofs.YtkimpfoimblhjaaDoor.Lb
set_option maxRecDepth 100000
namespace Go.Proofs.YtkimpfoimblhjaaDoor.Ad
open Go Go.Eng Go.Lb Go.Ad Lb
abbrev I8 : Ty := .int .i8
abbrev G8T : Ty := .arr 8 U16
abbrev AdT : Ty := .cons I8 (.cons (.arr 8 U16) (.cons I64 .unit))
abbrev AdL : Ty := .sl AdT
def lenA (l : List Ad) : Bool := decide (List.length l ≤ 100000)
def cMay : Contract := conD (.cons AdL .unit) (.cons .bool .unit) (fun x => lenA x.1) fun x => (mayA x.1, ())
def cGreat : Contract := conD (.cons AdL .unit) (.cons .bool .unit) (fun _ => true) fun x => (decide (60 < List.length (α := Ad) x.1), ())
def cLong : Contract := conD (.cons G8T .unit) (.cons I64 (.cons I64 .unit)) (fun _ => true) fun x => (long1 x.1, (long2 x.1, ()))
def cHexes : Contract := conD (.cons (.sl U16) .unit) (.cons .str .unit) (fun x => decide (List.length (α := Int) x.1 ≤ 8)) fun x => (hexes x.1, ())
def cText : Contract := conD (.cons AdT .unit) (.cons .str (.cons I64 .unit)) (fun _ => true) fun x => (text1 x.1, (text2 x.1, ()))
def cNum : Contract := conD (.cons .str (.cons I64 .unit)) (.cons I64 (.cons .bool .unit)) (fun x => szOk x.1) fun x => (num1 x.1 x.2.1, (num2 x.1 x.2.1, ()))
def cGrp : Contract := conD (.cons .str .unit) (.cons U16 (.cons .bool .unit)) (fun x => szOk x.1) fun x => (grp1 x.1, (grp2 x.1, ()))
def cSide : Contract := conD (.cons .str .unit) (.cons (.sl U16) (.cons .bool .unit)) (fun x => szOk x.1) fun x => (side1 x.1, (side2 x.1, ()))
def cSix : Contract := conD (.cons .str .unit) (.cons G8T (.cons .bool .unit)) (fun x => szOk x.1) fun x => (six1 x.1, (six2 x.1, ()))
def cFour : Contract := conD (.cons .str .unit) (.cons G8T (.cons .bool .unit)) (fun x => szOk x.1) fun x => (four1 x.1, (four2 x.1, ()))
def cParse : Contract := conD (.cons .str .unit) (.cons AdT (.cons I64 .unit)) (fun x => szOk x.1) fun x => (parse1 x.1, (parse2 x.1, ()))
def cOf : Contract := conD (.cons I8 (.cons AdL .unit)) (.cons AdL .unit) (fun x => lenA x.2.1) fun x => (ofA x.1 x.2.1, ())
def cRow : Contract := conD (.cons AdL .unit) (.cons .str (.cons I64 .unit)) (fun x => lenA x.1) fun x => (row1 x.1, (row2 x.1, ()))
def cRead : Contract := conD (.cons .str .unit) (.cons AdL (.cons I64 .unit)) (fun x => szOk x.1) fun x => (read1 x.1, (read2 x.1, ()))
def sameLs (l m : List Ad) : Bool := decide (l = m)
def cSameA : Contract := conD (.cons AdL (.cons AdL .unit)) (.cons .bool .unit) (fun x => lenA x.1) fun x => (sameLs x.1 x.2.1, ())
structure LongI (g : G8) (i n at_ many : Int) : Prop where
  i0 : 0 ≤ i
  i1 : i ≤ 8
  n0 : 0 ≤ n
  n1 : n ≤ i
  m0 : 0 ≤ many
  m1 : many ≤ 8
  a0 : 0 ≤ at_
  a1 : at_ ≤ 8
  a : longGo i n at_ many ((gl g).drop i.toNat) = longL (gl g)
def longA : LoopAnn where
  α := Int × Int × Int × Int
  keep := []
  okeep := []
  nxt := 30
  env := fun s x => [(7, .dat G8T (bDat G8T s 0).out), (8, .dat I64 x.1), (4, .dat I64 x.2.1), (2, .dat I64 x.2.2.1), (3, .dat I64 x.2.2.2)]
  own := fun _ _ => []
  inv := fun s x => LongI (bDat G8T s 0).out x.1 x.2.1 x.2.2.1 x.2.2.2
  mu := fun _ x => 8 - x.1.toNat
  pick := some fun _ s => ((bDat I64 s 8).out, (bDat I64 s 4).out, (bDat I64 s 2).out, (bDat I64 s 3).out)
structure MapI {α β : Type} (f : α → β) (l : List α) (out : List β) (i : Int) : Prop where
  i0 : 0 ≤ i
  i1 : i ≤ l.length
  a : out = (l.take i.toNat).map f
def hexA : LoopAnn where
  α := List ByteArray × Int
  keep := [0, 6, 7]
  okeep := []
  nxt := 30
  env := fun _ x => [(3, .own 20), (8, .dat I64 x.2)]
  own := fun _ x => [(20, .row 9 .str x.1)]
  inv := fun s x => MapI hexS (bDat (.sl U16) s 0).out x.1 x.2
  mu := fun s x => (bDat (.sl U16) s 0).out.length - x.2.toNat
  pick := some fun _ s => ((bRow .str s 3).out, (bDat I64 s 8).out)
def byteL (xs : List Int) (i : Int) : List UInt8 := (xs.drop i.toNat).map fun n => UInt8.ofNat n.toNat
structure BitsI (u0 u i : Int) (xs : List Int) : Prop where
  v0 : 0 ≤ u
  i0 : 62 ≤ i
  i1 : i ≤ 65
  l : xs.length = 65
  u1 : u < 16 ^ (i - 61).toNat
  a : hexF (i - 61).toNat u.toNat ++ byteL xs i = hexF 4 u0.toNat
def bitsA : LoopAnn where
  α := Int × Int × List Int
  keep := [0, 2, 3, 4, 10, 11, 14, 15, 16]
  okeep := []
  nxt := 40
  env := fun _ x => [(1, .dat (.int .u64) x.1), (13, .dat I64 x.2.1), (12, .pe 35 0 0)]
  own := fun _ x => [(35, .row 148 U8 x.2.2)]
  inv := fun s x => BitsI (bDat U64 s 1).out x.1 x.2.1 x.2.2
  mu := fun _ x => x.2.1.toNat
  pick := some fun _ s => ((bDat U64 s 1).out, (bDat I64 s 13).out, (bRow U8 s 12).out)
structure NumI (s : ByteArray) (n : Int) (p : Nat) : Prop where
  p1 : p ≤ s.size
  z : s.size ≤ 5
  n0 : 0 ≤ n
  n1 : n < 10 ^ p
  d : (restL s p).all isDigit = (bytesL s).all isDigit
  a : numL n.toNat (restL s p) = numL 0 (bytesL s)
def numA : LoopAnn where
  α := Int × Nat
  keep := [0, 1, 26]
  okeep := []
  nxt := 5
  env := fun _ x => [(6, .dat I64 x.1)]
  own := fun s x => iterO s 26 (bDat .str s 0).out x.2
  inv := fun s x => NumI (bDat .str s 0).out x.1 x.2
  mu := fun s x => (bDat .str s 0).out.size - x.2
  pick := some fun _ s => ((bDat I64 s 6).out, (iterP s 26).out)
structure GrpI (s : ByteArray) (n : Int) (p : Nat) : Prop where
  p1 : p ≤ s.size
  n0 : 0 ≤ n
  n1 : n ≤ 65535
  a : grpL n.toNat (restL s p) = grpL 0 (bytesL s)
def grpA : LoopAnn where
  α := Int × Nat
  keep := [0, 8]
  okeep := []
  nxt := 5
  env := fun _ x => [(4, .dat I32 x.1)]
  own := fun s x => iterO s 8 (bDat .str s 0).out x.2
  inv := fun s x => GrpI (bDat .str s 0).out x.1 x.2
  mu := fun s x => (bDat .str s 0).out.size - x.2
  pick := some fun _ s => ((bDat I32 s 4).out, (iterP s 8).out)
structure GoI {α β : Type} (f : α → Option β) (l : List α) (out : List β) (i : Int) : Prop where
  i0 : 0 ≤ i
  i1 : i ≤ l.length
  a : goO f (l.take i.toNat) = some out
def sideA : LoopAnn where
  α := List Int × Int
  keep := [11, 12]
  okeep := []
  nxt := 30
  env := fun _ x => [(2, .own 20), (13, .dat I64 x.2)]
  own := fun _ x => [(20, .row 23 U16 x.1)]
  inv := fun s x => GoI grpO (bDat (.sl .str) s 11).out x.1 x.2
  mu := fun s x => (bDat (.sl .str) s 11).out.length - x.2.toNat
  pick := some fun _ s => ((bRow U16 s 2).out, (bDat I64 s 13).out)
def fourG (l : List Int) : G8 := match l with
  | [] => lg []
  | [a] => lg [a]
  | [a, b] => lg [a * 256 + b]
  | [a, b, c] => lg [a * 256 + b, c]
  | a :: b :: c :: d :: _ => lg [a * 256 + b, c * 256 + d]
structure FourI (ps : List ByteArray) (g : G8) (i : Int) : Prop where
  i0 : 0 ≤ i
  i1 : i ≤ 4
  l : ps.length = 4
  a : ∃ ns, goO (numO 255) (ps.take i.toNat) = some ns ∧ g = fourG ns
def fourA : LoopAnn where
  α := G8 × Int
  keep := [15, 16]
  okeep := []
  nxt := 30
  env := fun _ x => [(2, .pt 20 0), (17, .dat I64 x.2)]
  own := fun _ x => [(20, .cells 24 (leaves G8T x.1))]
  inv := fun s x => FourI (bDat (.sl .str) s 15).out x.1 x.2
  mu := fun _ x => 4 - x.2.toNat
  pick := some fun _ s => ((cDat G8T s 2 0).out, (bDat I64 s 17).out)
structure MayI (l : List Ad) (i : Int) : Prop where
  i0 : 0 ≤ i
  i1 : i ≤ l.length
  a : (l.take i.toNat).all may1 = true
def mayL : LoopAnn where
  α := Int
  keep := [0, 6, 7]
  okeep := []
  nxt := 30
  env := fun _ x => [(8, .dat I64 x)]
  own := fun _ _ => []
  inv := fun s x => MayI (bDat AdL s 6).out x
  mu := fun s x => List.length (α := Ad) (bDat AdL s 6).out - x.toNat
  pick := some fun _ s => (bDat I64 s 8).out
structure OfI (f : Int) (l out : List Ad) (i : Int) : Prop where
  i0 : 0 ≤ i
  i1 : i ≤ l.length
  a : out = ofA f (l.take i.toNat)
def ofL' : LoopAnn where
  α := List Ad × Int
  keep := [0, 1, 7, 8]
  okeep := []
  nxt := 30
  env := fun _ x => [(4, .own 20), (9, .dat I64 x.2)]
  own := fun _ x => [(20, .row 26 AdT x.1)]
  inv := fun s x => OfI (bDat I8 s 0).out (bDat AdL s 7).out x.1 x.2
  mu := fun s x => List.length (α := Ad) (bDat AdL s 7).out - x.2.toNat
  pick := some fun _ s => ((bRow AdT s 4).out, (bDat I64 s 9).out)
structure RowI (l : List Ad) (out : List ByteArray) (i : Int) : Prop where
  i0 : 0 ≤ i
  i1 : i ≤ l.length
  l16 : l.length ≤ 16
  m : (l.take i.toNat).all may1 = true
  a : out = (l.take i.toNat).map text1
def rowA : LoopAnn where
  α := List ByteArray × Int
  keep := [0, 12, 13]
  okeep := []
  nxt := 30
  env := fun _ x => [(4, .own 20), (14, .dat I64 x.2)]
  own := fun _ x => [(20, .row 9 .str x.1)]
  inv := fun s x => RowI (bDat AdL s 12).out x.1 x.2
  mu := fun s x => List.length (α := Ad) (bDat AdL s 12).out - x.2.toNat
  pick := some fun _ s => ((bRow .str s 4).out, (bDat I64 s 14).out)
def readA : LoopAnn where
  α := List Ad × Int
  keep := [16, 17]
  okeep := []
  nxt := 30
  env := fun _ x => [(2, .own 20), (18, .dat I64 x.2)]
  own := fun _ x => [(20, .row 26 AdT x.1)]
  inv := fun s x => GoI parseO (bDat (.sl .str) s 16).out x.1 x.2
  mu := fun s x => (bDat (.sl .str) s 16).out.length - x.2.toNat
  pick := some fun _ s => ((bRow AdT s 2).out, (bDat I64 s 18).out)
structure SameI (l m : List Ad) (i : Int) : Prop where
  i0 : 0 ≤ i
  i1 : i ≤ l.length
  n : l.length = m.length
  a : l.take i.toNat = m.take i.toNat
def sameAL : LoopAnn where
  α := Int
  keep := [0, 1]
  okeep := []
  nxt := 30
  env := fun _ x => [(5, .dat I64 x)]
  own := fun _ _ => []
  inv := fun s x => SameI (bDat AdL s 0).out (bDat AdL s 1).out x
  mu := fun s x => List.length (α := Ad) (bDat AdL s 0).out - x.toNat
  pick := some fun _ s => (bDat I64 s 5).out
end Go.Proofs.YtkimpfoimblhjaaDoor.Ad
/-
  DERIVED: THE SHELF's CONTRACTS AT THIS DUMP, IN PLAIN WORDS (tools/lay-plain.mjs out of 'AdSh.lean', which tools/lay-shelf.mjs wrote): THE SAME DECLARATIONS UNDER THE SAME NAMES: 'import', 'namespace', 'open', 'def', 'theorem' AND NOTHING ELSE: no command of the shelf's: FOR A HAND-IN. Each laying: the table of numbers ('.._ren') and one theorem, a field a fact of the dump's own or the kernel's comparison; each contract: ONE APPLICATION.
-/
namespace Go.Proofs
open Go.Shelf
def Tryd.lays156_ren : Go.Shelf.Ren := ⟨fun | 156 => 52 | 165 => 80 | 166 => 81 | 169 => 63 | 240 => 88 | 241 => 103 | 276 => 110 | 277 => 127 | n => n, fun | 31 => 44 | 9 => 9 | 3 => 3 | 4 => 4 | 0 => 0 | 20 => 20 | 72 => 80 | 76 => 83 | 70 => 77 | 37 => 78 | 75 => 82 | 127 => 104 | 164 => 116 | 5 => 5 | 80 => 85 | n => n, fun | n => n⟩
theorem Tryd.lays156 : Go.Proofs.Lays.n156 Tryd.prog Tryd.lays156_ren := {
  mixed := by kernel_rfl
  f156 := Tryd.func52.trans (congrArg some (by kernel_rfl))
  f165 := Tryd.func80.trans (congrArg some (by kernel_rfl))
  f166 := Tryd.func81.trans (congrArg some (by kernel_rfl))
  f169 := Tryd.func63.trans (congrArg some (by kernel_rfl))
  f240 := Tryd.func88.trans (congrArg some (by kernel_rfl))
  f241 := Tryd.func103.trans (congrArg some (by kernel_rfl))
  f276 := Tryd.func110.trans (congrArg some (by kernel_rfl))
  f277 := Tryd.func127.trans (congrArg some (by kernel_rfl))
  t0 := Tryd.underlying0
  a0 := Tryd.isAgg0
  z0 := Tryd.sizeOf0
  v0 := Tryd.zeroValue0
  t3 := Tryd.underlying3
  a3 := Tryd.isAgg3
  z3 := Tryd.sizeOf3
  v3 := Tryd.zeroValue3
  t4 := Tryd.underlying4
  a4 := Tryd.isAgg4
  z4 := Tryd.sizeOf4
  v4 := Tryd.zeroValue4
  t9 := Tryd.underlying9
  a9 := Tryd.isAgg9
  z9 := Tryd.sizeOf9
  v9 := Tryd.zeroValue9
  t20 := Tryd.underlying20
  a20 := Tryd.isAgg20
  z20 := Tryd.sizeOf20
  v20 := Tryd.zeroValue20
  t31 := Tryd.underlying44
  a31 := Tryd.isAgg44
  z31 := Tryd.sizeOf44
  v31 := Tryd.zeroValue44
  t37 := Tryd.underlying78
  a37 := Tryd.isAgg78
  z37 := Tryd.sizeOf78
  v37 := Tryd.zeroValue78
  t70 := Tryd.underlying77
  a70 := Tryd.isAgg77
  z70 := Tryd.sizeOf77
  v70 := Tryd.zeroValue77
  t72 := Tryd.underlying80
  a72 := Tryd.isAgg80
  z72 := Tryd.sizeOf80
  v72 := Tryd.zeroValue80
  t75 := Tryd.underlying82
  a75 := Tryd.isAgg82
  z75 := Tryd.sizeOf82
  v75 := Tryd.zeroValue82
  t76 := Tryd.underlying83
  a76 := Tryd.isAgg83
  z76 := Tryd.sizeOf83
  v76 := Tryd.zeroValue83
  t127 := Tryd.underlying104
  a127 := Tryd.isAgg104
  z127 := Tryd.sizeOf104
  v127 := Tryd.zeroValue104
  t164 := Tryd.underlying116
  a164 := Tryd.isAgg116
  z164 := Tryd.sizeOf116
  v164 := Tryd.zeroValue116 }
theorem Tryd.Builder_Extra_156 : Builder.Extra Tryd.prog Tryd.lays156_ren := {
  sizeBuilder := by kernel_rfl
  liesBuilder := by kernel_rfl
  t5 := Tryd.underlying5
  a5 := Tryd.isAgg5
  z5 := Tryd.sizeOf5
  v5 := Tryd.zeroValue5
  infoByte := by kernel_rfl
  cellsByte := by kernel_rfl
  sizeByte := by kernel_rfl
  neB5 := by decide }
open Go.RowKit in
theorem Tryd.strings_Join_none (a : Option Addr) (c : Nat) (sep : ByteArray) (w : World) :
    Calls Tryd.prog 52 #[.slice a 0 c, .string sep] w fun e w' => e = .returned (.string ⟨#[]⟩) ∧ w' = w := Any.strings_Join_none Tryd.lays156 Tryd.Builder_Extra_156 a c sep w
open Go.RowKit in
theorem Tryd.strings_Join (bk o c : Nat) (xs : List ByteArray) (sep : ByteArray) (w : World) (hcells : ∀ (j : Nat) x, xs[j]? = some x → w.cell? ⟨bk, o + j, none⟩ = some (.string x)) (hbk : bk < w.heap.size) (hN : xs.length ≤ 140737488355328) (hcap : xs.length ≤ c) (hlen : (Lib.join (xs.map (·.data.toList)) sep.data.toList).length ≤ 140737488355328) :
    Calls Tryd.prog 52 #[.slice (some ⟨bk, o, none⟩) xs.length c, .string sep] w fun e w' => e = .returned (.string ⟨(Lib.join (xs.map (·.data.toList)) sep.data.toList).toArray⟩) ∧ Below w.heap.size w w' := Any.strings_Join Tryd.lays156 Tryd.Builder_Extra_156 bk o c xs sep w hcells hbk hN hcap hlen
def Tryd.lays145_ren : Go.Shelf.Ren := ⟨fun | 145 => 84 | 220 => 104 | 219 => 128 | 217 => 142 | 225 => 143 | 224 => 144 | 267 => 145 | 266 => 152 | 314 => 153 | n => n, fun | 9 => 9 | 4 => 4 | 59 => 98 | 3 => 3 | 5 => 5 | 46 => 66 | 146 => 155 | 51 => 118 | n => n, fun | 1 => 0 | n => n⟩
theorem Tryd.lays145 : Go.Proofs.Lays.n145 Tryd.prog Tryd.lays145_ren := {
  mixed := by kernel_rfl
  f145 := Tryd.func84.trans (congrArg some (by kernel_rfl))
  f217 := Tryd.func142.trans (congrArg some (by kernel_rfl))
  f219 := Tryd.func128.trans (congrArg some (by kernel_rfl))
  f220 := Tryd.func104.trans (congrArg some (by kernel_rfl))
  f224 := Tryd.func144.trans (congrArg some (by kernel_rfl))
  f225 := Tryd.func143.trans (congrArg some (by kernel_rfl))
  f266 := Tryd.func152.trans (congrArg some (by kernel_rfl))
  f267 := Tryd.func145.trans (congrArg some (by kernel_rfl))
  f314 := Tryd.func153.trans (congrArg some (by kernel_rfl))
  t3 := Tryd.underlying3
  a3 := Tryd.isAgg3
  z3 := Tryd.sizeOf3
  v3 := Tryd.zeroValue3
  t4 := Tryd.underlying4
  a4 := Tryd.isAgg4
  z4 := Tryd.sizeOf4
  v4 := Tryd.zeroValue4
  t5 := Tryd.underlying5
  a5 := Tryd.isAgg5
  z5 := Tryd.sizeOf5
  v5 := Tryd.zeroValue5
  t9 := Tryd.underlying9
  a9 := Tryd.isAgg9
  z9 := Tryd.sizeOf9
  v9 := Tryd.zeroValue9
  t46 := Tryd.underlying66
  a46 := Tryd.isAgg66
  z46 := Tryd.sizeOf66
  v46 := Tryd.zeroValue66
  t51 := Tryd.underlying118
  a51 := Tryd.isAgg118
  z51 := Tryd.sizeOf118
  v51 := Tryd.zeroValue118
  t59 := Tryd.underlying98
  a59 := Tryd.isAgg98
  z59 := Tryd.sizeOf98
  v59 := Tryd.zeroValue98
  t146 := Tryd.underlying155
  a146 := Tryd.isAgg155
  z146 := Tryd.sizeOf155
  v146 := Tryd.zeroValue155
  g1 := by kernel_rfl }
open Go.RowKit Go.Lib in
theorem Tryd.strings_Cut (s sep : ByteArray) (m : Int) (w : World) (hs : s.size < 4294967281) (hm : w.cell? ⟨0, 0, none⟩ = some (.int .i64 m)) :
    Calls Tryd.prog 84 #[.string s, .string sep] w fun e w' => e = .returned (.tuple #[.string ⟨(Lib.cut s.data.toList sep.data.toList).1.toArray⟩, .string ⟨(Lib.cut s.data.toList sep.data.toList).2.1.toArray⟩, .bool (Lib.cut s.data.toList sep.data.toList).2.2]) ∧ ∃ n, w' = w.drewN n := Any.strings_Cut Tryd.lays145 s sep m w hs hm
def Tryd.lays7n27_ren : Go.Shelf.Ren := ⟨fun | 27 => 141 | 28 => 150 | 29 => 151 | n => n, fun | 25 => 66 | 3 => 3 | 27 => 118 | 22 => 132 | 4 => 4 | 53 => 161 | 0 => 0 | 5 => 5 | 54 => 162 | n => n, fun | 0 => 6 | 1 => 7 | n => n⟩
theorem Tryd.lays7n27 : Go.Proofs.Lays7.n27 Tryd.prog Tryd.lays7n27_ren := {
  mixed := by kernel_rfl
  f27 := Tryd.func141.trans (congrArg some (by kernel_rfl))
  f28 := Tryd.func150.trans (congrArg some (by kernel_rfl))
  f29 := Tryd.func151.trans (congrArg some (by kernel_rfl))
  t0 := Tryd.underlying0
  a0 := Tryd.isAgg0
  z0 := Tryd.sizeOf0
  v0 := Tryd.zeroValue0
  i0 := by kernel_rfl
  t3 := Tryd.underlying3
  a3 := Tryd.isAgg3
  z3 := Tryd.sizeOf3
  v3 := Tryd.zeroValue3
  i3 := by kernel_rfl
  t4 := Tryd.underlying4
  a4 := Tryd.isAgg4
  z4 := Tryd.sizeOf4
  v4 := Tryd.zeroValue4
  i4 := by kernel_rfl
  t5 := Tryd.underlying5
  a5 := Tryd.isAgg5
  z5 := Tryd.sizeOf5
  v5 := Tryd.zeroValue5
  i5 := by kernel_rfl
  t22 := Tryd.underlying132
  a22 := Tryd.isAgg132
  z22 := Tryd.sizeOf132
  v22 := Tryd.zeroValue132
  i22 := by kernel_rfl
  t25 := Tryd.underlying66
  a25 := Tryd.isAgg66
  z25 := Tryd.sizeOf66
  v25 := Tryd.zeroValue66
  i25 := by kernel_rfl
  t27 := Tryd.underlying118
  a27 := Tryd.isAgg118
  z27 := Tryd.sizeOf118
  v27 := Tryd.zeroValue118
  i27 := by kernel_rfl
  t53 := Tryd.underlying161
  a53 := Tryd.isAgg161
  z53 := Tryd.sizeOf161
  v53 := Tryd.zeroValue161
  i53 := by kernel_rfl
  t54 := Tryd.underlying162
  a54 := Tryd.isAgg162
  z54 := Tryd.sizeOf162
  g0 := by kernel_rfl
  g1 := by kernel_rfl }
theorem Tryd.bits_TrailingZeros (x : Nat) (h : x < 18446744073709551616) (w : World) (hT : x ≠ 0 → TabAt 7 Lib.deBruijn64tab w) :
    Calls Tryd.prog 141 #[.int .u64 x] w fun e w' => e = .returned (.int .i64 (Lib.ctz 64 x)) ∧ w' = w := Any7.bits_TrailingZeros Tryd.lays7n27 x h w hT
end Go.Proofs
/-
  DERIVED: THE SHELF's CONTRACTS AT THIS DUMP, IN PLAIN WORDS (tools/lay-plain.mjs out of 'TrydSh.lean', which tools/lay-shelf.mjs wrote): THE SAME DECLARATIONS UNDER THE SAME NAMES: 'import', 'namespace', 'open', 'def', 'theorem' AND NOTHING ELSE: no command of the shelf's: FOR A HAND-IN. Each laying: the table of numbers ('.._ren') and one theorem, a field a fact of the dump's own or the kernel's comparison; each contract: ONE APPLICATION.
-/
namespace Go.Proofs
open Go.Shelf
def Tryd.lays169_ren : Go.Shelf.Ren := ⟨fun | 169 => 63 | n => n, fun | 70 => 77 | 9 => 9 | 0 => 0 | 72 => 80 | 37 => 78 | 127 => 104 | 3 => 3 | 5 => 5 | n => n, fun | n => n⟩
theorem Tryd.lays169 : Go.Proofs.Lays.n169 Tryd.prog Tryd.lays169_ren := {
  mixed := by kernel_rfl
  f169 := Tryd.func63.trans (congrArg some (by kernel_rfl))
  t0 := Tryd.underlying0
  a0 := Tryd.isAgg0
  z0 := Tryd.sizeOf0
  v0 := Tryd.zeroValue0
  t3 := Tryd.underlying3
  a3 := Tryd.isAgg3
  z3 := Tryd.sizeOf3
  v3 := Tryd.zeroValue3
  t9 := Tryd.underlying9
  a9 := Tryd.isAgg9
  z9 := Tryd.sizeOf9
  v9 := Tryd.zeroValue9
  t37 := Tryd.underlying78
  a37 := Tryd.isAgg78
  z37 := Tryd.sizeOf78
  v37 := Tryd.zeroValue78
  t70 := Tryd.underlying77
  a70 := Tryd.isAgg77
  z70 := Tryd.sizeOf77
  v70 := Tryd.zeroValue77
  t72 := Tryd.underlying80
  a72 := Tryd.isAgg80
  z72 := Tryd.sizeOf80
  v72 := Tryd.zeroValue80
  t127 := Tryd.underlying104
  a127 := Tryd.isAgg104
  z127 := Tryd.sizeOf104
  v127 := Tryd.zeroValue104 }
theorem Tryd.Builder_Extra_169 : Builder.Extra Tryd.prog Tryd.lays169_ren := {
  sizeBuilder := by kernel_rfl
  liesBuilder := by kernel_rfl
  t5 := Tryd.underlying5
  a5 := Tryd.isAgg5
  z5 := Tryd.sizeOf5
  v5 := Tryd.zeroValue5
  infoByte := by kernel_rfl
  cellsByte := by kernel_rfl
  sizeByte := by kernel_rfl
  neB5 := by decide }
open Go.RowKit in
theorem Tryd.Builder_String_any_k (B b : Nat) (l : List UInt8) (w : World) (h : Lib.IsBuilderF 80 5 B b (Lib.byteCells l) w) (hBw : B ≤ w.heap.size) :
    Calls Tryd.prog 63 #[.pointer (some ⟨b, 0, none⟩)] w fun e w' => e = .returned (.string ⟨l.toArray⟩) ∧ (Lib.IsBuilderF 80 5 B b (Lib.byteCells l) w' ∧ Below B w w' ∧ Lib.OthersKept 5 (some b) w w') := Any.Builder_String_any_k Tryd.lays169 Tryd.Builder_Extra_169 B b l w h hBw
def Tryd.lays168_ren : Go.Shelf.Ren := ⟨fun | 168 => 62 | 240 => 88 | 242 => 89 | 276 => 110 | 278 => 111 | n => n, fun | 0 => 0 | 3 => 3 | 4 => 4 | 5 => 5 | 9 => 9 | 20 => 20 | 21 => 21 | 37 => 78 | 46 => 66 | 51 => 118 | 70 => 77 | 72 => 80 | 75 => 82 | 80 => 85 | 164 => 116 | n => n, fun | n => n⟩
theorem Tryd.lays168 : Go.Proofs.Lays.n168 Tryd.prog Tryd.lays168_ren := {
  mixed := by kernel_rfl
  f168 := Tryd.func62.trans (congrArg some (by kernel_rfl))
  f240 := Tryd.func88.trans (congrArg some (by kernel_rfl))
  f242 := Tryd.func89.trans (congrArg some (by kernel_rfl))
  f276 := Tryd.func110.trans (congrArg some (by kernel_rfl))
  f278 := Tryd.func111.trans (congrArg some (by kernel_rfl))
  t0 := Tryd.underlying0
  a0 := Tryd.isAgg0
  z0 := Tryd.sizeOf0
  v0 := Tryd.zeroValue0
  t3 := Tryd.underlying3
  a3 := Tryd.isAgg3
  z3 := Tryd.sizeOf3
  v3 := Tryd.zeroValue3
  t4 := Tryd.underlying4
  a4 := Tryd.isAgg4
  z4 := Tryd.sizeOf4
  v4 := Tryd.zeroValue4
  t5 := Tryd.underlying5
  a5 := Tryd.isAgg5
  z5 := Tryd.sizeOf5
  v5 := Tryd.zeroValue5
  t9 := Tryd.underlying9
  a9 := Tryd.isAgg9
  z9 := Tryd.sizeOf9
  v9 := Tryd.zeroValue9
  t20 := Tryd.underlying20
  a20 := Tryd.isAgg20
  z20 := Tryd.sizeOf20
  v20 := Tryd.zeroValue20
  t21 := Tryd.underlying21
  a21 := Tryd.isAgg21
  z21 := Tryd.sizeOf21
  v21 := Tryd.zeroValue21
  t37 := Tryd.underlying78
  a37 := Tryd.isAgg78
  z37 := Tryd.sizeOf78
  v37 := Tryd.zeroValue78
  t46 := Tryd.underlying66
  a46 := Tryd.isAgg66
  z46 := Tryd.sizeOf66
  v46 := Tryd.zeroValue66
  t51 := Tryd.underlying118
  a51 := Tryd.isAgg118
  z51 := Tryd.sizeOf118
  v51 := Tryd.zeroValue118
  t70 := Tryd.underlying77
  a70 := Tryd.isAgg77
  z70 := Tryd.sizeOf77
  v70 := Tryd.zeroValue77
  t72 := Tryd.underlying80
  a72 := Tryd.isAgg80
  z72 := Tryd.sizeOf80
  v72 := Tryd.zeroValue80
  t75 := Tryd.underlying82
  a75 := Tryd.isAgg82
  z75 := Tryd.sizeOf82
  v75 := Tryd.zeroValue82
  t164 := Tryd.underlying116
  a164 := Tryd.isAgg116
  z164 := Tryd.sizeOf116
  v164 := Tryd.zeroValue116 }
theorem Tryd.Builder_Extra_168 : Builder.Extra Tryd.prog Tryd.lays168_ren := {
  sizeBuilder := by kernel_rfl
  liesBuilder := by kernel_rfl
  t5 := Tryd.underlying5
  a5 := Tryd.isAgg5
  z5 := Tryd.sizeOf5
  v5 := Tryd.zeroValue5
  infoByte := by kernel_rfl
  cellsByte := by kernel_rfl
  sizeByte := by kernel_rfl
  neB5 := by decide }
open Go.RowKit in
theorem Tryd.Builder_WriteRune_k (B b : Nat) (bs : List Value) (r : Int) (hr0 : -2147483648 ≤ r) (hr1 : r ≤ 2147483647) (w : World) (h : Lib.IsBuilderF 80 5 B b bs w) (hlen : bs.length + 4 ≤ 140737488355328) (hBw : B ≤ w.heap.size) :
    Calls Tryd.prog 62 #[.pointer (some ⟨b, 0, none⟩), .int .i32 r] w fun e w' => e = .returned (.tuple #[.int .i64 (Lib.runeCells r).length, .nilIface]) ∧ (Lib.BuilderAtF 80 5 B b (.pointer (some ⟨b, 0, none⟩)) (bs ++ Lib.runeCells r) w' ∧ Below B w w' ∧ Lib.OthersKept 5 (some b) w w') := Any.Builder_WriteRune_k Tryd.lays168 Tryd.Builder_Extra_168 B b bs r hr0 hr1 w h hlen hBw
def Tryd.laysM171_ren : Go.Shelf.Ren := ⟨fun | 171 => 51 | 243 => 79 | 246 => 102 | 283 => 123 | 284 => 124 | 285 => 125 | 286 => 126 | 129 => 138 | 317 => 137 | 318 => 139 | 319 => 140 | 320 => 141 | 337 => 150 | 338 => 151 | n => n, fun | 3 => 3 | 9 => 9 | 2 => 2 | 4 => 4 | 171 => 131 | 0 => 0 | 53 => 132 | 37 => 78 | 5 => 5 | 173 => 135 | 212 => 147 | 51 => 118 | 20 => 20 | 213 => 148 | 46 => 66 | 232 => 161 | 233 => 162 | n => n, fun | 17 => 3 | 18 => 6 | 19 => 7 | n => n⟩
theorem Tryd.laysM171 : Go.Proofs.LaysM.n171 Tryd.prog Tryd.laysM171_ren := {
  mixed := by kernel_rfl
  f129 := Tryd.func138.trans (congrArg some (by kernel_rfl))
  f171 := Tryd.func51.trans (congrArg some (by kernel_rfl))
  f243 := Tryd.func79.trans (congrArg some (by kernel_rfl))
  f246 := Tryd.func102.trans (congrArg some (by kernel_rfl))
  f283 := Tryd.func123.trans (congrArg some (by kernel_rfl))
  f284 := Tryd.func124.trans (congrArg some (by kernel_rfl))
  f285 := Tryd.func125.trans (congrArg some (by kernel_rfl))
  f286 := Tryd.func126.trans (congrArg some (by kernel_rfl))
  f317 := Tryd.func137.trans (congrArg some (by kernel_rfl))
  f318 := Tryd.func139.trans (congrArg some (by kernel_rfl))
  f319 := Tryd.func140.trans (congrArg some (by kernel_rfl))
  f320 := Tryd.func141.trans (congrArg some (by kernel_rfl))
  f337 := Tryd.func150.trans (congrArg some (by kernel_rfl))
  f338 := Tryd.func151.trans (congrArg some (by kernel_rfl))
  t0 := Tryd.underlying0
  a0 := Tryd.isAgg0
  z0 := Tryd.sizeOf0
  v0 := Tryd.zeroValue0
  t2 := Tryd.underlying2
  a2 := Tryd.isAgg2
  z2 := Tryd.sizeOf2
  v2 := Tryd.zeroValue2
  t3 := Tryd.underlying3
  a3 := Tryd.isAgg3
  z3 := Tryd.sizeOf3
  v3 := Tryd.zeroValue3
  t4 := Tryd.underlying4
  a4 := Tryd.isAgg4
  z4 := Tryd.sizeOf4
  v4 := Tryd.zeroValue4
  t5 := Tryd.underlying5
  a5 := Tryd.isAgg5
  z5 := Tryd.sizeOf5
  v5 := Tryd.zeroValue5
  t9 := Tryd.underlying9
  a9 := Tryd.isAgg9
  z9 := Tryd.sizeOf9
  v9 := Tryd.zeroValue9
  t20 := Tryd.underlying20
  a20 := Tryd.isAgg20
  z20 := Tryd.sizeOf20
  v20 := Tryd.zeroValue20
  t37 := Tryd.underlying78
  a37 := Tryd.isAgg78
  z37 := Tryd.sizeOf78
  v37 := Tryd.zeroValue78
  t46 := Tryd.underlying66
  a46 := Tryd.isAgg66
  z46 := Tryd.sizeOf66
  v46 := Tryd.zeroValue66
  t51 := Tryd.underlying118
  a51 := Tryd.isAgg118
  z51 := Tryd.sizeOf118
  v51 := Tryd.zeroValue118
  t53 := Tryd.underlying132
  a53 := Tryd.isAgg132
  z53 := Tryd.sizeOf132
  v53 := Tryd.zeroValue132
  t171 := Tryd.underlying131
  a171 := Tryd.isAgg131
  z171 := Tryd.sizeOf131
  v171 := Tryd.zeroValue131
  t173 := Tryd.underlying135
  a173 := Tryd.isAgg135
  z173 := Tryd.sizeOf135
  v173 := Tryd.zeroValue135
  t212 := Tryd.underlying147
  a212 := Tryd.isAgg147
  z212 := Tryd.sizeOf147
  v212 := Tryd.zeroValue147
  t213 := Tryd.underlying148
  a213 := Tryd.isAgg148
  z213 := Tryd.sizeOf148
  t232 := Tryd.underlying161
  a232 := Tryd.isAgg161
  z232 := Tryd.sizeOf161
  v232 := Tryd.zeroValue161
  t233 := Tryd.underlying162
  a233 := Tryd.isAgg162
  z233 := Tryd.sizeOf162
  v233 := Tryd.zeroValue162
  g17 := by kernel_rfl
  g18 := by kernel_rfl
  g19 := by kernel_rfl
  i0 := by kernel_rfl
  i2 := by kernel_rfl
  i3 := by kernel_rfl
  i4 := by kernel_rfl
  i5 := by kernel_rfl
  i9 := by kernel_rfl
  i20 := by kernel_rfl
  i37 := by kernel_rfl
  i46 := by kernel_rfl
  i51 := by kernel_rfl
  i53 := by kernel_rfl
  i171 := by kernel_rfl
  i173 := by kernel_rfl
  i212 := by kernel_rfl
  i232 := by kernel_rfl
  i233 := by kernel_rfl
  m17 := by kernel_rfl
  m18 := by kernel_rfl
  m19 := by kernel_rfl }
open Go.RowKit Go.Sort Go.Lib in
theorem Tryd.strconv_Itoa (n : Int) (h0 : -9223372036854775808 ≤ n) (h1 : n ≤ 9223372036854775807) (w : World) (htab : Lib.TabIs Tryd.prog w "internal/strconv.uint64pow10" .u64 Lib.pow10Tab) :
    Calls Tryd.prog 51 #[.int .i64 n] w fun e w' => e = .returned (.string ⟨(Lib.itoa n).toArray⟩) ∧ ∃ k os, w' = grow (w.drewN k) os := Any.strconv_Itoa Tryd.laysM171 n h0 h1 w htab
def Tryd.laysC172_ren : Go.Shelf.Ren := ⟨fun | 172 => 64 | 244 => 90 | 245 => 91 | 247 => 112 | 279 => 113 | 280 => 114 | 281 => 115 | 282 => 116 | 287 => 132 | 316 => 133 | 171 => 51 | 205 => 134 | 321 => 147 | 322 => 148 | 243 => 79 | 246 => 102 | 283 => 123 | 284 => 124 | 285 => 125 | 286 => 126 | 129 => 138 | 317 => 137 | 318 => 139 | 319 => 140 | 320 => 141 | 337 => 150 | 338 => 151 | n => n, fun | 9 => 9 | 3 => 3 | 75 => 82 | 76 => 83 | 4 => 4 | 5 => 5 | 167 => 119 | 37 => 78 | 0 => 0 | 85 => 120 | 2 => 2 | 168 => 122 | 53 => 132 | 175 => 138 | 46 => 66 | 210 => 142 | 127 => 104 | 145 => 153 | 143 => 151 | 21 => 21 | 171 => 131 | 173 => 135 | 212 => 147 | 51 => 118 | 20 => 20 | 213 => 148 | 232 => 161 | 233 => 162 | 80 => 85 | n => n, fun | 15 => 1 | 16 => 2 | 17 => 3 | 18 => 6 | 19 => 7 | n => n⟩
theorem Tryd.laysC172 : Go.Proofs.LaysC.n172 Tryd.prog Tryd.laysC172_ren := {
  mixed := by kernel_rfl
  f129 := Tryd.func138.trans (congrArg some (by kernel_rfl))
  f171 := Tryd.func51.trans (congrArg some (by kernel_rfl))
  f172 := Tryd.func64.trans (congrArg some (by kernel_rfl))
  f205 := Tryd.func134.trans (congrArg some (by kernel_rfl))
  f243 := Tryd.func79.trans (congrArg some (by kernel_rfl))
  f244 := Tryd.func90.trans (congrArg some (by kernel_rfl))
  f245 := Tryd.func91.trans (congrArg some (by kernel_rfl))
  f246 := Tryd.func102.trans (congrArg some (by kernel_rfl))
  f247 := Tryd.func112.trans (congrArg some (by kernel_rfl))
  f279 := Tryd.func113.trans (congrArg some (by kernel_rfl))
  f280 := Tryd.func114.trans (congrArg some (by kernel_rfl))
  f281 := Tryd.func115.trans (congrArg some (by kernel_rfl))
  f282 := Tryd.func116.trans (congrArg some (by kernel_rfl))
  f283 := Tryd.func123.trans (congrArg some (by kernel_rfl))
  f284 := Tryd.func124.trans (congrArg some (by kernel_rfl))
  f285 := Tryd.func125.trans (congrArg some (by kernel_rfl))
  f286 := Tryd.func126.trans (congrArg some (by kernel_rfl))
  f287 := Tryd.func132.trans (congrArg some (by kernel_rfl))
  f316 := Tryd.func133.trans (congrArg some (by kernel_rfl))
  f317 := Tryd.func137.trans (congrArg some (by kernel_rfl))
  f318 := Tryd.func139.trans (congrArg some (by kernel_rfl))
  f319 := Tryd.func140.trans (congrArg some (by kernel_rfl))
  f320 := Tryd.func141.trans (congrArg some (by kernel_rfl))
  f321 := Tryd.func147.trans (congrArg some (by kernel_rfl))
  f322 := Tryd.func148.trans (congrArg some (by kernel_rfl))
  f337 := Tryd.func150.trans (congrArg some (by kernel_rfl))
  f338 := Tryd.func151.trans (congrArg some (by kernel_rfl))
  t0 := Tryd.underlying0
  a0 := Tryd.isAgg0
  z0 := Tryd.sizeOf0
  v0 := Tryd.zeroValue0
  t2 := Tryd.underlying2
  a2 := Tryd.isAgg2
  z2 := Tryd.sizeOf2
  v2 := Tryd.zeroValue2
  t3 := Tryd.underlying3
  a3 := Tryd.isAgg3
  z3 := Tryd.sizeOf3
  v3 := Tryd.zeroValue3
  t4 := Tryd.underlying4
  a4 := Tryd.isAgg4
  z4 := Tryd.sizeOf4
  v4 := Tryd.zeroValue4
  t5 := Tryd.underlying5
  a5 := Tryd.isAgg5
  z5 := Tryd.sizeOf5
  v5 := Tryd.zeroValue5
  t9 := Tryd.underlying9
  a9 := Tryd.isAgg9
  z9 := Tryd.sizeOf9
  v9 := Tryd.zeroValue9
  t20 := Tryd.underlying20
  a20 := Tryd.isAgg20
  z20 := Tryd.sizeOf20
  v20 := Tryd.zeroValue20
  t21 := Tryd.underlying21
  a21 := Tryd.isAgg21
  z21 := Tryd.sizeOf21
  v21 := Tryd.zeroValue21
  t37 := Tryd.underlying78
  a37 := Tryd.isAgg78
  z37 := Tryd.sizeOf78
  v37 := Tryd.zeroValue78
  t46 := Tryd.underlying66
  a46 := Tryd.isAgg66
  z46 := Tryd.sizeOf66
  v46 := Tryd.zeroValue66
  t51 := Tryd.underlying118
  a51 := Tryd.isAgg118
  z51 := Tryd.sizeOf118
  v51 := Tryd.zeroValue118
  t53 := Tryd.underlying132
  a53 := Tryd.isAgg132
  z53 := Tryd.sizeOf132
  v53 := Tryd.zeroValue132
  t75 := Tryd.underlying82
  a75 := Tryd.isAgg82
  z75 := Tryd.sizeOf82
  v75 := Tryd.zeroValue82
  t76 := Tryd.underlying83
  a76 := Tryd.isAgg83
  z76 := Tryd.sizeOf83
  v76 := Tryd.zeroValue83
  t85 := Tryd.underlying120
  a85 := Tryd.isAgg120
  z85 := Tryd.sizeOf120
  v85 := Tryd.zeroValue120
  t127 := Tryd.underlying104
  a127 := Tryd.isAgg104
  z127 := Tryd.sizeOf104
  v127 := Tryd.zeroValue104
  t143 := Tryd.underlying151
  a143 := Tryd.isAgg151
  z143 := Tryd.sizeOf151
  v143 := Tryd.zeroValue151
  t145 := Tryd.underlying153
  a145 := Tryd.isAgg153
  z145 := Tryd.sizeOf153
  v145 := Tryd.zeroValue153
  t167 := Tryd.underlying119
  a167 := Tryd.isAgg119
  z167 := Tryd.sizeOf119
  v167 := Tryd.zeroValue119
  t168 := Tryd.underlying122
  a168 := Tryd.isAgg122
  z168 := Tryd.sizeOf122
  v168 := Tryd.zeroValue122
  t171 := Tryd.underlying131
  a171 := Tryd.isAgg131
  z171 := Tryd.sizeOf131
  v171 := Tryd.zeroValue131
  t173 := Tryd.underlying135
  a173 := Tryd.isAgg135
  z173 := Tryd.sizeOf135
  v173 := Tryd.zeroValue135
  t175 := Tryd.underlying138
  a175 := Tryd.isAgg138
  z175 := Tryd.sizeOf138
  v175 := Tryd.zeroValue138
  t210 := Tryd.underlying142
  a210 := Tryd.isAgg142
  z210 := Tryd.sizeOf142
  v210 := Tryd.zeroValue142
  t212 := Tryd.underlying147
  a212 := Tryd.isAgg147
  z212 := Tryd.sizeOf147
  v212 := Tryd.zeroValue147
  t213 := Tryd.underlying148
  a213 := Tryd.isAgg148
  z213 := Tryd.sizeOf148
  t232 := Tryd.underlying161
  a232 := Tryd.isAgg161
  z232 := Tryd.sizeOf161
  v232 := Tryd.zeroValue161
  t233 := Tryd.underlying162
  a233 := Tryd.isAgg162
  z233 := Tryd.sizeOf162
  v233 := Tryd.zeroValue162
  g15 := by kernel_rfl
  g16 := by kernel_rfl
  g17 := by kernel_rfl
  g18 := by kernel_rfl
  g19 := by kernel_rfl
  t80 := Tryd.underlying85
  a80 := Tryd.isAgg85
  z80 := Tryd.sizeOf85
  v80 := Tryd.zeroValue85
  i0 := by kernel_rfl
  i2 := by kernel_rfl
  i3 := by kernel_rfl
  i4 := by kernel_rfl
  i5 := by kernel_rfl
  i9 := by kernel_rfl
  i20 := by kernel_rfl
  i21 := by kernel_rfl
  i37 := by kernel_rfl
  i46 := by kernel_rfl
  i51 := by kernel_rfl
  i53 := by kernel_rfl
  i75 := by kernel_rfl
  i76 := by kernel_rfl
  i80 := by kernel_rfl
  i85 := by kernel_rfl
  i127 := by kernel_rfl
  i143 := by kernel_rfl
  i145 := by kernel_rfl
  i167 := by kernel_rfl
  i168 := by kernel_rfl
  i171 := by kernel_rfl
  i173 := by kernel_rfl
  i175 := by kernel_rfl
  i210 := by kernel_rfl
  i212 := by kernel_rfl
  i232 := by kernel_rfl
  i233 := by kernel_rfl
  m15 := by kernel_rfl
  m16 := by kernel_rfl
  m17 := by kernel_rfl
  m18 := by kernel_rfl
  m19 := by kernel_rfl
  c0 := by kernel_rfl
  c2 := by kernel_rfl
  c3 := by kernel_rfl
  c4 := by kernel_rfl
  c5 := by kernel_rfl
  c9 := by kernel_rfl
  c20 := by kernel_rfl
  c21 := by kernel_rfl
  c37 := by kernel_rfl
  c46 := by kernel_rfl
  c51 := by kernel_rfl
  c53 := by kernel_rfl
  c75 := by kernel_rfl
  c76 := by kernel_rfl
  c80 := by kernel_rfl
  c85 := by kernel_rfl
  c127 := by kernel_rfl
  c143 := by kernel_rfl
  c145 := by kernel_rfl
  c167 := by kernel_rfl
  c168 := by kernel_rfl
  c171 := by kernel_rfl
  c173 := by kernel_rfl
  c175 := by kernel_rfl
  c210 := by kernel_rfl
  c212 := by kernel_rfl
  c213 := by kernel_rfl
  c232 := by kernel_rfl
  c233 := by kernel_rfl }
open Go.RowKit in
theorem Tryd.strconv_Atoi_ok (s : ByteArray) (hmax : s.size ≤ 9223372036854775806) (v : Int) (h : Lib.atoiAll s.data.toList = .ok v) (w : World) :
    Calls Tryd.prog 64 #[.string s] w fun e w' => e = .returned (.tuple #[.int .i64 v, .nilIface]) ∧ (w' = w ∨ ∃ t, w' = Lib.bytesWorld w 5 t) := Any.strconv_Atoi_ok Tryd.laysC172 s hmax v h w
open Go.RowKit in
theorem Tryd.strconv_Atoi_range_var (s : ByteArray) (hlim : s.size ≤ 281474976710656) (h : Lib.atoiAll s.data.toList = .range) (tp : TypeId) (p : Value) (w : World) (hvar : w.var? Tryd.prog "strconv.ErrRange" = some #[.iface tp p]) :
    Calls Tryd.prog 64 #[.string s] w fun e w' => ∃ N, e = .returned (.tuple #[.int .i64 (Lib.atoiSat s.data.toList), .iface 122 (.pointer (some ⟨N, 0, none⟩))]) ∧ w.heap.size ≤ N ∧ w'.heap[N]? = some (.cells #[.string ⟨#[65, 116, 111, 105]⟩, .string s, .iface tp p] 142 (0, 0)) ∧ Below w.heap.size w w' := Any.strconv_Atoi_range_var Tryd.laysC172 s hlim h tp p w hvar
def Tryd.lays149_ren : Go.Shelf.Ren := ⟨fun | 149 => 55 | 222 => 83 | n => n, fun | 9 => 9 | 5 => 5 | 3 => 3 | 4 => 4 | n => n, fun | n => n⟩
theorem Tryd.lays149 : Go.Proofs.Lays.n149 Tryd.prog Tryd.lays149_ren := {
  mixed := by kernel_rfl
  f149 := Tryd.func55.trans (congrArg some (by kernel_rfl))
  f222 := Tryd.func83.trans (congrArg some (by kernel_rfl))
  t3 := Tryd.underlying3
  a3 := Tryd.isAgg3
  z3 := Tryd.sizeOf3
  v3 := Tryd.zeroValue3
  t4 := Tryd.underlying4
  a4 := Tryd.isAgg4
  z4 := Tryd.sizeOf4
  v4 := Tryd.zeroValue4
  t5 := Tryd.underlying5
  a5 := Tryd.isAgg5
  z5 := Tryd.sizeOf5
  v5 := Tryd.zeroValue5
  t9 := Tryd.underlying9
  a9 := Tryd.isAgg9
  z9 := Tryd.sizeOf9
  v9 := Tryd.zeroValue9 }
open Go.RowKit Go.Lib in
theorem Tryd.strings_LastIndexByte (s : ByteArray) (c : Int) (hs : s.size < 4611686018427387904) (w : World) :
    Calls Tryd.prog 55 #[.string s, .int .u8 c] w fun e w' => e = .returned (.int .i64 (Lib.lastIndexByte s c)) ∧ w' = w := Any.strings_LastIndexByte Tryd.lays149 s c hs w
def Tryd.lays99_ren : Go.Shelf.Ren := ⟨fun | 99 => 67 | 206 => 92 | n => n, fun | 9 => 9 | 4 => 4 | 3 => 3 | n => n, fun | n => n⟩
theorem Tryd.lays99 : Go.Proofs.Lays.n99 Tryd.prog Tryd.lays99_ren := {
  mixed := by kernel_rfl
  f99 := Tryd.func67.trans (congrArg some (by kernel_rfl))
  f206 := Tryd.func92.trans (congrArg some (by kernel_rfl))
  t3 := Tryd.underlying3
  a3 := Tryd.isAgg3
  z3 := Tryd.sizeOf3
  v3 := Tryd.zeroValue3
  t4 := Tryd.underlying4
  a4 := Tryd.isAgg4
  z4 := Tryd.sizeOf4
  v4 := Tryd.zeroValue4
  t9 := Tryd.underlying9
  a9 := Tryd.isAgg9
  z9 := Tryd.sizeOf9
  v9 := Tryd.zeroValue9 }
open Go.RowKit Go.Lib in
theorem Tryd.strings_HasPrefix (s p : ByteArray) (w : World) :
    Calls Tryd.prog 67 #[.string s, .string p] w fun e w' => e = .returned (.bool (Lib.hasPrefix s.data.toList p.data.toList)) ∧ w' = w := Any.strings_HasPrefix Tryd.lays99 s p w
def Tryd.lays146_ren : Go.Shelf.Ren := ⟨fun | 146 => 59 | 221 => 86 | 268 => 106 | 138 => 107 | 143 => 108 | 195 => 129 | 197 => 130 | 218 => 131 | 219 => 128 | 260 => 146 | 217 => 142 | 225 => 143 | 224 => 144 | 267 => 145 | 266 => 152 | 314 => 153 | n => n, fun | 9 => 9 | 31 => 44 | 3 => 3 | 4 => 4 | 0 => 0 | 105 => 88 | 21 => 21 | 5 => 5 | 46 => 66 | 119 => 157 | 139 => 160 | 138 => 159 | 146 => 155 | 51 => 118 | n => n, fun | 1 => 0 | 3 => 4 | 4 => 5 | n => n⟩
theorem Tryd.lays146 : Go.Proofs.Lays.n146 Tryd.prog Tryd.lays146_ren := {
  mixed := by kernel_rfl
  f138 := Tryd.func107.trans (congrArg some (by kernel_rfl))
  f143 := Tryd.func108.trans (congrArg some (by kernel_rfl))
  f146 := Tryd.func59.trans (congrArg some (by kernel_rfl))
  f195 := Tryd.func129.trans (congrArg some (by kernel_rfl))
  f197 := Tryd.func130.trans (congrArg some (by kernel_rfl))
  f217 := Tryd.func142.trans (congrArg some (by kernel_rfl))
  f218 := Tryd.func131.trans (congrArg some (by kernel_rfl))
  f219 := Tryd.func128.trans (congrArg some (by kernel_rfl))
  f221 := Tryd.func86.trans (congrArg some (by kernel_rfl))
  f224 := Tryd.func144.trans (congrArg some (by kernel_rfl))
  f225 := Tryd.func143.trans (congrArg some (by kernel_rfl))
  f260 := Tryd.func146.trans (congrArg some (by kernel_rfl))
  f266 := Tryd.func152.trans (congrArg some (by kernel_rfl))
  f267 := Tryd.func145.trans (congrArg some (by kernel_rfl))
  f268 := Tryd.func106.trans (congrArg some (by kernel_rfl))
  f314 := Tryd.func153.trans (congrArg some (by kernel_rfl))
  t0 := Tryd.underlying0
  a0 := Tryd.isAgg0
  z0 := Tryd.sizeOf0
  v0 := Tryd.zeroValue0
  t3 := Tryd.underlying3
  a3 := Tryd.isAgg3
  z3 := Tryd.sizeOf3
  v3 := Tryd.zeroValue3
  t4 := Tryd.underlying4
  a4 := Tryd.isAgg4
  z4 := Tryd.sizeOf4
  v4 := Tryd.zeroValue4
  t5 := Tryd.underlying5
  a5 := Tryd.isAgg5
  z5 := Tryd.sizeOf5
  v5 := Tryd.zeroValue5
  t9 := Tryd.underlying9
  a9 := Tryd.isAgg9
  z9 := Tryd.sizeOf9
  v9 := Tryd.zeroValue9
  t21 := Tryd.underlying21
  a21 := Tryd.isAgg21
  z21 := Tryd.sizeOf21
  v21 := Tryd.zeroValue21
  t31 := Tryd.underlying44
  a31 := Tryd.isAgg44
  z31 := Tryd.sizeOf44
  v31 := Tryd.zeroValue44
  t46 := Tryd.underlying66
  a46 := Tryd.isAgg66
  z46 := Tryd.sizeOf66
  v46 := Tryd.zeroValue66
  t51 := Tryd.underlying118
  a51 := Tryd.isAgg118
  z51 := Tryd.sizeOf118
  v51 := Tryd.zeroValue118
  t105 := Tryd.underlying88
  a105 := Tryd.isAgg88
  z105 := Tryd.sizeOf88
  v105 := Tryd.zeroValue88
  t119 := Tryd.underlying157
  a119 := Tryd.isAgg157
  z119 := Tryd.sizeOf157
  t138 := Tryd.underlying159
  a138 := Tryd.isAgg159
  z138 := Tryd.sizeOf159
  v138 := Tryd.zeroValue159
  t139 := Tryd.underlying160
  a139 := Tryd.isAgg160
  z139 := Tryd.sizeOf160
  v139 := Tryd.zeroValue160
  t146 := Tryd.underlying155
  a146 := Tryd.isAgg155
  z146 := Tryd.sizeOf155
  v146 := Tryd.zeroValue155
  g1 := by kernel_rfl
  g3 := by kernel_rfl
  g4 := by kernel_rfl }
open Go.RowKit Go.Lib in
theorem Tryd.strings_Split (s sep : ByteArray) (m : Int) (w : World) (hs : s.size < 4294967281) (hm : w.cell? ⟨0, 0, none⟩ = some (.int .i64 m)) (h1 : 1 ≤ sep.size) :
    Calls Tryd.prog 59 #[.string s, .string sep] w fun e w' =>
      e = .returned (.slice (some ⟨w.heap.size, 0, none⟩) (Lib.countB s sep + 1) (Lib.countB s sep + 1)) ∧ w' = w.alloc (.cells ((Lib.splitB sep 0 (Lib.countB s sep) s).map Value.string).toArray 9) := Any.strings_Split Tryd.lays146 (by kernel_rfl) s sep m w hs hm h1
def Tryd.laysM146_ren : Go.Shelf.Ren := ⟨fun | 146 => 59 | 221 => 86 | 268 => 106 | 138 => 107 | 143 => 108 | 195 => 129 | 197 => 130 | 218 => 131 | 219 => 128 | 260 => 146 | 217 => 142 | 225 => 143 | 224 => 144 | 267 => 145 | 266 => 152 | 314 => 153 | n => n, fun | 9 => 9 | 31 => 44 | 3 => 3 | 4 => 4 | 0 => 0 | 105 => 88 | 21 => 21 | 5 => 5 | 46 => 66 | 119 => 157 | 139 => 160 | 138 => 159 | 146 => 155 | 51 => 118 | n => n, fun | 1 => 0 | 3 => 4 | 4 => 5 | n => n⟩
theorem Tryd.laysM146 : Go.Proofs.LaysM.n146 Tryd.prog Tryd.laysM146_ren := {
  mixed := by kernel_rfl
  f138 := Tryd.func107.trans (congrArg some (by kernel_rfl))
  f143 := Tryd.func108.trans (congrArg some (by kernel_rfl))
  f146 := Tryd.func59.trans (congrArg some (by kernel_rfl))
  f195 := Tryd.func129.trans (congrArg some (by kernel_rfl))
  f197 := Tryd.func130.trans (congrArg some (by kernel_rfl))
  f217 := Tryd.func142.trans (congrArg some (by kernel_rfl))
  f218 := Tryd.func131.trans (congrArg some (by kernel_rfl))
  f219 := Tryd.func128.trans (congrArg some (by kernel_rfl))
  f221 := Tryd.func86.trans (congrArg some (by kernel_rfl))
  f224 := Tryd.func144.trans (congrArg some (by kernel_rfl))
  f225 := Tryd.func143.trans (congrArg some (by kernel_rfl))
  f260 := Tryd.func146.trans (congrArg some (by kernel_rfl))
  f266 := Tryd.func152.trans (congrArg some (by kernel_rfl))
  f267 := Tryd.func145.trans (congrArg some (by kernel_rfl))
  f268 := Tryd.func106.trans (congrArg some (by kernel_rfl))
  f314 := Tryd.func153.trans (congrArg some (by kernel_rfl))
  t0 := Tryd.underlying0
  a0 := Tryd.isAgg0
  z0 := Tryd.sizeOf0
  v0 := Tryd.zeroValue0
  t3 := Tryd.underlying3
  a3 := Tryd.isAgg3
  z3 := Tryd.sizeOf3
  v3 := Tryd.zeroValue3
  t4 := Tryd.underlying4
  a4 := Tryd.isAgg4
  z4 := Tryd.sizeOf4
  v4 := Tryd.zeroValue4
  t5 := Tryd.underlying5
  a5 := Tryd.isAgg5
  z5 := Tryd.sizeOf5
  v5 := Tryd.zeroValue5
  t9 := Tryd.underlying9
  a9 := Tryd.isAgg9
  z9 := Tryd.sizeOf9
  v9 := Tryd.zeroValue9
  t21 := Tryd.underlying21
  a21 := Tryd.isAgg21
  z21 := Tryd.sizeOf21
  v21 := Tryd.zeroValue21
  t31 := Tryd.underlying44
  a31 := Tryd.isAgg44
  z31 := Tryd.sizeOf44
  v31 := Tryd.zeroValue44
  t46 := Tryd.underlying66
  a46 := Tryd.isAgg66
  z46 := Tryd.sizeOf66
  v46 := Tryd.zeroValue66
  t51 := Tryd.underlying118
  a51 := Tryd.isAgg118
  z51 := Tryd.sizeOf118
  v51 := Tryd.zeroValue118
  t105 := Tryd.underlying88
  a105 := Tryd.isAgg88
  z105 := Tryd.sizeOf88
  v105 := Tryd.zeroValue88
  t119 := Tryd.underlying157
  a119 := Tryd.isAgg157
  z119 := Tryd.sizeOf157
  t138 := Tryd.underlying159
  a138 := Tryd.isAgg159
  z138 := Tryd.sizeOf159
  v138 := Tryd.zeroValue159
  t139 := Tryd.underlying160
  a139 := Tryd.isAgg160
  z139 := Tryd.sizeOf160
  v139 := Tryd.zeroValue160
  t146 := Tryd.underlying155
  a146 := Tryd.isAgg155
  z146 := Tryd.sizeOf155
  v146 := Tryd.zeroValue155
  g1 := by kernel_rfl
  g3 := by kernel_rfl
  g4 := by kernel_rfl
  i0 := by kernel_rfl
  i3 := by kernel_rfl
  i4 := by kernel_rfl
  i5 := by kernel_rfl
  i9 := by kernel_rfl
  i21 := by kernel_rfl
  i31 := by kernel_rfl
  i46 := by kernel_rfl
  i51 := by kernel_rfl
  i105 := by kernel_rfl
  i138 := by kernel_rfl
  i139 := by kernel_rfl
  i146 := by kernel_rfl
  m1 := by kernel_rfl
  s1_3 := fun w h => Go.Proofs.cell_of_shapedOpen_int (zero := #[.int .i64 0]) (t := 3) h (of_decide_eq_true (by kernel_rfl)) (by kernel_rfl) rfl (by kernel_rfl) (by kernel_rfl) Tryd.underlying3
  m3 := by kernel_rfl
  m4 := by kernel_rfl }
end Go.Proofs
set_option linter.all false
namespace Go.Proofs.YtkimpfoimblhjaaDoor.Ad
open Go Go.Eng Go.Lb Go.RowKit Lb
set_option maxRecDepth 100000
set_option maxHeartbeats 2000000

theorem szOk_iff (s : ByteArray) : szOk s = true ↔ s.size ≤ 4000000000 := by simp [szOk]
theorem w64 {n : Int} (h0 : 0 ≤ n) (h1 : n ≤ 9000000000000000000) : IntKind.wrap .i64 n = n := by
  simp [IntKind.wrap, IntKind.signed, IntKind.bits]; omega
theorem splitC_le {d : UInt8} (l : List UInt8) : (∀ p ∈ splitC d l, p.length ≤ l.length) ∧ (splitC d l).length ≤ l.length + 1 := by
  induction l with
  | nil => simp [splitC]
  | cons b r ih =>
    by_cases hb : b = d
    · subst hb
      rw [splitC_dot]
      refine ⟨fun p hp => ?_, by simp only [List.length_cons]; omega⟩
      rcases List.mem_cons.1 hp with rfl | hp
      · simp
      · have := ih.1 p hp; simp only [List.length_cons]; omega
    · cases hs : splitC d r with
      | nil => exact absurd hs (splitC_ne r)
      | cons p ps =>
        rw [splitC_cons hb hs]
        rw [hs] at ih
        refine ⟨fun q hq => ?_, by have := ih.2; simp only [List.length_cons] at *; omega⟩
        rcases List.mem_cons.1 hq with rfl | hq
        · have := ih.1 p List.mem_cons_self; simp only [List.length_cons]; omega
        · have := ih.1 q (List.mem_cons_of_mem _ hq); simp only [List.length_cons]; omega
theorem ofL_size (l : List UInt8) : (ofL l).size = l.length := by rw [size_bytesL, bytesL_ofL]
theorem splitS_le (s d : ByteArray) : (∀ p ∈ splitS s d, p.size ≤ s.size) ∧ (splitS s d).length ≤ s.size + 1 := by
  unfold splitS
  have h := splitC_le (d := (bytesL d).getD 0 0) (bytesL s)
  rw [size_bytesL]
  refine ⟨fun p hp => ?_, by rw [List.length_map]; exact h.2⟩
  obtain ⟨q, hq, rfl⟩ := List.mem_map.1 hp
  rw [ofL_size]
  exact h.1 q hq
theorem digF_len : ∀ (f n : Nat), (digF f n).length ≤ f
  | 0, _ => by simp [digF]
  | f + 1, n => by
    unfold digF
    cases decide (n < 10)
    · simp only [cond_false, List.length_append, List.length_singleton]
      have := digF_len f (n / 10)
      omega
    · simp
theorem digS_size (n : Int) : (digS n).size ≤ 5 := by
  rw [digS, ofL_size]; exact digF_len 5 _
theorem lastN_snoc (c b : UInt8) : ∀ (l : List UInt8), lastN c (l ++ [b]) = if b = c then some l.length else lastN c l
  | [] => by simp [lastN]
  | a :: l => by
    rw [List.cons_append, lastN, lastN_snoc c b l, lastN]
    by_cases h : b = c
    · simp [h]
    · rw [if_neg h, if_neg h]
theorem lastN_lt {c : UInt8} : ∀ {l : List UInt8} {i : Nat}, lastN c l = some i → i < l.length
  | [], i, h => by simp [lastN] at h
  | a :: l, i, h => by
    rw [lastN] at h
    cases hl : lastN c l with
    | some j =>
      rw [hl] at h
      have := lastN_lt hl
      simp only [Option.some.injEq] at h
      simp only [List.length_cons]; omega
    | none =>
      rw [hl] at h
      simp only at h
      split at h
      · simp only [Option.some.injEq] at h; simp only [List.length_cons]; omega
      · cases h
theorem take_next {s : ByteArray} {p : Nat} (h : p < s.size) : (bytesL s).take (p + 1) = (bytesL s).take p ++ [(bytesL s).getD p 0] := by
  rw [size_bytesL] at h
  rw [List.take_succ_eq_append_getElem h, List.getD_eq_getElem?_getD, List.getElem?_eq_getElem h]
  rfl
structure GA (w : World) : Prop where
  max : ∃ m, w.cell? ⟨0, 0, none⟩ = some (.int .i64 m)
  pow : Go.Lib.TabIs Tryd.prog w "internal/strconv.uint64pow10" .u64 Go.Lib.pow10Tab
  tz : Go.Proofs.TabAt 7 Go.Lib.deBruijn64tab w
theorem var_on {w w' : World} {n : String} {cs : Array Value} (hg : (Tryd.prog.globalNamed n).isSome = true) (hb : Below w.heap.size w w') (h : w.var? Tryd.prog n = some cs) : w'.var? Tryd.prog n = some cs := by
  obtain ⟨g, hg⟩ := Option.isSome_iff_exists.1 hg
  have hlt : g < w.heap.size := by
    unfold World.var? at h
    rw [hg] at h
    simp only [Option.bind_some] at h
    rcases Nat.lt_or_ge g w.heap.size with h' | h'
    · exact h'
    · rw [Array.getElem?_eq_none h'] at h; cases h
  exact var?_below hb hg hlt h
theorem gas : ∀ w w', Below w.heap.size w w' → GA w → GA w' := by
  intro w w' hb h
  obtain ⟨⟨m, h1⟩, h2, h3⟩ := h
  have h0 : 0 < w.heap.size := World.block_lt_of_cell? w ⟨0, 0, none⟩ h1
  refine ⟨⟨m, ?_⟩, var_on (by kernel_rfl) hb h2, fun j hj => ?_⟩
  · rw [World.cell?_of_block (w := w) (w' := w') (hb.block 0 h0)]
    exact h1
  · have h7 : 7 < w.heap.size := World.block_lt_of_cell? w ⟨7, j, none⟩ (h3 j hj)
    rw [World.cell?_of_block (w := w) (w' := w') (hb.block 7 h7)]
    exact h3 j hj
theorem lastIdx_eq (s : ByteArray) (c : Int) (h0 : 0 ≤ c) (h1 : c < 256) : ∀ k, k ≤ s.size → Go.Lib.lastIdx s c k = match lastN (UInt8.ofNat c.toNat) ((bytesL s).take k) with
    | some i => (i : Int)
    | none => -1
  | 0, _ => rfl
  | k + 1, hk => by
    rw [take_next (by omega), lastN_snoc]
    have hb : ((s.data[k]!).toNat : Int) = c ↔ (bytesL s).getD k 0 = UInt8.ofNat c.toNat := by
      have e : s.data[k]! = (bytesL s).getD k 0 := by
        unfold bytesL
        rw [List.getD_eq_getElem?_getD, Array.getElem!_eq_getD, Array.getD_eq_getD_getElem?, Array.getElem?_toList]
        rfl
      rw [e]
      constructor
      · intro h; apply UInt8.toNat_inj.1; rw [UInt8.toNat_ofNat']; omega
      · intro h; rw [h, UInt8.toNat_ofNat']; omega
    by_cases h : ((s.data[k]!).toNat : Int) = c
    · rw [Go.Lib.lastIdx_hit s c k h, if_pos (hb.1 h)]
      simp only [List.length_take]
      rw [size_bytesL] at hk
      omega
    · rw [Go.Lib.lastIdx_miss s c k h, if_neg (fun e => h (hb.2 e))]
      exact lastIdx_eq s c h0 h1 k (by omega)
theorem valLast : Valid Tryd.prog GA 55 cLast := by
  refine ⟨⟨Tryd.f55, Tryd.func55, by kernel_rfl, rfl⟩, fun w hG S x cs hS hx hpre => ?_⟩
  obtain ⟨s, c, ⟨⟩⟩ := x
  obtain ⟨c1, c2, rfl, ⟨rfl, hs1⟩, h2⟩ := hx
  obtain ⟨c3, c4, rfl, ⟨rfl, hp1⟩, h4⟩ := h2
  obtain rfl : c4 = [] := h4
  have hp : (szOk s && decide ((0 : Int) ≤ c) && decide (c < (256 : Int))) = true := hpre
  simp only [Bool.and_eq_true, decide_eq_true_eq, szOk_iff] at hp
  refine Calls.mono (Tryd.strings_LastIndexByte s c (by omega) w) ?_
  rintro e w' ⟨rfl, rfl⟩
  have he : Go.Lib.lastIndexByte s c = lastZ s c := by
    unfold Go.Lib.lastIndexByte lastZ
    have := lastIdx_eq s c hp.1.2 hp.2 s.size (Nat.le_refl _)
    rw [size_bytesL, List.take_length] at this
    rw [size_bytesL]
    exact this
  have hw : IntKind.wrap .i64 (lastZ s c) = lastZ s c := by
    unfold lastZ
    split
    · rename_i i hi
      have := lastN_lt hi
      rw [← size_bytesL] at this
      exact w64 (by omega) (by omega)
    · decide
  rw [he]
  exact ⟨Below.refl _ _, _, rfl, ⟨[.int .i64 (lastZ s c)], [], rfl, ⟨rfl, hw⟩, rfl⟩, fun h => by cases h⟩
theorem indexByte_none {d : UInt8} : ∀ {l : List UInt8}, d ∉ l → Go.Lib.indexByte l d = -1
  | [], _ => rfl
  | b :: l, h => by
    simp only [List.mem_cons, not_or] at h
    rw [Go.Lib.indexByte, indexByte_none h.2, if_neg (by simpa using Ne.symm h.1)]
    rfl
theorem indexByte_app {d : UInt8} {r : List UInt8} : ∀ {a : List UInt8}, d ∉ a → Go.Lib.indexByte (a ++ d :: r) d = a.length
  | [], _ => by simp [Go.Lib.indexByte]
  | b :: a, h => by
    simp only [List.mem_cons, not_or] at h
    rw [List.cons_append, Go.Lib.indexByte, indexByte_app h.2, if_neg (by simpa using Ne.symm h.1), if_neg (by simp <;> omega)]
    simp
theorem split_eq (d : ByteArray) (hd : d.size = 1) : ∀ (l : List UInt8) (s : ByteArray), bytesL s = l → Go.Lib.splitB d 0 (Go.Lib.countB s d) s = splitS s d := by
  have hidx : ∀ s : ByteArray, Go.Lib.indexB s d = Go.Lib.indexByte (bytesL s) ((bytesL d).getD 0 0) := by
    intro s
    rw [Go.Lib.one s d hd]
    show Go.Lib.indexByte (bytesL s) _ = _
    congr 1
    have : (bytesL d).getD 0 0 = d[0] := by
      unfold bytesL
      rw [List.getD_eq_getElem?_getD, Array.getElem?_toList, Array.getElem?_eq_getElem (show 0 < d.data.size from by show 0 < d.size; omega)]
      rfl
    rw [this]
    simp
  intro l
  generalize hc : (bytesL d).getD 0 0 = c at hidx
  induction l using splitC_ind (d := c) with
  | h0 l h =>
    intro s hs
    have hi : Go.Lib.indexB s d = -1 := by rw [hidx, hs]; exact indexByte_none h
    rw [Go.Lib.countB_miss s d hi, Go.Lib.splitB_zero]
    unfold splitS
    rw [hc, hs, splitC_none h, ← hs]
    simp [ofL_bytesL]
  | h1 a r h ih =>
    intro s hs
    have hi : Go.Lib.indexB s d = (a.length : Nat) := by rw [hidx, hs]; exact indexByte_app h
    have hsz := size_bytesL s
    rw [hs] at hsz
    have hr : bytesL (s.extract (a.length + d.size) s.size) = r := by
      have := bytesL_sub s (a.length + d.size) s.size
      unfold subS at this
      rw [this, hs, hd, hsz, List.take_length, List.drop_append]
      simp
    rw [Go.Lib.countB_hit s d a.length (by omega) hi, Nat.add_comm 1, Go.Lib.splitB_hit d 0 _ s a.length hi, ih _ hr]
    unfold splitS
    rw [hc, hs, splitC_app r h, hr, List.map_cons]
    congr 1
    apply bytesL_inj
    have := bytesL_sub s 0 (a.length + 0)
    unfold subS at this
    rw [this, hs, bytesL_ofL]
    simp
theorem valSplitS : Valid Tryd.prog GA 59 cSplitS := by
  refine ⟨⟨Tryd.f59, Tryd.func59, by kernel_rfl, rfl⟩, fun w hG S x cs hS hx hpre => ?_⟩
  obtain ⟨s, d, ⟨⟩⟩ := x
  obtain ⟨c1, c2, rfl, ⟨rfl, hs1⟩, h2⟩ := hx
  obtain ⟨c3, c4, rfl, ⟨rfl, hp1⟩, h4⟩ := h2
  obtain rfl : c4 = [] := h4
  have hp : (szOk s && decide (d.size = 1)) = true := hpre
  simp only [Bool.and_eq_true, decide_eq_true_eq, szOk_iff] at hp
  obtain ⟨m, hm⟩ := hG.max
  refine Calls.mono (Tryd.strings_Split s d m w (by omega) hm (by omega)) ?_
  have hall := Go.Lib.splitB_all d (by omega) 0 _ s rfl
  have heq := split_eq d hp.2 _ s rfl
  rw [heq] at hall ⊢
  have hle := splitS_le s d
  rintro e w' ⟨rfl, rfl⟩
  rw [← hall]
  generalize hxs : splitS s d = xs at hle ⊢
  have hF : cSplitS.F (s, d, ()) = (xs, ()) := by rw [← hxs]; rfl
  rw [hF]
  refine ⟨Below.alloc (Below.refl _ _) (Nat.le_refl _) _, [.slice (some ⟨w.heap.size, 0, none⟩) xs.length xs.length], rfl, ⟨_, [], rfl, ⟨_, _, rfl, Nat.le_refl _, by simp only; unfold maxLen; omega, fun _ => ⟨w.heap.size, 0, rfl, .inr ⟨Nat.le_refl _, by simp⟩, fun i x hi => ?_⟩⟩, rfl⟩, fun h => by cases h⟩
  refine ⟨[.string x], ⟨rfl, ?_⟩, fun j v hj => ?_⟩
  · have := hle.1 x (List.mem_of_getElem? hi)
    unfold maxLen at *; omega
  · match j, hj with
    | 0, hj =>
      simp only [List.getElem?_cons_zero, Option.some.injEq] at hj
      subst hj
      have hh : (w.alloc (.cells (xs.map Value.string).toArray 9)).heap[w.heap.size]? = some (.cells (xs.map Value.string).toArray 9) := heap_alloc_new w _
      have hi' : xs[i]? = some x := hi
      simp only [World.cell?, Nat.zero_add, Nat.add_zero, Ty.size, Nat.mul_one, hh]
      simp [hi']
    | j + 1, hj => simp at hj
theorem dec_dig : ∀ (f n : Nat), n < 10 ^ (f + 1) → Go.Lib.decDigits n = digF (f + 1) n
  | 0, n, h => by
    rw [Go.Lib.decDigits, dif_pos (by simpa using h), digF, cond_eq_ite, if_pos (by simpa using h)]
  | f + 1, n, h => by
    rw [Go.Lib.decDigits, digF, cond_eq_ite]
    by_cases h10 : n < 10
    · rw [dif_pos h10, if_pos (by simpa using h10)]
    · rw [dif_neg h10, if_neg (by simpa using h10), dec_dig f (n / 10) (by rw [Nat.pow_succ] at h; omega)]
theorem valItoa : Valid Tryd.prog GA 51 cItoa := by
  refine ⟨⟨Tryd.f51, Tryd.func51, by kernel_rfl, rfl⟩, fun w hG S x cs hS hx hpre => ?_⟩
  obtain ⟨n, ⟨⟩⟩ := x
  obtain ⟨c1, c2, rfl, ⟨rfl, hs1⟩, h2⟩ := hx
  obtain rfl : c2 = [] := h2
  have hp : (decide ((0 : Int) ≤ n) && decide (n ≤ (65535 : Int))) = true := hpre
  simp only [Bool.and_eq_true, decide_eq_true_eq] at hp
  have hF : cItoa.F (n, ()) = (digS n, ()) := rfl
  rw [hF]
  clear hpre hF
  obtain ⟨hn0, hn1⟩ := hp
  have hn0 : Int.le 0 n := hn0
  have hn1 : Int.le n 65535 := hn1
  have key : ∀ m : Int, Int.le 0 m → Int.le m 65535 → -9223372036854775808 ≤ m ∧ m ≤ 9223372036854775807 ∧ ¬ m < 0 ∧ m.toNat < 100000 := by
    intro m a b
    have a : (0 : Int) ≤ m := a
    have b : m ≤ 65535 := b
    omega
  obtain ⟨k1, k2, k3, k4⟩ := key n hn0 hn1
  refine Calls.mono (Tryd.strconv_Itoa n k1 k2 w hG.pow) ?_
  rintro e w' ⟨rfl, k, os, rfl⟩
  have he : (⟨(Go.Lib.itoa n).toArray⟩ : ByteArray) = digS n := by
    unfold Go.Lib.itoa digS digL
    rw [if_neg k3, dec_dig 4 n.toNat k4]
    rfl
  rw [he]
  have := digS_size n
  exact ⟨Go.Lib.below_grow _ w (Nat.le_refl _) k os, [.string (digS n)], rfl, ⟨[.string (digS n)], [], rfl, ⟨rfl, by simp only; unfold maxLen; omega⟩, rfl⟩, fun h => by cases h⟩

theorem valCut : Valid Tryd.prog GA 84 cCut := by
  refine ⟨⟨Tryd.f84, Tryd.func84, by kernel_rfl, rfl⟩, fun w hG S x cs hS hx hpre => ?_⟩
  obtain ⟨s, d, ⟨⟩⟩ := x
  obtain ⟨c1, c2, rfl, ⟨rfl, hs1⟩, h2⟩ := hx
  obtain ⟨c3, c4, rfl, ⟨rfl, hp1⟩, h4⟩ := h2
  obtain rfl : c4 = [] := h4
  have hp : szOk s = true := hpre
  rw [szOk_iff] at hp
  obtain ⟨m, hm⟩ := hG.max
  refine Calls.mono (Tryd.strings_Cut s d m w (by omega) hm) ?_
  rintro e w' ⟨rfl, n, rfl⟩
  have hc : (Go.Lib.cut (bytesL s) (bytesL d)).1.length ≤ s.size ∧ (Go.Lib.cut (bytesL s) (bytesL d)).2.1.length ≤ s.size := by
    rw [size_bytesL]
    unfold Go.Lib.cut
    split <;> simp <;> omega
  refine ⟨below_drewN (Below.refl _ _) n, [.string (cut1 s d), .string (cut2 s d), .bool (cutOk s d)], rfl, ⟨[.string (cut1 s d)], [.string (cut2 s d), .bool (cutOk s d)], rfl, ⟨rfl, ?_⟩, [.string (cut2 s d)], [.bool (cutOk s d)], rfl, ⟨rfl, ?_⟩, [.bool (cutOk s d)], [], rfl, rfl, rfl⟩, fun h => by cases h⟩
  · rw [size_bytesL]; show (bytesL (cut1 s d)).length ≤ _; unfold cut1; rw [bytesL_ofL]; unfold maxLen; omega
  · rw [size_bytesL]; show (bytesL (cut2 s d)).length ≤ _; unfold cut2; rw [bytesL_ofL]; unfold maxLen; omega
theorem valJoin : Valid Tryd.prog GA 52 cJoinS := by
  refine ⟨⟨Tryd.f52, Tryd.func52, by kernel_rfl, rfl⟩, fun w hG S x cs hS hx hpre => ?_⟩
  obtain ⟨xs, d, ⟨⟩⟩ := x
  obtain ⟨c1, c2, rfl, ⟨base, cap, rfl, hc1, hc2, hmem⟩, h2⟩ := hx
  obtain ⟨c3, c4, rfl, ⟨rfl, hp1⟩, h4⟩ := h2
  obtain rfl : c4 = [] := h4
  have hp : (decide (List.length (α := ByteArray) xs ≤ 100000) && decide ((joinL xs d).length ≤ 4000000000)) = true := hpre
  simp only [Bool.and_eq_true, decide_eq_true_eq] at hp
  have hs : (joinS xs d).size ≤ maxLen := by
    rw [size_bytesL]; unfold joinS; rw [bytesL_ofL]; unfold maxLen; omega
  have hF : cJoinS.F (xs, d, ()) = (joinS xs d, ()) := rfl
  rw [hF]
  cases hxs : xs with
  | nil =>
    subst hxs
    refine Calls.mono (Tryd.strings_Join_none base cap d w) ?_
    rintro e w' ⟨rfl, rfl⟩
    exact ⟨Below.refl _ _, [.string (joinS [] d)], rfl, ⟨[.string (joinS [] d)], [], rfl, ⟨rfl, hs⟩, rfl⟩, fun h => by cases h⟩
  | cons y ys =>
    obtain ⟨b, off, rfl, hb, hcells⟩ := hmem (by rw [hxs]; exact List.cons_ne_nil _ _)
    rw [← hxs]
    refine Calls.mono (Tryd.strings_Join b off cap xs d w ?_ (hS b hb) ?_ hc1 ?_) ?_
    · intro j x hj
      obtain ⟨es, ⟨rfl, _⟩, hl⟩ := hcells j x hj
      have := hl 0 _ rfl
      simpa [Ty.size] using this
    · have := hp.1; show List.length (α := ByteArray) xs ≤ _; omega
    · have := hp.2; unfold joinL at this; exact Nat.le_trans this (by omega)
    · rintro e w' ⟨rfl, hw⟩
      exact ⟨hw, [.string (joinS xs d)], rfl, ⟨[.string (joinS xs d)], [], rfl, ⟨rfl, hs⟩, rfl⟩, fun h => by cases h⟩
theorem ctzFrom_le : ∀ f n, Go.Lib.ctzFrom f n ≤ f
  | 0, _ => Nat.le_refl _
  | f + 1, n => by
    rw [Go.Lib.ctzFrom]
    have := ctzFrom_le f (n / 2)
    split <;> omega
theorem ctz_le (n : Nat) : Go.Lib.ctz 64 n ≤ 64 := by
  unfold Go.Lib.ctz
  split
  · exact Nat.le_refl _
  · exact ctzFrom_le _ _
theorem valTZ : Valid Tryd.prog GA 141 cTZ := by
  refine ⟨⟨Tryd.f141, Tryd.func141, by kernel_rfl, rfl⟩, fun w hG S x cs hS hx hpre => ?_⟩
  obtain ⟨n, ⟨⟩⟩ := x
  obtain ⟨c1, c2, rfl, ⟨rfl, hs1⟩, h2⟩ := hx
  obtain rfl : c2 = [] := h2
  have hp : (decide ((0 : Int) ≤ n) && decide (n < (18446744073709551616 : Int))) = true := hpre
  simp only [Bool.and_eq_true, decide_eq_true_eq] at hp
  obtain ⟨m, rfl⟩ : ∃ m : Nat, n = m := ⟨Int.toNat n, by have := hp.1; exact (Int.toNat_of_nonneg this).symm⟩
  refine Calls.mono (Tryd.bits_TrailingZeros m (by have h2 : (m : Int) < 18446744073709551616 := hp.2; omega) w (fun _ => hG.tz)) ?_
  rintro e w' ⟨rfl, rfl⟩
  refine ⟨Below.refl _ _, [.int .i64 (ctzZ m)], rfl, ⟨[.int .i64 (ctzZ m)], [], rfl, ⟨rfl, ?_⟩, rfl⟩, fun h => by cases h⟩
  show IntKind.wrap .i64 (ctzZ m) = ctzZ m
  unfold ctzZ
  have := ctz_le (m : Int).toNat
  exact w64 (by omega) (by omega)
end Go.Proofs.YtkimpfoimblhjaaDoor.Ad
namespace Go.Proofs.YtkimpfoimblhjaaDoor.Ad
open Go Go.Eng Go.Lb Go.Ad Lb
set_option maxRecDepth 100000
noncomputable def g15 : Cfg := { tab := Tb.tab, cons := [], inls := [], loops := [(2, mayL)], cuts := [], unroll := false, arrs := [] }
noncomputable def g53 : Cfg := { tab := Tb.tab, cons := [], inls := [], loops := [(3, longA)], cuts := [], unroll := false, arrs := [] }
noncomputable def g54 : Cfg := { tab := Tb.tab, cons := [(52, cJoinS), (141, cTZ)], inls := [(82, Tryd.f82), (102, Tryd.f102), (126, Tryd.f126), (140, Tryd.f140)], loops := [(3, hexA), (1270011, bitsA)], cuts := [], unroll := false, arrs := [] }
noncomputable def g17 : Cfg := { tab := Tb.tab, cons := [(15, cMay), (51, cItoa), (52, cJoinS), (53, cLong), (54, cHexes)], inls := [], loops := [], cuts := [], unroll := true, arrs := [] }
noncomputable def g56 : Cfg := { tab := Tb.tab, cons := [], inls := [], loops := [(5, numA)], cuts := [], unroll := false, arrs := [] }
noncomputable def g105 : Cfg := { tab := Tb.tab, cons := [], inls := [], loops := [(3, grpA)], cuts := [], unroll := false, arrs := [] }
noncomputable def g85 : Cfg := { tab := Tb.tab, cons := [(59, cSplitS), (105, cGrp)], inls := [], loops := [(4, sideA)], cuts := [], unroll := false, arrs := [] }
noncomputable def g57 : Cfg := { tab := Tb.tab, cons := [(56, cNum), (59, cSplitS)], inls := [], loops := [(5, fourA)], cuts := [], unroll := false, arrs := [] }
noncomputable def g58 : Cfg := { tab := Tb.tab, cons := [(84, cCut), (85, cSide)], inls := [], loops := [], cuts := [], unroll := false, arrs := [] }
noncomputable def g18 : Cfg := { tab := Tb.tab, cons := [(55, cLast), (56, cNum), (57, cFour), (58, cSix)], inls := [], loops := [], cuts := [], unroll := false, arrs := [] }
noncomputable def g19 : Cfg := { tab := Tb.tab, cons := [], inls := [], loops := [], cuts := [], unroll := false, arrs := [] }
noncomputable def g20 : Cfg := { tab := Tb.tab, cons := [], inls := [], loops := [(2, ofL')], cuts := [], unroll := false, arrs := [] }
noncomputable def g21 : Cfg := { tab := Tb.tab, cons := [(17, cText), (52, cJoinS)], inls := [], loops := [(5, rowA)], cuts := [], unroll := false, arrs := [] }
noncomputable def g23 : Cfg := { tab := Tb.tab, cons := [(18, cParse), (59, cSplitS)], inls := [], loops := [(7, readA)], cuts := [], unroll := false, arrs := [] }
noncomputable def g25 : Cfg := { tab := Tb.tab, cons := [], inls := [], loops := [(4, sameAL)], cuts := [], unroll := false, arrs := [] }
end Go.Proofs.YtkimpfoimblhjaaDoor.Ad
namespace Go.Proofs.YtkimpfoimblhjaaDoor.Ad
open Go Go.Eng Go.Lb Go.Ad Lb
set_option maxRecDepth 100000
abbrev c15a (x : List (Int × (Int × Int × Int × Int × Int × Int × Int × Int × Unit) × Int × Unit) × Unit) (x_1 : Int) := (List.getD x.1 (Int.toNat x_1) (Ty.zero AdT))
theorem v15_eq : vcFn g15 300 Tryd.f15 cMay = (∀ (x : List (Int × (Int × Int × Int × Int × Int × Int × Int × Int × Unit) × Int × Unit) × Unit), Wr (lenA x.1 = true) → (Wr (MayI x.1 (0 : Int)) ∧ Wr ((0 : Int) = (0 : Int)) ∧ Wr (x.1 = x.1) ∧ Wr (x.1 = x.1) ∧ Wr
 ((↑(List.length x.1) : Int) = (↑(List.length x.1) : Int))) ∧ ∀ (x_1 : Int), Wr (MayI x.1 x_1) → bcase (decide (x_1 < (↑(List.length x.1) : Int))) (Wr ((0 : Int) ≤ x_1) ∧ Wr (x_1 < (↑(List.length x.1) : Int)) ∧ Wr (true =
 true) ∧ bcase (decide ((c15a x x_1).2.2.1 < (1 : Int)) || decide ((c15a x x_1).2.2.1 > (65535 : Int)) || !decide ((c15a x x_1).1 = (6 : Int)) && (!decide ((c15a x x_1).1 = (4 : Int)) || !Ty.eqb (Ty.cons (Ty.int
 IntKind.i8) (Ty.cons (Ty.arr (8 : Nat) (Ty.int IntKind.u16)) (Ty.cons (Ty.int IntKind.i64) Ty.unit))) (c15a x x_1) ((c15a x x_1).1, ((c15a x x_1).2.1.1, (c15a x x_1).2.1.2.1, (0 : Int), (0 : Int), (0 : Int), (0 : Int),
 (0 : Int), (0 : Int), ()), (c15a x x_1).2.2))) ((false, ()) = (Go.Ad.mayA x.1, ())) (Wr (MayI x.1 (IntKind.wrap IntKind.i64 (x_1 + (1 : Int)))) ∧ Wr (List.length x.1 - Int.toNat (IntKind.wrap IntKind.i64 (x_1 + (1 :
 Int))) < List.length x.1 - Int.toNat x_1) ∧ Wr (IntKind.wrap IntKind.i64 (x_1 + (1 : Int)) = IntKind.wrap IntKind.i64 (x_1 + (1 : Int))) ∧ Wr (x.1 = x.1) ∧ Wr (x.1 = x.1) ∧ Wr ((↑(List.length x.1) : Int) = (↑(List.length
 x.1) : Int)))) ((true, ()) = (Go.Ad.mayA x.1, ()))) := by kernel_rfl
abbrev c53e (x_1 : Int × Int × Int × Int) := (IntKind.wrap IntKind.i64 (x_1.1 + (1 : Int)))
abbrev c53a (x_1 : Int × Int × Int × Int) := ((8 : Nat) - Int.toNat (c53e x_1) < (8 : Nat) - Int.toNat x_1.1)
abbrev c53b (x_1 : Int × Int × Int × Int) := (IntKind.wrap IntKind.i64 (x_1.1 + (1 : Int)) = IntKind.wrap IntKind.i64 (x_1.1 + (1 : Int)))
abbrev c53c (x_1 : Int × Int × Int × Int) := (IntKind.wrap IntKind.i64 (x_1.2.1 + (1 : Int)) = IntKind.wrap IntKind.i64 (x_1.2.1 + (1 : Int)))
abbrev c53d (x_1 : Int × Int × Int × Int) := (IntKind.wrap IntKind.i64 (x_1.1 + (1 : Int)) - IntKind.wrap IntKind.i64 (x_1.2.1 + (1 : Int)))
abbrev c53f (x_1 : Int × Int × Int × Int) := (IntKind.wrap IntKind.i64 (x_1.1 + (1 : Int)) - (0 : Int))
theorem v53_eq : vcFn g53 300 Tryd.f53 cLong = (∀ (x : (Int × Int × Int × Int × Int × Int × Int × Int × Unit) × Unit), Wr (true = true) → (Wr (LongI x.1 (0 : Int) (0 : Int) (0 : Int) (0 : Int)) ∧ Wr (x.1 = x.1) ∧ Wr ((0 : Int) = (0 : Int)) ∧ Wr ((0 : Int) = (0 : Int))
 ∧ Wr ((0 : Int) = (0 : Int)) ∧ Wr ((0 : Int) = (0 : Int))) ∧ ∀ (x_1 : Int × Int × Int × Int), Wr (LongI x.1 x_1.1 x_1.2.1 x_1.2.2.1 x_1.2.2.2) → bcase (decide (x_1.1 < (8 : Int))) (Wr ((0 : Int) ≤ x_1.1) ∧ Wr (x_1.1 <
 (↑(8 : Nat) : Int)) ∧ bcase (!decide (List.getD (x.1.1 :: x.1.2.1 :: x.1.2.2.1 :: x.1.2.2.2.1 :: x.1.2.2.2.2.1 :: x.1.2.2.2.2.2.1 :: x.1.2.2.2.2.2.2.1 :: x.1.2.2.2.2.2.2.2.1 :: nilL Int) (Int.toNat x_1.1) (0 : Int) = (0
 : Int))) (bcase (decide ((0 : Int) > Max.max x_1.2.2.2 (1 : Int))) (Wr (LongI x.1 (c53e x_1) (0 : Int) (IntKind.wrap IntKind.i64 (c53f x_1)) (0 : Int)) ∧ Wr (c53a x_1) ∧ Wr (x.1 = x.1) ∧ Wr (c53b x_1) ∧ Wr ((0 : Int) =
 (0 : Int)) ∧ Wr (IntKind.wrap IntKind.i64 (c53f x_1) = IntKind.wrap IntKind.i64 (c53f x_1)) ∧ Wr ((0 : Int) = (0 : Int))) (Wr (LongI x.1 (c53e x_1) (0 : Int) x_1.2.2.1 x_1.2.2.2) ∧ Wr (c53a x_1) ∧ Wr (x.1 = x.1) ∧ Wr
 (c53b x_1) ∧ Wr ((0 : Int) = (0 : Int)) ∧ Wr (x_1.2.2.1 = x_1.2.2.1) ∧ Wr (x_1.2.2.2 = x_1.2.2.2))) (bcase (decide (IntKind.wrap IntKind.i64 (x_1.2.1 + (1 : Int)) > Max.max x_1.2.2.2 (1 : Int))) (Wr (LongI x.1 (c53e x_1)
 (IntKind.wrap IntKind.i64 (x_1.2.1 + (1 : Int))) (IntKind.wrap IntKind.i64 (c53d x_1)) (IntKind.wrap IntKind.i64 (x_1.2.1 + (1 : Int)))) ∧ Wr (c53a x_1) ∧ Wr (x.1 = x.1) ∧ Wr (c53b x_1) ∧ Wr (c53c x_1) ∧ Wr (IntKind.wrap
 IntKind.i64 (c53d x_1) = IntKind.wrap IntKind.i64 (c53d x_1)) ∧ Wr (c53c x_1)) (Wr (LongI x.1 (c53e x_1) (IntKind.wrap IntKind.i64 (x_1.2.1 + (1 : Int))) x_1.2.2.1 x_1.2.2.2) ∧ Wr (c53a x_1) ∧ Wr (x.1 = x.1) ∧ Wr (c53b
 x_1) ∧ Wr (c53c x_1) ∧ Wr (x_1.2.2.1 = x_1.2.2.1) ∧ Wr (x_1.2.2.2 = x_1.2.2.2)))) ((x_1.2.2.1, x_1.2.2.2, ()) = (Go.Ad.long1 x.1, Go.Ad.long2 x.1, ()))) := by kernel_rfl
abbrev c54a := (ByteArray.mk (List.toArray ((48 : UInt8) :: (49 : UInt8) :: (50 : UInt8) :: (51 : UInt8) :: (52 : UInt8) :: (53 : UInt8) :: (54 : UInt8) :: (55 : UInt8) :: (56 : UInt8) :: (57 : UInt8) :: (97 : UInt8) ::
 (98 : UInt8) :: (99 : UInt8) :: (100 : UInt8) :: (101 : UInt8) :: (102 : UInt8) :: (103 : UInt8) :: (104 : UInt8) :: (105 : UInt8) :: (106 : UInt8) :: (107 : UInt8) :: (108 : UInt8) :: (109 : UInt8) :: (110 : UInt8) ::
 (111 : UInt8) :: (112 : UInt8) :: (113 : UInt8) :: (114 : UInt8) :: (115 : UInt8) :: (116 : UInt8) :: (117 : UInt8) :: (118 : UInt8) :: (119 : UInt8) :: (120 : UInt8) :: (121 : UInt8) :: (122 : UInt8) :: nilL UInt8)))
abbrev c54D := (↑(ByteArray.size c54a) : Int)
abbrev c54t (x_2 : Int × Int × List Int) := ((0 : Int) ≤ IntKind.wrap IntKind.i64 (x_2.2.1 - (1 : Int)))
abbrev c54z (x_2 : Int × Int × List Int) := (IntKind.wrap IntKind.i64 (x_2.2.1 - (1 : Int)) < (↑(65 : Nat) : Int))
abbrev c54g (x : List Int × Unit) (x_1 : List ByteArray × Int) := (List.getD x.1 (Int.toNat x_1.2) (0 : Int))
abbrev c54k (x : List Int × Unit) (x_1 : List ByteArray × Int) := (IntKind.wrap IntKind.i64 (c54g x x_1) < (0 : Int))
abbrev c54u (x_2 : Int × Int × List Int) := (IntKind.wrap IntKind.i64 (x_2.2.1 - (1 : Int)))
abbrev c54d (x_2 : Int × Int × List Int) := (Int.toNat (c54u x_2))
abbrev c54q (x_2 : Int × Int × List Int) := (List.set x_2.2.2 (c54d x_2) (byteAt c54a (Int.toNat x_2.1)))
abbrev c54m (x_2 : Int × Int × List Int) := (IntKind.wrap IntKind.i64 (x_2.2.1 - (1 : Int)) - (1 : Int))
abbrev c54c (x_2 : Int × Int × List Int) := (List.drop (Int.toNat (IntKind.wrap IntKind.i64 (c54m x_2))) (List.take (Int.toNat (↑(65 : Nat) : Int)) (List.set (c54q x_2) (Int.toNat (IntKind.wrap IntKind.i64 (c54m x_2)))
 (45 : Int))))
abbrev c54A (x_1 : List ByteArray × Int) := (IntKind.wrap IntKind.i64 (x_1.2 + (1 : Int)))
abbrev c54v (x : List Int × Unit) := (↑(List.length x.1) : Int)
abbrev c54i (x_2 : Int × Int × List Int) := (List.drop (c54d x_2) (List.take (Int.toNat (↑(65 : Nat) : Int)) (c54q x_2)))
abbrev c54b (x : List Int × Unit) (x_1 : List ByteArray × Int) (x_2 : Int × Int × List Int) := (Wr ((0 : Int) ≤ x_2.1) ∧ Wr (x_2.1 < c54D) ∧ Wr (List.length x_2.2.2 = (65 : Nat)) ∧ Wr (c54t x_2) ∧ Wr (c54z x_2) ∧ bcase
 (decide (c54k x x_1)) (Wr (List.length (c54q x_2) = (65 : Nat)) ∧ Wr ((0 : Int) ≤ IntKind.wrap IntKind.i64 (c54m x_2)) ∧ Wr (IntKind.wrap IntKind.i64 (c54m x_2) < (↑(65 : Nat) : Int)) ∧ Wr ((0 : Int) ≤ IntKind.wrap
 IntKind.i64 (c54m x_2)) ∧ Wr (IntKind.wrap IntKind.i64 (c54m x_2) ≤ (↑(65 : Nat) : Int)) ∧ Wr ((↑(65 : Nat) : Int) ≤ (↑(65 : Nat) : Int)) ∧ Wr (List.length (List.set (c54q x_2) (Int.toNat (IntKind.wrap IntKind.i64 (c54m
 x_2))) (45 : Int)) = (65 : Nat)) ∧ Wr (List.length (c54c x_2) ≤ Go.maxLen) ∧ Wr ((List.length x_1.1 + List.length (strI (c54c x_2) :: nilL ByteArray)) * (16 : Nat) ≤ (140737488355328 : Nat)) ∧ Wr (MapI Go.Ad.hexS x.1
 (x_1.1 ++ strI (c54c x_2) :: nilL ByteArray) (c54A x_1)) ∧ Wr (List.length x.1 - Int.toNat (c54A x_1) < List.length x.1 - Int.toNat x_1.2) ∧ Wr (IntKind.wrap IntKind.i64 (x_1.2 + (1 : Int)) = IntKind.wrap IntKind.i64
 (x_1.2 + (1 : Int))) ∧ Wr (x.1 = x.1) ∧ Wr (x.1 = x.1) ∧ Wr ((c54v x) = (c54v x)) ∧ Wr (x_1.1 ++ strI (c54c x_2) :: nilL ByteArray = x_1.1 ++ strI (c54c x_2) :: nilL ByteArray)) (Wr (c54t x_2) ∧ Wr (IntKind.wrap
 IntKind.i64 (x_2.2.1 - (1 : Int)) ≤ (↑(65 : Nat) : Int)) ∧ Wr ((↑(65 : Nat) : Int) ≤ (↑(65 : Nat) : Int)) ∧ Wr (List.length (c54q x_2) = (65 : Nat)) ∧ Wr (List.length (c54i x_2) ≤ Go.maxLen) ∧ Wr ((List.length x_1.1 +
 List.length (strI (c54i x_2) :: nilL ByteArray)) * (16 : Nat) ≤ (140737488355328 : Nat)) ∧ Wr (MapI Go.Ad.hexS x.1 (x_1.1 ++ strI (c54i x_2) :: nilL ByteArray) (c54A x_1)) ∧ Wr (List.length x.1 - Int.toNat (c54A x_1) <
 List.length x.1 - Int.toNat x_1.2) ∧ Wr (IntKind.wrap IntKind.i64 (x_1.2 + (1 : Int)) = IntKind.wrap IntKind.i64 (x_1.2 + (1 : Int))) ∧ Wr (x.1 = x.1) ∧ Wr (x.1 = x.1) ∧ Wr ((c54v x) = (c54v x)) ∧ Wr (x_1.1 ++ strI (c54i
 x_2) :: nilL ByteArray = x_1.1 ++ strI (c54i x_2) :: nilL ByteArray)))
abbrev c54e := (IntKind.wrap IntKind.u64 (16 : Int) - (1 : Int))
abbrev c54r := (ctzZ (IntKind.wrap IntKind.u64 (16 : Int)))
abbrev c54f := ((2 : Int) ^ Min.min (Int.toNat (IntKind.wrap IntKind.u64 c54r)) (IntKind.bits IntKind.u64))
abbrev c54w := (IntKind.wrap IntKind.u64 c54e)
abbrev c54h (x_2 : Int × Int × List Int) := (byteAt c54a (Int.toNat (andI IntKind.u64 x_2.1 c54w)))
abbrev c54j := (IntKind.wrap IntKind.u64 c54r = IntKind.wrap IntKind.u64 c54r)
abbrev c54x (x : List Int × Unit) (x_1 : List ByteArray × Int) := (IntKind.wrap IntKind.i64 (c54g x x_1))
abbrev c54l (x : List Int × Unit) (x_1 : List ByteArray × Int) := ((0 : Int) - IntKind.wrap IntKind.u64 (c54x x x_1))
abbrev c54n := (ByteArray.mk (List.toArray (nilL UInt8)) = ByteArray.mk (List.toArray (nilL UInt8)))
abbrev c54o := (IntKind.wrap IntKind.u64 (16 : Int) = IntKind.wrap IntKind.u64 (16 : Int))
abbrev c54p := (IntKind.wrap IntKind.u64 c54e = IntKind.wrap IntKind.u64 c54e)
abbrev c54s := ((decide ((0 : Int) ≤ IntKind.wrap IntKind.u64 (16 : Int)) && decide (IntKind.wrap IntKind.u64 (16 : Int) < (18446744073709551616 : Int))) = true)
abbrev c54y := (List.replicate (65 : Nat) (0 : Int))
abbrev c54B := (List.replicate (65 : Nat) (0 : Int) = List.replicate (65 : Nat) (0 : Int))
abbrev c54C := ((16 : Int) = (16 : Int))
abbrev c54E (x_2 : Int × Int × List Int) := (List.set x_2.2.2 (c54d x_2) (c54h x_2))
abbrev c54F := (ByteArray.mk (List.toArray ((58 : UInt8) :: nilL UInt8)))
abbrev c54G (x_2 : Int × Int × List Int) := (IntKind.wrap IntKind.i64 (x_2.2.1 - (1 : Int)) = IntKind.wrap IntKind.i64 (x_2.2.1 - (1 : Int)))
theorem v54_eq : vcFn g54 300 Tryd.f54 cHexes.T = (∀ (x : List Int × Unit), Wr (typedB (Ty.cons (Ty.sl U16) Ty.unit) x = true ∧ decide (List.length x.1 ≤ (8 : Nat)) = true) → (Wr (MapI Go.Ad.hexS x.1 (nilL ByteArray) (0 : Int)) ∧ Wr ((0 : Int) = (0 : Int)) ∧ Wr (x.1 =
 x.1) ∧ Wr (x.1 = x.1) ∧ Wr ((c54v x) = (c54v x)) ∧ Wr (nilL ByteArray = nilL ByteArray)) ∧ ∀ (x_1 : List ByteArray × Int), Wr (MapI Go.Ad.hexS x.1 x_1.1 x_1.2) → bcase (decide (x_1.2 < (c54v x))) (Wr ((0 : Int) ≤ x_1.2)
 ∧ Wr (x_1.2 < (c54v x)) ∧ Wr (true = true) ∧ bcase (decide (c54k x x_1)) (Wr c54s ∧ (Wr (BitsI (IntKind.wrap IntKind.u64 (c54l x x_1)) (IntKind.wrap IntKind.u64 (c54l x x_1)) (65 : Int) c54y) ∧ Wr (IntKind.wrap
 IntKind.u64 (c54l x x_1) = IntKind.wrap IntKind.u64 (c54l x x_1)) ∧ Wr ((65 : Int) = (65 : Int)) ∧ Wr ((0 : Nat) < List.length c54y) ∧ Wr c54C ∧ Wr (decide (c54k x x_1) = decide (c54k x x_1)) ∧ Wr (false = false) ∧ Wr
 c54n ∧ Wr c54j ∧ Wr c54o ∧ Wr c54p ∧ Wr c54B ∧ Wr (x_1.1 = x_1.1)) ∧ ∀ (x_2 : Int × Int × List Int), Wr (BitsI (IntKind.wrap IntKind.u64 (c54l x x_1)) x_2.1 x_2.2.1 x_2.2.2) → bcase (decide (x_2.1 ≥ IntKind.wrap
 IntKind.u64 (16 : Int))) (Wr ((0 : Int) ≤ andI IntKind.u64 x_2.1 c54w) ∧ Wr (andI IntKind.u64 x_2.1 c54w < c54D) ∧ Wr (List.length x_2.2.2 = (65 : Nat)) ∧ Wr (c54t x_2) ∧ Wr (c54z x_2) ∧ Wr ((0 : Int) ≤ IntKind.wrap
 IntKind.u64 c54r) ∧ Wr (BitsI (IntKind.wrap IntKind.u64 (c54l x x_1)) (Int.fdiv x_2.1 c54f) (c54u x_2) (c54E x_2)) ∧ Wr (Int.toNat (c54u x_2) < Int.toNat x_2.2.1) ∧ Wr (Int.fdiv x_2.1 c54f = Int.fdiv x_2.1 c54f) ∧ Wr
 (c54G x_2) ∧ Wr ((0 : Nat) < List.length (c54E x_2)) ∧ Wr c54C ∧ Wr (decide (c54k x x_1) = decide (c54k x x_1)) ∧ Wr (false = false) ∧ Wr c54n ∧ Wr c54j ∧ Wr c54o ∧ Wr c54p ∧ Wr (List.set x_2.2.2 (c54d x_2) (c54h x_2) =
 List.set x_2.2.2 (c54d x_2) (c54h x_2)) ∧ Wr (x_1.1 = x_1.1)) (c54b x x_1 x_2)) (Wr c54s ∧ (Wr (BitsI (IntKind.wrap IntKind.u64 (c54x x x_1)) (IntKind.wrap IntKind.u64 (c54x x x_1)) (65 : Int) c54y) ∧ Wr (IntKind.wrap
 IntKind.u64 (c54x x x_1) = IntKind.wrap IntKind.u64 (c54x x x_1)) ∧ Wr ((65 : Int) = (65 : Int)) ∧ Wr ((0 : Nat) < List.length c54y) ∧ Wr c54C ∧ Wr (decide (c54k x x_1) = decide (c54k x x_1)) ∧ Wr (false = false) ∧ Wr
 c54n ∧ Wr c54j ∧ Wr c54o ∧ Wr c54p ∧ Wr c54B ∧ Wr (x_1.1 = x_1.1)) ∧ ∀ (x_2 : Int × Int × List Int), Wr (BitsI (IntKind.wrap IntKind.u64 (c54x x x_1)) x_2.1 x_2.2.1 x_2.2.2) → bcase (decide (x_2.1 ≥ IntKind.wrap
 IntKind.u64 (16 : Int))) (Wr ((0 : Int) ≤ andI IntKind.u64 x_2.1 c54w) ∧ Wr (andI IntKind.u64 x_2.1 c54w < c54D) ∧ Wr (List.length x_2.2.2 = (65 : Nat)) ∧ Wr (c54t x_2) ∧ Wr (c54z x_2) ∧ Wr ((0 : Int) ≤ IntKind.wrap
 IntKind.u64 c54r) ∧ Wr (BitsI (IntKind.wrap IntKind.u64 (c54x x x_1)) (Int.fdiv x_2.1 c54f) (c54u x_2) (c54E x_2)) ∧ Wr (Int.toNat (c54u x_2) < Int.toNat x_2.2.1) ∧ Wr (Int.fdiv x_2.1 c54f = Int.fdiv x_2.1 c54f) ∧ Wr
 (c54G x_2) ∧ Wr ((0 : Nat) < List.length (c54E x_2)) ∧ Wr c54C ∧ Wr (decide (c54k x x_1) = decide (c54k x x_1)) ∧ Wr (false = false) ∧ Wr c54n ∧ Wr c54j ∧ Wr c54o ∧ Wr c54p ∧ Wr (List.set x_2.2.2 (c54d x_2) (c54h x_2) =
 List.set x_2.2.2 (c54d x_2) (c54h x_2)) ∧ Wr (x_1.1 = x_1.1)) (c54b x x_1 x_2))) (Wr ((decide (List.length x_1.1 ≤ (100000 : Nat)) && decide (List.length (joinL x_1.1 c54F) ≤ (4000000000 : Nat))) = true) ∧ (joinS x_1.1
 c54F, ()) = (Go.Ad.hexes x.1, ()))) := by kernel_rfl
abbrev c17a (x : (Int × (Int × Int × Int × Int × Int × Int × Int × Int × Unit) × Int × Unit) × Unit) := (x.1.2.1.1 :: x.1.2.1.2.1 :: x.1.2.1.2.2.1 :: x.1.2.1.2.2.2.1 :: x.1.2.1.2.2.2.2.1 :: x.1.2.1.2.2.2.2.2.1 ::
 x.1.2.1.2.2.2.2.2.2.1 :: x.1.2.1.2.2.2.2.2.2.2.1 :: nilL Int)
abbrev c17e (x : (Int × (Int × Int × Int × Int × Int × Int × Int × Int × Unit) × Int × Unit) × Unit) := (List.getD (c17a x) (Int.toNat (0 : Int) + Int.toNat (0 : Int)) (0 : Int))
abbrev c17d := ((2 : Int) ^ Min.min (Int.toNat (8 : Int)) (IntKind.bits IntKind.u16))
abbrev c17c (x : (Int × (Int × Int × Int × Int × Int × Int × Int × Int × Unit) × Int × Unit) × Unit) := (List.getD (c17a x) (Int.toNat (0 : Int) + Int.toNat (IntKind.wrap IntKind.i64 ((0 : Int) + (1 : Int)))) (0 : Int))
abbrev c17b (x : (Int × (Int × Int × Int × Int × Int × Int × Int × Int × Unit) × Int × Unit) × Unit) := (Go.Lb.digS (IntKind.wrap IntKind.i64 (Int.fdiv (c17e x) c17d)) :: Go.Lb.digS (IntKind.wrap IntKind.i64 (andI
 IntKind.u16 (c17e x) (255 : Int))) :: nilL ByteArray ++ Go.Lb.digS (IntKind.wrap IntKind.i64 (Int.fdiv (c17c x) c17d)) :: Go.Lb.digS (IntKind.wrap IntKind.i64 (andI IntKind.u16 (c17c x) (255 : Int))) :: nilL ByteArray)
abbrev c17f (x : (Int × (Int × Int × Int × Int × Int × Int × Int × Int × Unit) × Int × Unit) × Unit) := (List.drop (Int.toNat (IntKind.wrap IntKind.i64 (Go.Ad.long1 x.1.2.1 + Go.Ad.long2 x.1.2.1))) (List.take (Int.toNat
 (↑(8 : Nat) : Int)) (c17a x)))
abbrev c17g (x : (Int × (Int × Int × Int × Int × Int × Int × Int × Int × Unit) × Int × Unit) × Unit) := (List.drop (Int.toNat (0 : Int)) (List.take (Int.toNat (Go.Ad.long1 x.1.2.1)) (c17a x)))
abbrev c17h := (List.toArray ((91 : UInt8) :: nilL UInt8))
abbrev c17i (x : (Int × (Int × Int × Int × Int × Int × Int × Int × Int × Unit) × Int × Unit) × Unit) := (ByteArray.mk (List.toArray ((58 : UInt8) :: nilL UInt8)) ++ Go.Lb.digS x.1.2.2.1)
abbrev c17j (x : (Int × (Int × Int × Int × Int × Int × Int × Int × Int × Unit) × Int × Unit) × Unit) := (List.drop (Int.toNat (0 : Int)) (List.take (Int.toNat (↑(8 : Nat) : Int)) (c17a x)))
abbrev c17k := (List.toArray ((58 : UInt8) :: (58 : UInt8) :: nilL UInt8))
abbrev c17l := (List.toArray ((93 : UInt8) :: nilL UInt8))
abbrev c17m := (Int × (Int × Int × Int × Int × Int × Int × Int × Int × Unit) × Int × Unit)
abbrev c17n := (ByteArray.mk (List.toArray ((46 : UInt8) :: nilL UInt8)))
abbrev c17o (x : (Int × (Int × Int × Int × Int × Int × Int × Int × Int × Unit) × Int × Unit) × Unit) := (Go.Lb.digS (IntKind.wrap IntKind.i64 (Int.fdiv (c17e x) c17d)) :: Go.Lb.digS (IntKind.wrap IntKind.i64 (andI
 IntKind.u16 (c17e x) (255 : Int))) :: nilL ByteArray)
theorem v17_eq : vcFn g17 300 Tryd.f17 cText.T = (∀ (x : c17m × Unit), Wr (typedB (Ty.cons AdT Ty.unit) x = true ∧ true = true) → Wr (lenA (x.1 :: nilL c17m) = true) ∧ bcase (!Go.Ad.mayA (x.1 :: nilL c17m)) ((ByteArray.mk (List.toArray (nilL UInt8)), (20 : Int), ()) =
 (Go.Ad.text1 x.1, Go.Ad.text2 x.1, ())) (Wr ((decide ((0 : Int) ≤ x.1.2.2.1) && decide (x.1.2.2.1 ≤ (65535 : Int))) = true) ∧ Wr (ByteArray.size (ByteArray.mk (List.toArray ((58 : UInt8) :: nilL UInt8))) + ByteArray.size
 (Go.Lb.digS x.1.2.2.1) ≤ Go.maxLen) ∧ bcase (decide (x.1.1 = (4 : Int))) (Wr ((0 : Int) ≤ (0 : Int)) ∧ Wr ((0 : Int) ≤ (2 : Int)) ∧ Wr ((2 : Int) ≤ (↑(8 : Nat) : Int)) ∧ Wr ((0 : Int) ≤ (0 : Int)) ∧ Wr ((0 : Int) <
 (↑(Int.toNat (2 : Int) - Int.toNat (0 : Int)) : Int)) ∧ Wr ((0 : Int) ≤ (8 : Int)) ∧ Wr ((decide ((0 : Int) ≤ IntKind.wrap IntKind.i64 (Int.fdiv (c17e x) c17d)) && decide (IntKind.wrap IntKind.i64 (Int.fdiv (c17e x)
 c17d) ≤ (65535 : Int))) = true) ∧ Wr ((decide ((0 : Int) ≤ IntKind.wrap IntKind.i64 (andI IntKind.u16 (c17e x) (255 : Int))) && decide (IntKind.wrap IntKind.i64 (andI IntKind.u16 (c17e x) (255 : Int)) ≤ (65535 : Int))) =
 true) ∧ Wr (List.length (c17o x) * (16 : Nat) ≤ (140737488355328 : Nat)) ∧ Wr ((0 : Int) ≤ IntKind.wrap IntKind.i64 ((0 : Int) + (1 : Int))) ∧ Wr (IntKind.wrap IntKind.i64 ((0 : Int) + (1 : Int)) < (↑(Int.toNat (2 : Int)
 - Int.toNat (0 : Int)) : Int)) ∧ Wr ((0 : Int) ≤ (8 : Int)) ∧ Wr ((decide ((0 : Int) ≤ IntKind.wrap IntKind.i64 (Int.fdiv (c17c x) c17d)) && decide (IntKind.wrap IntKind.i64 (Int.fdiv (c17c x) c17d) ≤ (65535 : Int))) =
 true) ∧ Wr ((decide ((0 : Int) ≤ IntKind.wrap IntKind.i64 (andI IntKind.u16 (c17c x) (255 : Int))) && decide (IntKind.wrap IntKind.i64 (andI IntKind.u16 (c17c x) (255 : Int)) ≤ (65535 : Int))) = true) ∧ Wr ((List.length
 (c17o x) + List.length (Go.Lb.digS (IntKind.wrap IntKind.i64 (Int.fdiv (c17c x) c17d)) :: Go.Lb.digS (IntKind.wrap IntKind.i64 (andI IntKind.u16 (c17c x) (255 : Int))) :: nilL ByteArray)) * (16 : Nat) ≤ (140737488355328
 : Nat)) ∧ Wr ((decide (List.length (c17b x) ≤ (100000 : Nat)) && decide (List.length (joinL (c17b x) c17n) ≤ (4000000000 : Nat))) = true) ∧ Wr (ByteArray.size (joinS (c17b x) c17n) + ByteArray.size (c17i x) ≤ Go.maxLen)
 ∧ (joinS (c17b x) c17n ++ (c17i x), (0 : Int), ()) = (Go.Ad.text1 x.1, Go.Ad.text2 x.1, ())) (Wr (true = true) ∧ bcase (decide (Go.Ad.long2 x.1.2.1 = (0 : Int))) (Wr ((0 : Int) ≤ (0 : Int)) ∧ Wr ((0 : Int) ≤ (↑(8 : Nat)
 : Int)) ∧ Wr ((↑(8 : Nat) : Int) ≤ (↑(8 : Nat) : Int)) ∧ Wr (decide (List.length (c17j x) ≤ (8 : Nat)) = true) ∧ Wr (ByteArray.size (ByteArray.mk c17h) + ByteArray.size (Go.Ad.hexes (c17j x)) ≤ Go.maxLen) ∧ Wr
 (ByteArray.size (ByteArray.mk c17h ++ Go.Ad.hexes (c17j x)) + ByteArray.size (ByteArray.mk c17l) ≤ Go.maxLen) ∧ Wr (ByteArray.size (ByteArray.mk c17h ++ Go.Ad.hexes (c17j x) ++ ByteArray.mk c17l) + ByteArray.size (c17i
 x) ≤ Go.maxLen) ∧ (ByteArray.mk c17h ++ Go.Ad.hexes (c17j x) ++ ByteArray.mk c17l ++ (c17i x), (0 : Int), ()) = (Go.Ad.text1 x.1, Go.Ad.text2 x.1, ())) (Wr ((0 : Int) ≤ (0 : Int)) ∧ Wr ((0 : Int) ≤ Go.Ad.long1 x.1.2.1) ∧
 Wr (Go.Ad.long1 x.1.2.1 ≤ (↑(8 : Nat) : Int)) ∧ Wr (decide (List.length (c17g x) ≤ (8 : Nat)) = true) ∧ Wr (ByteArray.size (ByteArray.mk c17h) + ByteArray.size (Go.Ad.hexes (c17g x)) ≤ Go.maxLen) ∧ Wr (ByteArray.size
 (ByteArray.mk c17h ++ Go.Ad.hexes (c17g x)) + ByteArray.size (ByteArray.mk c17k) ≤ Go.maxLen) ∧ Wr ((0 : Int) ≤ IntKind.wrap IntKind.i64 (Go.Ad.long1 x.1.2.1 + Go.Ad.long2 x.1.2.1)) ∧ Wr (IntKind.wrap IntKind.i64
 (Go.Ad.long1 x.1.2.1 + Go.Ad.long2 x.1.2.1) ≤ (↑(8 : Nat) : Int)) ∧ Wr ((↑(8 : Nat) : Int) ≤ (↑(8 : Nat) : Int)) ∧ Wr (decide (List.length (c17f x) ≤ (8 : Nat)) = true) ∧ Wr (ByteArray.size (ByteArray.mk c17h ++
 Go.Ad.hexes (c17g x) ++ ByteArray.mk c17k) + ByteArray.size (Go.Ad.hexes (c17f x)) ≤ Go.maxLen) ∧ Wr (ByteArray.size (ByteArray.mk c17h ++ Go.Ad.hexes (c17g x) ++ ByteArray.mk c17k ++ Go.Ad.hexes (c17f x)) +
 ByteArray.size (ByteArray.mk c17l) ≤ Go.maxLen) ∧ Wr (ByteArray.size (ByteArray.mk c17h ++ Go.Ad.hexes (c17g x) ++ ByteArray.mk c17k ++ Go.Ad.hexes (c17f x) ++ ByteArray.mk c17l) + ByteArray.size (c17i x) ≤ Go.maxLen) ∧
 (ByteArray.mk c17h ++ Go.Ad.hexes (c17g x) ++ ByteArray.mk c17k ++ Go.Ad.hexes (c17f x) ++ ByteArray.mk c17l ++ (c17i x), (0 : Int), ()) = (Go.Ad.text1 x.1, Go.Ad.text2 x.1, ()))))) := by kernel_rfl
abbrev c56a (x : ByteArray × Int × Unit) (x_1 : Int × Nat) := (IntKind.wrap IntKind.i64 ((10 : Int) * x_1.1) + IntKind.wrap IntKind.i64 (IntKind.wrap IntKind.i32 (runeAt x.1 x_1.2 - (48 : Int))))
abbrev c56b (x : ByteArray × Int × Unit) := (!(decide (x.1 = ByteArray.mk (List.toArray (nilL UInt8))) || decide ((↑(ByteArray.size x.1) : Int) > (5 : Int))))
theorem v56_eq : vcFn g56 300 Tryd.f56 cNum = (∀ (x : ByteArray × Int × Unit), Wr (szOk x.1 = true) → Wr ((c56b x) = true → (0 : Int) ≤ (0 : Int)) ∧ Wr ((c56b x) = true → (0 : Int) < (↑(ByteArray.size x.1) : Int)) ∧ bcase (decide (x.1 = ByteArray.mk (List.toArray
 (nilL UInt8))) || decide ((↑(ByteArray.size x.1) : Int) > (5 : Int)) || decide (byteAt x.1 (Int.toNat (0 : Int)) = (48 : Int)) && !decide (x.1 = ByteArray.mk (List.toArray ((48 : UInt8) :: nilL UInt8)))) (((0 : Int),
 false, ()) = (Go.Ad.num1 x.1 x.2.1, Go.Ad.num2 x.1 x.2.1, ())) ((Wr (NumI x.1 (0 : Int) (0 : Nat)) ∧ Wr ((0 : Int) = (0 : Int)) ∧ Wr (x.1 = x.1) ∧ Wr (x.2.1 = x.2.1) ∧ Wr (x.1 = x.1) ∧ Wr ((0 : Nat) = (0 : Nat))) ∧ ∀
 (x_1 : Int × Nat), Wr (NumI x.1 x_1.1 x_1.2) → bcase (decide (x_1.2 < ByteArray.size x.1)) (bcase (decide (runeAt x.1 x_1.2 < (48 : Int)) || decide (runeAt x.1 x_1.2 > (57 : Int))) (((0 : Int), false, ()) = (Go.Ad.num1
 x.1 x.2.1, Go.Ad.num2 x.1 x.2.1, ())) (Wr (NumI x.1 (IntKind.wrap IntKind.i64 (c56a x x_1)) (nextP x.1 x_1.2)) ∧ Wr (ByteArray.size x.1 - nextP x.1 x_1.2 < ByteArray.size x.1 - x_1.2) ∧ Wr (IntKind.wrap IntKind.i64 (c56a
 x x_1) = IntKind.wrap IntKind.i64 (c56a x x_1)) ∧ Wr (x.1 = x.1) ∧ Wr (x.2.1 = x.2.1) ∧ Wr (x.1 = x.1) ∧ Wr (nextP x.1 x_1.2 = nextP x.1 x_1.2))) ((x_1.1, decide (x_1.1 ≤ x.2.1), ()) = (Go.Ad.num1 x.1 x.2.1, Go.Ad.num2
 x.1 x.2.1, ())))) := by kernel_rfl
abbrev c105a (x_1 : Int × Nat) := (IntKind.wrap IntKind.i32 (x_1.1 * (2 : Int) ^ Min.min (Int.toNat (4 : Int)) (IntKind.bits IntKind.i32)))
abbrev c105b (x : ByteArray × Unit) (x_1 : Int × Nat) := (IntKind.wrap IntKind.i32 (IntKind.wrap IntKind.i32 (runeAt x.1 x_1.2 - (97 : Int)) + (10 : Int)))
abbrev c105c (x : ByteArray × Unit) (x_1 : Int × Nat) := (IntKind.wrap IntKind.i32 (IntKind.wrap IntKind.i32 (runeAt x.1 x_1.2 - (65 : Int)) + (10 : Int)))
abbrev c105d (x : ByteArray × Unit) := (((0 : Int), false, ()) = (Go.Ad.grp1 x.1, Go.Ad.grp2 x.1, ()))
abbrev c105e (x : ByteArray × Unit) (x_1 : Int × Nat) := (IntKind.wrap IntKind.i32 (runeAt x.1 x_1.2 - (48 : Int)))
abbrev c105f (x : ByteArray × Unit) (x_1 : Int × Nat) := (ByteArray.size x.1 - nextP x.1 x_1.2 < ByteArray.size x.1 - x_1.2)
theorem v105_eq : vcFn g105 300 Tryd.f105 cGrp = (∀ (x : ByteArray × Unit), Wr (szOk x.1 = true) → (Wr (GrpI x.1 (0 : Int) (0 : Nat)) ∧ Wr ((0 : Int) = (0 : Int)) ∧ Wr (x.1 = x.1) ∧ Wr (x.1 = x.1) ∧ Wr ((0 : Nat) = (0 : Nat))) ∧ ∀ (x_1 : Int × Nat), Wr (GrpI x.1 x_1.1
 x_1.2) → bcase (decide (x_1.2 < ByteArray.size x.1)) (bcase (decide ((48 : Int) ≤ runeAt x.1 x_1.2) && decide (runeAt x.1 x_1.2 ≤ (57 : Int))) (Wr ((0 : Int) ≤ (4 : Int)) ∧ bcase (decide (orI IntKind.i32 (c105a x_1)
 (c105e x x_1) > (65535 : Int))) (c105d x) (Wr (GrpI x.1 (orI IntKind.i32 (c105a x_1) (c105e x x_1)) (nextP x.1 x_1.2)) ∧ Wr (c105f x x_1) ∧ Wr (orI IntKind.i32 (c105a x_1) (c105e x x_1) = orI IntKind.i32 (c105a x_1)
 (c105e x x_1)) ∧ Wr (x.1 = x.1) ∧ Wr (x.1 = x.1) ∧ Wr (nextP x.1 x_1.2 = nextP x.1 x_1.2))) (bcase (decide ((97 : Int) ≤ runeAt x.1 x_1.2) && decide (runeAt x.1 x_1.2 ≤ (102 : Int))) (Wr ((0 : Int) ≤ (4 : Int)) ∧ bcase
 (decide (orI IntKind.i32 (c105a x_1) (c105b x x_1) > (65535 : Int))) (c105d x) (Wr (GrpI x.1 (orI IntKind.i32 (c105a x_1) (c105b x x_1)) (nextP x.1 x_1.2)) ∧ Wr (c105f x x_1) ∧ Wr (orI IntKind.i32 (c105a x_1) (c105b x
 x_1) = orI IntKind.i32 (c105a x_1) (c105b x x_1)) ∧ Wr (x.1 = x.1) ∧ Wr (x.1 = x.1) ∧ Wr (nextP x.1 x_1.2 = nextP x.1 x_1.2))) (bcase (decide ((65 : Int) ≤ runeAt x.1 x_1.2) && decide (runeAt x.1 x_1.2 ≤ (70 : Int))) (Wr
 ((0 : Int) ≤ (4 : Int)) ∧ bcase (decide (orI IntKind.i32 (c105a x_1) (c105c x x_1) > (65535 : Int))) (c105d x) (Wr (GrpI x.1 (orI IntKind.i32 (c105a x_1) (c105c x x_1)) (nextP x.1 x_1.2)) ∧ Wr (c105f x x_1) ∧ Wr (orI
 IntKind.i32 (c105a x_1) (c105c x x_1) = orI IntKind.i32 (c105a x_1) (c105c x x_1)) ∧ Wr (x.1 = x.1) ∧ Wr (x.1 = x.1) ∧ Wr (nextP x.1 x_1.2 = nextP x.1 x_1.2))) (c105d x)))) ((IntKind.wrap IntKind.u16 x_1.1, !decide (x.1
 = ByteArray.mk (List.toArray (nilL UInt8))) && decide ((↑(ByteArray.size x.1) : Int) ≤ (4 : Int)), ()) = (Go.Ad.grp1 x.1, Go.Ad.grp2 x.1, ()))) := by kernel_rfl
abbrev c85a := (ByteArray.mk (List.toArray ((58 : UInt8) :: nilL UInt8)))
abbrev c85b (x : ByteArray × Unit) (x_1 : List Int × Int) := (List.getD (Go.Lb.splitS x.1 c85a) (Int.toNat x_1.2) (Ty.zero Ty.str))
abbrev c85c (x : ByteArray × Unit) := (↑(List.length (Go.Lb.splitS x.1 c85a)) : Int)
theorem v85_eq : vcFn g85 300 Tryd.f85 cSide = (∀ (x : ByteArray × Unit), Wr (szOk x.1 = true) → bcase (decide (x.1 = ByteArray.mk (List.toArray (nilL UInt8)))) ((nilL Int, true, ()) = (Go.Ad.side1 x.1, Go.Ad.side2 x.1, ())) (Wr ((szOk x.1 && decide (ByteArray.size
 c85a = (1 : Nat))) = true) ∧ (Wr (GoI Go.Ad.grpO (Go.Lb.splitS x.1 c85a) (nilL Int) (0 : Int)) ∧ Wr ((0 : Int) = (0 : Int)) ∧ Wr (Go.Lb.splitS x.1 c85a = Go.Lb.splitS x.1 c85a) ∧ Wr ((c85c x) = (c85c x)) ∧ Wr (nilL Int =
 nilL Int)) ∧ ∀ (x_1 : List Int × Int), Wr (GoI Go.Ad.grpO (Go.Lb.splitS x.1 c85a) x_1.1 x_1.2) → bcase (decide (x_1.2 < (c85c x))) (Wr ((0 : Int) ≤ x_1.2) ∧ Wr (x_1.2 < (c85c x)) ∧ Wr (true = true) ∧ Wr (szOk (c85b x
 x_1) = true) ∧ bcase (!Go.Ad.grp2 (c85b x x_1)) ((nilL Int, false, ()) = (Go.Ad.side1 x.1, Go.Ad.side2 x.1, ())) (Wr ((List.length x_1.1 + List.length (Go.Ad.grp1 (c85b x x_1) :: nilL Int)) * (2 : Nat) ≤ (140737488355328
 : Nat)) ∧ Wr (GoI Go.Ad.grpO (Go.Lb.splitS x.1 c85a) (x_1.1 ++ Go.Ad.grp1 (c85b x x_1) :: nilL Int) (IntKind.wrap IntKind.i64 (x_1.2 + (1 : Int)))) ∧ Wr (List.length (Go.Lb.splitS x.1 c85a) - Int.toNat (IntKind.wrap
 IntKind.i64 (x_1.2 + (1 : Int))) < List.length (Go.Lb.splitS x.1 c85a) - Int.toNat x_1.2) ∧ Wr (IntKind.wrap IntKind.i64 (x_1.2 + (1 : Int)) = IntKind.wrap IntKind.i64 (x_1.2 + (1 : Int))) ∧ Wr (Go.Lb.splitS x.1 c85a =
 Go.Lb.splitS x.1 c85a) ∧ Wr ((c85c x) = (c85c x)) ∧ Wr (x_1.1 ++ Go.Ad.grp1 (c85b x x_1) :: nilL Int = x_1.1 ++ Go.Ad.grp1 (c85b x x_1) :: nilL Int))) ((x_1.1, true, ()) = (Go.Ad.side1 x.1, Go.Ad.side2 x.1, ())))) := by kernel_rfl
abbrev c57e (x_1 : (Int × Int × Int × Int × Int × Int × Int × Int × Unit) × Int) := (x_1.1.1 :: x_1.1.2.1 :: x_1.1.2.2.1 :: x_1.1.2.2.2.1 :: x_1.1.2.2.2.2.1 :: x_1.1.2.2.2.2.2.1 :: x_1.1.2.2.2.2.2.2.1 ::
 x_1.1.2.2.2.2.2.2.2.1 :: nilL Int)
abbrev c57b := (ByteArray.mk (List.toArray ((46 : UInt8) :: nilL UInt8)))
abbrev c57a (x : ByteArray × Unit) (x_1 : (Int × Int × Int × Int × Int × Int × Int × Int × Unit) × Int) := (List.set (c57e x_1) (Int.toNat (IntKind.wrap IntKind.i64 (Int.tdiv x_1.2 (2 : Int)))) (orI IntKind.u16
 (IntKind.wrap IntKind.u16 (List.getD (c57e x_1) (Int.toNat (IntKind.wrap IntKind.i64 (Int.tdiv x_1.2 (2 : Int)))) (0 : Int) * (2 : Int) ^ Min.min (Int.toNat (8 : Int)) (IntKind.bits IntKind.u16))) (IntKind.wrap
 IntKind.u16 (Go.Ad.num1 (List.getD (Go.Lb.splitS x.1 c57b) (Int.toNat x_1.2) (Ty.zero Ty.str)) (255 : Int)))))
abbrev c57c (x : ByteArray × Unit) := (↑(List.length (Go.Lb.splitS x.1 c57b)) : Int)
abbrev c57d := ((0 : Int), (0 : Int), (0 : Int), (0 : Int), (0 : Int), (0 : Int), (0 : Int), (0 : Int), ())
theorem v57_eq : vcFn g57 300 Tryd.f57 cFour = (∀ (x : ByteArray × Unit), Wr (szOk x.1 = true) → Wr ((szOk x.1 && decide (ByteArray.size c57b = (1 : Nat))) = true) ∧ bcase (!decide ((c57c x) = (4 : Int))) ((c57d, false, ()) = (Go.Ad.four1 x.1, Go.Ad.four2 x.1, ()))
 ((Wr (FourI (Go.Lb.splitS x.1 c57b) c57d (0 : Int)) ∧ Wr ((0 : Int) = (0 : Int)) ∧ Wr (Go.Lb.splitS x.1 c57b = Go.Lb.splitS x.1 c57b) ∧ Wr ((c57c x) = (c57c x)) ∧ Wr ((0 : Int) = (0 : Int)) ∧ Wr ((0 : Int) = (0 : Int)) ∧
 Wr ((0 : Int) = (0 : Int)) ∧ Wr ((0 : Int) = (0 : Int)) ∧ Wr ((0 : Int) = (0 : Int)) ∧ Wr ((0 : Int) = (0 : Int)) ∧ Wr ((0 : Int) = (0 : Int)) ∧ Wr ((0 : Int) = (0 : Int))) ∧ ∀ (x_1 : (Int × Int × Int × Int × Int × Int ×
 Int × Int × Unit) × Int), Wr (FourI (Go.Lb.splitS x.1 c57b) x_1.1 x_1.2) → bcase (decide (x_1.2 < (c57c x))) (Wr ((0 : Int) ≤ x_1.2) ∧ Wr (x_1.2 < (c57c x)) ∧ Wr (true = true) ∧ Wr (szOk (List.getD (Go.Lb.splitS x.1
 c57b) (Int.toNat x_1.2) (Ty.zero Ty.str)) = true) ∧ bcase (!Go.Ad.num2 (List.getD (Go.Lb.splitS x.1 c57b) (Int.toNat x_1.2) (Ty.zero Ty.str)) (255 : Int)) ((c57d, false, ()) = (Go.Ad.four1 x.1, Go.Ad.four2 x.1, ())) (Wr
 ((2 : Int) ≠ (0 : Int)) ∧ Wr ((2 : Int) ≠ (0 : Int)) ∧ Wr ((0 : Int) ≤ IntKind.wrap IntKind.i64 (Int.tdiv x_1.2 (2 : Int))) ∧ Wr (IntKind.wrap IntKind.i64 (Int.tdiv x_1.2 (2 : Int)) < (↑(8 : Nat) : Int)) ∧ Wr ((0 : Int)
 ≤ (8 : Int)) ∧ Wr ((0 : Int) ≤ IntKind.wrap IntKind.i64 (Int.tdiv x_1.2 (2 : Int))) ∧ Wr (IntKind.wrap IntKind.i64 (Int.tdiv x_1.2 (2 : Int)) < (↑(8 : Nat) : Int)) ∧ Wr (FourI (Go.Lb.splitS x.1 c57b) (List.getD (c57a x
 x_1) (0 : Nat) (0 : Int), List.getD (c57a x x_1) (1 : Nat) (0 : Int), List.getD (c57a x x_1) (2 : Nat) (0 : Int), List.getD (c57a x x_1) (3 : Nat) (0 : Int), List.getD (c57a x x_1) (4 : Nat) (0 : Int), List.getD (c57a x
 x_1) (5 : Nat) (0 : Int), List.getD (c57a x x_1) (6 : Nat) (0 : Int), List.getD (c57a x x_1) (7 : Nat) (0 : Int), ()) (IntKind.wrap IntKind.i64 (x_1.2 + (1 : Int)))) ∧ Wr ((4 : Nat) - Int.toNat (IntKind.wrap IntKind.i64
 (x_1.2 + (1 : Int))) < (4 : Nat) - Int.toNat x_1.2) ∧ Wr (IntKind.wrap IntKind.i64 (x_1.2 + (1 : Int)) = IntKind.wrap IntKind.i64 (x_1.2 + (1 : Int))) ∧ Wr (Go.Lb.splitS x.1 c57b = Go.Lb.splitS x.1 c57b) ∧ Wr ((c57c x) =
 (c57c x)) ∧ Wr (List.getD (c57a x x_1) (0 : Nat) (0 : Int) = List.getD (c57a x x_1) (0 : Nat) (0 : Int)) ∧ Wr (List.getD (c57a x x_1) (1 : Nat) (0 : Int) = List.getD (c57a x x_1) (1 : Nat) (0 : Int)) ∧ Wr (List.getD
 (c57a x x_1) (2 : Nat) (0 : Int) = List.getD (c57a x x_1) (2 : Nat) (0 : Int)) ∧ Wr (List.getD (c57a x x_1) (3 : Nat) (0 : Int) = List.getD (c57a x x_1) (3 : Nat) (0 : Int)) ∧ Wr (List.getD (c57a x x_1) (4 : Nat) (0 :
 Int) = List.getD (c57a x x_1) (4 : Nat) (0 : Int)) ∧ Wr (List.getD (c57a x x_1) (5 : Nat) (0 : Int) = List.getD (c57a x x_1) (5 : Nat) (0 : Int)) ∧ Wr (List.getD (c57a x x_1) (6 : Nat) (0 : Int) = List.getD (c57a x x_1)
 (6 : Nat) (0 : Int)) ∧ Wr (List.getD (c57a x x_1) (7 : Nat) (0 : Int) = List.getD (c57a x x_1) (7 : Nat) (0 : Int)))) ((x_1.1, true, ()) = (Go.Ad.four1 x.1, Go.Ad.four2 x.1, ())))) := by kernel_rfl
abbrev c58b := (ByteArray.mk (List.toArray ((58 : UInt8) :: (58 : UInt8) :: nilL UInt8)))
abbrev c58d (x : ByteArray × Unit) := (cpL ((0 : Int) :: (0 : Int) :: (0 : Int) :: (0 : Int) :: (0 : Int) :: (0 : Int) :: (0 : Int) :: (0 : Int) :: nilL Int) (Int.toNat (0 : Int)) (Int.toNat (↑(8 : Nat) : Int) - Int.toNat
 (0 : Int)) (Go.Ad.side1 (cut1 x.1 c58b)))
abbrev c58f (x : ByteArray × Unit) := (↑(List.length (Go.Ad.side1 (cut2 x.1 c58b))) : Int)
abbrev c58a (x : ByteArray × Unit) := (cpL (List.getD (c58d x) (0 : Nat) (0 : Int) :: List.getD (c58d x) (1 : Nat) (0 : Int) :: List.getD (c58d x) (2 : Nat) (0 : Int) :: List.getD (c58d x) (3 : Nat) (0 : Int) :: List.getD
 (c58d x) (4 : Nat) (0 : Int) :: List.getD (c58d x) (5 : Nat) (0 : Int) :: List.getD (c58d x) (6 : Nat) (0 : Int) :: List.getD (c58d x) (7 : Nat) (0 : Int) :: nilL Int) (Int.toNat (IntKind.wrap IntKind.i64 ((8 : Int) -
 (c58f x)))) (Int.toNat (↑(8 : Nat) : Int) - Int.toNat (IntKind.wrap IntKind.i64 ((8 : Int) - (c58f x)))) (Go.Ad.side1 (cut2 x.1 c58b)))
abbrev c58c (x : ByteArray × Unit) := (Wr ((0 : Int) ≤ (0 : Int)) ∧ Wr ((0 : Int) ≤ (↑(8 : Nat) : Int)) ∧ Wr ((↑(8 : Nat) : Int) ≤ (↑(8 : Nat) : Int)) ∧ Wr ((0 : Int) ≤ IntKind.wrap IntKind.i64 ((8 : Int) - (c58f x))) ∧
 Wr (IntKind.wrap IntKind.i64 ((8 : Int) - (c58f x)) ≤ (↑(8 : Nat) : Int)) ∧ Wr ((↑(8 : Nat) : Int) ≤ (↑(8 : Nat) : Int)) ∧ ((List.getD (c58a x) (0 : Nat) (0 : Int), List.getD (c58a x) (1 : Nat) (0 : Int), List.getD (c58a
 x) (2 : Nat) (0 : Int), List.getD (c58a x) (3 : Nat) (0 : Int), List.getD (c58a x) (4 : Nat) (0 : Int), List.getD (c58a x) (5 : Nat) (0 : Int), List.getD (c58a x) (6 : Nat) (0 : Int), List.getD (c58a x) (7 : Nat) (0 :
 Int), ()), true, ()) = (Go.Ad.six1 x.1, Go.Ad.six2 x.1, ()))
abbrev c58e (x : ByteArray × Unit) := ((((0 : Int), (0 : Int), (0 : Int), (0 : Int), (0 : Int), (0 : Int), (0 : Int), (0 : Int), ()), false, ()) = (Go.Ad.six1 x.1, Go.Ad.six2 x.1, ()))
abbrev c58g (x : ByteArray × Unit) := (cutOk x.1 c58b && decide (IntKind.wrap IntKind.i64 ((↑(List.length (Go.Ad.side1 (cut1 x.1 c58b))) : Int) + (c58f x)) > (7 : Int)))
theorem v58_eq : vcFn g58 300 Tryd.f58 cSix = (∀ (x : ByteArray × Unit), Wr (szOk x.1 = true) → Wr (szOk x.1 = true) ∧ Wr (szOk (cut1 x.1 c58b) = true) ∧ Wr (szOk (cut2 x.1 c58b) = true) ∧ bcase (!Go.Ad.side2 (cut1 x.1 c58b) || !Go.Ad.side2 (cut2 x.1 c58b)) (bcase
 (!Go.Ad.side2 (cut1 x.1 c58b) || !Go.Ad.side2 (cut2 x.1 c58b)) (c58e x) (c58c x)) (bcase (c58g x) (bcase (c58g x) (c58e x) (c58c x)) (bcase (!cutOk x.1 c58b && !decide ((↑(List.length (Go.Ad.side1 (cut1 x.1 c58b))) :
 Int) = (8 : Int))) (c58e x) (c58c x)))) := by kernel_rfl
abbrev c18a (x : ByteArray × Unit) := (subS x.1 (Int.toNat (0 : Int)) (Int.toNat (Go.Lb.lastZ x.1 (58 : Int))))
abbrev c18h (x : ByteArray × Unit) := (↑(ByteArray.size x.1) : Int)
abbrev c18b (x : ByteArray × Unit) := (subS x.1 (Int.toNat (IntKind.wrap IntKind.i64 (Go.Lb.lastZ x.1 (58 : Int) + (1 : Int)))) (Int.toNat (c18h x)))
abbrev c18f := ((0 : Int), (0 : Int), (0 : Int), (0 : Int), (0 : Int), (0 : Int), (0 : Int), (0 : Int), ())
abbrev c18g (x : ByteArray × Unit) := (Go.Ad.parse1 x.1, Go.Ad.parse2 x.1, ())
abbrev c18c (x : ByteArray × Unit) := ((((0 : Int), c18f, (0 : Int), ()), (20 : Int), ()) = (c18g x))
abbrev c18d (x : ByteArray × Unit) := (↑(ByteArray.size (c18a x)) : Int)
abbrev c18e (x : ByteArray × Unit) := (subS (c18a x) (Int.toNat (1 : Int)) (Int.toNat (IntKind.wrap IntKind.i64 ((c18d x) - (1 : Int)))))
abbrev c18i (x : ByteArray × Unit) := (Go.Ad.num1 (c18b x) (65535 : Int) = (0 : Int))
theorem v18_eq : vcFn g18 300 Tryd.f18 cParse = (∀ (x : ByteArray × Unit), Wr (szOk x.1 = true) → Wr ((szOk x.1 && decide ((0 : Int) ≤ (58 : Int)) && decide ((58 : Int) < (256 : Int))) = true) ∧ bcase (decide (Go.Lb.lastZ x.1 (58 : Int) < (1 : Int))) (c18c x) (Wr ((0 :
 Int) ≤ (0 : Int)) ∧ Wr ((0 : Int) ≤ Go.Lb.lastZ x.1 (58 : Int)) ∧ Wr (Go.Lb.lastZ x.1 (58 : Int) ≤ (c18h x)) ∧ Wr ((0 : Int) ≤ IntKind.wrap IntKind.i64 (Go.Lb.lastZ x.1 (58 : Int) + (1 : Int))) ∧ Wr (IntKind.wrap
 IntKind.i64 (Go.Lb.lastZ x.1 (58 : Int) + (1 : Int)) ≤ (c18h x)) ∧ Wr ((c18h x) ≤ (c18h x)) ∧ Wr (szOk (c18b x) = true) ∧ Wr ((0 : Int) ≤ (0 : Int)) ∧ Wr ((0 : Int) < (c18d x)) ∧ bcase (!decide (byteAt (c18a x)
 (Int.toNat (0 : Int)) = (91 : Int))) (Wr (szOk (c18a x) = true) ∧ bcase (!Go.Ad.num2 (c18b x) (65535 : Int) || !Go.Ad.four2 (c18a x) || decide (c18i x)) (c18c x) ((((4 : Int), Go.Ad.four1 (c18a x), Go.Ad.num1 (c18b x)
 (65535 : Int), ()), (0 : Int), ()) = (c18g x))) (Wr (decide ((c18d x) > (1 : Int)) = true → (0 : Int) ≤ IntKind.wrap IntKind.i64 ((c18d x) - (1 : Int))) ∧ Wr (decide ((c18d x) > (1 : Int)) = true → IntKind.wrap
 IntKind.i64 ((c18d x) - (1 : Int)) < (c18d x)) ∧ bcase (decide ((c18d x) > (1 : Int)) && decide (byteAt (c18a x) (Int.toNat (IntKind.wrap IntKind.i64 ((c18d x) - (1 : Int)))) = (93 : Int))) (Wr ((0 : Int) ≤ (1 : Int)) ∧
 Wr ((1 : Int) ≤ IntKind.wrap IntKind.i64 ((c18d x) - (1 : Int))) ∧ Wr (IntKind.wrap IntKind.i64 ((c18d x) - (1 : Int)) ≤ (c18d x)) ∧ Wr (szOk (c18e x) = true) ∧ bcase (!Go.Ad.num2 (c18b x) (65535 : Int) || !Go.Ad.six2
 (c18e x) || decide (c18i x)) (c18c x) ((((6 : Int), Go.Ad.six1 (c18e x), Go.Ad.num1 (c18b x) (65535 : Int), ()), (0 : Int), ()) = (c18g x))) (bcase (!Go.Ad.num2 (c18b x) (65535 : Int) || !false || decide (c18i x)) (c18c
 x) ((((4 : Int), c18f, Go.Ad.num1 (c18b x) (65535 : Int), ()), (0 : Int), ()) = (c18g x)))))) := by kernel_rfl
theorem v19_eq : vcFn g19 300 Tryd.f19 cGreat = (∀ (x : List (Int × (Int × Int × Int × Int × Int × Int × Int × Int × Unit) × Int × Unit) × Unit), Wr (true = true) → (decide ((↑(List.length x.1) : Int) > (60 : Int)), ()) = (decide ((60 : Nat) < List.length x.1), ())) := by kernel_rfl
abbrev c20a := (Int × (Int × Int × Int × Int × Int × Int × Int × Int × Unit) × Int × Unit)
theorem v20_eq : vcFn g20 300 Tryd.f20 cOf = (∀ (x : Int × List c20a × Unit), Wr (lenA x.2.1 = true) → (Wr (OfI x.1 x.2.1 (nilL c20a) (0 : Int)) ∧ Wr ((0 : Int) = (0 : Int)) ∧ Wr (x.1 = x.1) ∧ Wr (x.2.1 = x.2.1) ∧ Wr (x.2.1 = x.2.1) ∧ Wr ((↑(List.length x.2.1) : Int)
 = (↑(List.length x.2.1) : Int)) ∧ Wr (nilL c20a = nilL c20a)) ∧ ∀ (x_1 : List c20a × Int), Wr (OfI x.1 x.2.1 x_1.1 x_1.2) → bcase (decide (x_1.2 < (↑(List.length x.2.1) : Int))) (Wr ((0 : Int) ≤ x_1.2) ∧ Wr (x_1.2 <
 (↑(List.length x.2.1) : Int)) ∧ Wr (true = true) ∧ bcase (decide ((List.getD x.2.1 (Int.toNat x_1.2) (Ty.zero AdT)).1 = x.1)) (Wr ((List.length x_1.1 + List.length (List.getD x.2.1 (Int.toNat x_1.2) (Ty.zero AdT) :: nilL
 c20a)) * (32 : Nat) ≤ (140737488355328 : Nat)) ∧ Wr (OfI x.1 x.2.1 (x_1.1 ++ List.getD x.2.1 (Int.toNat x_1.2) (Ty.zero AdT) :: nilL c20a) (IntKind.wrap IntKind.i64 (x_1.2 + (1 : Int)))) ∧ Wr (List.length x.2.1 -
 Int.toNat (IntKind.wrap IntKind.i64 (x_1.2 + (1 : Int))) < List.length x.2.1 - Int.toNat x_1.2) ∧ Wr (IntKind.wrap IntKind.i64 (x_1.2 + (1 : Int)) = IntKind.wrap IntKind.i64 (x_1.2 + (1 : Int))) ∧ Wr (x.1 = x.1) ∧ Wr
 (x.2.1 = x.2.1) ∧ Wr (x.2.1 = x.2.1) ∧ Wr ((↑(List.length x.2.1) : Int) = (↑(List.length x.2.1) : Int)) ∧ Wr (x_1.1 ++ List.getD x.2.1 (Int.toNat x_1.2) (Ty.zero AdT) :: nilL c20a = x_1.1 ++ List.getD x.2.1 (Int.toNat
 x_1.2) (Ty.zero AdT) :: nilL c20a)) (Wr (OfI x.1 x.2.1 x_1.1 (IntKind.wrap IntKind.i64 (x_1.2 + (1 : Int)))) ∧ Wr (List.length x.2.1 - Int.toNat (IntKind.wrap IntKind.i64 (x_1.2 + (1 : Int))) < List.length x.2.1 -
 Int.toNat x_1.2) ∧ Wr (IntKind.wrap IntKind.i64 (x_1.2 + (1 : Int)) = IntKind.wrap IntKind.i64 (x_1.2 + (1 : Int))) ∧ Wr (x.1 = x.1) ∧ Wr (x.2.1 = x.2.1) ∧ Wr (x.2.1 = x.2.1) ∧ Wr ((↑(List.length x.2.1) : Int) =
 (↑(List.length x.2.1) : Int)) ∧ Wr (x_1.1 = x_1.1))) ((x_1.1, ()) = (Go.Ad.ofA x.1 x.2.1, ()))) := by kernel_rfl
abbrev c25a := (Int × (Int × Int × Int × Int × Int × Int × Int × Int × Unit) × Int × Unit)
theorem v25_eq : vcFn g25 300 Tryd.f25 cSameA = (∀ (x : List c25a × List c25a × Unit), Wr (lenA x.1 = true) → bcase (!decide ((↑(List.length x.1) : Int) = (↑(List.length x.2.1) : Int))) ((false, ()) = (sameLs x.1 x.2.1, ())) ((Wr (SameI x.1 x.2.1 (0 : Int)) ∧ Wr ((0 :
 Int) = (0 : Int)) ∧ Wr (x.1 = x.1) ∧ Wr (x.2.1 = x.2.1)) ∧ ∀ (x_1 : Int), Wr (SameI x.1 x.2.1 x_1) → bcase (decide (x_1 < (↑(List.length x.1) : Int))) (Wr ((0 : Int) ≤ x_1) ∧ Wr (x_1 < (↑(List.length x.1) : Int)) ∧ Wr
 (true = true) ∧ Wr ((0 : Int) ≤ x_1) ∧ Wr (x_1 < (↑(List.length x.2.1) : Int)) ∧ Wr (true = true) ∧ bcase (!Ty.eqb (Ty.cons (Ty.int IntKind.i8) (Ty.cons (Ty.arr (8 : Nat) (Ty.int IntKind.u16)) (Ty.cons (Ty.int
 IntKind.i64) Ty.unit))) (List.getD x.1 (Int.toNat x_1) (Ty.zero AdT)) (List.getD x.2.1 (Int.toNat x_1) (Ty.zero AdT))) ((false, ()) = (sameLs x.1 x.2.1, ())) (Wr (SameI x.1 x.2.1 (IntKind.wrap IntKind.i64 (x_1 + (1 :
 Int)))) ∧ Wr (List.length x.1 - Int.toNat (IntKind.wrap IntKind.i64 (x_1 + (1 : Int))) < List.length x.1 - Int.toNat x_1) ∧ Wr (IntKind.wrap IntKind.i64 (x_1 + (1 : Int)) = IntKind.wrap IntKind.i64 (x_1 + (1 : Int))) ∧
 Wr (x.1 = x.1) ∧ Wr (x.2.1 = x.2.1))) ((true, ()) = (sameLs x.1 x.2.1, ())))) := by kernel_rfl
end Go.Proofs.YtkimpfoimblhjaaDoor.Ad
set_option linter.all false
namespace Go.Proofs.YtkimpfoimblhjaaDoor.Ad
open Go Go.Eng Go.Lb Go.Ad Lb
set_option maxRecDepth 100000
set_option maxHeartbeats 1000000

theorem getD_mem {α : Type} {l : List α} {i : Int} {z : α} (h0 : 0 ≤ i) (h : i < l.length) : l.getD i.toNat z ∈ l := by
  have h' : i.toNat < l.length := by omega
  rw [List.getD_eq_getElem?_getD, List.getElem?_eq_getElem h']
  exact List.getElem_mem h'
theorem take_all {α : Type} {l : List α} {i : Int} (h1 : i ≤ l.length) (h : ¬ i < l.length) : l.take i.toNat = l := List.take_of_length_le (by omega)
theorem step {i : Int} {n : Nat} (h0 : 0 ≤ i) (hn : n ≤ 5000000000) (h : i < n) : IntKind.wrap .i64 (i + 1) = i + 1 := w64 (by omega) (by omega)
theorem bL0 (l : List UInt8) : ({ data := { toList := l } } : ByteArray) = ofL l := rfl
theorem wcut {n : Nat} {i : Int} (h0 : 0 ≤ i) (h : i < n) : n - (i + 1).toNat < n - i.toNat := by omega
theorem GoI.zero {α β : Type} (f : α → Option β) (l : List α) : GoI f l [] 0 := ⟨by omega, by omega, rfl⟩
theorem GoI.len {α β : Type} {f : α → Option β} {l : List α} {out : List β} {i : Int} (h : GoI f l out i) : out.length = i.toNat := by
  rw [goO_len h.a, List.length_take]
  have := h.i0; have := h.i1
  omega
theorem GoI.on {α β : Type} {f : α → Option β} {l : List α} {out : List β} {i : Int} {z : α} {b : β} (h : GoI f l out i) (hl : l.length ≤ 5000000000) (hi : i < l.length) (hf : f (l.getD i.toNat z) = some b) :
    GoI f l (out ++ [b]) (IntKind.wrap .i64 (i + 1)) ∧ l.length - (IntKind.wrap .i64 (i + 1)).toNat < l.length - i.toNat := by
  have h0 := h.i0
  rw [step h0 hl hi]
  refine ⟨⟨by omega, by omega, ?_⟩, wcut h0 hi⟩
  rw [take_succ l i z h0 hi, goO_app, h.a]
  simp only [goO, hf]
theorem GoI.no {α β : Type} {f : α → Option β} {l : List α} {out : List β} {i : Int} {z : α} (h : GoI f l out i) (hi : i < l.length) (hf : f (l.getD i.toNat z) = none) : goO f l = none := goO_none (getD_mem h.i0 hi) hf
theorem GoI.fin {α β : Type} {f : α → Option β} {l : List α} {out : List β} {i : Int} (h : GoI f l out i) (hi : ¬ i < l.length) : goO f l = some out := by
  have := h.a
  rwa [take_all h.i1 hi] at this
theorem MapI.zero {α β : Type} (f : α → β) (l : List α) : MapI f l [] 0 := ⟨by omega, by omega, rfl⟩
theorem MapI.on {α β : Type} {f : α → β} {l : List α} {out : List β} {i : Int} {z : α} (h : MapI f l out i) (hl : l.length ≤ 5000000000) (hi : i < l.length) :
    MapI f l (out ++ [f (l.getD i.toNat z)]) (IntKind.wrap .i64 (i + 1)) ∧ l.length - (IntKind.wrap .i64 (i + 1)).toNat < l.length - i.toNat := by
  have h0 := h.i0
  rw [step h0 hl hi]
  refine ⟨⟨by omega, by omega, ?_⟩, wcut h0 hi⟩
  rw [take_succ l i z h0 hi, h.a, List.map_append]
  rfl
theorem MapI.fin {α β : Type} {f : α → β} {l : List α} {out : List β} {i : Int} (h : MapI f l out i) (hi : ¬ i < l.length) : out = l.map f := by
  have := h.a
  rwa [take_all h.i1 hi] at this
theorem eqA (a b : Ad) : Ty.eqb AdT a b = true ↔ a = b := by
  constructor
  · exact eqb_eq AdT rfl a b
  · rintro rfl
    simp [Ty.eqb, Ty.arr]
theorem eqA_f (a b : Ad) : Ty.eqb AdT a b = false ↔ ¬ a = b := by
  rw [← eqA, Bool.not_eq_true]
theorem lenA_iff (l : List Ad) : lenA l = true ↔ l.length ≤ 100000 := by simp [lenA]
def bare (a : Ad) : Ad := (a.1, (a.2.1.1, a.2.1.2.1, 0, 0, 0, 0, 0, 0, ()), a.2.2)
theorem bare_iff (a : Ad) : a = bare a ↔ ∀ x ∈ (gl a.2.1).drop 2, x = 0 := by
  obtain ⟨f, ⟨a0, a1, a2, a3, a4, a5, a6, a7, ⟨⟩⟩, p, ⟨⟩⟩ := a
  simp [bare, gl]
theorem may_no (a : Ad) (h : (a.2.2.1 < 1 ∨ a.2.2.1 > 65535) ∨ ¬ a.1 = 6 ∧ (¬ a.1 = 4 ∨ Ty.eqb AdT a (bare a) = false)) : may1 a = false := by
  rw [eqA_f, bare_iff] at h
  cases hm : may1 a with
  | false => rfl
  | true =>
    rw [may1_iff] at hm
    exfalso
    rcases hm with ⟨⟨h1, h2⟩, h3 | ⟨h3, h4⟩⟩
    · omega
    · rcases h with h | ⟨h5, h6 | h6⟩
      · omega
      · exact h6 h3
      · exact h6 h4
theorem may_yes (a : Ad) (h : (¬ a.2.2.1 < 1 ∧ ¬ a.2.2.1 > 65535) ∧ (a.1 = 6 ∨ a.1 = 4 ∧ Ty.eqb AdT a (bare a) = true)) : may1 a = true := by
  rw [eqA, bare_iff] at h
  rw [may1_iff]
  exact ⟨⟨by omega, by omega⟩, h.2⟩
theorem v15 : Vc g15 300 Tryd.f15 cMay := by
  constructor
  rw [v15_eq]; delta c15a
  simp only [Wr_iff, bcase_iff, true_and, and_true, decide_eq_true_eq, decide_eq_false_iff_not, Bool.and_eq_true, Bool.and_eq_false_iff, Bool.or_eq_true, Bool.or_eq_false_iff, Bool.not_eq_true', Bool.not_eq_false', Option.map_some, Option.getD_some, Option.isSome_some, Option.isSome_map, imp_self, nilL, noneO]
  intro x
  generalize x.fst = l
  intro hl
  have hl := (lenA_iff l).1 hl
  refine ⟨⟨by omega, by omega, rfl⟩, fun i hi => ⟨fun h => ?_, fun h => ?_⟩⟩
  · refine ⟨hi.i0, h, fun hn => ?_, fun hy => ?_⟩
    · have hn := may_no _ hn
      have : mayA l = false := by
        cases hm : mayA l with
        | false => rfl
        | true =>
          have := List.all_eq_true.1 hm _ (getD_mem (z := Ty.zero AdT) hi.i0 h)
          exact absurd (this.symm.trans hn) (by decide)
      rw [this]
    · have hy := may_yes _ hy
      have h0 := hi.i0
      rw [step h0 (by omega) h]
      refine ⟨⟨by omega, by omega, ?_⟩, wcut h0 h⟩
      have e := take_succ l i (Ty.zero AdT) h0 h
      rw [e, List.all_append, hi.a, List.all_cons, List.all_nil, Bool.and_true, Bool.true_and]
      exact hy
  · have := hi.a
    rw [take_all hi.i1 h] at this
    exact congrArg (fun b => (b, ())) this.symm
theorem v19 : Vc g19 300 Tryd.f19 cGreat := by
  constructor
  rw [v19_eq]
  intro x _
  refine congrArg (fun b => (b, ())) ?_
  rw [Bool.eq_iff_iff, decide_eq_true_eq, decide_eq_true_eq]
  exact ⟨fun h => by have h : (60 : Int) < _ := h; omega, fun h => by show (60 : Int) < _; omega⟩
theorem ofA_snoc (f : Int) (l : List Ad) (a : Ad) : ofA f (l ++ [a]) = if a.1 = f then ofA f l ++ [a] else ofA f l := by
  unfold ofA
  rw [List.filter_append, List.filter_cons, List.filter_nil]
  unfold isFam
  by_cases h : a.1 = f <;> simp [h]
theorem v20 : Vc g20 300 Tryd.f20 cOf := by
  constructor
  rw [v20_eq]; delta c20a
  simp only [Wr_iff, bcase_iff, true_and, and_true, decide_eq_true_eq, decide_eq_false_iff_not, Bool.and_eq_true, Bool.and_eq_false_iff, Bool.or_eq_true, Bool.or_eq_false_iff, Bool.not_eq_true', Bool.not_eq_false', Option.map_some, Option.getD_some, Option.isSome_some, Option.isSome_map, imp_self, nilL, noneO]
  intro x
  generalize x.fst = f
  generalize x.snd.fst = l
  intro hl
  have hl := (lenA_iff l).1 hl
  refine ⟨⟨by omega, by omega, rfl⟩, fun y hi => ⟨fun h => ?_, fun h => ?_⟩⟩
  · have h0 := hi.i0
    have hlen : List.length (α := Ad) y.1 ≤ 100000 := by
      have e := hi.a
      have : (ofA f (l.take y.2.toNat)).length ≤ (l.take y.2.toNat).length := List.length_filter_le _ _
      rw [← e, List.length_take] at this
      omega
    have e := take_succ l y.2 (Ty.zero AdT) h0 h
    refine ⟨h0, h, fun hf => ⟨?_, ?_⟩, fun hf => ?_⟩
    · have e1 : List.length (α := Ad) [l.getD y.2.toNat (Ty.zero AdT)] = 1 := rfl
      have : (List.length (α := Ad) y.1 + 1) * 32 ≤ 140737488355328 := by omega
      exact this
    · rw [step h0 (by omega) h]
      refine ⟨⟨by omega, by omega, ?_⟩, wcut h0 h⟩
      have e2 := ofA_snoc f (l.take y.2.toNat) (l.getD y.2.toNat (Ty.zero AdT))
      rw [if_pos hf] at e2
      exact (congrArg (· ++ [l.getD y.2.toNat (Ty.zero AdT)]) hi.a).trans (e2.symm.trans (congrArg (ofA f) e.symm))
    · rw [step h0 (by omega) h]
      refine ⟨⟨by omega, by omega, ?_⟩, wcut h0 h⟩
      have e2 := ofA_snoc f (l.take y.2.toNat) (l.getD y.2.toNat (Ty.zero AdT))
      rw [if_neg hf] at e2
      exact hi.a.trans (e2.symm.trans (congrArg (ofA f) e.symm))
  · have e := hi.a
    rw [take_all hi.i1 h] at e
    rw [e]
theorem v25 : Vc g25 300 Tryd.f25 cSameA := by
  constructor
  rw [v25_eq]; delta c25a
  simp only [Wr_iff, bcase_iff, true_and, and_true, decide_eq_true_eq, decide_eq_false_iff_not, Bool.and_eq_true, Bool.and_eq_false_iff, Bool.or_eq_true, Bool.or_eq_false_iff, Bool.not_eq_true', Bool.not_eq_false', Option.map_some, Option.getD_some, Option.isSome_some, Option.isSome_map, imp_self, nilL, noneO]
  intro x
  generalize x.fst = l
  generalize x.snd.fst = m
  intro hl
  have hl := (lenA_iff l).1 hl
  have no : ¬ (l : List Ad) = m → sameLs l m = false := fun h => decide_eq_false h
  refine ⟨fun h => ?_, fun hlm => ⟨⟨by omega, by omega, by omega, rfl⟩, fun i hi => ⟨fun h => ?_, fun h => ?_⟩⟩⟩
  · rw [no fun e => h (by rw [e])]
  · have h0 := hi.i0
    have hm : i < m.length := by omega
    refine ⟨h0, h, h0, hm, fun he => ?_, fun he => ?_⟩
    · have he := (eqA_f _ _).1 he
      rw [no fun e => he (by rw [e])]
    · have he := (eqA _ _).1 he
      rw [step h0 (by omega) h]
      refine ⟨⟨by omega, by omega, by omega, ?_⟩, wcut h0 h⟩
      have e1 := take_succ l i (Ty.zero AdT) h0 h
      have e2 := take_succ m i (Ty.zero AdT) h0 hm
      exact e1.trans ((congrArg (· ++ _) hi.a).trans ((congrArg (fun b => m.take i.toNat ++ [b]) he).trans e2.symm))
  · have e := hi.a
    have e2 : m.take i.toNat = m := List.take_of_length_le (by omega)
    rw [take_all hi.i1 h, e2] at e
    rw [show sameLs l m = true from decide_eq_true e]
theorem lens_le {n : Nat} : ∀ {ps : List (List UInt8)}, (∀ p ∈ ps, p.length ≤ n) → Go.Lib.lens ps ≤ n * ps.length
  | [], _ => by simp [Go.Lib.lens]
  | p :: r, h => by
    have := lens_le fun x hx => h x (List.mem_cons_of_mem _ hx)
    have h1 := h p List.mem_cons_self
    simp only [Go.Lib.lens, List.map_cons, List.sum_cons, List.length_cons] at this ⊢
    rw [Nat.mul_succ]
    omega
theorem join_le {n : Nat} {d : List UInt8} {ps : List (List UInt8)} (h : ∀ p ∈ ps, p.length ≤ n) : (Go.Lib.join ps d).length ≤ (n + d.length) * ps.length := by
  cases ps with
  | nil => simp [Go.Lib.join_nil]
  | cons p r =>
    rw [Go.Lib.join_cons, List.length_append, Go.Lib.joinTail_length]
    have h1 := h p List.mem_cons_self
    have h2 := lens_le fun x hx => h x (List.mem_cons_of_mem _ hx)
    rw [List.length_cons, Nat.mul_succ, Nat.add_mul]
    omega
theorem hexF_len : ∀ (f n : Nat), (hexF f n).length ≤ f
  | 0, _ => by simp [hexF]
  | f + 1, n => by
    unfold hexF
    rw [cond_eq_ite]
    split
    · simp
    · rw [List.length_append, List.length_singleton]
      have := hexF_len f (n / 16)
      omega
theorem hexesL_len {l : List Int} (h : l.length ≤ 8) : (hexesL l).length ≤ 40 := by
  unfold hexesL
  have := join_le (n := 4) (d := [58]) (ps := l.map fun n => hexL n.toNat) (by
    intro p hp
    obtain ⟨x, _, rfl⟩ := List.mem_map.1 hp
    exact hexF_len 4 _)
  rw [List.length_map] at this
  simp only [List.length_singleton] at this
  omega
theorem text0_len (a : Ad) : (text0 a).length ≤ 200 := by
  have hd : ∀ n, (digL n).length ≤ 5 := fun n => digF_len 5 n
  unfold text0 hostL
  rw [List.length_append, List.length_cons]
  have h1 := hd a.2.2.1.toNat
  rw [cond_eq_ite]
  split
  · unfold fourL
    have := join_le (n := 5) (d := [46]) (ps := [digL (a.2.1.1.toNat / 256), digL (a.2.1.1.toNat % 256), digL (a.2.1.2.1.toNat / 256), digL (a.2.1.2.1.toNat % 256)]) (by
      intro p hp
      simp only [List.mem_cons, List.not_mem_nil, or_false] at hp
      rcases hp with rfl | rfl | rfl | rfl <;> exact hd _)
    simp only [List.length_cons, List.length_nil] at this
    omega
  · unfold inL
    rw [cond_eq_ite]
    split
    · have := hexesL_len (l := gl a.2.1) (by rw [len_gl]; omega)
      simp only [List.length_append, List.length_cons, List.length_nil]
      omega
    · have h2 := hexesL_len (l := (gl a.2.1).take (long1 a.2.1).toNat) (by rw [List.length_take, len_gl]; omega)
      have h3 := hexesL_len (l := (gl a.2.1).drop (long1 a.2.1 + long2 a.2.1).toNat) (by rw [List.length_drop, len_gl]; omega)
      simp only [List.length_append, List.length_cons, List.length_nil]
      omega
theorem text1_len (a : Ad) : (text1 a).size ≤ 200 := by
  unfold text1
  rw [cond_eq_ite]
  split
  · rw [ofL_size]; exact text0_len a
  · rw [ofL_size]; simp
theorem text2_iff (a : Ad) : text2 a = 0 ↔ may1 a = true := by
  unfold text2
  cases may1 a <;> simp
theorem empty_iff (s : ByteArray) : s = ofL [] ↔ decide ((bytesL s).length = 0) = true := by
  rw [decide_eq_true_eq]
  constructor
  · rintro rfl; rw [bytesL_ofL]; rfl
  · intro h; apply bytesL_inj; rw [bytesL_ofL, List.length_eq_zero_iff.1 h]
theorem splitS_sz {s d p : ByteArray} (hs : szOk s = true) (hp : p ∈ splitS s d) : szOk p = true := by
  rw [szOk_iff] at hs ⊢
  have := (splitS_le s d).1 p hp
  omega
theorem splitS_n {s d : ByteArray} (hs : szOk s = true) : (splitS s d).length ≤ 4000000001 := by
  rw [szOk_iff] at hs
  have := (splitS_le s d).2
  omega
theorem parse2_iff (s : ByteArray) : parse2 s = 0 ↔ parseO s = some (parse1 s) := by
  unfold parse2 parse1
  cases parseO s <;> simp
theorem parse2_no {s : ByteArray} (h : ¬ parse2 s = 0) : parseO s = none ∧ parse2 s = 20 := by
  unfold parse2 at h ⊢
  cases hp : parseO s with
  | none => exact ⟨rfl, rfl⟩
  | some a => rw [hp] at h; exact absurd rfl h
theorem grp_O {s : ByteArray} : (grp2 s = true → grpO s = some (grp1 s)) ∧ (grp2 s = false → grpO s = none) := by
  unfold grpO
  constructor <;> intro h <;> rw [h] <;> rfl
theorem v85 : Vc g85 300 Tryd.f85 cSide := by
  constructor
  rw [v85_eq]; delta c85a c85b c85c
  simp only [Wr_iff, bcase_iff, true_and, and_true, decide_eq_true_eq, decide_eq_false_iff_not, Bool.and_eq_true, Bool.and_eq_false_iff, Bool.or_eq_true, Bool.or_eq_false_iff, Bool.not_eq_true', Bool.not_eq_false', Option.map_some, Option.getD_some, Option.isSome_some, Option.isSome_map, imp_self, nilL, noneO]
  intro x
  generalize x.fst = s
  intro hs
  have hd : ({ data := #[58] } : ByteArray) = ofL [58] := rfl
  have he0 : ({ data := #[] } : ByteArray) = ofL [] := rfl
  have un : sideO s = bif decide ((bytesL s).length = 0) then some [] else goO grpO (splitS s (ofL [58])) := rfl
  have hn := splitS_n (d := ofL [58]) hs
  have hz := fun p => splitS_sz (p := p) (d := ofL [58]) hs
  have fin : ∀ (o : Option (List Int)) (a : List Int) (b : Bool), sideO s = o → a = o.getD [] → b = o.isSome → (a, b, ()) = (side1 s, side2 s, ()) := by
    intro o a b h1 h2 h3
    unfold side1 side2
    rw [h1, h2, h3]
  refine ⟨fun h => ?_, fun h => ⟨⟨hs, rfl⟩, ?_⟩⟩
  · rw [(empty_iff s).1 h] at un
    exact fin _ _ _ un rfl rfl
  · have h : decide ((bytesL s).length = 0) = false := by
      cases hx : decide ((bytesL s).length = 0) with
      | false => rfl
      | true => exact absurd ((empty_iff s).2 hx) h
    rw [h, cond_false] at un
    show _ ∧ _
    rw [hd]
    generalize splitS s (ofL [58]) = l at un hn hz ⊢
    refine ⟨GoI.zero _ _, fun y hi => ⟨fun hlt => ?_, fun hlt => ?_⟩⟩
    · have hm := getD_mem (z := Ty.zero .str) hi.i0 hlt
      refine ⟨hi.i0, hlt, hz _ hm, fun hp => ?_, fun hp => ⟨?_, ?_⟩⟩
      · rw [hi.no hlt (grp_O.2 hp)] at un
        exact fin _ _ _ un rfl rfl
      · have e1 : List.length [grp1 (l.getD y.2.toNat (Ty.zero .str))] = 1 := rfl
        have e2 := hi.len
        have : (List.length (α := Int) y.1 + 1) * 2 ≤ 140737488355328 := by omega
        exact this
      · exact hi.on (z := Ty.zero .str) (by omega) hlt (grp_O.1 hp)
    · rw [hi.fin hlt] at un
      exact fin _ _ _ un rfl rfl
end Go.Proofs.YtkimpfoimblhjaaDoor.Ad
set_option linter.all false
namespace Go.Proofs.YtkimpfoimblhjaaDoor.Ad
open Go Go.Eng Go.Lb Go.Ad Lb
set_option maxRecDepth 100000
set_option maxHeartbeats 1000000

theorem rest_cons {s : ByteArray} {p : Nat} (h : p < s.size) : restL s p = (bytesL s).getD p 0 :: restL s (p + 1) := by
  unfold restL
  rw [size_bytesL] at h
  rw [List.drop_eq_getElem_cons h, List.getD_eq_getElem?_getD, List.getElem?_eq_getElem h]
  rfl
theorem rune_byte {s : ByteArray} {p : Nat} (h : p < s.size) : ∃ b, restL s p = b :: restL s (p + 1) ∧ ((b.toNat < 128 ∧ runeAt s p = b.toNat ∧ nextP s p = p + 1) ∨ (128 ≤ b.toNat ∧ 128 ≤ runeAt s p)) := by
  refine ⟨_, rest_cons h, ?_⟩
  have h1 := runeAt_eq h
  have h2 := nextP_eq h
  rw [rest_cons h] at h1 h2
  rcases hd1_cases (b := (bytesL s).getD p 0) (r := restL s (p + 1)) with ⟨c1, c2, c3⟩ | ⟨c1, c2, _⟩
  · rw [c2] at h1
    rw [c3] at h2
    exact .inl ⟨c1, h1, h2⟩
  · refine .inr ⟨c1, ?_⟩
    cases hc : (hd1 ((bytesL s).getD p 0 :: restL s (p + 1))).1 with
    | none => rw [hc] at h1; rw [h1]; decide
    | some c =>
      rw [hc] at h1
      have := c2 c hc
      rw [h1, Option.getD_some]
      omega
theorem long_cases {g : G8} {i n a m : Int} {z : Int} (h : LongI g i n a m) (hi : i < 8) : (¬ (gl g).getD i.toNat z = 0 → LongI g (i + 1) 0 a m) ∧
    ((gl g).getD i.toNat z = 0 → (max m 1 < n + 1 → LongI g (i + 1) (n + 1) (i + 1 - (n + 1)) (n + 1)) ∧ (¬ max m 1 < n + 1 → LongI g (i + 1) (n + 1) a m)) := by
  obtain ⟨i0, i1, n0, n1, m0, m1, a0, a1, e⟩ := h
  have hd := drop_cons (gl g) i z i0 (by rw [len_gl]; omega)
  rw [hd, longGo] at e
  refine ⟨fun hz => ?_, fun hz => ⟨fun hm => ?_, fun hm => ?_⟩⟩
  · rw [show decide ((gl g).getD i.toNat z = 0) = false from decide_eq_false hz, cond_false] at e
    exact ⟨by omega, by omega, by omega, by omega, m0, m1, a0, a1, e⟩
  · rw [show decide ((gl g).getD i.toNat z = 0) = true from decide_eq_true hz, cond_true, show decide (max m 1 < n + 1) = true from decide_eq_true hm, cond_true] at e
    exact ⟨by omega, by omega, by omega, by omega, by omega, by omega, by omega, by omega, e⟩
  · rw [show decide ((gl g).getD i.toNat z = 0) = true from decide_eq_true hz, cond_true, show decide (max m 1 < n + 1) = false from decide_eq_false hm, cond_false] at e
    exact ⟨by omega, by omega, by omega, by omega, m0, m1, a0, a1, e⟩
theorem v53 : Vc g53 300 Tryd.f53 cLong := by
  constructor
  rw [v53_eq]; delta c53e c53a c53b c53c c53d c53f
  simp only [Wr_iff, bcase_iff, true_and, and_true, decide_eq_true_eq, decide_eq_false_iff_not, Bool.and_eq_true, Bool.and_eq_false_iff, Bool.or_eq_true, Bool.or_eq_false_iff, Bool.not_eq_true', Bool.not_eq_false', Option.map_some, Option.getD_some, Option.isSome_some, Option.isSome_map, imp_self, nilL, noneO]
  intro x
  generalize x.fst = g
  intro _
  refine ⟨⟨by omega, by omega, by omega, by omega, by omega, by omega, by omega, by omega, rfl⟩, fun y hy => ⟨fun h => ?_, fun h => ?_⟩⟩
  · have hc := long_cases (z := 0) hy h
    have i0 := hy.i0
    have n0 := hy.n0
    have n1 := hy.n1
    have m0 := hy.m0
    have w1 : IntKind.wrap .i64 (y.1 + 1) = y.1 + 1 := w64 (by omega) (by omega)
    have w2 : IntKind.wrap .i64 (y.2.1 + 1) = y.2.1 + 1 := w64 (by omega) (by omega)
    have w3 : IntKind.wrap .i64 (y.1 + 1 - (y.2.1 + 1)) = y.1 + 1 - (y.2.1 + 1) := w64 (by omega) (by omega)
    rw [w1, w2, w3]
    have hmu : 8 - (y.1 + 1).toNat < 8 - y.1.toNat := by omega
    refine ⟨i0, h, fun hz => ⟨fun hm => ?_, fun hm => ?_⟩, fun hz => ⟨fun hm => ?_, fun hm => ?_⟩⟩
    · omega
    · exact ⟨hc.1 hz, hmu⟩
    · exact ⟨(hc.2 hz).1 hm, hmu⟩
    · exact ⟨(hc.2 hz).2 (by omega), hmu⟩
  · have e := hy.a
    rw [List.drop_eq_nil_iff.2 (by rw [len_gl]; have := hy.i1; omega)] at e
    have e1 : y.2.2.1 = long1 g := congrArg Prod.fst e
    have e2 : y.2.2.2 = long2 g := congrArg Prod.snd e
    rw [e1, e2]
theorem num_bad {s : ByteArray} (h : (s = ofL [] ∨ (s.size : Int) > 5) ∨ byteAt s 0 = 48 ∧ ¬ s = ofL [48]) : numOk (bytesL s) = false := by
  have hs := size_bytesL s
  have e1 : s = ofL [] ↔ bytesL s = [] := ⟨fun h => by rw [h, bytesL_ofL], fun h => bytesL_inj (by rw [h, bytesL_ofL])⟩
  have e2 : s = ofL [48] ↔ bytesL s = [48] := ⟨fun h => by rw [h, bytesL_ofL], fun h => bytesL_inj (by rw [h, bytesL_ofL])⟩
  rw [e1, e2, byteAt_eq, hs] at h
  cases hn : numOk (bytesL s) with
  | false => rfl
  | true =>
    exfalso
    unfold numOk at hn
    simp only [Bool.and_eq_true, decide_eq_true_eq, Bool.or_eq_true] at hn
    generalize bytesL s = l at h hn
    match l with
    | [] => simp at hn
    | [b] =>
      simp at h hn
      obtain ⟨h1, h2⟩ := h
      exact h2 (UInt8.toNat_inj.1 (by show b.toNat = 48; omega))
    | b :: c :: r =>
      simp at h hn
      rcases h with h | h
      · omega
      · exact hn.1.2 (UInt8.toNat_inj.1 (by show b.toNat = 48; omega))
theorem num_good {s : ByteArray} (h : (¬ s = ofL [] ∧ ¬ (s.size : Int) > 5) ∧ (¬ byteAt s 0 = 48 ∨ s = ofL [48])) : numOk (bytesL s) = (bytesL s).all isDigit := by
  have hs := size_bytesL s
  have e1 : s = ofL [] ↔ bytesL s = [] := ⟨fun h => by rw [h, bytesL_ofL], fun h => bytesL_inj (by rw [h, bytesL_ofL])⟩
  have e2 : s = ofL [48] ↔ bytesL s = [48] := ⟨fun h => by rw [h, bytesL_ofL], fun h => bytesL_inj (by rw [h, bytesL_ofL])⟩
  rw [e1, e2, byteAt_eq, hs] at h
  unfold numOk
  generalize bytesL s = l at h
  match l with
  | [] => simp at h
  | b :: r =>
    have k1 : decide (1 ≤ (b :: r).length) = true := by simp
    have k2 : decide ((b :: r).length ≤ 5) = true := by have := h.1.2; rw [decide_eq_true_eq]; omega
    have k3 : (decide ((b :: r).head? ≠ some 48) || decide ((b :: r).length = 1)) = true := by
      rcases h.2 with h | h
      · rw [Bool.or_eq_true]
        left
        rw [decide_eq_true_eq]
        intro e
        simp at e
        apply h
        rw [e]
        rfl
      · rw [h]; rfl
    rw [k1, k2, k3]
    rfl
theorem isDigit_iff (b : UInt8) : isDigit b = true ↔ 48 ≤ b.toNat ∧ b.toNat ≤ 57 := by unfold isDigit; simp
theorem pw_le {p : Nat} (h : p ≤ 5) : (10 : Int) ^ p ≤ 100000 := by
  have : ∀ q : Fin 6, (10 : Int) ^ q.val ≤ 100000 := by decide
  exact this ⟨p, by omega⟩
theorem num_on {s : ByteArray} {n : Int} {p : Nat} (h : NumI s n p) (hp : p < s.size) : ((runeAt s p < 48 ∨ runeAt s p > 57) → (bytesL s).all isDigit = false) ∧
    ((¬ runeAt s p < 48 ∧ ¬ runeAt s p > 57) → NumI s (IntKind.wrap .i64 (IntKind.wrap .i64 (10 * n) + IntKind.wrap .i64 (IntKind.wrap .i32 (runeAt s p - 48)))) (nextP s p)) := by
  obtain ⟨p1, z, n0, n1, d, a⟩ := h
  obtain ⟨b, e, hb⟩ := rune_byte hp
  have hpw := pw_le (p := p) (by omega)
  rw [e] at d a
  constructor
  · intro hr
    rw [← d, List.all_cons]
    have : isDigit b = false := by
      rw [← Bool.not_eq_true, isDigit_iff]
      omega
    rw [this, Bool.false_and]
  · intro hr
    rcases hb with ⟨b1, b2, b3⟩ | ⟨b1, b2⟩
    · have w0 : IntKind.wrap .i32 (runeAt s p - 48) = runeAt s p - 48 := by simp [IntKind.wrap, IntKind.signed, IntKind.bits]; omega
      have hd : isDigit b = true := by rw [isDigit_iff]; omega
      rw [w0, w64 (n := 10 * n) (by omega) (by omega), w64 (n := runeAt s p - 48) (by omega) (by omega), w64 (by omega) (by omega), b3, b2]
      refine ⟨by omega, z, by omega, ?_, ?_, ?_⟩
      · rw [Int.pow_succ]; omega
      · rw [← d, List.all_cons, hd, Bool.true_and]
      · have a : numL (n.toNat * 10 + (b.toNat - 48)) (restL s (p + 1)) = numL 0 (bytesL s) := a
        rw [← a]
        congr 1
        omega
    · omega
theorem v56 : Vc g56 300 Tryd.f56 cNum := by
  constructor
  rw [v56_eq]; delta c56a c56b
  simp only [Wr_iff, bcase_iff, true_and, and_true, decide_eq_true_eq, decide_eq_false_iff_not, Bool.and_eq_true, Bool.and_eq_false_iff, Bool.or_eq_true, Bool.or_eq_false_iff, Bool.not_eq_true', Bool.not_eq_false', Option.map_some, Option.getD_some, Option.isSome_some, Option.isSome_map, imp_self, nilL, noneO]
  intro x
  generalize x.fst = s
  generalize x.snd.fst = m
  intro hs
  have e48 : ({ data := #[48] } : ByteArray) = ofL [48] := rfl
  have e0 : ({ data := #[] } : ByteArray) = ofL [] := rfl
  have no : numOk (bytesL s) = false → ((0 : Int), false, ()) = (num1 s m, num2 s m, ()) := by
    intro h
    unfold num1 num2
    rw [h]
    rfl
  have hz : ¬ s = ofL [] → 0 < s.size := by
    intro h
    rw [size_bytesL]
    rcases Nat.eq_zero_or_pos (bytesL s).length with h0 | h0
    · exact absurd (bytesL_inj (by rw [List.length_eq_zero_iff.1 h0, bytesL_ofL])) h
    · exact h0
  refine ⟨fun _ => by omega, fun h => by have := hz h.1; omega, fun h => no (num_bad h), fun h => ⟨⟨by omega, by have := h.1.2; omega, by omega, by decide, rfl, rfl⟩, fun y hy => ⟨fun hp => ⟨fun hr => ?_, fun hr => ?_⟩, fun hp => ?_⟩⟩⟩
  · have := (num_on hy hp).1 hr
    exact no (by rw [num_good h, this])
  · refine ⟨(num_on hy hp).2 hr, ?_⟩
    have := nextP_le hp
    omega
  · have hd := hy.d
    have ha := hy.a
    have hp1 := hy.p1
    have hn0 := hy.n0
    rw [restL_end (by omega)] at hd ha
    have hok : numOk (bytesL s) = true := by rw [num_good h, ← hd]; rfl
    have ha : y.1.toNat = numL 0 (bytesL s) := ha
    have hn : y.1 = ((numL 0 (bytesL s) : Nat) : Int) := by
      rw [← ha]; omega
    unfold num1 num2
    rw [hok, ← hn]
    rfl
theorem orI_nat (k : IntKind) (x y : Nat) (hx : x < 2 ^ k.bits) (hy : y < 2 ^ k.bits) : orI k x y = k.wrap ((x ||| y : Nat) : Int) := by
  have e : ∀ z : Nat, z < 2 ^ k.bits → ((z : Int) % ((2 ^ k.bits : Nat) : Int)).toNat = z := by
    intro z hz
    rw [Int.emod_eq_of_lt (by omega) (by exact_mod_cast hz)]
    simp
  unfold orI
  rw [BitVec.toNat_or, BitVec.toNat_ofInt, BitVec.toNat_ofInt, e x hx, e y hy]
theorem or_add {i a d : Nat} (hd : d < 2 ^ i) : (a * 2 ^ i ||| d) = a * 2 ^ i + d := by rw [Nat.mul_comm]; exact (Nat.two_pow_add_eq_or_of_lt hd a).symm
theorem or16 {n d : Int} (n0 : 0 ≤ n) (n1 : n ≤ 65535) (d0 : 0 ≤ d) (d1 : d < 16) : orI .i32 (IntKind.wrap .i32 (n * 2 ^ min (Int.toNat 4) (IntKind.bits .i32))) d = n * 16 + d := by
  obtain ⟨a, rfl⟩ : ∃ a : Nat, n = a := ⟨n.toNat, by omega⟩
  obtain ⟨b, rfl⟩ : ∃ b : Nat, d = b := ⟨d.toNat, by omega⟩
  have e : IntKind.wrap .i32 ((a : Int) * 2 ^ min (Int.toNat 4) (IntKind.bits .i32)) = ((a * 2 ^ 4 : Nat) : Int) := by
    have : (2 : Int) ^ min (Int.toNat 4) (IntKind.bits .i32) = 16 := rfl
    rw [this]
    simp [IntKind.wrap, IntKind.signed, IntKind.bits]; omega
  rw [e, orI_nat _ _ _ (by show _ < 2 ^ 32; omega) (by show _ < 2 ^ 32; omega), or_add (by omega)]
  simp [IntKind.wrap, IntKind.signed, IntKind.bits]; omega
theorem grp_no {s : ByteArray} (h : grpL 0 (bytesL s) = none) : ((0 : Int), false, ()) = (grp1 s, grp2 s, ()) := by
  unfold grp1 grp2
  rw [h]
  rfl
theorem grp_on {s : ByteArray} {n : Int} {p : Nat} {d : Int} (h : GrpI s n p) (hp : p < s.size) (d0 : 0 ≤ d) (d1 : d < 16) (hv : runeAt s p < 128 → ∀ b : UInt8, runeAt s p = b.toNat → hexV b = some d.toNat) (hr : runeAt s p < 128) :
    (n * 16 + d > 65535 → grpL 0 (bytesL s) = none) ∧ (¬ n * 16 + d > 65535 → GrpI s (n * 16 + d) (nextP s p)) := by
  obtain ⟨p1, n0, n1, a⟩ := h
  obtain ⟨b, e, hb⟩ := rune_byte hp
  rcases hb with ⟨b1, b2, b3⟩ | ⟨b1, b2⟩
  · rw [e, grpL, hv hr b b2] at a
    simp only at a
    refine ⟨fun h => ?_, fun h => ?_⟩
    · rw [← a, show decide (n.toNat * 16 + d.toNat ≤ 65535) = false from decide_eq_false (by omega)]
      rfl
    · rw [show decide (n.toNat * 16 + d.toNat ≤ 65535) = true from decide_eq_true (by omega), cond_true] at a
      rw [b3]
      refine ⟨by omega, by omega, by omega, ?_⟩
      rw [← a]
      congr 1
      omega
  · omega
theorem hexV_0 {b : UInt8} (h : 48 ≤ b.toNat ∧ b.toNat ≤ 57) : hexV b = some (b.toNat - 48) := by
  unfold hexV
  rw [show (decide (48 ≤ b.toNat) && decide (b.toNat ≤ 57)) = true from by simpa using h]
  rfl
theorem hexV_a {b : UInt8} (h : 97 ≤ b.toNat ∧ b.toNat ≤ 102) : hexV b = some (b.toNat - 87) := by
  unfold hexV
  rw [show (decide (48 ≤ b.toNat) && decide (b.toNat ≤ 57)) = false from by simp; omega, show (decide (97 ≤ b.toNat) && decide (b.toNat ≤ 102)) = true from by simpa using h]
  rfl
theorem hexV_A {b : UInt8} (h : 65 ≤ b.toNat ∧ b.toNat ≤ 70) : hexV b = some (b.toNat - 55) := by
  unfold hexV
  rw [show (decide (48 ≤ b.toNat) && decide (b.toNat ≤ 57)) = false from by simp; omega, show (decide (97 ≤ b.toNat) && decide (b.toNat ≤ 102)) = false from by simp; omega, show (decide (65 ≤ b.toNat) && decide (b.toNat ≤ 70)) = true from by simpa using h]
  rfl
theorem hexV_no {b : UInt8} (h : ¬ (48 ≤ b.toNat ∧ b.toNat ≤ 57) ∧ ¬ (97 ≤ b.toNat ∧ b.toNat ≤ 102) ∧ ¬ (65 ≤ b.toNat ∧ b.toNat ≤ 70)) : hexV b = none := by
  unfold hexV
  rw [show (decide (48 ≤ b.toNat) && decide (b.toNat ≤ 57)) = false from by simp; omega, show (decide (97 ≤ b.toNat) && decide (b.toNat ≤ 102)) = false from by simp; omega, show (decide (65 ≤ b.toNat) && decide (b.toNat ≤ 70)) = false from by simp; omega]
  rfl
theorem wi32 {n : Int} (h0 : -1000 ≤ n) (h1 : n ≤ 2000000000) : IntKind.wrap .i32 n = n := by
  simp [IntKind.wrap, IntKind.signed, IntKind.bits]; omega
theorem v105 : Vc g105 300 Tryd.f105 cGrp := by
  constructor
  rw [v105_eq]; delta c105a c105b c105c c105d c105e c105f
  simp only [Wr_iff, bcase_iff, true_and, and_true, decide_eq_true_eq, decide_eq_false_iff_not, Bool.and_eq_true, Bool.and_eq_false_iff, Bool.or_eq_true, Bool.or_eq_false_iff, Bool.not_eq_true', Bool.not_eq_false', Option.map_some, Option.getD_some, Option.isSome_some, Option.isSome_map, imp_self, nilL, noneO]
  intro x
  generalize x.fst = s
  intro hs
  have e0 : ({ data := #[] } : ByteArray) = ofL [] := rfl
  refine ⟨⟨by omega, by omega, by omega, rfl⟩, fun y hy => ⟨fun hp => ?_, fun hp => ?_⟩⟩
  · have hmu : s.size - nextP s y.2 < s.size - y.2 := by have := nextP_le hp; omega
    have n0 := hy.n0
    have n1 := hy.n1
    refine ⟨fun hr => ?_, fun hr1 => ⟨fun hr => ?_, fun hr2 => ⟨fun hr => ?_, fun hr3 => ?_⟩⟩⟩
    · rw [wi32 (n := runeAt s y.2 - 48) (by omega) (by omega), or16 n0 n1 (by omega) (by omega)]
      have hg := grp_on (d := runeAt s y.2 - 48) hy hp (by omega) (by omega) (fun _ b hb => by rw [hexV_0 (by omega)]; congr 1; omega) (by omega)
      exact ⟨by omega, fun h => grp_no (hg.1 h), fun h => ⟨hg.2 h, hmu⟩⟩
    · rw [wi32 (n := runeAt s y.2 - 97) (by omega) (by omega), wi32 (n := runeAt s y.2 - 97 + 10) (by omega) (by omega), or16 n0 n1 (by omega) (by omega)]
      have hg := grp_on (d := runeAt s y.2 - 97 + 10) hy hp (by omega) (by omega) (fun _ b hb => by rw [hexV_a (by omega)]; congr 1; omega) (by omega)
      exact ⟨by omega, fun h => grp_no (hg.1 h), fun h => ⟨hg.2 h, hmu⟩⟩
    · rw [wi32 (n := runeAt s y.2 - 65) (by omega) (by omega), wi32 (n := runeAt s y.2 - 65 + 10) (by omega) (by omega), or16 n0 n1 (by omega) (by omega)]
      have hg := grp_on (d := runeAt s y.2 - 65 + 10) hy hp (by omega) (by omega) (fun _ b hb => by rw [hexV_A (by omega)]; congr 1; omega) (by omega)
      exact ⟨by omega, fun h => grp_no (hg.1 h), fun h => ⟨hg.2 h, hmu⟩⟩
    · refine grp_no ?_
      obtain ⟨b, e, hb⟩ := rune_byte hp
      rw [← hy.a, e, grpL, hexV_no (by omega)]
  · have ha := hy.a
    have hp1 := hy.p1
    have hn0 := hy.n0
    have hn1 := hy.n1
    rw [restL_end (by omega), grpL] at ha
    have e1 : IntKind.wrap .u16 y.1 = grp1 s := by
      unfold grp1
      rw [← ha, Option.getD_some]
      simp [IntKind.wrap, IntKind.signed, IntKind.bits]; omega
    have e2 : (!decide (s = { data := #[] }) && decide ((s.size : Int) ≤ 4)) = grp2 s := by
      unfold grp2
      rw [← ha, Option.isSome_some, Bool.true_and, e0]
      have := empty_iff s
      have hsz := size_bytesL s
      rw [Bool.eq_iff_iff]
      simp only [Bool.and_eq_true, Bool.not_eq_true', decide_eq_false_iff_not, decide_eq_true_eq, this]
      omega
    rw [e1, e2]
end Go.Proofs.YtkimpfoimblhjaaDoor.Ad
set_option linter.all false
namespace Go.Proofs.YtkimpfoimblhjaaDoor.Ad
open Go Go.Eng Go.Lb Go.Ad Lb
set_option maxRecDepth 100000
set_option maxHeartbeats 1000000
theorem numO_cases (s : ByteArray) (m : Int) : (num2 s m = true → numO m s = some (num1 s m)) ∧ (num2 s m = false → numO m s = none) := by
  unfold numO
  exact ⟨fun h => by rw [h]; rfl, fun h => by rw [h]; rfl⟩
theorem four_cases (s : ByteArray) : (four2 s = true → (fourO s).map (fun l => ((4 : Int), l)) = some (4, (fourO s).getD [])) ∧ (four2 s = false → fourO s = none) := by
  unfold four2
  cases fourO s with
  | none => exact ⟨fun h => Bool.noConfusion h, fun _ => rfl⟩
  | some l => exact ⟨fun _ => rfl, fun h => Bool.noConfusion h⟩
theorem six_cases (s : ByteArray) : (six2 s = true → (sixO s).map (fun l => ((6 : Int), l)) = some (6, (sixO s).getD [])) ∧ (six2 s = false → sixO s = none) := by
  unfold six2
  cases sixO s with
  | none => exact ⟨fun h => Bool.noConfusion h, fun _ => rfl⟩
  | some l => exact ⟨fun _ => rfl, fun h => Bool.noConfusion h⟩
theorem sub_ofL (s : ByteArray) (i k : Nat) : subS s i k = ofL (((bytesL s).take k).drop i) := by
  apply bytesL_inj
  rw [bytesL_ofL, bytesL_sub]
theorem sub_take (s : ByteArray) (i : Nat) : subS s 0 i = ofL ((bytesL s).take i) := by rw [sub_ofL]; rfl
theorem sub_drop (s : ByteArray) (i : Nat) : subS s i s.size = ofL ((bytesL s).drop i) := by
  rw [sub_ofL, List.take_of_length_le (Nat.le_of_eq (size_bytesL s).symm)]
theorem sub_mid (l : List UInt8) : subS (ofL l) 1 (l.length - 1) = ofL (l.drop 1).dropLast := by
  rw [sub_ofL, bytesL_ofL, List.dropLast_eq_take, List.drop_take, List.length_drop]
theorem sub_at {s : ByteArray} {a b : Int} {k : Nat} (ha : a = k) (hb : b = s.size) : subS s a.toNat b.toNat = ofL ((bytesL s).drop k) := by
  rw [ha, hb]
  exact sub_drop s k
theorem sub_to {s : ByteArray} {b : Int} {k : Nat} (hb : b = k) : subS s (Int.toNat 0) b.toNat = ofL ((bytesL s).take k) := by
  rw [hb]
  exact sub_take s k
theorem sub_in {l : List UInt8} {b : Int} (hl : 1 ≤ l.length) (hb : b = (l.length : Int) - 1) : subS (ofL l) (Int.toNat 1) b.toNat = ofL (l.drop 1).dropLast := by
  rw [hb, show ((l.length : Int) - 1).toNat = l.length - 1 from by omega]
  exact sub_mid l
theorem head91 : ∀ {l : List UInt8}, byteAt (ofL l) (Int.toNat 0) = 91 ↔ l.head? = some 91
  | [] => by rw [byteAt_eq, bytesL_ofL]; decide
  | b :: r => by
    rw [byteAt_eq, bytesL_ofL]
    simp
    exact ⟨fun h => UInt8.toNat_inj.1 (by show b.toNat = 91; omega), fun h => by rw [h]; decide⟩
theorem last93 {l : List UInt8} {b : Int} (hl : 1 ≤ l.length) (hb : b = (l.length : Int) - 1) : byteAt (ofL l) b.toNat = 93 ↔ l.getLast? = some 93 := by
  rw [byteAt_eq, bytesL_ofL, hb, show ((l.length : Int) - 1).toNat = l.length - 1 from by omega, List.getLast?_eq_getElem?]
  have : l.length - 1 < l.length := by omega
  rw [List.getD_eq_getElem?_getD, List.getElem?_eq_getElem this]
  simp
  exact ⟨fun h => UInt8.toNat_inj.1 (by show (l[l.length - 1]).toNat = 93; omega), fun h => by rw [h]; decide⟩
theorem parse_none {s : ByteArray} (h : parseO s = none) : (((0 : Int), ((0 : Int), (0 : Int), (0 : Int), (0 : Int), (0 : Int), (0 : Int), (0 : Int), (0 : Int), ()), (0 : Int), ()), (20 : Int), ()) = (parse1 s, parse2 s, ()) := by
  unfold parse1 parse2
  rw [h]
  rfl
theorem parse_some {s : ByteArray} {a : Ad} (h : parseO s = some a) : (a, (0 : Int), ()) = (parse1 s, parse2 s, ()) := by
  unfold parse1 parse2
  rw [h]
  rfl
theorem parse_at {s : ByteArray} {k : Nat} (h : lastN 58 (bytesL s) = some k) (h1 : 1 ≤ k) : parseO s = match hostO ((bytesL s).take k), numO 65535 (ofL ((bytesL s).drop (k + 1))) with
    | some h, some p => bif decide (p = 0) then none else some (h.1, lg h.2, p, ())
    | _, _ => none := by
  unfold parseO
  rw [h]
  show (bif decide (k < 1) then none else _) = _
  rw [show decide (k < 1) = false from decide_eq_false (by omega), cond_false]
  all_goals rfl
theorem parse_bad {s : ByteArray} {k : Nat} (h : lastN 58 (bytesL s) = some k) (h1 : 1 ≤ k) (hb : num2 (ofL ((bytesL s).drop (k + 1))) 65535 = false ∨ hostO ((bytesL s).take k) = none ∨ num1 (ofL ((bytesL s).drop (k + 1))) 65535 = 0) : parseO s = none := by
  rw [parse_at h h1]
  cases hn : num2 (ofL ((bytesL s).drop (k + 1))) 65535 with
  | false =>
    rw [(numO_cases _ _).2 hn]
    cases hostO ((bytesL s).take k) <;> rfl
  | true =>
    rw [(numO_cases _ _).1 hn]
    cases hh : hostO ((bytesL s).take k) with
    | none => rfl
    | some h =>
      show (bif decide (num1 (ofL ((bytesL s).drop (k + 1))) 65535 = 0) then none else _) = _
      rw [hn, hh] at hb
      rw [decide_eq_true (by simpa using hb), cond_true]
theorem parse_good {s : ByteArray} {k : Nat} {f : Int} {l : List Int} (h : lastN 58 (bytesL s) = some k) (h1 : 1 ≤ k) (hn : num2 (ofL ((bytesL s).drop (k + 1))) 65535 = true) (hh : hostO ((bytesL s).take k) = some (f, l)) (h0 : ¬ num1 (ofL ((bytesL s).drop (k + 1))) 65535 = 0) :
    parseO s = some (f, lg l, num1 (ofL ((bytesL s).drop (k + 1))) 65535, ()) := by
  rw [parse_at h h1, (numO_cases _ _).1 hn, hh]
  show (bif decide (num1 (ofL ((bytesL s).drop (k + 1))) 65535 = 0) then none else _) = _
  rw [decide_eq_false h0, cond_false]
theorem host4 {l : List UInt8} (h : ¬ l.head? = some 91) : hostO l = (fourO (ofL l)).map (fun l => ((4 : Int), l)) := by
  unfold hostO
  rw [show decide (l.head? ≠ some 91) = true from decide_eq_true h, cond_true]
theorem host6 {l : List UInt8} (h : l.head? = some 91) (h1 : 1 < l.length) (h2 : l.getLast? = some 93) : hostO l = (sixO (ofL (l.drop 1).dropLast)).map (fun l => ((6 : Int), l)) := by
  unfold hostO
  rw [show decide (l.head? ≠ some 91) = false from decide_eq_false (fun k => k h), cond_false, decide_eq_true h1, decide_eq_true h2]
  rfl
theorem host0 {l : List UInt8} (h : l.head? = some 91) (h1 : ¬ 1 < l.length ∨ ¬ l.getLast? = some 93) : hostO l = none := by
  unfold hostO
  rw [show decide (l.head? ≠ some 91) = false from decide_eq_false (fun k => k h), cond_false]
  rcases h1 with h1 | h1
  · rw [decide_eq_false h1]; rfl
  · rw [decide_eq_false h1, Bool.and_false]; rfl
theorem v18 : Vc g18 300 Tryd.f18 cParse := by
  constructor
  rw [v18_eq]; delta c18a c18h c18b c18f c18g c18c c18d c18e c18i
  simp only [Wr_iff, bcase_iff, true_and, and_true, decide_eq_true_eq, decide_eq_false_iff_not, Bool.and_eq_true, Bool.and_eq_false_iff, Bool.or_eq_true, Bool.or_eq_false_iff, Bool.not_eq_true', Bool.not_eq_false', Option.map_some, Option.getD_some, Option.isSome_some, Option.isSome_map, imp_self, nilL, noneO]
  intro x
  generalize x.fst = s
  intro hs
  refine ⟨⟨⟨hs, by omega⟩, by omega⟩, ?_⟩
  have hs' := (szOk_iff s).1 hs
  have sz := size_bytesL s
  cases hk : lastN 58 (bytesL s) with
  | none =>
    have hz : lastZ s 58 = -1 := by unfold lastZ; rw [show UInt8.ofNat (Int.toNat 58) = 58 from rfl, hk]
    rw [hz]
    refine ⟨fun _ => parse_none ?_, fun h => absurd (show (-1 : Int) < 1 by omega) h⟩
    unfold parseO
    rw [hk]
  | some k =>
    have hz : lastZ s 58 = k := by unfold lastZ; rw [show UInt8.ofNat (Int.toNat 58) = 58 from rfl, hk]
    have hlt := lastN_lt hk
    rw [hz]
    have wz : IntKind.wrap .i64 ((k : Int) + 1) = ((k + 1 : Nat) : Int) := by rw [w64 (by omega) (by omega)]; omega
    refine ⟨fun h => parse_none ?_, fun h => ?_⟩
    · unfold parseO
      rw [hk]
      show (bif decide (k < 1) then none else _) = _
      rw [show decide (k < 1) = true from decide_eq_true (by omega), cond_true]
    · have h1 : 1 ≤ k := by omega
      rw [sub_at wz rfl, sub_to (b := (k : Int)) rfl, wz]
      have hH : ((bytesL s).take k).length = k := by rw [List.length_take]; omega
      have zH : (ofL ((bytesL s).take k)).size = k := by rw [ofL_size, hH]
      have bad := fun b => parse_none (parse_bad hk h1 b)
      have good := fun (f : Int) (l : List Int) a b c => parse_some (parse_good (f := f) (l := l) hk h1 a b c)
      have szP : (ofL ((bytesL s).drop (k + 1))).size ≤ 4000000000 := by rw [ofL_size, List.length_drop]; omega
      have w1 : IntKind.wrap .i64 ((((ofL ((bytesL s).take k)).size : Nat) : Int) - 1) = (((bytesL s).take k).length : Int) - 1 := by rw [w64 (by omega) (by omega)]; omega
      generalize (bytesL s).take k = H at *
      generalize ofL ((bytesL s).drop (k + 1)) = P at *
      rw [sub_in (by omega) w1, last93 (by omega) w1, head91, w1, zH, hH]
      have dH : (ofL (H.drop 1).dropLast).size ≤ 4000000000 := by rw [ofL_size, List.length_dropLast, List.length_drop]; omega
      refine ⟨by omega, by omega, by omega, by omega, by omega, by omega, (szOk_iff _).2 szP, by omega, by omega, fun hd => ?_, fun hd => ⟨by omega, by omega, fun hm => ?_, fun hm => ?_⟩⟩
      · refine ⟨(szOk_iff _).2 (by omega), fun b => bad ?_, fun g => good _ _ g.1.1 ?_ g.2⟩
        · rcases b with (b | b) | b
          · exact .inl b
          · rw [host4 hd, (four_cases _).2 b]; exact .inr (.inl rfl)
          · exact .inr (.inr b)
        · rw [host4 hd, (four_cases _).1 g.1.2]
      · have hh := host6 hd (by omega) hm.2
        refine ⟨by omega, by omega, by omega, (szOk_iff _).2 dH, fun b => bad ?_, fun g => good _ _ g.1.1 ?_ g.2⟩
        · rcases b with (b | b) | b
          · exact .inl b
          · rw [hh, (six_cases _).2 b]; exact .inr (.inl rfl)
          · exact .inr (.inr b)
        · rw [hh, (six_cases _).1 g.1.2]
      · have hh := host0 hd (by rcases hm with hm | hm; exact .inl (by omega); exact .inr hm)
        refine ⟨fun _ => bad (.inr (.inl hh)), fun g => ?_⟩
        exact absurd g.1.2 (by decide)
end Go.Proofs.YtkimpfoimblhjaaDoor.Ad
set_option linter.all false
namespace Go.Proofs.YtkimpfoimblhjaaDoor.Ad
open Go Go.Eng Go.Lb Go.Ad Lb
set_option maxRecDepth 100000
set_option maxHeartbeats 2000000
theorem wu16 {n : Int} (h0 : 0 ≤ n) (h1 : n < 65536) : IntKind.wrap .u16 n = n := by
  simp [IntKind.wrap, IntKind.signed, IntKind.bits]; omega
theorem or8 {n d : Int} (n0 : 0 ≤ n) (n1 : n ≤ 255) (d0 : 0 ≤ d) (d1 : d ≤ 255) : orI .u16 (IntKind.wrap .u16 (n * 2 ^ min (Int.toNat 8) (IntKind.bits .u16))) (IntKind.wrap .u16 d) = n * 256 + d := by
  obtain ⟨a, rfl⟩ : ∃ a : Nat, n = a := ⟨n.toNat, by omega⟩
  obtain ⟨b, rfl⟩ : ∃ b : Nat, d = b := ⟨d.toNat, by omega⟩
  have e : IntKind.wrap .u16 ((a : Int) * 2 ^ min (Int.toNat 8) (IntKind.bits .u16)) = ((a * 2 ^ 8 : Nat) : Int) := by
    have : (2 : Int) ^ min (Int.toNat 8) (IntKind.bits .u16) = 256 := rfl
    rw [this, wu16 (by omega) (by omega)]
    omega
  rw [e, wu16 d0 (by omega), orI_nat .u16 _ _ (by show a * 2 ^ 8 < 65536; omega) (by show b < 65536; omega), or_add (by omega), wu16 (by omega) (by omega)]
  omega
abbrev four8 (g : G8) (i : Int) (n : Int) : G8 := lg ((gl g).set (IntKind.wrap .i64 (Int.tdiv i 2)).toNat (orI .u16 (IntKind.wrap .u16 ((gl g).getD (IntKind.wrap .i64 (Int.tdiv i 2)).toNat 0 * 2 ^ min (Int.toNat 8) (IntKind.bits .u16))) (IntKind.wrap .u16 n)))
theorem four_on {ps : List ByteArray} {g : G8} {i : Int} {z : ByteArray} (h : FourI ps g i) (hi : i < ps.length) (hn : num2 (ps.getD i.toNat z) 255 = true) : FourI ps (four8 g i (num1 (ps.getD i.toNat z) 255)) (IntKind.wrap .i64 (i + 1)) := by
  obtain ⟨i0, i1, l, ns, e, rfl⟩ := h
  have hg : GoI (numO 255) ps ns i := ⟨i0, by omega, e⟩
  have hno := (numO_cases _ _).1 hn
  obtain ⟨hon, _⟩ := hg.on (z := z) (by omega) hi hno
  have len := hg.len
  have R : ∀ n ∈ ns, 0 ≤ n ∧ n ≤ 255 := goO_mem (fun a b => numO_R) e
  have Rn := numO_R hno
  refine ⟨hon.i0, by have := hon.i1; omega, l, ns ++ [num1 (ps.getD i.toNat z) 255], hon.a, ?_⟩
  generalize num1 (ps.getD i.toNat z) 255 = n at *
  have hc : i = 0 ∨ i = 1 ∨ i = 2 ∨ i = 3 := by omega
  rcases hc with rfl | rfl | rfl | rfl
  · match ns, len with
    | [], _ =>
      have e1 := or8 (n := 0) (by omega) (by omega) Rn.1 Rn.2
      rw [Int.zero_mul, Int.zero_mul, Int.zero_add] at e1
      show lg [orI .u16 (IntKind.wrap .u16 (0 * 2 ^ min (Int.toNat 8) (IntKind.bits .u16))) (IntKind.wrap .u16 n), 0, 0, 0, 0, 0, 0, 0] = lg [n]
      rw [Int.zero_mul, e1]
      rfl
  · match ns, len with
    | [a], _ =>
      have Ra := R a (by simp)
      have e1 := or8 Ra.1 Ra.2 Rn.1 Rn.2
      show lg [orI .u16 (IntKind.wrap .u16 (a * 2 ^ min (Int.toNat 8) (IntKind.bits .u16))) (IntKind.wrap .u16 n), 0, 0, 0, 0, 0, 0, 0] = lg [a * 256 + n]
      rw [e1]
      rfl
  · match ns, len with
    | [a, b], _ =>
      have e1 := or8 (n := 0) (by omega) (by omega) Rn.1 Rn.2
      rw [Int.zero_mul, Int.zero_mul, Int.zero_add] at e1
      show lg [a * 256 + b, orI .u16 (IntKind.wrap .u16 (0 * 2 ^ min (Int.toNat 8) (IntKind.bits .u16))) (IntKind.wrap .u16 n), 0, 0, 0, 0, 0, 0] = lg [a * 256 + b, n]
      rw [Int.zero_mul, e1]
      rfl
  · match ns, len with
    | [a, b, c], _ =>
      have Ra := R c (by simp)
      have e1 := or8 Ra.1 Ra.2 Rn.1 Rn.2
      show lg [a * 256 + b, orI .u16 (IntKind.wrap .u16 (c * 2 ^ min (Int.toNat 8) (IntKind.bits .u16))) (IntKind.wrap .u16 n), 0, 0, 0, 0, 0, 0] = lg [a * 256 + b, c * 256 + n]
      rw [e1]
      rfl
theorem four_no {s : ByteArray} (h : fourO s = none) : (((0 : Int), (0 : Int), (0 : Int), (0 : Int), (0 : Int), (0 : Int), (0 : Int), (0 : Int), ()), false, ()) = (four1 s, four2 s, ()) := by
  unfold four1 four2
  rw [h]
  rfl
theorem four_fin {s : ByteArray} {g : G8} {i : Int} (h : FourI (splitS s (ofL [46])) g i) (hi : ¬ i < (splitS s (ofL [46])).length) : (g, true, ()) = (four1 s, four2 s, ()) := by
  obtain ⟨i0, i1, l, ns, e, rfl⟩ := h
  have hg : GoI (numO 255) (splitS s (ofL [46])) ns i := ⟨i0, by omega, e⟩
  have hf := hg.fin hi
  have hl := goO_len hf
  unfold four1 four2 fourO
  rw [l, hf]
  match ns, hl.trans l with
  | [a, b, c, d], _ => rfl
theorem v57 : Vc g57 300 Tryd.f57 cFour := by
  constructor
  rw [v57_eq]; delta c57e c57b c57a c57c c57d
  simp only [Wr_iff, bcase_iff, true_and, and_true, decide_eq_true_eq, decide_eq_false_iff_not, Bool.and_eq_true, Bool.and_eq_false_iff, Bool.or_eq_true, Bool.or_eq_false_iff, Bool.not_eq_true', Bool.not_eq_false', Option.map_some, Option.getD_some, Option.isSome_some, Option.isSome_map, imp_self, nilL, noneO]
  intro x
  generalize x.fst = s
  rw [show ({ data := #[46] } : ByteArray) = ofL [46] from rfl]
  intro hs
  refine ⟨⟨hs, rfl⟩, ?_⟩
  refine ⟨fun h => four_no ?_, fun h => ⟨?_, fun y hy => ⟨fun hi => ?_, fun hi => four_fin hy hi⟩⟩⟩
  · unfold fourO
    rw [show decide ((splitS s (ofL [46])).length = 4) = false from decide_eq_false (by omega)]
    rfl
  · exact ⟨by omega, by omega, by omega, [], rfl, rfl⟩
  · have i0 := hy.i0
    have w : IntKind.wrap .i64 (Int.tdiv y.2 2) = Int.tdiv y.2 2 ∧ 0 ≤ Int.tdiv y.2 2 ∧ Int.tdiv y.2 2 < 8 := by
      rw [Int.tdiv_eq_ediv_of_nonneg i0]
      exact ⟨w64 (by omega) (by omega), by omega, by omega⟩
    have szp := splitS_sz hs (getD_mem (z := Ty.zero .str) i0 hi)
    refine ⟨i0, hi, szp, fun hn => four_no ?_, fun hn => ?_⟩
    · have hg := hy.a
      obtain ⟨ns, e, _⟩ := hg
      unfold fourO
      rw [goO_none (getD_mem (z := Ty.zero .str) i0 hi) ((numO_cases _ _).2 hn)]
      cases decide ((splitS s (ofL [46])).length = 4) <;> rfl
    · have e8 : ((8 : Nat) : Int) = 8 := rfl
      refine ⟨by omega, by omega, by rw [w.1]; exact w.2.1, by rw [w.1, e8]; exact w.2.2, by omega, by rw [w.1]; exact w.2.1, by rw [w.1, e8]; exact w.2.2, four_on hy hi hn, ?_⟩
      have hl := hy.l
      rw [step i0 (by omega) hi]
      exact wcut (n := 4) i0 (by omega)
end Go.Proofs.YtkimpfoimblhjaaDoor.Ad

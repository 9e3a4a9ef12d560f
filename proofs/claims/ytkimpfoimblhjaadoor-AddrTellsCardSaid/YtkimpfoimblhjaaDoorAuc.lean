/-
  A text of mine, of several parts: EngDraw1, EngDraw2, EngDraw3, EngDraw4, EngDraw5, EngDraw6, EngDraw7, EngDraw8, EngDefer, EngMain, EngValid, EngEq, EngCfg, EngBool, EngOpen, EngKit, EngTyp.
-/
import Derived.Test.YtkimpfoimblhjaaDoorAua
import Derived.Test.YtkimpfoimblhjaaDoorAub
import Derived.Orders
import Derived.StillTail
import Derived.WideKeyEntry
import Derived.Defers
import Derived.Scope
import Derived.LoopN
import Derived.ChangeArms
import Derived.OpenShut
set_option linter.all false
namespace Go.Eng
open Go.RowKit

variable {P : Program} {C : Cfg} {B : Nat} {w0 : World}

def Ext (own own' : Own) : Prop := ∃ δ, own' = δ ++ own
theorem Ext.refl (own : Own) : Ext own own := ⟨[], rfl⟩
theorem Ext.cons {own own' : Own} (p : Nat × Blk) (h : Ext own own') : Ext own (p :: own') := by obtain ⟨δ, rfl⟩ := h; exact ⟨p :: δ, rfl⟩
theorem freeze1_ext (own own' : Own) (d : D) (h : Ext own own') : Ext own (freeze1 own' d) := by
  unfold freeze1
  split
  · split
    · exact h.cons _
    · exact h
  · split
    · exact h.cons _
    · exact h
  · exact h
theorem freeze_ext : ∀ (ds : List D) {own own' : Own}, Ext own own' → Ext own (freeze own' ds)
  | [], _, _, h => h
  | d :: r, _, _, h => freeze_ext r (freeze1_ext _ _ d h)
theorem Ext.take {own own' : Own} (h : Ext own own') : own'.take (own'.length - own.length) ++ own = own' := by
  obtain ⟨δ, rfl⟩ := h
  simp

theorem storeD_ext {own own' : Own} {a : D} {new : List D} (h : storeD own a new = some own') : Ext own own' := by
  unfold storeD at h
  repeat' split at h
  all_goals first | (cases h; done) | (cases h; exact (Ext.refl _).cons _)
theorem appendD_ext {own : Own} {nxt : Nat} {e : TypeId} {s x : D} {r : Res} (h : appendD C own nxt e s x = some r) : Ext own r.own := by
  unfold appendD appendTo at h
  repeat' split at h
  all_goals first | (cases h; done) | (cases h; first | exact Ext.refl _ | exact (Ext.refl _).cons _ | exact ((Ext.refl _).cons _).cons _)
theorem appendS_ext {own : Own} {nxt : Nat} {e : TypeId} {s : D} {str : ByteArray} {r : Res} (h : appendS C own nxt e s str = some r) : Ext own r.own := by
  unfold appendS at h
  repeat' split at h
  all_goals first | (cases h; done) | (cases h; first | exact Ext.refl _ | exact (Ext.refl _).cons _ | exact ((Ext.refl _).cons _).cons _)
theorem callCon_ext {con : Contract} {own : Own} {nxt : Nat} {g : Bool} {ds : List D} {r : Res} (h : callCon con own nxt g ds = some r) : Ext own r.own := by
  unfold callCon at h
  repeat' split at h
  all_goals first | (cases h; done) | (cases h; first | exact Ext.refl _ | exact freeze_ext _ (Ext.refl _) | exact (freeze_ext _ (Ext.refl _)).cons _)
theorem callB_ext {con : BCon} {own : Own} {nxt : Nat} {ds : List D} {r : Res} (h : callB con own nxt ds = some r) : Ext own r.own := by
  unfold callB at h
  repeat' split at h
  all_goals first | (cases h; done) | (cases h; exact Ext.refl _)
theorem withS_ext {own own' : Own} {nxt : Nat} {q : Option (List Cnd × D)} {r : Res} (h : withS own' nxt q = some r) (he : Ext own own') : Ext own r.own := by
  rw [(withS_same h).1]; exact he
theorem withD_ext {own own' : Own} {nxt : Nat} {q : Option D} {r : Res} (h : withD own' nxt q = some r) (he : Ext own own') : Ext own r.own := by
  rw [(withD_same h).1]; exact he

set_option maxHeartbeats 1000000 in
theorem stepF_ext {lk : Operand → D} {own : Own} {nxt : Nat} {o : Oper} {g : Bool} {r : Res} (h : stepF C lk own nxt o g = some r) : Ext own r.own := by
  have val : ∀ {d : D}, some (Res.val own nxt d) = some r → Ext own r.own := fun e => by cases e; exact Ext.refl _
  unfold stepF at h
  cases hop : o.op <;> rw [hop] at h <;> (try simp only at h)
  case move x => exact val h
  case assign x => exact val h
  case alloc =>
    split at h <;> (try (cases h; done)); split at h
    · rename_i hr'
      cases h
      unfold allocArr at hr'
      repeat' split at hr'
      all_goals first | (cases hr'; done) | (cases hr'; exact (Ext.refl _).cons _)
    · split at h <;> (try (cases h; done)); split at h <;> (try (cases h; done)); cases h; exact (Ext.refl _).cons _
  case box => split at h <;> (try (cases h; done)); split at h <;> (try (cases h; done)); cases h; exact (Ext.refl _).cons _
  case build => split at h <;> (try (cases h; done)); split at h <;> (try (cases h; done)); split at h <;> (try (cases h; done)); exact val h
  case buildSlice =>
    split at h <;> (try (cases h; done)); split at h <;> (try (cases h; done)); split at h <;> (try (cases h; done)); split at h
    · split at h <;> (try (cases h; done)); cases h; exact (Ext.refl _).cons _
    · split at h
      · split at h <;> (try (cases h; done)); exact val h
      · split at h <;> (try (cases h; done)); cases h; exact (freeze_ext _ (Ext.refl _)).cons _
  case makeSlice =>
    split at h <;> (try (cases h; done)); split at h <;> (try (cases h; done)); split at h <;> (try (cases h; done)); split at h <;> (try (cases h; done)); split at h <;> cases h
    · exact Ext.refl _
    · exact (Ext.refl _).cons _
  case makeMap T r0 =>
    cases r0 with
    | some x => cases h
    | none => simp only at h; split at h <;> (try (cases h; done)); split at h <;> (try (cases h; done)); split at h <;> (try (cases h; done)); cases h; exact (Ext.refl _).cons _
  case makeInterface => split at h <;> (try (cases h; done)); split at h <;> (try (cases h; done)); split at h <;> (try (cases h; done)); exact val h
  case typeAssert => split at h <;> (try (cases h; done)); split at h <;> (try (cases h; done)); split at h; exact val h; split at h <;> (try (cases h; done)); exact val h
  case lookup => split at h <;> (try (cases h; done)); split at h <;> (try (cases h; done)); split at h <;> (try (cases h; done)); split at h <;> (try (cases h; done)); split at h <;> (try (cases h; done)); split at h <;> (try (cases h; done)); exact val h
  case mapUpdate => split at h <;> (try (cases h; done)); split at h <;> (try (cases h; done)); split at h <;> (try (cases h; done)); split at h <;> (try (cases h; done)); split at h <;> (try (cases h; done)); split at h <;> (try (cases h; done)); split at h <;> (try (cases h; done)); cases h; exact (Ext.refl _).cons _
  case insert => split at h <;> (try (cases h; done)); split at h <;> (try (cases h; done)); split at h <;> (try (cases h; done)); split at h <;> (try (cases h; done)); split at h <;> (try (cases h; done)); split at h <;> (try (cases h; done)); split at h <;> (try (cases h; done)); cases h; exact (Ext.refl _).cons _
  case index =>
    repeat' (split at h <;> (try (cases h; done)))
    all_goals (cases h; exact Ext.refl _)
  case range =>
    repeat' (split at h <;> (try (cases h; done)))
    all_goals (cases h; first | exact (Ext.refl _).cons _ | exact ((Ext.refl _).cons _).cons _)
  case entry =>
    repeat' (split at h <;> (try (cases h; done)))
    all_goals (cases h; exact Ext.refl _)
  case load => split at h <;> (try (cases h; done)); exact withS_ext h (Ext.refl _)
  case store => split at h <;> (try (cases h; done)); split at h <;> (try (cases h; done)); split at h <;> (try (cases h; done)); rename_i hs; cases h; exact storeD_ext hs
  case nilCheck => split at h <;> (try (cases h; done)) <;> (cases h; exact Ext.refl _)
  case fieldAddr => split at h <;> (try (cases h; done)); split at h <;> (try (cases h; done)); exact withS_ext h (Ext.refl _)
  case field =>
    split at h <;> (try (cases h; done)); split at h <;> (try (cases h; done)); split at h <;> (try (cases h; done))
    · exact withD_ext h (Ext.refl _)
    · split at h <;> (try (cases h; done)); exact withD_ext h (Ext.refl _)
  case indexAddr =>
    split at h <;> (try (cases h; done)); split at h <;> (try (cases h; done))
    · split at h <;> (try (cases h; done)); exact withS_ext h (Ext.refl _)
    · split at h <;> (try (cases h; done))
      · split at h <;> (try (cases h; done)); split at h <;> (try (cases h; done)); cases h; exact Ext.refl _
      · split at h <;> (try (cases h; done)); exact val h
      · split at h <;> (try (cases h; done)); cases h; exact Ext.refl _
  case extract => split at h <;> (try (cases h; done)); split at h <;> (try (cases h; done)); exact val h
  case binOp =>
    split at h
    · split at h <;> (try (cases h; done)) <;> exact val h
    · exact withS_ext h (Ext.refl _)
  case unOp => split at h <;> (try (cases h; done)) <;> exact val h
  case convert =>
    split at h <;> (try (cases h; done)) <;> (try exact val h)
    split at h <;> (try (cases h; done)); cases h; exact Ext.refl _
  case makeFunc f _ _ => cases f <;> simp only at h <;> (try (cases h; done)); split at h <;> (try (cases h; done)); exact val h
  case slice =>
    split at h <;> (try (cases h; done))
    · split at h <;> (try (cases h; done)); split at h <;> (try (cases h; done)); split at h
      · split at h <;> (try (cases h; done)); exact withS_ext h (freeze_ext _ (Ext.refl _))
      · exact withS_ext h (Ext.refl _)
    · split at h <;> (try (cases h; done)); split at h <;> (try (cases h; done)); cases h; exact Ext.refl _
    · split at h <;> (try (cases h; done)); split at h <;> (try (cases h; done))
      · split at h <;> (try (cases h; done)); cases h; exact Ext.refl _
      · repeat' (split at h <;> (try (cases h; done)))
        all_goals (cases h; exact freeze_ext _ (Ext.refl _))
  case call cl =>
    obtain ⟨callee, args, ts⟩ := cl
    cases callee with
    | value f =>
      simp only at h
      split at h <;> (try (cases h; done)); split at h
      · exact callCon_ext h
      · split at h
        · exact callB_ext h
        · split at h <;> (try (cases h; done)); split at h <;> (try (cases h; done))
          obtain rfl := Option.some.inj h
          exact ⟨[_], rfl⟩
    | invoke x m => cases h
    | builtin b =>
      simp only at h
      split at h <;> (try (cases h; done))
      · split at h <;> (try (cases h; done))
        · split at h <;> (try (cases h; done)); exact val h
        · split at h <;> (try (cases h; done)); exact val h
      · split at h
        · split at h <;> (try (cases h; done)); exact appendD_ext h
        · split at h <;> (try (cases h; done)); split at h <;> (try (cases h; done)); exact appendS_ext h
      · repeat' (split at h <;> (try (cases h; done)))
        all_goals (cases h; exact (Ext.refl _).cons _)
      · split at h <;> (try (cases h; done)); split at h <;> (try (cases h; done)); exact val h
      · split at h <;> (try (cases h; done)); split at h <;> (try (cases h; done)); exact val h
      · split at h <;> (try (cases h; done)); split at h <;> (try (cases h; done)); exact val h
      · split at h <;> (try (cases h; done)); split at h <;> (try (cases h; done)); exact val h
  all_goals cases h


structure Dim (h : Hid) (own own' : Own) : Prop where
  dead : ∀ o, o ∈ h.hid → lookO own' o = if h.far.contains o then .far else if h.rar.contains o then .rfar else .dead
  same : ∀ o, o ∉ h.hid → lookO own' o = lookO own o
  far : ∀ o, h.far.contains o = true → kindB (lookO own o) = 1
  rar : ∀ o, h.rar.contains o = true → kindB (lookO own o) = 2
theorem kind1 {b : Blk} (h : kindB b = 1) : ∃ ty ds, b = .cells ty ds := by
  cases b <;> simp [kindB] at h
  exact ⟨_, _, rfl⟩
theorem kind2 {b : Blk} (h : kindB b = 2) : ∃ e t xs, b = .row e t xs := by
  cases b <;> simp [kindB] at h
  exact ⟨_, _, _, rfl⟩

section
variable {B : Nat} {w0 : World} {S0 : Nat → Prop} {c c' : Cx} {hd : Hid} {own' : Own}

theorem Dim.goes (h : Dim hd c.own own') : Goes c { c with own := own' } := ⟨Stays.refl _ _, fun o => by
  by_cases e : o ∈ hd.hid
  · simp only [h.dead o e]
    by_cases f : hd.far.contains o = true
    · rw [if_pos f]
      obtain ⟨ty, ds, hc⟩ := kind1 (h.far o f)
      rw [hc]; rfl
    · rw [if_neg f]
      by_cases g : hd.rar.contains o = true
      · rw [if_pos g]
        obtain ⟨e', t', xs', hc⟩ := kind2 (h.rar o g)
        rw [hc]; rfl
      · rw [if_neg g]
        unfold Turns
        cases lookO c.own o <;> trivial
  · simp only [h.same o e]; exact Turns.refl _ _⟩

theorem Dim.blk (h : Dim hd c.own own') {o b : Nat} (hb : blkOf (lookO own' o) (c.ρ o) = some b) : o ∉ hd.hid ∧ blkOf (lookO c.own o) (c.ρ o) = some b := by
  by_cases e : o ∈ hd.hid
  · rw [h.dead o e] at hb
    split at hb
    · cases hb
    · split at hb <;> cases hb
  · rw [h.same o e] at hb; exact ⟨e, hb⟩

theorem Dim.mem (h : Dim hd c.own own') (hm : Mem P B w0 S0 c) : Mem P B w0 S0 { c with own := own' } := by
  refine ⟨fun o => ?_, fun o o' b hne h1 h2 => ?_, hm.bound, hm.from_, hm.to_, hm.below, hm.base, hm.one, hm.frame⟩
  · by_cases e : o ∈ hd.hid
    · unfold BlkOk; simp only [h.dead o e]
      by_cases f : hd.far.contains o = true
      · rw [if_pos f]; trivial
      · rw [if_neg f]
        by_cases g : hd.rar.contains o = true
        · rw [if_pos g]; trivial
        · rw [if_neg g]; trivial
    · exact (hm.ok o).keep h.goes hm.one (h.same o e) rfl fun b _ => ⟨rfl, id⟩
  · exact hm.apart o o' b hne (h.blk h1).2 (h.blk h2).2

mutual
theorem av_ok {c c' : Cx} (hS : c'.S = c.S) (hw : c'.w = c.w) (ho : ∀ o, o ∉ hd.hid → lookO c'.own o = lookO c.own o ∧ c'.ρ o = c.ρ o) (hfar : ∀ o, o ∈ hd.hid → hd.far.contains o = true → lookO c.own o = .far ∧ kindB (lookO c'.own o) = 1 ∧ c'.ρ o = c.ρ o) (hrar : ∀ o, o ∈ hd.hid → hd.rar.contains o = true → hd.far.contains o = false → lookO c.own o = .rfar ∧ kindB (lookO c'.own o) = 2 ∧ c'.ρ o = c.ρ o) :
    ∀ {d : D} {v : Value}, av hd d = true → RV P c d v → RV P c' d v
  | .dat t x, v, _, h => by simp only [RV] at h ⊢; rw [hS, hw]; exact h
  | .agg ds, v, ha, h => by
    obtain ⟨cs, h1, h2⟩ := h
    exact ⟨cs, h1, avs_ok hS hw ho hfar hrar ha h2⟩
  | .tup ds, v, ha, h => by
    obtain ⟨cs, h1, h2⟩ := h
    exact ⟨cs, h1, avs_ok hS hw ho hfar hrar ha h2⟩
  | .pt o off, v, ha, h => by
    by_cases e : o ∈ hd.hid
    · have hf : hd.far.contains o = true := by
        unfold av at ha
        rw [Bool.or_eq_true] at ha
        exact ha.resolve_left fun h => by rw [List.contains_iff_mem.2 e] at h; cases h
      obtain ⟨e1, e2, e3⟩ := hfar o e hf
      simp only [RV, e1] at h
      obtain ⟨ty, cs, hc⟩ := kind1 e2
      simp only [RV, hc]
      rw [e3]; exact h
    · obtain ⟨e1, e2⟩ := ho o e
      simp only [RV] at h ⊢
      rw [e1, e2]; exact h
  | .arr o off n m, v, ha, h => by
    by_cases e : o ∈ hd.hid
    · have hf : hd.far.contains o = true := by
        unfold av at ha
        rw [Bool.or_eq_true] at ha
        exact ha.resolve_left fun h => by rw [List.contains_iff_mem.2 e] at h; cases h
      obtain ⟨e1, e2, e3⟩ := hfar o e hf
      simp only [RV, e1] at h
      obtain ⟨ty, cs, hc⟩ := kind1 e2
      simp only [RV, hc]
      rw [e3]; exact h
    · obtain ⟨e1, e2⟩ := ho o e
      simp only [RV] at h ⊢
      rw [e1, e2]; exact h
  | .arx o base len lo hi p, v, ha, h => by
    by_cases e : o ∈ hd.hid
    · have hf : hd.far.contains o = true := by
        unfold av at ha
        rw [Bool.or_eq_true] at ha
        exact ha.resolve_left fun h => by rw [List.contains_iff_mem.2 e] at h; cases h
      obtain ⟨e1, e2, e3⟩ := hfar o e hf
      simp only [RV, e1] at h
      simp only [RV]
      refine ⟨h.1, h.2.1, h.2.2.1, ?_⟩
      replace h := h.2.2.2
      obtain ⟨ty, cs, hc⟩ := kind1 e2
      simp only [RV, hc]
      rw [e3]; exact h
    · obtain ⟨e1, e2⟩ := ho o e
      simp only [RV] at h ⊢
      rw [e1, e2]; exact h
  | .pe o i s, v, ha, h => by
    obtain ⟨e1, e2⟩ := ho o (by simpa [av] using ha)
    simp only [RV] at h ⊢
    rw [e1, e2]; exact h
  | .own o, v, ha, h => by
    by_cases e : o ∈ hd.hid
    · have hf : hd.rar.contains o = true := by
        unfold av at ha
        rw [Bool.or_eq_true] at ha
        exact ha.resolve_left fun h => by rw [List.contains_iff_mem.2 e] at h; cases h
      cases hfo : hd.far.contains o with
      | true =>
        obtain ⟨e1, e2, e3⟩ := hfar o e hfo
        obtain ⟨ty, cs, hc⟩ := kind1 e2
        simp only [RV, e1] at h
        simp only [RV, hc]; exact h
      | false =>
        obtain ⟨e1, e2, e3⟩ := hrar o e hf hfo
        obtain ⟨e', t', xs', hc⟩ := kind2 e2
        simp only [RV, e1] at h
        simp only [RV, hc]
        rw [e3]; exact h
    · obtain ⟨e1, e2⟩ := ho o e
      simp only [RV] at h ⊢
      rw [e1, e2]; exact h
  | .fn f caps, v, ha, h => by
    obtain ⟨cs, h1, h2⟩ := h
    exact ⟨cs, h1, avs_ok hS hw ho hfar hrar ha h2⟩
  | .cst u, v, _, h => h
  | .clip t xs, v, _, h => by simp only [RV] at h ⊢; rw [hS, hw]; exact h
  | .ifc T t x, v, _, h => by simp only [RV] at h ⊢; rw [hS, hw]; exact h
  | .gd .., v, _, h => h
  | .any, v, _, h => h
theorem avs_ok {c c' : Cx} (hS : c'.S = c.S) (hw : c'.w = c.w) (ho : ∀ o, o ∉ hd.hid → lookO c'.own o = lookO c.own o ∧ c'.ρ o = c.ρ o) (hfar : ∀ o, o ∈ hd.hid → hd.far.contains o = true → lookO c.own o = .far ∧ kindB (lookO c'.own o) = 1 ∧ c'.ρ o = c.ρ o) (hrar : ∀ o, o ∈ hd.hid → hd.rar.contains o = true → hd.far.contains o = false → lookO c.own o = .rfar ∧ kindB (lookO c'.own o) = 2 ∧ c'.ρ o = c.ρ o) :
    ∀ {ds : List D} {vs : List Value}, avs hd ds = true → RVs P c ds vs → RVs P c' ds vs
  | [], vs, _, h => h
  | d :: r, vs, ha, h => by
    obtain ⟨v, vs', e, h1, h2⟩ := h
    simp only [avs, Bool.and_eq_true] at ha
    exact ⟨v, vs', e, av_ok hS hw ho hfar hrar ha.1 h1, avs_ok hS hw ho hfar hrar ha.2 h2⟩
end

theorem lookO_ext {δ own own1 : Own} {o : Nat} (h : lookO own o = lookO own1 o) : lookO (δ ++ own) o = lookO (δ ++ own1) o := by
  induction δ with
  | nil => exact h
  | cons p r ih => simp only [List.cons_append, lookO]; split <;> first | rfl | exact ih
theorem lookO_skip {δ own : Own} {o : Nat} (h : ∀ p ∈ δ, p.1 ≠ o) : lookO (δ ++ own) o = lookO own o := by
  induction δ with
  | nil => rfl
  | cons p r ih =>
    simp only [List.cons_append, lookO]
    rw [if_neg (h p List.mem_cons_self)]
    exact ih fun q hq => h q (List.mem_cons_of_mem _ hq)

theorem undim (h : Dim hd c.own own') (hm : Mem P B w0 S0 c) (hm' : Mem P B w0 S0 c') (hg : Goes { c with own := own' } c') (hf : Fr { c with own := own' } c') {δ : Own} (hown : c'.own = δ ++ own')
    (hδ : ∀ p ∈ δ, p.1 ∉ hd.hid) (hav : ∀ o, o ∉ hd.hid → avB hd (lookO c'.own o) = true) :
    ∃ c2 : Cx, c2.w = c'.w ∧ c2.own = δ ++ c.own ∧ Mem P B w0 S0 c2 ∧ Goes c c2 ∧ ∀ d v, av hd d = true → RV P c' d v → RV P c2 d v := by
  classical
  let c2 : Cx := { c' with own := δ ++ c.own, ρ := fun o => if o ∈ hd.hid then c.ρ o else c'.ρ o }
  have l1 : ∀ o, o ∉ hd.hid → lookO c2.own o = lookO c'.own o := fun o ho => by
    rw [hown]
    exact (lookO_ext (h.same o ho)).symm
  have l2 : ∀ o, o ∈ hd.hid → lookO c2.own o = lookO c.own o := fun o ho => lookO_skip fun p hp e => hδ p hp (e ▸ ho)
  have r1 : ∀ o, o ∉ hd.hid → c2.ρ o = c'.ρ o := fun o ho => if_neg ho
  have r2 : ∀ o, o ∈ hd.hid → c2.ρ o = c.ρ o := fun o ho => if_pos ho
  have hfar : ∀ o, o ∈ hd.hid → hd.far.contains o = true → lookO c'.own o = .far ∧ kindB (lookO c2.own o) = 1 ∧ c2.ρ o = c'.ρ o := by
    intro o ho hfo
    have e1 : lookO c'.own o = .far := by
      rw [hown, lookO_skip fun p hp e => hδ p hp (e ▸ ho), h.dead o ho, if_pos hfo]
    refine ⟨e1, by rw [l2 o ho]; exact h.far o hfo, ?_⟩
    rw [r2 o ho]
    have := hg.turns o
    simp only [h.dead o ho, if_pos hfo, e1] at this
    exact this.symm
  have hrar : ∀ o, o ∈ hd.hid → hd.rar.contains o = true → hd.far.contains o = false → lookO c'.own o = .rfar ∧ kindB (lookO c2.own o) = 2 ∧ c2.ρ o = c'.ρ o := by
    intro o ho hro hfo
    have hfo' : ¬ hd.far.contains o = true := by rw [hfo]; decide
    have e1 : lookO c'.own o = .rfar := by
      rw [hown, lookO_skip fun p hp e => hδ p hp (e ▸ ho), h.dead o ho, if_neg hfo', if_pos hro]
    refine ⟨e1, by rw [l2 o ho]; exact h.rar o hro, ?_⟩
    rw [r2 o ho]
    have := hg.turns o
    simp only [h.dead o ho, if_neg hfo', if_pos hro, e1] at this
    exact this.symm
  have hrv : ∀ {d v}, av hd d = true → RV P c' d v → RV P c2 d v := fun ha hv => av_ok (c := c') (c' := c2) rfl rfl (fun o ho => ⟨l1 o ho, r1 o ho⟩) hfar hrar ha hv
  have hgo : Goes c c2 := ⟨hg.stays, fun o => by
    by_cases e : o ∈ hd.hid
    · rw [l2 o e, r2 o e]; exact Turns.refl _ _
    · rw [l1 o e, r1 o e]
      have := hg.turns o
      simp only [h.same o e] at this
      exact this⟩
  -- a block that isn't seen
  have hunseen : ∀ o b, o ∈ hd.hid → blkOf (lookO c.own o) (c.ρ o) = some b → c'.w.heap[b]? = c.w.heap[b]? ∧ (c'.S b → c.S b) ∧ ∀ o, blkOf (lookO c'.own o) (c'.ρ o) ≠ some b := by
    intro o b ho hb
    refine hf.keep b (hm.blk_lt o b hb) fun j hj => ?_
    obtain ⟨e, hj⟩ := h.blk hj
    exact hm.apart j o b (fun e' => e (e' ▸ ho)) hj hb
  refine ⟨c2, rfl, rfl, ⟨fun o => ?_, fun o o' b hne h1 h2 => ?_, hm'.bound, hm'.from_, hm'.to_, hm'.below, hm'.base, fun o => ?_, hm'.frame⟩, hgo, fun d v => hrv⟩
  · by_cases e : o ∈ hd.hid
    · exact (hm.ok o).keep hgo hm.one (l2 o e) (r2 o e) fun b hb => ⟨(hunseen o b e hb).1, (hunseen o b e hb).2.1⟩
    · have hk := hm'.ok o
      unfold BlkOk at hk ⊢
      rw [l1 o e, r1 o e]
      have hv := hav o e
      cases hb : lookO c'.own o with
      | cells ty ds =>
        simp only [hb] at hk hv
        obtain ⟨b, cs, g1, g2, g3, g4⟩ := hk
        exact ⟨b, cs, g1, g2, avs_ok (c := c') (c' := c2) rfl rfl (fun o ho => ⟨l1 o ho, r1 o ho⟩) hfar hrar hv g3, g4⟩
      | fcells ty ds =>
        simp only [hb] at hk hv
        obtain ⟨b, cs, g1, g2, g3, g4⟩ := hk
        exact ⟨b, cs, g1, g2, avs_ok (c := c') (c' := c2) rfl rfl (fun o ho => ⟨l1 o ho, r1 o ho⟩) hfar hrar hv g3, g4⟩
      | row e t xs => simp only [hb] at hk; exact hk
      | frow t xs => simp only [hb] at hk; exact hk
      | brow t xs => simp only [hb] at hk; exact hk
      | map T kt vt n f => simp only [hb] at hk; exact hk
      | iter s pos => simp only [hb] at hk; exact hk
      | miter vt f left cnt cur => simp only [hb] at hk; exact hk
      | dead => trivial
      | gone => trivial
      | far => trivial
      | rfar => trivial
  · by_cases e : o ∈ hd.hid
    · rw [l2 o e, r2 o e] at h1
      by_cases e' : o' ∈ hd.hid
      · rw [l2 o' e', r2 o' e'] at h2; exact hm.apart o o' b hne h1 h2
      · rw [l1 o' e', r1 o' e'] at h2; exact (hunseen o b e h1).2.2 o' h2
    · rw [l1 o e, r1 o e] at h1
      by_cases e' : o' ∈ hd.hid
      · rw [l2 o' e', r2 o' e'] at h2; exact (hunseen o' b e' h2).2.2 o h1
      · rw [l1 o' e', r1 o' e'] at h2; exact hm'.apart o o' b hne h1 h2
  · by_cases e : o ∈ hd.hid
    · rw [r2 o e]; exact hm.one o
    · rw [r1 o e]; exact hm'.one o

end
end Go.Eng
namespace Go.Eng
open Go.RowKit

variable {P : Program} {C : Cfg} {B : Nat} {w0 : World}

theorem GV.trans' {c c' : Cx} {tm : Array Value} {hid : Hid} (h : ∀ d v, av hid d = true → RV P c d v → RV P c' d v) {d : D} {v : Value} (ha : av hid d = true) (hv : GV P c tm d v) : GV P c' tm d v := by
  cases d with
  | gd t w d =>
    simp only [av] at ha
    exact ⟨fun e => h _ _ ha (hv.1 e), hv.2⟩
  | _ => exact h _ _ ha hv

section
variable {B : Nat} {w0 : World} {S0 : Nat → Prop}

theorem hypNil_ok {l : List Prop} (h : hypNil l = true) : l = [] := by cases l <;> first | rfl | cases h

theorem stepD_ok (hC : CfgOk P C B w0) {c : Cx} (hm : Mem P B w0 S0 c) {a : Act} {env : Env} (he : EnvOk P c env a.tmps) {all : List Oper} {i : Nat} {o : Oper} (hi : all[i]? = some o) {nxt : Nat} {r : DR}
    (h : stepD C all env c.own nxt o = some r) (hs : ∀ p ∈ r.side, p) {K : Act → World → Prop} {Q : Exit → Act → World → Prop}
    (hK : ∀ v c', Mem P B w0 S0 c' → Goes c c' → Fr c c' → c'.own = r.delta ++ c.own → GV P c' a.tmps r.d v → (∀ t w d, r.d = .gd t w d → o.dst ≠ some t ∧ ∃ j w' oj, o.guard = some (j, w') ∧ all[j]? = some oj ∧ oj.dst = some t) → K (a.put o.dst v) c'.w) :
    wpOp P all.toArray Q i K a c.w := by
  unfold wpOp
  have hi' : all.toArray[i]? = some o := by simpa using hi
  simp only [hi']
  unfold stepD at h
  cases hgd : o.guard with
  | none =>
    rw [hgd] at h
    simp only at h
    have hw : Region.wanted o (yielded all.toArray a.tmps) = true := by unfold Region.wanted; rw [hgd]
    rw [if_pos hw]
    left
    have plain : ∀ r', stepF C (fun x => ungd (opnd env x)) c.own nxt o false = some r' → (if hypNil r'.hyp && (r'.nxt == nxt || fresh c.own nxt) then some (⟨r'.side, r'.d, r'.own.take (r'.own.length - c.own.length)⟩ : DR) else none) = some r → o.wp P a c.w K Q := by
      intro r' hr hst
      split at hst
      · rename_i hcnd
        simp only [Bool.and_eq_true, Bool.or_eq_true, beq_iff_eq] at hcnd
        obtain ⟨hh, hn⟩ := hcnd
        cases hst
        have hf : r'.nxt = nxt ∨ lookO c.own nxt = .gone := by
          rcases hn with e | e
          · exact .inl e
          · right
            unfold fresh at e
            split at e
            · assumption
            · cases e
        have := stepF_ok hC hm (fun x => opnd_ok he x) hr hs hf
        refine this K Q fun v c' hm' hg' hf' hown hv _ => hK v c' hm' hg' hf' ?_ hv.toGV fun t w d e => ?_
        · rw [hown]; exact (stepF_ext hr).take.symm
        · simp only at e; rw [e] at hv; exact hv.elim
      · cases hst
    cases hop : o.op with
    | pick p x y =>
      rw [hop] at h
      simp only at h
      split at h
      · rename_i d hd
        cases h
        obtain ⟨b, u, h1, h2, rfl⟩ := pickD_ok (P := P) (c := c) (a := a) (f := id) (fun z => opnd_gv he z) hd
        have hrun := pick_run (P := P) (w := c.w) hop h1
        rw [h2] at hrun
        unfold Oper.wp
        rw [hrun, Oper.upon_value]
        exact hK _ c hm (Goes.refl c) (Fr.refl c) rfl (.of_bool u) fun t w d e => by cases e
      · cases h
    | _ =>
      rw [hop] at h
      simp only at h
      split at h
      · rename_i r' hr; exact plain r' hr h
      · cases h
  | some jw =>
    obtain ⟨j, wb⟩ := jw
    rw [hgd] at h
    simp only at h
    split at h
    · rename_i t htd
      split at h
      · rename_i htag
        have htag : o.dst ≠ some t := by simpa using htag
        split at h
        · rename_i cnd hcnd
          have hiff := condB_ok he 9 hcnd
          have hwant : Region.wanted o (yielded all.toArray a.tmps) = true ↔ a.tmps.getD t undef = .bool wb := by
            unfold Region.wanted yielded
            rw [hgd]
            simp only [List.getElem?_toArray, htd, Option.bind_some]
            rw [Array.getD_eq_getD_getElem?]
            cases ht2 : a.tmps[t]? with
            | none => simp [undef]
            | some u => cases u <;> simp
          have htg : ∀ {d : D} (t' : Nat) (w : Bool) (d' : D), (.gd t wb d : D) = .gd t' w d' → o.dst ≠ some t' ∧ ∃ j w' oj, o.guard = some (j, w') ∧ all[j]? = some oj ∧ oj.dst = some t' := by
            intro d t' w d' e
            cases e
            obtain ⟨oj, h1, h2⟩ := Option.bind_eq_some_iff.1 htd
            exact ⟨htag, _, wb, oj, hgd, h1, h2⟩
          have skip : ∀ {d : D}, r.delta = [] → r.d = .gd t wb d → a.tmps.getD t undef ≠ .bool wb → K (a.put o.dst undef) c.w := by
            intro d hd0 hd hne
            refine hK undef c hm (Goes.refl c) (Fr.refl c) (by rw [hd0]; rfl) ?_ ?_
            · rw [hd]; exact ⟨fun e => absurd e hne, fun _ => rfl⟩
            · intro t' w d' e; rw [hd] at e; exact htg t' w d' e
          have stepg : ∀ r', stepF C (fun x => ungd (strip' t wb (opnd env x))) c.own nxt o true = some r' → (if hypNil r'.hyp then some (⟨r'.side.map (Cnd.imp cnd), .gd t wb r'.d, []⟩ : DR) else none) = some r →
              if Region.wanted o (yielded all.toArray a.tmps) then o.wp P a c.w K Q ∨ (o.asks P a c.w ∧ LetsOut Q) else K (a.put o.dst undef) c.w := by
            intro r' hr hst
            split at hst
            · cases hst
              split
              · rename_i hw
                left
                have hw := hwant.1 hw
                have hc := hiff.1 hw
                obtain ⟨hown', hnxt'⟩ := stepF_guard hr
                have := stepF_ok hC hm (fun x => opnd_guard he hw x) hr (fun p hp => hs _ (List.mem_map.2 ⟨p, hp, rfl⟩) hc) (.inl hnxt')
                refine this K Q fun v c' hm' hg' hf' hown hv _ => hK v c' hm' hg' hf' (by rw [hown, hown']; rfl) ⟨fun _ => hv, fun e => absurd hw e⟩ fun t' w d' e => ?_
                exact htg t' w d' e
              · rename_i hw
                exact skip rfl rfl fun e => hw (hwant.2 e)
            · cases hst
          cases hop : o.op with
          | pick p x y =>
            rw [hop] at h
            simp only at h
            split at h
            · rename_i d hd
              cases h
              split
              · rename_i hw
                left
                have hw := hwant.1 hw
                obtain ⟨b, u, h1, h2, rfl⟩ := pickD_ok (P := P) (c := c) (a := a) (f := strip' t wb) (fun z => strip_gv hw (opnd_gv he z)) hd
                have hrun := pick_run (P := P) (w := c.w) hop h1
                rw [h2] at hrun
                unfold Oper.wp
                rw [hrun, Oper.upon_value]
                refine hK _ c hm (Goes.refl c) (Fr.refl c) rfl ⟨fun _ => .of_bool u, fun e => absurd hw e⟩ fun t' w d' e => ?_
                exact htg t' w d' e
              · rename_i hw
                exact skip rfl rfl fun e => hw (hwant.2 e)
            · cases h
          | _ =>
            rw [hop] at h
            simp only at h
            split at h
            · rename_i r' hr; exact stepg r' hr h
            · cases h
        · cases h
      · cases h
    · cases h

end


theorem edgeMask_bit {acc : List Nat} {j : Nat} : ∀ {es : List Edge}, (edgeMask acc es).testBit j = true → ∃ e ∈ es, Region.binds .any e = true ∧ (e.on = j ∨ (acc.getD e.on 0).testBit j = true)
  | [], h => by simp [edgeMask] at h
  | e :: r, h => by
    unfold edgeMask at h
    split at h
    · rename_i hb
      simp only [Nat.testBit_or, Bool.or_eq_true] at h
      rcases h with (h | h) | h
      · obtain ⟨e', he, h1⟩ := edgeMask_bit h
        exact ⟨e', List.mem_cons_of_mem _ he, h1⟩
      · refine ⟨e, List.mem_cons_self, hb, .inl ?_⟩
        rw [Nat.one_shiftLeft, Nat.testBit_two_pow] at h
        simpa using h
      · exact ⟨e, List.mem_cons_self, hb, .inr h⟩
    · obtain ⟨e', he, h1⟩ := edgeMask_bit h
      exact ⟨e', List.mem_cons_of_mem _ he, h1⟩
theorem edgeMask_has {acc : List Nat} : ∀ {es : List Edge} {e : Edge}, e ∈ es → Region.binds .any e = true → (edgeMask acc es).testBit e.on = true
  | e' :: r, e, he, hb => by
    unfold edgeMask
    rcases List.mem_cons.1 he with rfl | he
    · rw [if_pos hb]
      simp [Nat.testBit_or, Nat.one_shiftLeft]
    · have := edgeMask_has (acc := acc) he hb
      split
      · simp [Nat.testBit_or, this]
      · exact this

structure AncOk (all : List Oper) (ancs : List Nat) : Prop where
  down : ∀ i j, (ancs.getD i 0).testBit j = true → ∃ o, all[i]? = some o ∧ ∃ e ∈ o.after, Region.binds .any e = true ∧ (e.on = j ∨ (e.on < i ∧ (ancs.getD e.on 0).testBit j = true))
  has : ∀ i o, i < ancs.length → all[i]? = some o → ∀ e ∈ o.after, Region.binds .any e = true → (ancs.getD i 0).testBit e.on = true

theorem ancsOf_ok {all : List Oper} : ∀ (rest : List Oper) (acc : List Nat), all.drop acc.length = rest → AncOk all acc → AncOk all (ancsOf rest acc) ∧ (ancsOf rest acc).length = acc.length + rest.length
  | [], acc, _, h => ⟨h, rfl⟩
  | o :: r, acc, hd, h => by
    have ho : all[acc.length]? = some o := by
      have : (all.drop acc.length)[0]? = some o := by rw [hd]; rfl
      simpa [List.getElem?_drop] using this
    have hlt : ∀ {k : Nat}, k < acc.length → (acc ++ [edgeMask acc o.after.toList]).getD k 0 = acc.getD k 0 := by
      intro k hk
      simp [List.getD, List.getElem?_append_left hk]
    have heq : (acc ++ [edgeMask acc o.after.toList]).getD acc.length 0 = edgeMask acc o.after.toList := by simp [List.getD]
    have := ancsOf_ok r (acc ++ [edgeMask acc o.after.toList]) (by rw [List.length_append, List.length_singleton, ← List.drop_drop, hd]; rfl) ⟨fun i j hij => ?_, fun i o' hi ho' e he hb => ?_⟩
    · refine ⟨this.1, ?_⟩
      have h2 := this.2
      rw [List.length_append] at h2
      rw [List.length_cons]
      show (ancsOf r (acc ++ [edgeMask acc o.after.toList])).length = _
      have : [edgeMask acc o.after.toList].length = 1 := rfl
      omega
    · rcases Nat.lt_trichotomy i acc.length with hl | rfl | hl
      · rw [hlt hl] at hij
        obtain ⟨o', h1, e, h2, h3, h4⟩ := h.down i j hij
        refine ⟨o', h1, e, h2, h3, h4.imp id fun h5 => ⟨h5.1, by rw [hlt (by omega)]; exact h5.2⟩⟩
      · rw [heq] at hij
        obtain ⟨e, h1, h2, h3⟩ := edgeMask_bit hij
        refine ⟨o, ho, e, by simpa using h1, h2, h3.imp id fun h4 => ?_⟩
        have : e.on < acc.length := by
          rcases Nat.lt_or_ge e.on acc.length with h | h
          · exact h
          · rw [List.getD, List.getElem?_eq_none h] at h4; simp at h4
        exact ⟨this, by rw [hlt this]; exact h4⟩
      · rw [List.getD, List.getElem?_eq_none (by simp; omega)] at hij
        simp at hij
    · rw [List.length_append, List.length_singleton] at hi
      rcases Nat.lt_or_ge i acc.length with hl | hl
      · rw [hlt hl]; exact h.has i o' hl ho' e he hb
      · obtain rfl : i = acc.length := by omega
        rw [heq]
        obtain rfl := Option.some.inj (ho.symm.trans ho')
        exact edgeMask_has (by simpa using he) hb

def Closed (all : List Oper) (T : Nat → Bool) : Prop := ∀ j o, all[j]? = some o → T j = true → ∀ e ∈ o.after, Region.binds .any e = true → T e.on = true

theorem closed_anc {all : List Oper} {ancs : List Nat} (ha : AncOk all ancs) {T : Nat → Bool} (hT : Closed all T) : ∀ (i j : Nat), T i = true → (ancs.getD i 0).testBit j = true → T j = true := by
  intro i
  induction i using Nat.strongRecOn with
  | _ i ih =>
    intro j hi hb
    obtain ⟨o, ho, e, he, hbi, h⟩ := ha.down i j hb
    have := hT i o ho hi e he hbi
    rcases h with rfl | ⟨h1, h2⟩
    · exact this
    · exact ih e.on h1 j this h2
theorem ready_anc {all : List Oper} {ancs : List Nat} (ha : AncOk all ancs) {T : Nat → Bool} (hT : Closed all T) {i : Nat} {o : Oper} (ho : all[i]? = some o) (hr : ∀ e ∈ o.after, Region.binds .any e = true → T e.on = true) {j : Nat}
    (hb : (ancs.getD i 0).testBit j = true) : T j = true := by
  obtain ⟨o', ho', e, he, hbi, h⟩ := ha.down i j hb
  obtain rfl := Option.some.inj (ho.symm.trans ho')
  have := hr e he hbi
  rcases h with rfl | ⟨h1, h2⟩
  · exact this
  · exact closed_anc ha hT e.on j this h2

end Go.Eng
namespace Go.Eng
open Go.RowKit

variable {P : Program} {C : Cfg} {B : Nat} {w0 : World}


theorem look_put (env : Env) (dst : Option Nat) (d : D) (s : Nat) : look (put env dst d) s = if dst = some s then d else look env s := by
  cases dst with
  | none => simp [put]
  | some t =>
    simp only [put, look]
    by_cases h : t = s
    · subst h; simp
    · rw [if_neg h, if_neg (fun e => h (Option.some.inj e))]

theorem dEnv_congr {p q : Nat → Bool} {base : Env} {s : Nat} : ∀ {acc : List DZ}, (∀ z ∈ acc, z.o.dst = some s → p z.i = q z.i) → look (dEnv p base acc) s = look (dEnv q base acc) s
  | [], _ => rfl
  | z :: r, h => by
    have ih := dEnv_congr (p := p) (q := q) (base := base) (s := s) (acc := r) fun z' hz => h z' (List.mem_cons_of_mem _ hz)
    unfold dEnv
    by_cases hd : z.o.dst = some s
    · rw [h z List.mem_cons_self hd]
      split
      · rw [look_put, look_put, if_pos hd, if_pos hd]
      · exact ih
    · have f : ∀ (b : Bool) (e : Env), look (if b = true then put e z.o.dst z.r.d else e) s = look e s := by
        intro b e; cases b
        · rfl
        · simp only [if_true]; rw [look_put, if_neg hd]
      rw [f, f]; exact ih
theorem dEnv_cases {p : Nat → Bool} {base : Env} {s : Nat} : ∀ (acc : List DZ), look (dEnv p base acc) s = look base s ∨ ∃ z ∈ acc, p z.i = true ∧ z.o.dst = some s ∧ look (dEnv p base acc) s = z.r.d
  | [] => .inl rfl
  | z :: r => by
    unfold dEnv
    split
    · rename_i hp
      rw [look_put]
      split
      · rename_i hd; exact .inr ⟨z, List.mem_cons_self, hp, hd, rfl⟩
      · rcases dEnv_cases (p := p) (base := base) (s := s) r with h | ⟨z', h1, h2, h3, h4⟩
        · exact .inl h
        · exact .inr ⟨z', List.mem_cons_of_mem _ h1, h2, h3, h4⟩
    · rcases dEnv_cases (p := p) (base := base) (s := s) r with h | ⟨z', h1, h2, h3, h4⟩
      · exact .inl h
      · exact .inr ⟨z', List.mem_cons_of_mem _ h1, h2, h3, h4⟩
theorem dEnv_at {p : Nat → Bool} {base : Env} {s : Nat} {acc : List DZ} {z : DZ} (hz : z ∈ acc) (hp : p z.i = true) (hd : z.o.dst = some s) (hu : ∀ z' ∈ acc, z'.o.dst = some s → z' = z) : look (dEnv p base acc) s = z.r.d := by
  induction acc with
  | nil => cases hz
  | cons z' r ih =>
    unfold dEnv
    rcases List.mem_cons.1 hz with rfl | hz
    · rw [if_pos hp, look_put, if_pos hd]
    · have ih := ih hz fun z'' h => hu z'' (List.mem_cons_of_mem _ h)
      split
      · rw [look_put]
        split
        · rename_i e; rw [hu z' List.mem_cons_self e]
        · exact ih
      · exact ih
theorem dEnv_drop {p : Nat → Bool} {base : Env} : ∀ {l r : List DZ}, (∀ z ∈ l, p z.i = false) → dEnv p base (l ++ r) = dEnv p base r
  | [], _, _ => rfl
  | z :: l, r, h => by
    simp only [List.cons_append, dEnv]
    rw [if_neg (by rw [h z List.mem_cons_self]; exact Bool.false_ne_true)]
    exact dEnv_drop fun z' h' => h z' (List.mem_cons_of_mem _ h')

def Wrts (z : DZ) (o : Nat) : Prop := ∃ b, (o, b) ∈ z.r.delta

theorem dOwn_congr {p q : Nat → Bool} {base : Own} {o : Nat} : ∀ {acc : List DZ}, (∀ z ∈ acc, Wrts z o → p z.i = q z.i) → lookO (dOwn p base acc) o = lookO (dOwn q base acc) o
  | [], _ => rfl
  | z :: r, h => by
    have ih := dOwn_congr (p := p) (q := q) (base := base) (o := o) (acc := r) fun z' hz => h z' (List.mem_cons_of_mem _ hz)
    unfold dOwn
    by_cases hd : Wrts z o
    · rw [h z List.mem_cons_self hd]
      split
      · exact lookO_ext ih
      · exact ih
    · have f : ∀ (b : Bool) (e : Own), lookO (if b = true then z.r.delta ++ e else e) o = lookO e o := by
        intro b e; cases b
        · rfl
        · simp only [if_true]; exact lookO_skip fun q hq e' => hd ⟨q.2, by rw [← e']; exact hq⟩
      rw [f, f]; exact ih
theorem dOwn_drop {p : Nat → Bool} {base : Own} : ∀ {l r : List DZ}, (∀ z ∈ l, p z.i = false) → dOwn p base (l ++ r) = dOwn p base r
  | [], _, _ => rfl
  | z :: l, r, h => by
    simp only [List.cons_append, dOwn]
    rw [if_neg (by rw [h z List.mem_cons_self]; exact Bool.false_ne_true)]
    exact dOwn_drop fun z' h' => h z' (List.mem_cons_of_mem _ h')
theorem dOwn_drop' {p : Nat → Bool} {base : Own} {o : Nat} : ∀ {l r : List DZ}, (∀ z ∈ l, p z.i = true → ¬ Wrts z o) → lookO (dOwn p base (l ++ r)) o = lookO (dOwn p base r) o
  | [], _, _ => rfl
  | z :: l, r, h => by
    simp only [List.cons_append, dOwn]
    have ih := dOwn_drop' (p := p) (base := base) (o := o) (l := l) (r := r) fun z' h' => h z' (List.mem_cons_of_mem _ h')
    split
    · rename_i hp
      rw [lookO_skip fun q hq e' => h z List.mem_cons_self hp ⟨q.2, by rw [← e']; exact hq⟩]
      exact ih
    · exact ih
theorem lookO_hit {δ X Y : Own} {o : Nat} (h : ∃ b, (o, b) ∈ δ) : lookO (δ ++ X) o = lookO (δ ++ Y) o := by
  induction δ with
  | nil => obtain ⟨b, h⟩ := h; cases h
  | cons p r ih =>
    simp only [List.cons_append, lookO]
    by_cases e : p.1 = o
    · rw [if_pos e, if_pos e]
    · rw [if_neg e, if_neg e]
      refine ih ?_
      obtain ⟨b, h⟩ := h
      rcases List.mem_cons.1 h with h | h
      · exact absurd (by rw [← h]) e
      · exact ⟨b, h⟩


theorem hidE_ok {ancs : List Nat} {i : Nat} {e : Env} {s : Nat} : ∀ (rest : List Oper) (k : Nat), look (hidE ancs i k rest e) s = .any ∨ (look (hidE ancs i k rest e) s = look e s ∧ ∀ j o, rest[j]? = some o → unord ancs i (k + j) = true → o.dst ≠ some s)
  | [], k => .inr ⟨rfl, fun j o h => by simp at h⟩
  | o :: r, k => by
    unfold hidE
    have ih := hidE_ok (ancs := ancs) (i := i) (e := e) (s := s) r (k + 1)
    have shift : (∀ j o', r[j]? = some o' → unord ancs i (k + 1 + j) = true → o'.dst ≠ some s) → (unord ancs i k = true → o.dst ≠ some s) → ∀ j o', (o :: r)[j]? = some o' → unord ancs i (k + j) = true → o'.dst ≠ some s := by
      intro h1 h2 j o' hj hu
      cases j with
      | zero => simp at hj; subst hj; exact h2 hu
      | succ j => exact h1 j o' (by simpa using hj) (by rwa [show k + 1 + j = k + (j + 1) by omega])
    split
    · rw [look_put]
      split
      · exact .inl rfl
      · rename_i hd
        rcases ih with h | ⟨h1, h2⟩
        · exact .inl h
        · exact .inr ⟨h1, shift h2 fun _ => hd⟩
    · rename_i hu
      rcases ih with h | ⟨h1, h2⟩
      · exact .inl h
      · exact .inr ⟨h1, shift h2 fun e => absurd e hu⟩
theorem hidN_ok {ancs : List Nat} {i : Nat} : ∀ (ws : List (List (Nat × Nat))) (k j : Nat) (x : Nat × Nat), unord ancs i (k + j) = true → x ∈ ws.getD j [] → x ∈ hidN ancs i k ws
  | [], k, j, x, _, h => by simp at h
  | w :: r, k, j, x, hu, h => by
    unfold hidN
    cases j with
    | zero =>
      rw [if_pos (by simpa using hu)]
      exact List.mem_append_left _ (by simpa using h)
    | succ j =>
      have := hidN_ok r (k + 1) j x (by rwa [show k + 1 + j = k + (j + 1) by omega]) (by simpa using h)
      split
      · exact List.mem_append_right _ this
      · exact this
theorem closeH_sub {own : Own} {far rar : List Nat} : ∀ (n : Nat) {hid : List Nat} {x : Nat}, x ∈ hid → x ∈ closeH own far rar n hid
  | 0, _, _, h => h
  | n + 1, _, _, h => closeH_sub n (List.mem_append_left _ h)
theorem hideO_ok {own : Own} {far rar : List Nat} {o : Nat} : ∀ (hid : List Nat), lookO (hideO own far rar hid) o = if o ∈ hid then (if far.contains o then .far else if rar.contains o then .rfar else .dead) else lookO own o
  | [] => by simp [hideO]
  | x :: r => by
    simp only [hideO, lookO]
    rw [hideO_ok r]
    by_cases h : x = o
    · simp [h]
    · rw [if_neg h]
      have : o ∈ x :: r ↔ o ∈ r := by simp [Ne.symm h]
      simp only [this]


inductive Built (C : Cfg) (all : List Oper) (ws : List (List (Nat × Nat))) (ancs : List Nat) (st : St) : Nat → List DZ → Prop
  | nil : Built C all ws ancs st 0 []
  | cons {i : Nat} {acc : List DZ} {o : Oper} {r : DR} : Built C all ws ancs st i acc → all[i]? = some o → stepD C all (viewE all ancs st.env i acc) (viewO ws ancs st.own i acc) (st.nxt + i) o = some r →
      checkD ws ancs st.n i o r (viewH ws ancs st.own i acc) (viewO ws ancs st.own i acc) acc = true → Built C all ws ancs st (i + 1) (⟨i, o, r⟩ :: acc)

variable {all : List Oper} {ws : List (List (Nat × Nat))} {ancs : List Nat} {st : St}

theorem runD_built : ∀ (rest : List Oper) (i : Nat) (acc out : List DZ), all.drop i = rest → Built C all ws ancs st i acc → runD C all ws ancs st i rest acc = some out → Built C all ws ancs st (i + rest.length) out
  | [], i, acc, out, _, hb, h => by cases h; exact hb
  | o :: r, i, acc, out, hd, hb, h => by
    unfold runD at h
    split at h
    · rename_i r' hr
      split at h
      · rename_i hc
        have ho : all[i]? = some o := by
          have : (all.drop i)[0]? = some o := by rw [hd]; rfl
          simpa [List.getElem?_drop] using this
        have := runD_built r (i + 1) _ out (by rw [← List.drop_drop, hd]; rfl) (.cons hb ho hr hc) h
        rwa [show i + 1 + r.length = i + (o :: r).length by rw [List.length_cons]; omega] at this
      · cases h
    · cases h

theorem Built.lt {n : Nat} {acc : List DZ} (h : Built C all ws ancs st n acc) : ∀ z ∈ acc, z.i < n := by
  induction h with
  | nil => intro z hz; cases hz
  | cons hb _ _ _ ih =>
    intro z hz
    rcases List.mem_cons.1 hz with rfl | hz
    · exact Nat.lt_succ_self _
    · exact Nat.lt_succ_of_lt (ih z hz)

structure At (C : Cfg) (all : List Oper) (ws : List (List (Nat × Nat))) (ancs : List Nat) (st : St) (out : List DZ) (z : DZ) (l acc : List DZ) : Prop where
  eq : out = l ++ z :: acc
  built : Built C all ws ancs st z.i acc
  op : all[z.i]? = some z.o
  step : stepD C all (viewE all ancs st.env z.i acc) (viewO ws ancs st.own z.i acc) (st.nxt + z.i) z.o = some z.r
  check : checkD ws ancs st.n z.i z.o z.r (viewH ws ancs st.own z.i acc) (viewO ws ancs st.own z.i acc) acc = true
  later : ∀ y ∈ l, z.i < y.i

theorem Built.at {n : Nat} {out : List DZ} (h : Built C all ws ancs st n out) : ∀ z ∈ out, ∃ l acc, At C all ws ancs st out z l acc := by
  induction h with
  | nil => intro z hz; cases hz
  | cons hb ho hr hc ih =>
    intro z hz
    rcases List.mem_cons.1 hz with rfl | hz
    · exact ⟨[], _, rfl, hb, ho, hr, hc, fun y hy => by cases hy⟩
    · obtain ⟨l, acc, h1⟩ := ih z hz
      refine ⟨_ :: l, acc, by rw [h1.eq]; rfl, h1.built, h1.op, h1.step, h1.check, fun y hy => ?_⟩
      rcases List.mem_cons.1 hy with rfl | hy
      · exact hb.lt z (by rw [h1.eq]; simp)
      · exact h1.later y hy
theorem Built.ex {n : Nat} {out : List DZ} (h : Built C all ws ancs st n out) : ∀ i, i < n → ∃ z ∈ out, z.i = i := by
  induction h with
  | nil => intro i hi; omega
  | @cons j acc o r hb ho hr hc ih =>
    intro i hi
    by_cases e : i = j
    · exact ⟨_, List.mem_cons_self, e.symm⟩
    · obtain ⟨z, hz, e'⟩ := ih i (by omega)
      exact ⟨z, List.mem_cons_of_mem _ hz, e'⟩
theorem Built.uniq {n : Nat} {out : List DZ} (h : Built C all ws ancs st n out) : ∀ z ∈ out, ∀ y ∈ out, z.i = y.i → z = y := by
  induction h with
  | nil => intro z hz; cases hz
  | @cons j acc o r hb ho hr hc ih =>
    intro z hz y hy e
    rcases List.mem_cons.1 hz with rfl | hz
    · rcases List.mem_cons.1 hy with rfl | hy
      · rfl
      · have := hb.lt y hy; simp only at e; omega
    · rcases List.mem_cons.1 hy with rfl | hy
      · have := hb.lt z hz; simp only at e; omega
      · exact ih z hz y hy e
theorem Built.dst {n : Nat} {out : List DZ} (h : Built C all ws ancs st n out) : ∀ z ∈ out, ∀ y ∈ out, ∀ s, z.o.dst = some s → y.o.dst = some s → z = y := by
  induction h with
  | nil => intro z hz; cases hz
  | @cons j acc o r hb ho hr hc ih =>
    have hne : ∀ y ∈ acc, ∀ s, o.dst = some s → y.o.dst ≠ some s := by
      unfold checkD at hc
      simp only [Bool.and_eq_true] at hc
      obtain ⟨⟨⟨⟨_, h1⟩, _⟩, _⟩, _⟩ := hc
      intro y hy s hs e
      have := List.all_eq_true.1 h1 y hy
      rw [hs, e] at this
      simp at this
    intro z hz y hy s h1 h2
    rcases List.mem_cons.1 hz with rfl | hz
    · rcases List.mem_cons.1 hy with rfl | hy
      · rfl
      · exact absurd h2 (hne y hy s h1)
    · rcases List.mem_cons.1 hy with rfl | hy
      · exact absurd h1 (hne z hz s h2)
      · exact ih z hz y hy s h1 h2

theorem checkD_out {n i : Nat} {o : Oper} {r : DR} {hid : Hid} {own : Own} {acc : List DZ} (h : checkD ws ancs n i o r hid own acc = true) :
    (∀ p ∈ r.delta, (p.1, kindB p.2) ∈ ws.getD i [] ∧ p.1 ∉ hid.hid) ∧ av hid r.d = true ∧ (∀ k, k ∉ hid.hid → avB hid (lookO (r.delta ++ own) k) = true) ∧ putOk n o.dst = true ∧ (∀ j w, o.guard = some (j, w) → (ancs.getD i 0).testBit j = true) ∧ ancs.getD i 0 < 2 ^ i := by
  unfold checkD at h
  simp only [Bool.and_eq_true, decide_eq_true_eq] at h
  obtain ⟨⟨⟨⟨⟨⟨h1, h2⟩, h3⟩, _⟩, h5⟩, h6⟩, h7⟩ := h
  refine ⟨fun p hp => ?_, h2, fun k hk => ?_, h5, fun j w hg => ?_, h7⟩
  · have := List.all_eq_true.1 h1 p hp
    simpa using this
  · by_cases hin : ∃ b, (k, b) ∈ r.delta ++ own
    · obtain ⟨b, hb⟩ := hin
      have := List.all_eq_true.1 h3 _ hb
      simp only [Bool.or_eq_true] at this
      rcases this with h | h
      · exact absurd (by simpa using h) hk
      · exact h
    · have : lookO (r.delta ++ own) k = .gone := by
        have := lookO_skip (δ := r.delta ++ own) (own := []) (o := k) fun q hq e => hin ⟨q.2, by rw [← e]; exact hq⟩
        rw [List.append_nil] at this
        exact this
      rw [this]; rfl
  · rw [hg] at h6; exact h6

end Go.Eng
namespace Go.Eng
open Go.RowKit

variable {P : Program} {C : Cfg} {B : Nat} {w0 : World} {all : List Oper} {ws : List (List (Nat × Nat))} {ancs : List Nat} {st : St}
section
variable {B : Nat} {w0 : World} {S0 : Nat → Prop} {df : List Deferred}

theorem lookO_first {δ X : Own} {o : Nat} (h : ∃ b, (o, b) ∈ δ) : ∃ b, (o, b) ∈ δ ∧ lookO (δ ++ X) o = b := by
  induction δ with
  | nil => obtain ⟨b, h⟩ := h; cases h
  | cons p r ih =>
    by_cases e : p.1 = o
    · exact ⟨p.2, by rw [← e]; exact List.mem_cons_self, by simp only [List.cons_append, lookO]; rw [if_pos e]⟩
    · obtain ⟨b, h⟩ := h
      rcases List.mem_cons.1 h with h | h
      · exact absurd (by rw [← h]) e
      · obtain ⟨b', h1, h2⟩ := ih ⟨b, h⟩
        exact ⟨b', List.mem_cons_of_mem _ h1, by simp only [List.cons_append, lookO]; rw [if_neg e]; exact h2⟩
theorem dOwn_cells {n : Nat} {p q : Nat → Bool} {base : Own} {o : Nat} : ∀ {out : List DZ}, (∀ z ∈ out, p z.i = q z.i ∨ ∀ b, (o, b) ∈ z.r.delta → kindB b = n) → (∀ z ∈ out, q z.i = true → p z.i = true) →
    kindB (lookO (dOwn q base out) o) = n → kindB (lookO (dOwn p base out) o) = n
  | [], _, _, h => h
  | z :: r, h1, h2, h => by
    have ih := dOwn_cells (p := p) (q := q) (base := base) (o := o) (out := r) (fun z' hz => h1 z' (List.mem_cons_of_mem _ hz)) (fun z' hz => h2 z' (List.mem_cons_of_mem _ hz))
    unfold dOwn at h ⊢
    by_cases hw : ∃ b, (o, b) ∈ z.r.delta
    · by_cases hp : p z.i = true
      · rw [if_pos hp]
        rcases h1 z List.mem_cons_self with e | e
        · rw [if_pos (e ▸ hp)] at h
          rw [lookO_hit hw]; exact h
        · obtain ⟨b, g1, g2⟩ := lookO_first (X := dOwn p base r) hw
          rw [g2]; exact e b g1
      · rw [if_neg hp]
        have : ¬ q z.i = true := fun e => hp (h2 z List.mem_cons_self e)
        rw [if_neg this] at h
        exact ih h
    · have f : ∀ (b : Bool) (e : Own), lookO (if b = true then z.r.delta ++ e else e) o = lookO e o := by
        intro b e; cases b
        · rfl
        · simp only [if_true]; exact lookO_skip fun q hq e' => hw ⟨q.2, by rw [← e']; exact hq⟩
      rw [f] at h ⊢
      exact ih h

theorem EnvOk.put' {c : Cx} {env : Env} {a : Act} {dst : Option Nat} {d : D} {v : Value} {n : Nat} (h : EnvOk P c env a.tmps) (hn : a.tmps.size = n) (hp : putOk n dst = true) (hd : ∀ t, dst = some t → GV P c (a.tmps.setIfInBounds t v) d v)
    (ht : ∀ s t w d', look env s = .gd t w d' → dst ≠ some t) : EnvOk P c (Go.Eng.put env dst d) (a.put dst v).tmps := by
  have he := h.put (v := v) hn hp hd ht
  cases dst <;> exact he

structure DInv (P : Program) (B : Nat) (w0 : World) (S0 : Nat → Prop) (df : List Deferred) (all : List Oper) (ancs : List Nat) (st : St) (out : List DZ) (c0 c : Cx) (T : Nat → Bool) (a : Act) : Prop where
  mem : Mem P B w0 S0 c
  own : ∀ o, lookO c.own o = lookO (dOwn T st.own out) o
  env : EnvOk P c (dEnv T st.env out) a.tmps
  size : a.tmps.size = st.n
  defers : a.defers = df
  goes : Goes c0 c
  tags : ∀ y ∈ out, T y.i = true → ∀ t w d, y.r.d = .gd t w d → ∃ j oj, (ancs.getD y.i 0).testBit j = true ∧ all[j]? = some oj ∧ oj.dst = some t

theorem draw_view (hC : CfgOk P C B w0) {n : Nat} {out : List DZ} (hn : n = all.length) (hb : Built C all ws ancs st n out) (ha : AncOk all ancs) (hside : ∀ z ∈ out, ∀ p ∈ z.r.side, p) (hclean : ∀ s t w d, look st.env s ≠ .gd t w d)
    {T : Nat → Bool} (hT : Closed all T) {i : Nat} {o : Oper} (ho : all[i]? = some o) (hi : T i = false) (hready : ∀ e ∈ o.after, Region.binds .any e = true → T e.on = true) {c0 c : Cx} {a : Act} (inv : DInv P B w0 S0 df all ancs st out c0 c T a) : ∃ (ownV : Own) (envV : Env) (r : DR) (nx : Nat), Mem P B w0 S0 { c with own := ownV } ∧ EnvOk P { c with own := ownV } envV a.tmps ∧ stepD C all envV ownV nx o = some r ∧ ∀ p ∈ r.side, p := by
  have hin : i < n := by rw [hn]; exact (List.getElem?_eq_some_iff.1 ho).1
  obtain ⟨z, hz, hzi⟩ := hb.ex i hin
  obtain ⟨l, acc, at_⟩ := hb.at z hz
  subst hzi
  obtain rfl : z.o = o := Option.some.inj (at_.op.symm.trans ho)
  obtain ⟨hk1, hk2, hk3, hk4, hk5, hk6⟩ := checkD_out at_.check
  have hanc : ∀ k, (ancs.getD z.i 0).testBit k = true → T k = true := fun k hk => ready_anc ha hT ho hready hk
  have hfar : ∀ k, z.i ≤ k → (ancs.getD z.i 0).testBit k = false := fun k hk => Nat.testBit_lt_two_pow (Nat.lt_of_lt_of_le hk6 (Nat.pow_le_pow_right (by omega) hk))
  have hlater : ∀ y ∈ l ++ [z], (ancs.getD z.i 0).testBit y.i = false := by
    intro y hy
    rcases List.mem_append.1 hy with hy | hy
    · exact hfar _ (Nat.le_of_lt (at_.later y hy))
    · simp at hy; subst hy; exact hfar _ (Nat.le_refl _)
  have heq : out = (l ++ [z]) ++ acc := by rw [at_.eq]; simp
  have key : ∀ y : DZ, (ancs.getD z.i 0).testBit y.i = T y.i ∨ (unord ancs z.i y.i = true ∧ T y.i = true) := by
    intro y
    cases h1 : (ancs.getD z.i 0).testBit y.i with
    | true => exact .inl (hanc _ h1).symm
    | false =>
      cases h2 : T y.i with
      | false => exact .inl rfl
      | true =>
        right
        have hne : y.i ≠ z.i := fun e => by rw [e, hi] at h2; cases h2
        have h3 : (ancs.getD y.i 0).testBit z.i = false := by
          cases h3 : (ancs.getD y.i 0).testBit z.i with
          | false => rfl
          | true => have := closed_anc ha hT y.i z.i h2 h3; rw [hi] at this; cases this
        exact ⟨by unfold unord; rw [h1, h3]; simp [hne], rfl⟩
  have hop : ∀ y ∈ out, all[y.i]? = some y.o := fun y hy => by obtain ⟨_, _, h⟩ := hb.at y hy; exact h.op
  have hnam : ∀ y ∈ out, ∀ o b, (o, b) ∈ y.r.delta → unord ancs z.i y.i = true → (o, kindB b) ∈ hidN ancs z.i 0 ws := by
    intro y hy o b hbm hu
    obtain ⟨_, _, h⟩ := hb.at y hy
    have := ((checkD_out h.check).1 _ hbm).1
    exact hidN_ok ws 0 y.i _ (by rwa [Nat.zero_add]) this
  have hwrt : ∀ y ∈ out, ∀ o, Wrts y o → unord ancs z.i y.i = true → o ∈ (viewH ws ancs st.own z.i acc).hid := by
    intro y hy o ⟨b, hbm⟩ hu
    exact closeH_sub 3 (List.mem_map.2 ⟨_, hnam y hy o b hbm hu, rfl⟩)
  -- what it sees
  have hdim : Dim (viewH ws ancs st.own z.i acc) c.own (viewO ws ancs st.own z.i acc) := by
    refine ⟨fun o ho => ?_, fun o ho => ?_, fun o ho => ?_, fun o ho => ?_⟩
    · unfold viewO; rw [hideO_ok, if_pos ho]
    · unfold viewO; rw [hideO_ok, if_neg ho, inv.own o]
      rw [← dOwn_drop (l := l ++ [z]) hlater, ← heq]
      refine dOwn_congr fun y hy hw => ?_
      rcases key y with h | ⟨h, _⟩
      · exact h
      · exact absurd (hwrt y hy o hw h) ho
    · have ho := List.contains_iff_mem.1 ho
      simp only [viewH, farIn, List.mem_filter, Bool.and_eq_true] at ho
      obtain ⟨_, h1, h2⟩ := ho
      have h1 := beq_iff_eq.1 h1
      rw [inv.own o]
      rw [← dOwn_drop (l := l ++ [z]) hlater, ← heq] at h1
      refine dOwn_cells (fun y hy => ?_) (fun y hy h => hanc _ h) h1
      rcases key y with h | ⟨h, _⟩
      · exact .inl h.symm
      · right
        intro b hbm
        have := List.all_eq_true.1 h2 _ (hnam y hy o b hbm h)
        simpa using this
    · have ho := List.contains_iff_mem.1 ho
      simp only [viewH, farIn, List.mem_filter, Bool.and_eq_true] at ho
      obtain ⟨_, h1, h2⟩ := ho
      have h1 := beq_iff_eq.1 h1
      rw [inv.own o]
      rw [← dOwn_drop (l := l ++ [z]) hlater, ← heq] at h1
      refine dOwn_cells (fun y hy => ?_) (fun y hy h => hanc _ h) h1
      rcases key y with h | ⟨h, _⟩
      · exact .inl h.symm
      · right
        intro b hbm
        have := List.all_eq_true.1 h2 _ (hnam y hy o b hbm h)
        simpa using this
  have henv : EnvOk P c (viewE all ancs st.env z.i acc) a.tmps := by
    intro s
    unfold viewE
    rcases hidE_ok (ancs := ancs) (i := z.i) (e := dEnv (fun k => (ancs.getD z.i 0).testBit k) st.env acc) (s := s) all 0 with h | ⟨h1, h2⟩
    · rw [h]; trivial
    · rw [h1, ← dEnv_drop (l := l ++ [z]) hlater, ← heq]
      rw [dEnv_congr (q := T) fun y hy hd => ?_]
      · exact inv.env s
      · rcases key y with h | ⟨h, _⟩
        · exact h
        · exact absurd hd (h2 y.i y.o (hop y hy) (by rwa [Nat.zero_add]))
  exact ⟨_, _, _, _, hdim.mem inv.mem, henv.goes hdim.goes inv.mem.one, at_.step, hside z hz⟩

theorem draw_step (hC : CfgOk P C B w0) {n : Nat} {out : List DZ} (hn : n = all.length) (hb : Built C all ws ancs st n out) (ha : AncOk all ancs) (hside : ∀ z ∈ out, ∀ p ∈ z.r.side, p) (hclean : ∀ s t w d, look st.env s ≠ .gd t w d)
    {T T' : Nat → Bool} (hT : Closed all T) {i : Nat} {o : Oper} (ho : all[i]? = some o) (hi : T i = false) (hready : ∀ e ∈ o.after, Region.binds .any e = true → T e.on = true) (hT1 : T' i = true) (hT2 : ∀ j, j ≠ i → T' j = T j)
    {c0 c : Cx} {a : Act} (inv : DInv P B w0 S0 df all ancs st out c0 c T a) {Q : Exit → Act → World → Prop} {K : Act → World → Prop} (hK : ∀ a' c', DInv P B w0 S0 df all ancs st out c0 c' T' a' → K a' c'.w) : wpOp P all.toArray Q i K a c.w := by
  have hin : i < n := by rw [hn]; exact (List.getElem?_eq_some_iff.1 ho).1
  obtain ⟨z, hz, hzi⟩ := hb.ex i hin
  obtain ⟨l, acc, at_⟩ := hb.at z hz
  subst hzi
  obtain rfl : z.o = o := Option.some.inj (at_.op.symm.trans ho)
  obtain ⟨hk1, hk2, hk3, hk4, hk5, hk6⟩ := checkD_out at_.check
  have hanc : ∀ k, (ancs.getD z.i 0).testBit k = true → T k = true := fun k hk => ready_anc ha hT ho hready hk
  have hfar : ∀ k, z.i ≤ k → (ancs.getD z.i 0).testBit k = false := fun k hk => Nat.testBit_lt_two_pow (Nat.lt_of_lt_of_le hk6 (Nat.pow_le_pow_right (by omega) hk))
  have hlater : ∀ y ∈ l ++ [z], (ancs.getD z.i 0).testBit y.i = false := by
    intro y hy
    rcases List.mem_append.1 hy with hy | hy
    · exact hfar _ (Nat.le_of_lt (at_.later y hy))
    · simp at hy; subst hy; exact hfar _ (Nat.le_refl _)
  have heq : out = (l ++ [z]) ++ acc := by rw [at_.eq]; simp
  have key : ∀ y : DZ, (ancs.getD z.i 0).testBit y.i = T y.i ∨ (unord ancs z.i y.i = true ∧ T y.i = true) := by
    intro y
    cases h1 : (ancs.getD z.i 0).testBit y.i with
    | true => exact .inl (hanc _ h1).symm
    | false =>
      cases h2 : T y.i with
      | false => exact .inl rfl
      | true =>
        right
        have hne : y.i ≠ z.i := fun e => by rw [e, hi] at h2; cases h2
        have h3 : (ancs.getD y.i 0).testBit z.i = false := by
          cases h3 : (ancs.getD y.i 0).testBit z.i with
          | false => rfl
          | true => have := closed_anc ha hT y.i z.i h2 h3; rw [hi] at this; cases this
        exact ⟨by unfold unord; rw [h1, h3]; simp [hne], rfl⟩
  have hop : ∀ y ∈ out, all[y.i]? = some y.o := fun y hy => by obtain ⟨_, _, h⟩ := hb.at y hy; exact h.op
  have hnam : ∀ y ∈ out, ∀ o b, (o, b) ∈ y.r.delta → unord ancs z.i y.i = true → (o, kindB b) ∈ hidN ancs z.i 0 ws := by
    intro y hy o b hbm hu
    obtain ⟨_, _, h⟩ := hb.at y hy
    have := ((checkD_out h.check).1 _ hbm).1
    exact hidN_ok ws 0 y.i _ (by rwa [Nat.zero_add]) this
  have hwrt : ∀ y ∈ out, ∀ o, Wrts y o → unord ancs z.i y.i = true → o ∈ (viewH ws ancs st.own z.i acc).hid := by
    intro y hy o ⟨b, hbm⟩ hu
    exact closeH_sub 3 (List.mem_map.2 ⟨_, hnam y hy o b hbm hu, rfl⟩)
  -- what it sees
  have hdim : Dim (viewH ws ancs st.own z.i acc) c.own (viewO ws ancs st.own z.i acc) := by
    refine ⟨fun o ho => ?_, fun o ho => ?_, fun o ho => ?_, fun o ho => ?_⟩
    · unfold viewO; rw [hideO_ok, if_pos ho]
    · unfold viewO; rw [hideO_ok, if_neg ho, inv.own o]
      rw [← dOwn_drop (l := l ++ [z]) hlater, ← heq]
      refine dOwn_congr fun y hy hw => ?_
      rcases key y with h | ⟨h, _⟩
      · exact h
      · exact absurd (hwrt y hy o hw h) ho
    · have ho := List.contains_iff_mem.1 ho
      simp only [viewH, farIn, List.mem_filter, Bool.and_eq_true] at ho
      obtain ⟨_, h1, h2⟩ := ho
      have h1 := beq_iff_eq.1 h1
      rw [inv.own o]
      rw [← dOwn_drop (l := l ++ [z]) hlater, ← heq] at h1
      refine dOwn_cells (fun y hy => ?_) (fun y hy h => hanc _ h) h1
      rcases key y with h | ⟨h, _⟩
      · exact .inl h.symm
      · right
        intro b hbm
        have := List.all_eq_true.1 h2 _ (hnam y hy o b hbm h)
        simpa using this
    · have ho := List.contains_iff_mem.1 ho
      simp only [viewH, farIn, List.mem_filter, Bool.and_eq_true] at ho
      obtain ⟨_, h1, h2⟩ := ho
      have h1 := beq_iff_eq.1 h1
      rw [inv.own o]
      rw [← dOwn_drop (l := l ++ [z]) hlater, ← heq] at h1
      refine dOwn_cells (fun y hy => ?_) (fun y hy h => hanc _ h) h1
      rcases key y with h | ⟨h, _⟩
      · exact .inl h.symm
      · right
        intro b hbm
        have := List.all_eq_true.1 h2 _ (hnam y hy o b hbm h)
        simpa using this
  have henv : EnvOk P c (viewE all ancs st.env z.i acc) a.tmps := by
    intro s
    unfold viewE
    rcases hidE_ok (ancs := ancs) (i := z.i) (e := dEnv (fun k => (ancs.getD z.i 0).testBit k) st.env acc) (s := s) all 0 with h | ⟨h1, h2⟩
    · rw [h]; trivial
    · rw [h1, ← dEnv_drop (l := l ++ [z]) hlater, ← heq]
      rw [dEnv_congr (q := T) fun y hy hd => ?_]
      · exact inv.env s
      · rcases key y with h | ⟨h, _⟩
        · exact h
        · exact absurd hd (h2 y.i y.o (hop y hy) (by rwa [Nat.zero_add]))
  have hm1 := hdim.mem inv.mem
  refine stepD_ok hC (c := { c with own := viewO ws ancs st.own z.i acc }) hm1 (henv.goes hdim.goes inv.mem.one) ho at_.step (hside z hz) fun v c' hm' hg' hf' hown hgv htag => ?_
  obtain ⟨c2, e1, e2, hm2, hg2, hrv⟩ := undim hdim inv.mem hm' hg' hf' hown (fun p hp => (hk1 p hp).2) (fun k hk => by rw [hown]; exact hk3 k hk)
  rw [← e1]
  refine hK _ _ ⟨hm2, fun k => ?_, ?_, ?_, ?_, inv.goes.trans hg2, ?_⟩
  · rw [e2]
    by_cases hw : Wrts z k
    · rw [at_.eq, dOwn_drop' (l := l)]
      · unfold dOwn
        rw [if_pos hT1]
        exact lookO_hit hw
      · intro y hy hty hwy
        have hlt := at_.later y hy
        rw [hT2 _ (by omega)] at hty
        rcases key y with h | ⟨h, _⟩
        · rw [hty, hlater y (List.mem_append_left _ hy)] at h; cases h
        · obtain ⟨b, hbm⟩ := hw
          exact (hk1 _ hbm).2 (hwrt y (by rw [at_.eq]; exact List.mem_append_left _ hy) k hwy h)
    · rw [lookO_skip fun q hq e => hw ⟨q.2, by rw [← e]; exact hq⟩, inv.own k]
      refine dOwn_congr fun y hy hwy => ?_
      refine (hT2 _ fun e => ?_).symm
      exact hw (hb.uniq y hy z hz e ▸ hwy)
  · have htags : ∀ s t w d', look (dEnv T st.env out) s = .gd t w d' → z.o.dst ≠ some t := by
      intro s t w d' hl hd
      rcases dEnv_cases (p := T) (base := st.env) (s := s) out with h | ⟨y, hy, h1, h2, h3⟩
      · rw [h] at hl; exact hclean _ _ _ _ hl
      · rw [h3] at hl
        obtain ⟨j, oj, g1, g2, g3⟩ := inv.tags y hy h1 t w d' hl
        have hTj := closed_anc ha hT y.i j h1 g1
        obtain ⟨zj, hzj, rfl⟩ := hb.ex j (by rw [hn]; exact (List.getElem?_eq_some_iff.1 g2).1)
        obtain rfl : zj.o = oj := Option.some.inj ((hop zj hzj).symm.trans g2)
        obtain rfl := hb.dst zj hzj z hz t g3 hd
        rw [hi] at hTj; cases hTj
    have hput := (inv.env.goes hg2 inv.mem.one).put' (dst := z.o.dst) (d := z.r.d) (v := v) inv.size hk4 (fun t hd => (GV.trans' hrv hk2 hgv).put fun t' w d' e e' => (htag t' w d' e).1 (by rw [e', hd])) htags
    intro s
    have hs := hput s
    have e : look (dEnv T' st.env out) s = look (put (dEnv T st.env out) z.o.dst z.r.d) s := by
      rw [look_put]
      split
      · rename_i hd
        exact dEnv_at hz hT1 hd fun y hy hy' => hb.dst y hy z hz s hy' hd
      · rename_i hd
        refine dEnv_congr fun y hy hy' => hT2 _ fun e => ?_
        obtain rfl := hb.uniq y hy z hz e
        exact hd hy'
    rw [e]
    exact hs
  · cases hd : z.o.dst <;> simp [Act.put, inv.size]
  · cases hd : z.o.dst <;> simp [Act.put, inv.defers]
  · intro y hy hty t w d e
    by_cases h : y.i = z.i
    · obtain rfl := hb.uniq y hy z hz h
      obtain ⟨_, j, w', oj, g1, g2, g3⟩ := htag t w d e
      exact ⟨j, oj, hk5 j w' g1, g2, g3⟩
    · rw [hT2 _ h] at hty
      exact inv.tags y hy hty t w d e

def drawLeft : Nat → Array Bool → Nat
  | 0, _ => 0
  | n + 1, L => drawLeft n L + if L.getD n false = true then 0 else 1
theorem drawLeft_far {n i : Nat} (L : Array Bool) (h : n ≤ i) : drawLeft n (L.setIfInBounds i true) = drawLeft n L := by
  induction n with
  | zero => rfl
  | succ n ih =>
    simp only [drawLeft]
    rw [ih (by omega), getD_set_ne false (by omega)]
theorem drawLeft_set {n i : Nat} {L : Array Bool} (h : i < n) (hl : L.getD i false = false) (hs : i < L.size) : drawLeft n (L.setIfInBounds i true) + 1 = drawLeft n L := by
  induction n with
  | zero => omega
  | succ n ih =>
    simp only [drawLeft]
    by_cases hi : i = n
    · subst hi
      rw [drawLeft_far L (Nat.le_refl _), hl]
      have : (L.setIfInBounds i true).getD i false = true := by simp [hs]
      rw [this]
      simp
    · have := ih (by omega)
      rw [getD_set_ne false hi]
      omega
theorem drawLeft_zero {n : Nat} {L : Array Bool} (h : drawLeft n L = 0) : ∀ i, i < n → L.getD i false = true := by
  induction n with
  | zero => intro i hi; omega
  | succ n ih =>
    simp only [drawLeft] at h
    intro i hi
    by_cases hn : i = n
    · subst hn
      by_cases hl : L.getD i false = true
      · exact hl
      · rw [if_neg hl] at h; omega
    · exact ih (by omega) i (by omega)
theorem drawLeft_pos {n : Nat} {L : Array Bool} (h : drawLeft n L ≠ 0) : ∃ i, i < n ∧ L.getD i false = false ∧ ∀ j, j < i → L.getD j false = true := by
  induction n with
  | zero => exact absurd rfl h
  | succ n ih =>
    by_cases h0 : drawLeft n L = 0
    · refine ⟨n, by omega, ?_, drawLeft_zero h0⟩
      simp only [drawLeft, h0] at h
      cases hl : L.getD n false with
      | false => rfl
      | true => rw [hl] at h; simp at h
    · obtain ⟨i, hi, h1, h2⟩ := ih h0
      exact ⟨i, by omega, h1, h2⟩
theorem drawLeft_new (n m : Nat) (h : n ≤ m) : drawLeft n (Array.replicate m false) = n := by
  induction n with
  | zero => rfl
  | succ n ih =>
    simp only [drawLeft]
    rw [ih (by omega)]
    have : (Array.replicate m false).getD n false = false := by simp [show n < m by omega]
    rw [this]; rfl

theorem getD_true {L : Array Bool} {i : Nat} (hs : i < L.size) (h : L.getD i false = false) : L.getD i true = false := by
  simp [hs] at h ⊢
  exact h

theorem sidesD_ok {out : List DZ} (h : ∀ p ∈ sidesD out, p) : ∀ z ∈ out, ∀ p ∈ z.r.side, p := by
  induction out with
  | nil => intro z hz; cases hz
  | cons y r ih =>
    intro z hz p hp
    rcases List.mem_cons.1 hz with e | hz
    · rw [e] at hp
      exact h p (List.mem_append_right _ hp)
    · exact ih (fun q hq => h q (List.mem_append_left _ hq)) z hz p hp

theorem drawR_ok (hC : CfgOk P C B w0) (hmix : P.follows .mixedOrders = true) {L : List Oper} {ps : List Cnd} {st' : St} (h : drawR C L st = some (ps, st')) (hp : ∀ p ∈ ps, p) (hclean : ∀ s t w d, look st.env s ≠ .gd t w d)
    {c : Cx} {a : Act} {w : World} (hs : SatC P B w0 S0 df c st a w) {Q : Exit → Act → World → Prop} (hQ : ∀ c' a' w', SatC P B w0 S0 df c' st' a' w' → Goes c c' → Q .normal a' w') {id : Nat} : (Code.region id L.toArray true).wp P Q a w := by
  unfold drawR at h
  split at h
  · rename_i out hrun
    cases h
    have hb := runD_built L 0 [] out rfl .nil hrun
    rw [Nat.zero_add] at hb
    obtain ⟨ha, hal⟩ := ancsOf_ok (all := L) L [] rfl ⟨fun i j h => by simp at h, fun i o h => by simp at h⟩
    have hside := sidesD_ok hp
    have main : ∀ (k : Nat) (listed : Array Bool) (a : Act) (c1 : Cx), listed.size = L.length → Closed L (fun j => listed.getD j false) → DInv P B w0 S0 df L (ancsOf L []) st out c c1 (fun j => listed.getD j false) a → drawLeft L.length listed = k →
        wpAny P .any L.toArray Q k listed a c1.w := by
      intro k
      induction k with
      | zero =>
        intro listed a c1 hsz hcl inv hk
        have hall := drawLeft_zero hk
        refine ⟨?_, ?_⟩
        · cases hr : Region.ready .any L.toArray listed with
          | nil => rfl
          | cons i r =>
            obtain ⟨h1, o, h2, _⟩ := mem_ready.1 (show i ∈ Region.ready .any L.toArray listed by rw [hr]; exact List.mem_cons_self)
            have hlt : i < L.length := (List.getElem?_eq_some_iff.1 (by simpa using h2 : L[i]? = some o)).1
            have := hall i hlt
            rw [getD_both h1] at this; cases this
        · have hT : ∀ y ∈ out, listed.getD y.i false = true := fun y hy => hall _ (hb.lt y hy)
          have hdim : Dim ⟨[], [], []⟩ c1.own (dOwn (fun _ => true) st.own out) := ⟨fun o ho => (by cases ho), fun o _ => by rw [inv.own o]; exact dOwn_congr fun y hy _ => (hT y hy).symm, fun o ho => (by cases ho), fun o ho => (by cases ho)⟩
          refine hQ { c1 with own := dOwn (fun _ => true) st.own out } a c1.w ⟨rfl, rfl, hdim.mem inv.mem, ?_, inv.size, inv.defers⟩ (inv.goes.trans hdim.goes)
          refine EnvOk.goes hdim.goes inv.mem.one fun s => ?_
          rw [dEnv_congr (q := fun j => listed.getD j false) fun y hy _ => (hT y hy).symm]
          exact inv.env s
      | succ k ih =>
        intro listed a c1 hsz hcl inv hk
        obtain ⟨i0, g1, g2, g3⟩ := drawLeft_pos (n := L.length) (L := listed) (by omega)
        refine ⟨fun hr => ?_, fun i hmem => ?_⟩
        · have : i0 ∈ Region.ready .any L.toArray listed := by
            refine mem_ready.2 ⟨getD_true (by omega) g2, L[i0], by simp [g1], fun e he hbi => ?_⟩
            have hbit := ha.has i0 L[i0] (by rw [hal]; simpa using g1) (by simp [g1]) e he hbi
            obtain ⟨z, hz, rfl⟩ := hb.ex i0 g1
            obtain ⟨_, _, hat⟩ := hb.at z hz
            have h6 := (checkD_out hat.check).2.2.2.2.2
            refine g3 _ ?_
            rcases Nat.lt_or_ge e.on z.i with h | h
            · exact h
            · have := Nat.testBit_lt_two_pow (Nat.lt_of_lt_of_le h6 (Nat.pow_le_pow_right (by omega) h))
              rw [hbit] at this; cases this
          rw [hr] at this; cases this
        · obtain ⟨hun, o, ho, hready⟩ := mem_ready.1 hmem
          have ho' : L[i]? = some o := by simpa using ho
          have hlt : i < L.length := (List.getElem?_eq_some_iff.1 ho').1
          have hu := getD_both hun
          refine draw_step hC rfl hb ha hside hclean hcl ho' hu hready (T' := fun j => (listed.setIfInBounds i true).getD j false) (by simp [show i < listed.size by omega]) (fun j hj => getD_set_ne false (Ne.symm hj)) inv fun a' c' inv' => ?_
          refine ih _ a' c' (by simp [hsz]) (fun j oj hj hl e he hbi => ?_) inv' ?_
          · simp only at hl ⊢
            by_cases hij : j = i
            · subst hij
              obtain rfl := Option.some.inj (hj.symm.trans ho')
              exact getD_set_true (hready e he hbi)
            · rw [getD_set_ne false (Ne.symm hij)] at hl
              exact getD_set_true (hcl j oj hj hl e he hbi)
          · have := drawLeft_set (n := L.length) hlt hu (by omega)
            omega
    refine wp_region_any hmix ?_
    have hw := hs.w
    subst hw
    have hbel : Below c.w.heap.size c.w c.w.drew := (Below.refl _ _).drew
    obtain ⟨hm1, hg1⟩ := hs.mem.grow hbel (fun _ => False) (fun b h => h.elim)
    simp only [S_false] at hm1 hg1
    have hnone : ∀ j, (Array.replicate L.toArray.size false).getD j false = false := fun j => by
      rcases Nat.lt_or_ge j L.length with h | h
      · simp [h]
      · simp [Array.getD_eq_getD_getElem?, Array.getElem?_eq_none (show (Array.replicate L.length false).size ≤ j by simpa using h)]
    have hfE : ∀ (l : List DZ), dEnv (fun j => (Array.replicate L.toArray.size false).getD j false) st.env l = st.env := fun l => by
      have := dEnv_drop (p := fun j => (Array.replicate L.toArray.size false).getD j false) (base := st.env) (l := l) (r := []) fun z _ => hnone z.i
      rw [List.append_nil] at this
      exact this
    have hfO : ∀ (l : List DZ), dOwn (fun j => (Array.replicate L.toArray.size false).getD j false) st.own l = st.own := fun l => by
      have := dOwn_drop (p := fun j => (Array.replicate L.toArray.size false).getD j false) (base := st.own) (l := l) (r := []) fun z _ => hnone z.i
      rw [List.append_nil] at this
      exact this
    refine main L.toArray.size (Array.replicate L.toArray.size false) a { c with w := c.w.drew } (by simp) (fun j o _ hl => ?_) ⟨hm1, fun o => ?_, ?_, hs.size, hs.defers, hg1, fun y _ hl => ?_⟩ (drawLeft_new _ _ (by simp))
    · simp only at hl; rw [hnone] at hl; cases hl
    · rw [hfO, ← hs.own]
    · rw [hfE]; exact hs.env.goes hg1 hs.mem.one
    · rw [hnone] at hl; cases hl
  · cases h

end
end Go.Eng
namespace Go.Eng
open Go.RowKit

variable {P : Program} {C : Cfg} {B : Nat} {w0 : World} {st : St}
section
variable {B : Nat} {w0 : World} {S0 : Nat → Prop} {df : List Deferred}

theorem look_facts (hC : CfgOk P C B w0) {c : Cx} (hm : Mem P B w0 S0 c) {a : Act} {o : Oper} {lk : Operand → D} (hlk : ∀ x, RV P c (lk x) (a.eval x)) {T : TypeId} {m x : Operand} {nxt : Nat} (ho : o.op = .lookup T m x false) {r : Res}
    (h : stepF C lk c.own nxt o false = some r) (hkc : (match kindT C T with | .mp k e => C.keys.contains k && (tyT C k).isSome && (zeroT C e).isSome | _ => false) = true) :
    ∃ b es clock k e kl z, a.eval m = .map (some b) ∧ P.underlying T = some (.map k e) ∧ c.w.heap[b]? = some (.map es clock) ∧ WideElems.Fit P k heldElem es clock ∧ WideMaps.KeyLaw P k ∧ keyOf P k (a.eval x) = some kl ∧ ∀ u : World, (zeroValue e).run P u = .ok z u := by
  have hmv := hlk m
  unfold stepF at h
  rw [ho] at h
  simp only at h
  split at h
  · rename_i q hq
    rw [hq] at hmv
    split at h
    · rename_i T' kt vt n f hb
      split at h
      · rename_i hT
        subst hT
        split at h
        · rename_i k e hk
          obtain ⟨_, d, _, _, hu, _, _, _, _, hd⟩ := tabOk hC hk (by simp)
          have hu := (kind_mp hd) ▸ hu
          split at h
          · rename_i hkey
            split at h
            · rename_i kx zx hx hz0
              rw [hk] at hkc
              simp only [Bool.and_eq_true, List.contains_iff_mem] at hkc
              obtain ⟨⟨hkm, hkt⟩, hz⟩ := hkc
              obtain ⟨tk, htk⟩ := Option.isSome_iff_exists.1 hkt
              obtain ⟨zs, hzs⟩ := Option.isSome_iff_exists.1 hz
              obtain ⟨i, z, hi, hiz, _, _⟩ := zeroT_ok hC hzs
              simp only [RV, hb] at hmv
              have hbk := hm.ok q
              unfold BlkOk at hbk
              simp only [hb] at hbk
              obtain ⟨b, D, k', e', hρ, hu', hown, hmap, hB, hnS⟩ := hbk
              obtain ⟨rfl, rfl⟩ : k = k' ∧ e = e' := by
                have := hu.symm.trans hu'
                simp only [Option.some.injEq, TypeDesc.map.injEq] at this
                exact this
              obtain ⟨K, hkr, hinj, heqb⟩ := key_ok hC hkey
              obtain ⟨kcs, hkrd, hkv⟩ := datum_ok (Vis.all hm) hm.one hx (hlk x)
              obtain ⟨l, hl, hkl, hkk⟩ := hkr _ _ _ _ hkrd
              obtain ⟨es, clock, g1, g2, g3, g4⟩ := hown
              exact ⟨b, es, clock, k, e, l, z, by rw [hmv, hρ], hu, g1, g2, keyTB_law (hC.keys k hkm tk htk), by rw [hkv]; exact hkl, fun u => by simp only [zeroValue, typeInfo, Sem.run_bind, run_program, Sem.run_pure, Result.andThen_ok, hi, hiz]⟩
            · cases h
          · cases h
        · cases h
      · cases h
    · cases h
  · cases h

theorem wpAny_one {ops : Array Oper} {Q : Exit → Act → World → Prop} {n i : Nat} {listed : Array Bool} {a : Act} {w : World} (hr : ∀ j, j ∈ Region.ready .any ops listed ↔ j = i)
    (h : wpOp P ops Q i (wpAny P .any ops Q n (listed.setIfInBounds i true)) a w) : wpAny P .any ops Q (n + 1) listed a w :=
  ⟨fun e => by have := (hr i).2 rfl; rw [e] at this; (cases this), fun j hj => by obtain rfl := (hr j).1 hj; exact h⟩

theorem ready_one {L : List Oper} {listed : Array Bool} (hsz : listed.size = L.length) {i : Nat} {o : Oper} (ho : L[i]? = some o) (hun : listed.getD i false = false) (hed : ∀ e ∈ o.after, Region.binds .any e = true → listed.getD e.on false = true)
    (hoth : ∀ j oj, j ≠ i → L[j]? = some oj → listed.getD j false = true ∨ ∃ e ∈ oj.after, Region.binds .any e = true ∧ listed.getD e.on false = false) (j : Nat) : j ∈ Region.ready .any L.toArray listed ↔ j = i := by
  rw [mem_ready]
  constructor
  · rintro ⟨h1, oj, h2, h3⟩
    have h2 : L[j]? = some oj := by simpa using h2
    by_cases e : j = i
    · exact e
    · rcases hoth j oj e h2 with h | ⟨e', g1, g2, g3⟩
      · rw [getD_both h1] at h; cases h
      · rw [h3 e' g1 g2] at g3; cases g3
  · rintro rfl
    exact ⟨getD_true (by rw [hsz]; exact (List.getElem?_eq_some_iff.1 ho).1) hun, o, by simpa using ho, hed⟩

theorem fuseOf_ok {L : List Oper} {u : Fuse} (h : fuseOf L = some u) : L = u.pre ++ [u.lk, u.ad, u.me, u.ex, u.es] ∧ (u.me.op = .mapEntry u.T (.tmp u.m) (.tmp u.k) ∧ u.ex.op = .extract (.tmp u.e) 1 ∧ (∃ T', u.es.op = .entryStore T' (.tmp u.m) (.tmp u.f) (.tmp u.d)) ∧
    u.lk.op = .lookup u.T (.tmp u.m) (.tmp u.k) false ∧ ∃ V, u.ad.op = .binOp .add u.U (.tmp u.c) (.const (.int .i64 u.n)) V) ∧ u.me.dst = some u.e ∧ u.ex.dst = some u.f ∧ u.lk.dst = some u.c ∧ u.ad.dst = some u.d := by
  unfold fuseOf at h
  split at h
  · rename_i es ex me ad lk r hr
    split at h
    · rename_i h1 h2 h3 h4 h5 h6 h7 h8 h9
      split at h
      · rename_i hc
        obtain ⟨⟨rfl, rfl, rfl, rfl⟩, rfl, rfl, rfl, rfl⟩ := hc
        cases h
        refine ⟨?_, ⟨h1, h2, ⟨_, h3⟩, h4, _, h5⟩, h6, h7, h8, h9⟩
        have := congrArg List.reverse hr
        simpa using this
      · cases h
    · cases h
  · cases h

theorem add_facts {c : Cx} {a : Act} {o : Oper} {lk : Operand → D} (hlk : ∀ x, RV P c (lk x) (a.eval x)) {T V : TypeId} {x : Operand} {n : Int} {nxt : Nat} (hy : lk (.const (.int .i64 n)) = .dat (.int .i64) n ∨ lk (.const (.int .i64 n)) = .any) (ho : o.op = .binOp .add T x (.const (.int .i64 n)) V) {own : Own} {r : Res}
    (h : stepF C lk own nxt o false = some r) (hk : (match tyT C T with | some t => !t.isAgg | none => true) = true) : ∃ z, a.eval x = .int .i64 z := by
  unfold stepF at h
  rw [ho] at h
  simp only at h
  split at h
  · rename_i b hb
    unfold nilCmp at hb
    split at hb <;> first | (cases hb; done) | simp_all
  · unfold withS at h
    split at h
    · rename_i s d hd
      unfold binD at hd
      split at hd
      · rename_i k a1 k' b1 e1 e2
        have hx := hlk x
        rw [e1] at hx
        rcases hy with hy | hy
        · rw [hy] at e2
          cases e2
          simp only [isShift, Bool.false_eq_true, if_false] at hd
          split at hd
          · rename_i hkk
            subst hkk
            exact ⟨_, hx.int.1⟩
          · cases hd
        · rw [hy] at e2; cases e2
      · rename_i e1 e2; rcases hy with hy | hy <;> (rw [hy] at e2; cases e2)
      · rename_i e1 e2; rcases hy with hy | hy <;> (rw [hy] at e2; cases e2)
      · split at hd
        · rename_i t ht
          rw [ht] at hk
          simp only [Bool.not_eq_true'] at hk
          rw [hk] at hd
          cases hd
        · cases hd
    · cases h
theorem add_run {o : Oper} {ρ : Operand → Value} {T V : TypeId} {x : Operand} {n z : Int} (ho : o.op = .binOp .add T x (.const (.int .i64 n)) V) (hx : ρ x = .int .i64 z) (hc : ρ (.const (.int .i64 n)) = .int .i64 n) (w : World) :
    (execOp ρ o).run P w = .ok (.value (.int .i64 (IntKind.wrap .i64 (z + n)))) w := by
  unfold execOp
  rw [ho]
  simp only [hx, hc, Sem.run_bind, run_eqGuard_int, Result.andThen_ok]
  simp [binOp, Op.intArith]

theorem entry_look {t k e : TypeId} {w : World} {b : Nat} {es : Array MapEntry} {clock : Nat} (K : WideMaps.KeyLaw P k) (ht : P.underlying t = some (.map k e)) {z : Value} (hz : ∀ u : World, (zeroValue e).run P u = .ok z u) (hb : w.heap[b]? = some (.map es clock)) (F : WideElems.Fit P k heldElem es clock)
    {key : Value} {kl : Lit} (hkey : keyOf P k key = some kl) {v0 : Value} {st : Nat} {es1 : Array MapEntry} {clock1 : Nat} (h : (Instr.mapEntry t (.map (some b)) key).run P w = .ok (.tuple #[v0, goInt st]) (ChangeMaps.setBlock w b (.map es1 clock1))) :
    (Instr.lookup t (.map (some b)) key false).run P w = .ok v0 w ∧ ∀ w2 : World, w2.heap[b]? = some (.map es1 clock1) → (Instr.lookup t (.map (some b)) key false).run P w2 = .ok v0 w2 := by
  have hlt := (Array.getElem?_eq_some_iff.1 hb).1
  have inj : ∀ {e1 e2 : Array MapEntry} {c1 c2 : Nat}, ChangeMaps.setBlock w b (.map e1 c1) = ChangeMaps.setBlock w b (.map e2 c2) → e1 = e2 := by
    intro e1 e2 c1 c2 h
    have := congrArg (fun u : World => u.heap[b]?) h
    simp only [ChangeMaps.setBlock, Array.getElem?_setIfInBounds_self_of_lt hlt, Option.some.injEq, Obj.map.injEq] at this
    exact this.1
  rcases K.find w hkey es.toList F.keys with ⟨h1, h2⟩ | ⟨j, e0, h1, h2, h3⟩
  · have hr : (Instr.mapEntry t (.map (some b)) key).run P w = .ok (.tuple #[z, goInt clock]) (ChangeMaps.setBlock w b (.map (es.push ⟨key, z, clock⟩) (clock + 1))) := by
      simp [Instr.mapEntry, run_underlying ht, MapKept.run_getObj_map hb, K.check w false hkey, h1, hz, MapKept.run_setObj_map _ hb, Result.andThen, ChangeMaps.setBlock]
    rw [hr] at h
    injection h with h5 h6
    have hv : z = v0 := by
      injection h5 with h5
      have := congrArg (fun x : Array Value => x[0]?) h5
      simpa using this
    obtain rfl := inj h6
    subst hv
    refine ⟨by simp [Instr.lookup, run_underlying ht, MapKept.run_getObj_map hb, K.check w _ hkey, h1, hz, Result.andThen], fun w2 hw2 => ?_⟩
    have hkeys : ∀ x ∈ (es.push ⟨key, z, clock⟩).toList, ∃ l, keyOf P k x.key = some l := by
      intro x hx
      rw [Array.toList_push] at hx
      rcases List.mem_append.1 hx with hx | hx
      · exact F.keys x hx
      · simp only [List.mem_singleton] at hx
        subst hx
        exact ⟨kl, hkey⟩
    rcases K.find w2 hkey _ hkeys with ⟨g1, g2⟩ | ⟨j, e0, g1, g2, g3⟩
    · exact absurd rfl (g2 ⟨key, z, clock⟩ (by simp))
    · have he : e0.val = z := by
        have hm := List.mem_of_getElem? g2
        rw [Array.toList_push] at hm
        rcases List.mem_append.1 hm with hm | hm
        · exact absurd g3 (h2 e0 hm)
        · simp only [List.mem_singleton] at hm
          subst hm
          rfl
      rw [he] at g1
      rw [Array.toList_push] at g1
      simp [Instr.lookup, run_underlying ht, MapKept.run_getObj_map hw2, K.check w2 _ hkey, g1, Result.andThen]
  · have hj : es[j]? = some e0 := by simpa using h2
    have hsame : es.modify j (fun e => { e with key := key }) = es := by
      apply Array.ext'
      rw [Array.toList_modify, ChangeMaps.modify_eq_set _ _ _ _ h2]
      have : ({ e0 with key := key } : MapEntry) = e0 := by rw [← h3]
      rw [this]
      exact WideElems.set_self _ _ _ h2
    have hr : (Instr.mapEntry t (.map (some b)) key).run P w = .ok (.tuple #[e0.val, goInt e0.born]) (ChangeMaps.setBlock w b (.map es clock)) := by
      simp [Instr.mapEntry, run_underlying ht, MapKept.run_getObj_map hb, K.check w false hkey, h1, hj, h3, K.stays w hkey, hsame, MapKept.run_setObj_map _ hb, Result.andThen, ChangeMaps.setBlock]
    rw [hr] at h
    injection h with h5 h6
    have hv : e0.val = v0 := by
      injection h5 with h5
      have := congrArg (fun x : Array Value => x[0]?) h5
      simpa using this
    obtain rfl := inj h6
    subst hv
    refine ⟨by simp [Instr.lookup, run_underlying ht, MapKept.run_getObj_map hb, K.check w _ hkey, h1, Result.andThen], fun w2 hw2 => ?_⟩
    rcases K.find w2 hkey es.toList F.keys with ⟨g1, g2⟩ | ⟨j', e0', g1, g2, g3⟩
    · exact absurd h3 (g2 e0 (List.mem_of_getElem? h2))
    · have he : e0'.val = e0.val := by
        have hn := F.stamped.2.2
        rw [List.Nodup, List.pairwise_map, List.pairwise_iff_getElem] at hn
        obtain ⟨l1, r1⟩ := List.getElem?_eq_some_iff.1 h2
        obtain ⟨l2, r2⟩ := List.getElem?_eq_some_iff.1 g2
        rcases Nat.lt_trichotomy j j' with hl | hl | hl
        · exact absurd (by rw [r1, r2, h3, g3]) (hn j j' l1 l2 hl)
        · subst hl; rw [h2] at g2; cases g2; rfl
        · exact absurd (by rw [r1, r2, h3, g3]) (hn j' j l2 l1 hl)
      rw [he] at g1
      simp [Instr.lookup, run_underlying ht, MapKept.run_getObj_map hw2, K.check w2 _ hkey, g1, Result.andThen]

theorem put_comm {a : Act} {s t : Nat} {u v : Value} (h : s ≠ t) : (a.put (some s) u).put (some t) v = (a.put (some t) v).put (some s) u := by
  simp only [Act.put]
  congr 1
  exact Array.setIfInBounds_comm _ _ h

theorem setBlock_twice (w : World) (b : Nat) (o o' : Obj) : ChangeMaps.setBlock (ChangeMaps.setBlock w b o) b o' = ChangeMaps.setBlock w b o' := by
  simp [ChangeMaps.setBlock]

theorem eval_put {a : Act} {s t : Nat} {v : Value} (h : s ≠ t) : (a.put (some t) v).eval (.tmp s) = a.eval (.tmp s) := by
  simp [Act.eval, Act.put, Array.getElem?_setIfInBounds_ne (Ne.symm h)]
theorem eval_put_same {a : Act} {t : Nat} {v : Value} (h : t < a.tmps.size) : (a.put (some t) v).eval (.tmp t) = v := by
  simp [Act.eval, Act.put, h]

end
end Go.Eng
namespace Go.Eng
open Go.RowKit

variable {P : Program} {C : Cfg} {B : Nat} {w0 : World} {st : St}
section
variable {B : Nat} {w0 : World} {S0 : Nat → Prop} {df : List Deferred}

def actA (u : Fuse) (v v' : Value) (i : Nat) (a : Act) : Act := match i with
  | 0 => a
  | 1 => a.put (some u.c) v
  | _ => (a.put (some u.c) v).put (some u.d) v'
def actB (u : Fuse) (x x' : Value) (j : Nat) (a : Act) : Act := match j with
  | 0 => a
  | 1 => a.put (some u.e) x
  | _ => (a.put (some u.e) x).put (some u.f) x'
def actU (u : Fuse) (v v' x x' : Value) (i j : Nat) (a : Act) : Act := actB u x x' j (actA u v v' i a)

structure Apart (u : Fuse) : Prop where
  ef : u.e ≠ u.f
  cd : u.c ≠ u.d
  ce : u.c ≠ u.e
  cf : u.c ≠ u.f
  de : u.d ≠ u.e
  df : u.d ≠ u.f

theorem actU_A0 {u : Fuse} (h : Apart u) {v v' x x' : Value} {j : Nat} (hj : j ≤ 2) (a : Act) : (actU u v v' x x' 0 j a).put (some u.c) v = actU u v v' x x' 1 j a := by
  match j, hj with
  | 0, _ => rfl
  | 1, _ => exact put_comm h.ce.symm
  | 2, _ => simp only [actU, actB, actA]; rw [put_comm h.cf.symm, put_comm (a := a) h.ce.symm]
theorem actU_A1 {u : Fuse} (h : Apart u) {v v' x x' : Value} {j : Nat} (hj : j ≤ 2) (a : Act) : (actU u v v' x x' 1 j a).put (some u.d) v' = actU u v v' x x' 2 j a := by
  match j, hj with
  | 0, _ => rfl
  | 1, _ => exact put_comm h.de.symm
  | 2, _ => simp only [actU, actB, actA]; rw [put_comm h.df.symm, put_comm (a := a.put (some u.c) v) h.de.symm]
theorem actU_B0 (u : Fuse) (v v' x x' : Value) (i : Nat) (a : Act) : (actU u v v' x x' i 0 a).put (some u.e) x = actU u v v' x x' i 1 a := rfl
theorem actU_B1 (u : Fuse) (v v' x x' : Value) (i : Nat) (a : Act) : (actU u v v' x x' i 1 a).put (some u.f) x' = actU u v v' x x' i 2 a := rfl

theorem befB_ok {o : Oper} {n : Nat} (h : befB o n = true) : o.guard = none ∧ ∀ e ∈ o.after, Region.binds .any e = true → e.on < n := by
  unfold befB at h
  simp only [Bool.and_eq_true, Option.isNone_iff_eq_none] at h
  refine ⟨h.1, fun e he hbi => ?_⟩
  have := Array.all_eq_true'.1 h.2 e he
  rw [hbi] at this
  simpa using this
theorem onB_ok {o : Oper} {n : Nat} (h : onB o n = true) : ∃ e ∈ o.after, Region.binds .any e = true ∧ e.on = n := by
  obtain ⟨e, he, h2⟩ := Array.any_eq_true'.1 h
  simp only [Bool.and_eq_true, decide_eq_true_eq] at h2
  exact ⟨e, he, h2⟩

theorem wp_val {o : Oper} {a : Act} {w w' : World} {v : Value} {K : Act → World → Prop} {Q : Exit → Act → World → Prop} (h : (execOp a.eval o).run P w = .ok (.value v) w') (hK : K (a.put o.dst v) w') : o.wp P a w K Q := by
  unfold Oper.wp
  rw [h, Oper.upon_value]
  exact hK
theorem wp_skp {o : Oper} {a : Act} {w w' : World} {K : Act → World → Prop} {Q : Exit → Act → World → Prop} (h : (execOp a.eval o).run P w = .ok .skip w') (hK : K (a.put o.dst undef) w') : o.wp P a w K Q := by
  unfold Oper.wp
  rw [h, Oper.upon_skip]
  exact hK
theorem wpOp_left {ops : Array Oper} {i : Nat} {o : Oper} (ho : ops[i]? = some o) (hg : o.guard = none) {a : Act} {w : World} {K : Act → World → Prop} {Q : Exit → Act → World → Prop} (h : o.wp P a w K Q) : wpOp P ops Q i K a w := by
  unfold wpOp
  rw [ho]
  simp only
  rw [if_pos (by unfold Region.wanted; rw [hg])]
  exact .inl h

structure Done (p i j : Nat) (listed : Array Bool) : Prop where
  size : listed.size = p + 5
  pre : ∀ q, q < p → listed.getD q false = true
  l0 : listed.getD p false = decide (1 ≤ i)
  l1 : listed.getD (p + 1) false = decide (2 ≤ i)
  l2 : listed.getD (p + 2) false = decide (1 ≤ j)
  l3 : listed.getD (p + 3) false = decide (2 ≤ j)
  l4 : listed.getD (p + 4) false = false

theorem Done.set {p i j i' j' q : Nat} {listed : Array Bool} (h : Done p i j listed) (hq : p ≤ q ∧ q < p + 4) (h0 : q = p → 1 ≤ i') (h0' : q ≠ p → decide (1 ≤ i') = decide (1 ≤ i)) (h1 : q = p + 1 → 2 ≤ i') (h1' : q ≠ p + 1 → decide (2 ≤ i') = decide (2 ≤ i))
    (h2 : q = p + 2 → 1 ≤ j') (h2' : q ≠ p + 2 → decide (1 ≤ j') = decide (1 ≤ j)) (h3 : q = p + 3 → 2 ≤ j') (h3' : q ≠ p + 3 → decide (2 ≤ j') = decide (2 ≤ j)) : Done p i' j' (listed.setIfInBounds q true) := by
  have hs := h.size
  have same : ∀ r, (listed.setIfInBounds q true).getD r false = if r = q then true else listed.getD r false := by
    intro r
    split
    · rename_i e; subst e; simp [show r < listed.size by omega]
    · rename_i e; exact getD_set_ne false (Ne.symm e)
  refine ⟨by simp [hs], fun r hr => ?_, ?_, ?_, ?_, ?_, ?_⟩
  · rw [same, if_neg (by omega)]; exact h.pre r hr
  · rw [same]; split
    · rename_i e; simp [h0 e.symm]
    · rename_i e; rw [h0' (Ne.symm e)]; exact h.l0
  · rw [same]; split
    · rename_i e; simp [h1 e.symm]
    · rename_i e; rw [h1' (Ne.symm e)]; exact h.l1
  · rw [same]; split
    · rename_i e; simp [h2 e.symm]
    · rename_i e; rw [h2' (Ne.symm e)]; exact h.l2
  · rw [same]; split
    · rename_i e; simp [h3 e.symm]
    · rename_i e; rw [h3' (Ne.symm e)]; exact h.l3
  · rw [same, if_neg (by omega)]; exact h.l4

theorem tail_any {L : List Oper} {u : Fuse} (hL : L = u.pre ++ [u.lk, u.ad, u.me, u.ex, u.es]) (hap : Apart u) (hd : u.me.dst = some u.e ∧ u.ex.dst = some u.f ∧ u.lk.dst = some u.c ∧ u.ad.dst = some u.d ∧ u.es.dst = none)
    (b0 : befB u.lk u.pre.length = true) (b1 : befB u.ad (u.pre.length + 1) = true) (b2 : befB u.me u.pre.length = true) (b3 : befB u.ex (u.pre.length + 3) = true) (b4 : befB u.es (u.pre.length + 4) = true)
    (o1 : onB u.ad u.pre.length = true) (o3 : onB u.ex (u.pre.length + 2) = true) (o4 : onB u.es (u.pre.length + 1) = true) (o5 : onB u.es (u.pre.length + 3) = true)
    {v v' x x' : Value} {a : Act} {w w1 w3 : World} {Q : Exit → Act → World → Prop}
    (rA0 : ∀ j, j ≤ 2 → (execOp (actU u v v' x x' 0 j a).eval u.lk).run P (if j = 0 then w else w1) = .ok (.value v) (if j = 0 then w else w1))
    (rA1 : ∀ j, j ≤ 2 → (execOp (actU u v v' x x' 1 j a).eval u.ad).run P (if j = 0 then w else w1) = .ok (.value v') (if j = 0 then w else w1))
    (rB0 : ∀ i, i ≤ 2 → (execOp (actU u v v' x x' i 0 a).eval u.me).run P w = .ok (.value x) w1)
    (rB1 : ∀ i, i ≤ 2 → (execOp (actU u v v' x x' i 1 a).eval u.ex).run P w1 = .ok (.value x') w1)
    (rE : (execOp (actU u v v' x x' 2 2 a).eval u.es).run P w1 = .ok .skip w3)
    (hQ : Q .normal (actU u v v' x x' 2 2 a) w3) :
    ∀ n i j, i ≤ 2 → j ≤ 2 → n + i + j = 4 → ∀ listed, Done u.pre.length i j listed → wpAny P .any L.toArray Q (n + 1) listed (actU u v v' x x' i j a) (if j = 0 then w else w1) := by
  have hLlen : L.length = u.pre.length + 5 := by rw [hL]; simp
  have g0 : L[u.pre.length]? = some u.lk := by rw [hL]; simp
  have g1 : L[u.pre.length + 1]? = some u.ad := by rw [hL]; simp
  have g2 : L[u.pre.length + 2]? = some u.me := by rw [hL]; simp
  have g3 : L[u.pre.length + 3]? = some u.ex := by rw [hL]; simp
  have g4 : L[u.pre.length + 4]? = some u.es := by rw [hL]; simp
  obtain ⟨q0, e0⟩ := befB_ok b0
  obtain ⟨q1, e1⟩ := befB_ok b1
  obtain ⟨q2, e2⟩ := befB_ok b2
  obtain ⟨q3, e3⟩ := befB_ok b3
  obtain ⟨q4, e4⟩ := befB_ok b4
  intro n
  induction n with
  | zero =>
    intro i j hi hj hn listed hl
    obtain rfl : i = 2 := by omega
    obtain rfl : j = 2 := by omega
    have hall : ∀ q, q < u.pre.length + 4 → listed.getD q false = true := by
      intro q hq
      by_cases h : q < u.pre.length
      · exact hl.pre q h
      · rcases (show q = u.pre.length ∨ q = u.pre.length + 1 ∨ q = u.pre.length + 2 ∨ q = u.pre.length + 3 by omega) with rfl | rfl | rfl | rfl
        · exact hl.l0
        · exact hl.l1
        · exact hl.l2
        · exact hl.l3
    refine wpAny_one (i := u.pre.length + 4) (ready_one (by rw [hl.size, hLlen]) g4 hl.l4 (fun e he hbi => hall _ (e4 e he hbi)) fun r or_ hr hor => ?_) ?_
    · exact .inl (hall r (by have := (List.getElem?_eq_some_iff.1 hor).1; omega))
    refine wpOp_left (by simpa using g4) q4 (wp_skp rE ?_)
    rw [hd.2.2.2.2]
    refine ⟨?_, hQ⟩
    cases hr : Region.ready .any L.toArray (listed.setIfInBounds (u.pre.length + 4) true) with
    | nil => rfl
    | cons q r =>
      obtain ⟨h1, o, h2, _⟩ := mem_ready.1 (show q ∈ Region.ready .any L.toArray _ by rw [hr]; exact List.mem_cons_self)
      have hlt : q < L.length := (List.getElem?_eq_some_iff.1 (by simpa using h2 : L[q]? = some o)).1
      have h1 := getD_both h1
      by_cases e : q = u.pre.length + 4
      · rw [e] at h1; simp [show u.pre.length + 4 < listed.size by rw [hl.size]; omega] at h1
      · rw [getD_set_ne false (Ne.symm e), hall q (by omega)] at h1; cases h1
  | succ n ih =>
    intro i j hi hj hn listed hl
    refine ⟨fun hr => ?_, fun q hmem => ?_⟩
    · -- one of them is ready
      have : ∃ q, q ∈ Region.ready .any L.toArray listed := by
        by_cases h : i = 0
        · subst h
          exact ⟨_, mem_ready.2 ⟨getD_true (by rw [hl.size]; omega) hl.l0, _, by simpa using g0, fun e he hbi => hl.pre _ (e0 e he hbi)⟩⟩
        · by_cases h1 : i = 1
          · subst h1
            refine ⟨u.pre.length + 1, mem_ready.2 ⟨getD_true (by rw [hl.size]; omega) hl.l1, _, by simpa using g1, fun e he hbi => ?_⟩⟩
            have := e1 e he hbi
            by_cases h : e.on < u.pre.length
            · exact hl.pre _ h
            · rw [show e.on = u.pre.length by omega]; exact hl.l0
          · obtain rfl : i = 2 := by omega
            by_cases h2 : j = 0
            · subst h2
              exact ⟨_, mem_ready.2 ⟨getD_true (by rw [hl.size]; omega) hl.l2, _, by simpa using g2, fun e he hbi => hl.pre _ (e2 e he hbi)⟩⟩
            · obtain rfl : j = 1 := by omega
              refine ⟨u.pre.length + 3, mem_ready.2 ⟨getD_true (by rw [hl.size]; omega) hl.l3, _, by simpa using g3, fun e he hbi => ?_⟩⟩
              have := e3 e he hbi
              by_cases h : e.on < u.pre.length
              · exact hl.pre _ h
              · rcases (show e.on = u.pre.length ∨ e.on = u.pre.length + 1 ∨ e.on = u.pre.length + 2 by omega) with h | h | h <;> rw [h]
                · exact hl.l0
                · exact hl.l1
                · exact hl.l2
      obtain ⟨q, hq⟩ := this
      rw [hr] at hq; cases hq
    · obtain ⟨hun, o, ho, hready⟩ := mem_ready.1 hmem
      have ho' : L[q]? = some o := by simpa using ho
      have hlt : q < L.length := (List.getElem?_eq_some_iff.1 ho').1
      have hun := getD_both hun
      by_cases h : q < u.pre.length
      · rw [hl.pre q h] at hun; cases hun
      rcases (show q = u.pre.length ∨ q = u.pre.length + 1 ∨ q = u.pre.length + 2 ∨ q = u.pre.length + 3 ∨ q = u.pre.length + 4 by omega) with rfl | rfl | rfl | rfl | rfl
      · rw [hl.l0] at hun
        obtain rfl : i = 0 := by simp at hun; omega
        refine wpOp_left (by simpa using g0) q0 (wp_val (rA0 j hj) ?_)
        rw [hd.2.2.1, actU_A0 hap hj]
        exact ih 1 j (by omega) hj (by omega) _ (hl.set (by omega) (by omega) (by omega) (by omega) (fun _ => by simp) (by omega) (fun _ => rfl) (by omega) (fun _ => rfl))
      · rw [hl.l1] at hun
        have hi1 : i = 1 := by
          obtain ⟨e, r1, r2, r3⟩ := onB_ok o1
          obtain rfl := Option.some.inj (g1.symm.trans ho')
          have := hready e r1 r2
          rw [r3, hl.l0] at this
          simp at this hun
          omega
        subst hi1
        refine wpOp_left (by simpa using g1) q1 (wp_val (rA1 j hj) ?_)
        rw [hd.2.2.2.1, actU_A1 hap hj]
        exact ih 2 j (by omega) hj (by omega) _ (hl.set (by omega) (by omega) (fun _ => by simp) (by omega) (fun _ => by omega) (by omega) (fun _ => rfl) (by omega) (fun _ => rfl))
      · rw [hl.l2] at hun
        obtain rfl : j = 0 := by simp at hun; omega
        refine wpOp_left (by simpa using g2) q2 (wp_val (rB0 i hi) ?_)
        rw [hd.1, actU_B0]
        exact ih i 1 hi (by omega) (by omega) _ (hl.set (by omega) (by omega) (fun _ => rfl) (by omega) (fun _ => rfl) (by omega) (fun _ => by omega) (by omega) (fun _ => by simp))
      · rw [hl.l3] at hun
        have hj1 : j = 1 := by
          obtain ⟨e, r1, r2, r3⟩ := onB_ok o3
          obtain rfl := Option.some.inj (g3.symm.trans ho')
          have := hready e r1 r2
          rw [r3, hl.l2] at this
          simp at this hun
          omega
        subst hj1
        refine wpOp_left (by simpa using g3) q3 (wp_val (rB1 i hi) ?_)
        rw [hd.2.1, actU_B1]
        exact ih i 2 hi (by omega) (by omega) _ (hl.set (by omega) (by omega) (fun _ => rfl) (by omega) (fun _ => rfl) (by omega) (fun _ => by simp) (by omega) (fun _ => by omega))
      · obtain rfl := Option.some.inj (g4.symm.trans ho')
        obtain ⟨e, r1, r2, r3⟩ := onB_ok o4
        obtain ⟨e', r1', r2', r3'⟩ := onB_ok o5
        have h1 := hready e r1 r2
        have h2 := hready e' r1' r2'
        rw [r3, hl.l1] at h1
        rw [r3', hl.l3] at h2
        simp at h1 h2
        omega

end
end Go.Eng
namespace Go.Eng
open Go.RowKit

variable {P : Program} {C : Cfg} {B : Nat} {w0 : World} {st : St}
section
variable {B : Nat} {w0 : World} {S0 : Nat → Prop} {df : List Deferred}

theorem eval_actU {u : Fuse} {s : Nat} (h : s ≠ u.c ∧ s ≠ u.d ∧ s ≠ u.e ∧ s ≠ u.f) {v v' x x' : Value} {i j : Nat} (a : Act) : (actU u v v' x x' i j a).eval (.tmp s) = a.eval (.tmp s) := by
  obtain ⟨h1, h2, h3, h4⟩ := h
  have hA : (actA u v v' i a).eval (.tmp s) = a.eval (.tmp s) := by
    unfold actA
    split
    · rfl
    · exact eval_put h1
    · rw [eval_put h2, eval_put h1]
  unfold actU actB
  split
  · exact hA
  · rw [eval_put h3]; exact hA
  · rw [eval_put h4, eval_put h3]; exact hA
theorem size_put (a : Act) (s : Option Nat) (v : Value) : (a.put s v).tmps.size = a.tmps.size := by
  cases s <;> simp [Act.put]
theorem actU_c {u : Fuse} (h : Apart u) {v v' x x' : Value} {j : Nat} {a : Act} (hs : u.c < a.tmps.size) : (actU u v v' x x' 1 j a).eval (.tmp u.c) = v := by
  unfold actU actB actA
  split
  · exact eval_put_same hs
  · rw [eval_put h.ce]; exact eval_put_same hs
  · rw [eval_put h.cf, eval_put h.ce]; exact eval_put_same hs
theorem actU_e {u : Fuse} {v v' x x' : Value} {i : Nat} {a : Act} (hs : u.e < a.tmps.size) : (actU u v v' x x' i 1 a).eval (.tmp u.e) = x := by
  unfold actU actB
  refine eval_put_same ?_
  unfold actA
  split <;> (try simp only [size_put]) <;> exact hs
theorem actU_f {u : Fuse} {v v' x x' : Value} {i : Nat} {a : Act} (hs : u.f < a.tmps.size) : (actU u v v' x x' i 2 a).eval (.tmp u.f) = x' := by
  unfold actU actB
  refine eval_put_same ?_
  unfold actA
  split <;> (try simp only [size_put]) <;> exact hs
theorem actU_d {u : Fuse} (h : Apart u) {v v' x x' : Value} {a : Act} (hs : u.d < a.tmps.size) : (actU u v v' x x' 2 2 a).eval (.tmp u.d) = v' := by
  show ((((a.put (some u.c) v).put (some u.d) v').put (some u.e) x).put (some u.f) x').eval (.tmp u.d) = v'
  rw [eval_put h.df, eval_put h.de]
  exact eval_put_same (by simp only [size_put]; exact hs)

theorem Closed.add {all : List Oper} {T : Nat → Bool} (h : Closed all T) {i : Nat} {o : Oper} (ho : all[i]? = some o) (hr : ∀ e ∈ o.after, Region.binds .any e = true → T e.on = true) : Closed all (fun q => T q || decide (q = i)) := by
  intro j oj hj hl e he hbi
  simp only [Bool.or_eq_true, decide_eq_true_eq] at hl ⊢
  rcases hl with hl | rfl
  · exact .inl (h j oj hj hl e he hbi)
  · obtain rfl := Option.some.inj (ho.symm.trans hj)
    exact .inl (hr e he hbi)

theorem of_mask {all : List Oper} {T : Nat → Bool} {ancs : List Nat} (ha : AncOk all ancs) (hT : Closed all T) {o : Oper} (hr : ∀ e ∈ o.after, Region.binds .any e = true → T e.on = true) {j : Nat} (hb : (edgeMask ancs o.after.toList).testBit j = true) : T j = true := by
  obtain ⟨e, he, hbi, h⟩ := edgeMask_bit hb
  have he' : e ∈ o.after := by simpa using he
  rcases h with h | h
  · rw [← h]; exact hr e he' hbi
  · exact closed_anc ha hT _ _ (hr e he' hbi) h

theorem draw_val (hC : CfgOk P C B w0) {all : List Oper} {ws : List (List (Nat × Nat))} {ancs : List Nat} {n : Nat} {out : List DZ} (hn : n = all.length) (hb : Built C all ws ancs st n out) (ha : AncOk all ancs) (hside : ∀ z ∈ out, ∀ p ∈ z.r.side, p) (hclean : ∀ s t w d, look st.env s ≠ .gd t w d)
    {T : Nat → Bool} (hT : Closed all T) {i : Nat} {o : Oper} (ho : all[i]? = some o) (hg : o.guard = none) (hi : T i = false) (hready : ∀ e ∈ o.after, Region.binds .any e = true → T e.on = true)
    {c0 c : Cx} {a a' : Act} {w' : World} (inv : DInv P B w0 S0 df all ancs st out c0 c T a) (hrun : (∃ v, (execOp a.eval o).run P c.w = .ok (.value v) w' ∧ a' = a.put o.dst v) ∨ ((execOp a.eval o).run P c.w = .ok .skip w' ∧ a' = a.put o.dst undef)) :
    ∃ c', DInv P B w0 S0 df all ancs st out c0 c' (fun q => T q || decide (q = i)) a' ∧ c'.w = w' := by
  have step := draw_step hC hn hb ha hside hclean hT ho hi hready (T' := fun q => T q || decide (q = i)) (by simp) (fun j hj => by simp [hj]) inv (Q := fun _ _ _ => False)
      (K := fun a' w' => ∃ c', DInv P B w0 S0 df all ancs st out c0 c' (fun q => T q || decide (q = i)) a' ∧ c'.w = w') (fun a' c' h => ⟨c', h, rfl⟩)
  unfold wpOp at step
  rw [show all.toArray[i]? = some o by simpa using ho] at step
  simp only at step
  rw [if_pos (by unfold Region.wanted; rw [hg])] at step
  rcases step with step | ⟨_, ⟨_, _, hf⟩⟩ <;> try exact hf.elim
  unfold Oper.wp at step
  rcases hrun with ⟨v, hr, rfl⟩ | ⟨hr, rfl⟩
  · rw [hr, Oper.upon_value] at step; exact step
  · rw [hr, Oper.upon_skip] at step; exact step

theorem drawM_ok (hC : CfgOk P C B w0) (hmix : P.follows .mixedOrders = true) {L : List Oper} {ps : List Cnd} {st' : St} (h : drawM C L st = some (ps, st')) (hp : ∀ p ∈ ps, p) (hclean : ∀ s t w d, look st.env s ≠ .gd t w d)
    {c : Cx} {a : Act} {w : World} (hs : SatC P B w0 S0 df c st a w) {Q : Exit → Act → World → Prop} (hQ : ∀ c' a' w', SatC P B w0 S0 df c' st' a' w' → Goes c c' → Q .normal a' w') {id : Nat} : (Code.region id L.toArray true).wp P Q a w := by
  unfold drawM at h
  split at h <;> (try (cases h; done))
  rename_i u hu
  split at h <;> (try (cases h; done))
  rename_i hok
  split at h <;> (try (cases h; done))
  rename_i ps0 st0 hdr
  cases h
  unfold drawR at hdr
  split at hdr <;> (try (cases hdr; done))
  rename_i out hrun
  cases hdr
  obtain ⟨hL, ⟨ho1, ho2, ⟨T3, ho3⟩, ho4, V, ho5⟩, hd1, hd2, hd4, hd5⟩ := fuseOf_ok hu
  unfold Fuse.ok at hok
  simp only [Bool.and_eq_true, Option.isNone_iff_eq_none, decide_eq_true_eq] at hok
  obtain ⟨⟨b0, b1, b2, b3, b4, hd3⟩, ⟨o1, o3, o4, o5⟩, ⟨m0, m2⟩, ⟨hne, hmk⟩, hlt4, hpre, hkc, htu⟩ := hok
  have hap : Apart u := ⟨hne.1, hne.2.1, hne.2.2.1, hne.2.2.2.1, hne.2.2.2.2.1, hne.2.2.2.2.2⟩
  have hm4 : u.m ≠ u.c ∧ u.m ≠ u.d ∧ u.m ≠ u.e ∧ u.m ≠ u.f := ⟨hmk.1, hmk.2.1, hmk.2.2.1, hmk.2.2.2.1⟩
  have hk4 : u.k ≠ u.c ∧ u.k ≠ u.d ∧ u.k ≠ u.e ∧ u.k ≠ u.f := hmk.2.2.2.2
  have hb : Built C u.fused (preD C u.fused st.nxt 0 u.fused st.env st.own) (ancsOf u.fused []) st (0 + u.fused.length) out := runD_built u.fused 0 [] out rfl .nil hrun
  rw [Nat.zero_add] at hb
  obtain ⟨ha, hal⟩ := ancsOf_ok (all := u.fused) u.fused [] rfl ⟨fun i j h => by simp at h, fun i o h => by simp at h⟩
  have hside := sidesD_ok hp
  have hFlen : u.fused.length = u.pre.length + 3 := by simp [Fuse.fused]
  have hF0 : u.fused[u.pre.length]? = some u.lk := by simp [Fuse.fused]
  have hF1 : u.fused[u.pre.length + 1]? = some u.ad := by simp [Fuse.fused]
  have hF2 : u.fused[u.pre.length + 2]? = some u.last := by simp [Fuse.fused]
  have hFi : ∀ i, i < u.pre.length → u.fused[i]? = L[i]? := fun i hi => by rw [hL]; simp [Fuse.fused, List.getElem?_append_left hi]
  generalize hFd : u.fused = F at *
  have hLlen : L.length = u.pre.length + 5 := by rw [hL]; simp
  have g0 : L[u.pre.length]? = some u.lk := by rw [hL]; simp
  have g1 : L[u.pre.length + 1]? = some u.ad := by rw [hL]; simp
  have g2 : L[u.pre.length + 2]? = some u.me := by rw [hL]; simp
  have g3 : L[u.pre.length + 3]? = some u.ex := by rw [hL]; simp
  have g4 : L[u.pre.length + 4]? = some u.es := by rw [hL]; simp
  obtain ⟨q0, e0⟩ := befB_ok b0
  obtain ⟨q1, e1⟩ := befB_ok b1
  obtain ⟨q4, e4⟩ := befB_ok b4
  have hlg : u.last.guard = none := q4
  have hla : ∀ e ∈ u.last.after, e.on < u.pre.length + 2 := by
    intro e he
    have : e ∈ u.es.after.filter fun e => decide (e.on < u.pre.length + 2) := he
    simpa using (Array.mem_filter.1 this).2
  have hpo : ∀ j o, j < u.pre.length → L[j]? = some o → o.dst ≠ some u.e ∧ o.dst ≠ some u.f ∧ ∀ j' w', o.guard = some (j', w') → j' < u.pre.length := by
    intro j o hj ho
    have hmem : o ∈ u.pre := by
      rw [hL, List.getElem?_append_left hj] at ho
      exact List.mem_of_getElem? ho
    have := List.all_eq_true.1 hpre o hmem
    simp only [Bool.and_eq_true, bne_iff_ne, ne_eq] at this
    refine ⟨this.1, this.2.1, fun j' w' hg => ?_⟩
    have h2 := this.2.2
    rw [hg] at h2
    simpa using h2
  -- the end
  have fin : ∀ (listed : Array Bool) (a : Act) (c1 : Cx), Done u.pre.length 0 0 listed → Closed F (fun j => listed.getD j false) → DInv P B w0 S0 df F (ancsOf F []) st out c c1 (fun j => listed.getD j false) a → wpAny P .any L.toArray Q 5 listed a c1.w := by
    intro listed a c1 hdone hcl inv
    have hsa : a.tmps.size = st.n := inv.size
    -- what is read
    have hr0 : ∀ e ∈ u.lk.after, Region.binds .any e = true → (fun j => listed.getD j false) e.on = true := fun e he hbi => hdone.pre _ (e0 e he hbi)
    obtain ⟨ownV, envV, r, nx, hmV, heV, hst, hsd⟩ := draw_view hC rfl hb ha hside hclean hcl hF0 hdone.l0 hr0 inv
    unfold stepD at hst
    rw [q0] at hst
    simp only [ho4] at hst
    have hstF : ∃ r', stepF C (fun x => ungd (opnd envV x)) ownV nx u.lk false = some r' := by
      split at hst
      · rename_i r' hr'; exact ⟨r', hr'⟩
      · cases hst
    obtain ⟨r', hr'⟩ := hstF
    obtain ⟨b, es, clock, k, e, kl, z, f1, f2, f3, f4, f5, f6, f7⟩ := look_facts hC hmV (fun x => opnd_ok heV x) ho4 hr' hkc
    obtain ⟨v0, stp, es1, clock1, hrun1, _, hstore⟩ := WideElems.entry_then_store f5 f2 f7 f3 f4 f6
    obtain ⟨hlook, hlook1⟩ := entry_look f5 f2 f7 f3 f4 f6 hrun1
    have hw2 : (ChangeMaps.setBlock c1.w b (.map es1 clock1)).heap[b]? = some (.map es1 clock1) := by
      have hlt := (Array.getElem?_eq_some_iff.1 f3).1
      simp only [ChangeMaps.setBlock]
      rw [Array.getElem?_setIfInBounds_self_of_lt hlt]
    have f1' : a.eval (.tmp u.m) = .map (some b) := f1
    have lkrun : ∀ (a' : Act) (W : World), a'.eval (.tmp u.m) = .map (some b) → a'.eval (.tmp u.k) = a.eval (.tmp u.k) → (Instr.lookup u.T (.map (some b)) (a.eval (.tmp u.k)) false).run P W = .ok v0 W → (execOp a'.eval u.lk).run P W = .ok (.value v0) W := by
      intro a' W h1 h2 h3
      unfold execOp
      rw [ho4]
      simp only [h1, h2, Sem.run_bind, h3, Result.andThen_ok, Sem.run_pure]
    obtain ⟨c2, inv2, hw_2⟩ := draw_val hC rfl hb ha hside hclean hcl hF0 q0 hdone.l0 hr0 inv (.inl ⟨_, lkrun a c1.w f1' rfl hlook, rfl⟩)
    rw [hd4] at inv2
    -- what is counted up
    have hcl2 := hcl.add hF0 hr0
    have hT1 : (fun q => (fun j => listed.getD j false) q || decide (q = u.pre.length)) (u.pre.length + 1) = false := by simp [hdone.l1]
    have hr1 : ∀ e ∈ u.ad.after, Region.binds .any e = true → (fun q => (fun j => listed.getD j false) q || decide (q = u.pre.length)) e.on = true := fun e he hbi => by
      have := e1 e he hbi
      simp only [Bool.or_eq_true, decide_eq_true_eq]
      by_cases h : e.on < u.pre.length
      · exact .inl (hdone.pre _ h)
      · exact .inr (by omega)
    obtain ⟨ownV2, envV2, r2, nx2, hmV2, heV2, hst2, hsd2⟩ := draw_view hC rfl hb ha hside hclean hcl2 hF1 hT1 hr1 inv2
    unfold stepD at hst2
    rw [q1] at hst2
    simp only [ho5] at hst2
    have hstF2 : ∃ r', stepF C (fun x => ungd (opnd envV2 x)) ownV2 nx2 u.ad false = some r' := by
      split at hst2
      · rename_i r' hr'; exact ⟨r', hr'⟩
      · cases hst2
    obtain ⟨r2', hr2'⟩ := hstF2
    obtain ⟨zn, hzn⟩ := add_facts (fun x => opnd_ok heV2 x) (by
      simp only [opnd, constD]
      split
      · exact .inl rfl
      · exact .inr rfl) ho5 hr2' htu
    rw [eval_put_same (by omega)] at hzn
    subst hzn
    have adrun : ∀ (a' : Act) (W : World), a'.eval (.tmp u.c) = .int .i64 zn → (execOp a'.eval u.ad).run P W = .ok (.value (.int .i64 (IntKind.wrap .i64 (zn + u.n)))) W := fun a' W h => add_run ho5 h rfl W
    obtain ⟨c3, inv3, hw_3⟩ := draw_val hC rfl hb ha hside hclean hcl2 hF1 q1 hT1 hr1 inv2 (.inl ⟨_, adrun (a.put (some u.c) (.int .i64 zn)) c2.w (eval_put_same (by omega)), rfl⟩)
    rw [hd5] at inv3
    -- what is stored
    have hcl3 := hcl2.add hF1 hr1
    have hall3 : ∀ q, q < u.pre.length + 2 → (fun q => (fun q => (fun j => listed.getD j false) q || decide (q = u.pre.length)) q || decide (q = u.pre.length + 1)) q = true := fun q hq => by
      simp only [Bool.or_eq_true, decide_eq_true_eq]
      by_cases h : q < u.pre.length
      · exact .inl (.inl (hdone.pre _ h))
      · by_cases h2 : q = u.pre.length
        · exact .inl (.inr h2)
        · exact .inr (by omega)
    obtain ⟨es', clock', hrun3, hupd⟩ := hstore _ (.int .i64 (IntKind.wrap .i64 (zn + u.n))) hw2
    have uprun : (execOp ((a.put (some u.c) (.int .i64 zn)).put (some u.d) (.int .i64 (IntKind.wrap .i64 (zn + u.n)))).eval u.last).run P c3.w = .ok .skip (ChangeMaps.setBlock c1.w b (.map es' clock')) := by
      have hlop : u.last.op = .mapUpdate u.T (.tmp u.m) (.tmp u.k) (.tmp u.d) := rfl
      unfold execOp
      rw [hlop, hw_3, hw_2]
      simp only [eval_put hm4.2.1, eval_put hm4.1, eval_put hk4.2.1, eval_put hk4.1, eval_put_same (show u.d < (a.put (some u.c) (.int .i64 zn)).tmps.size by rw [size_put]; omega), f1', Sem.run_bind, hupd, Result.andThen_ok, Sem.run_pure]
    obtain ⟨c4, inv4, hw_4⟩ := draw_val hC rfl hb ha hside hclean hcl3 hF2 hlg (by simp [hdone.l2]) (fun e he _ => hall3 _ (hla e he)) inv3 (.inr ⟨uprun, rfl⟩)
    have hdl : u.last.dst = none := rfl
    rw [hdl] at inv4
    have inv4 : DInv P B w0 S0 df F (ancsOf F []) st out c c4 _ ((a.put (some u.c) (.int .i64 zn)).put (some u.d) (.int .i64 (IntKind.wrap .i64 (zn + u.n)))) := inv4
    -- in whatever order
    have hta := tail_any (P := P) hL hap ⟨hd1, hd2, hd4, hd5, hd3⟩ b0 b1 b2 b3 b4 o1 o3 o4 o5 (v := .int .i64 zn) (v' := .int .i64 (IntKind.wrap .i64 (zn + u.n))) (x := .tuple #[.int .i64 zn, goInt stp]) (x' := goInt stp) (a := a) (w := c1.w)
      (w1 := ChangeMaps.setBlock c1.w b (.map es1 clock1)) (w3 := ChangeMaps.setBlock c1.w b (.map es' clock')) (Q := Q)
      (fun j _ => by
        split
        · exact lkrun _ _ (by rw [eval_actU hm4]; exact f1') (eval_actU hk4 a) hlook
        · exact lkrun _ _ (by rw [eval_actU hm4]; exact f1') (eval_actU hk4 a) (hlook1 _ hw2))
      (fun j _ => adrun _ _ (actU_c hap (by omega)))
      (fun i _ => by
        unfold execOp
        rw [ho1]
        have hm' := (eval_actU hm4 (v := .int .i64 zn) (v' := .int .i64 (IntKind.wrap .i64 (zn + u.n))) (x := .tuple #[.int .i64 zn, goInt stp]) (x' := goInt stp) (i := i) (j := 0) a).trans f1'
        have hk' := eval_actU hk4 (v := .int .i64 zn) (v' := .int .i64 (IntKind.wrap .i64 (zn + u.n))) (x := .tuple #[.int .i64 zn, goInt stp]) (x' := goInt stp) (i := i) (j := 0) a
        simp only [hm', hk', Sem.run_bind, hrun1, Result.andThen_ok, Sem.run_pure])
      (fun i _ => by
        unfold execOp
        rw [ho2]
        simp only [actU_e (u := u) (v := .int .i64 zn) (v' := .int .i64 (IntKind.wrap .i64 (zn + u.n))) (x := .tuple #[.int .i64 zn, goInt stp]) (x' := goInt stp) (i := i) (a := a) (by omega), Instr.extract, Sem.run_bind, Sem.run_pure, Result.andThen_ok]
        have hget : (#[.int .i64 zn, goInt stp] : Array Value)[1]? = some (goInt stp) := rfl
        simp only [hget, Sem.run_bind, Sem.run_pure, Result.andThen_ok])
      (by
        unfold execOp
        rw [ho3]
        have hm' := (eval_actU hm4 (v := .int .i64 zn) (v' := .int .i64 (IntKind.wrap .i64 (zn + u.n))) (x := .tuple #[.int .i64 zn, goInt stp]) (x' := goInt stp) (i := 2) (j := 2) a).trans f1'
        have hrun3' : (Instr.entryStore T3 (.map (some b)) (goInt stp) (.int .i64 (IntKind.wrap .i64 (zn + u.n)))).run P (ChangeMaps.setBlock c1.w b (.map es1 clock1)) = .ok () (ChangeMaps.setBlock (ChangeMaps.setBlock c1.w b (.map es1 clock1)) b (.map es' clock')) := hrun3
        rw [setBlock_twice] at hrun3'
        simp only [hm', actU_f (u := u) (v := .int .i64 zn) (v' := .int .i64 (IntKind.wrap .i64 (zn + u.n))) (x := .tuple #[.int .i64 zn, goInt stp]) (x' := goInt stp) (i := 2) (a := a) (by omega),
          actU_d hap (v := .int .i64 zn) (v' := .int .i64 (IntKind.wrap .i64 (zn + u.n))) (x := .tuple #[.int .i64 zn, goInt stp]) (x' := goInt stp) (a := a) (by omega), Sem.run_bind, hrun3', Result.andThen_ok, Sem.run_pure])
      ?_ 4 0 0 (by omega) (by omega) (by omega) listed hdone
    · exact hta
    -- all is done
    have hT : ∀ y ∈ out, (fun q => (fun q => (fun q => (fun j => listed.getD j false) q || decide (q = u.pre.length)) q || decide (q = u.pre.length + 1)) q || decide (q = u.pre.length + 2)) y.i = true := fun y hy => by
      have := hb.lt y hy
      by_cases h : y.i = u.pre.length + 2
      · simp only [Bool.or_eq_true, decide_eq_true_eq]; exact .inr h
      · have := hall3 y.i (by omega)
        simp only [Bool.or_eq_true, decide_eq_true_eq] at this ⊢
        exact .inl this
    generalize hTg : (fun q => (fun q => (fun q => (fun j => listed.getD j false) q || decide (q = u.pre.length)) q || decide (q = u.pre.length + 1)) q || decide (q = u.pre.length + 2)) = T4 at inv4 hT
    have hdim : Dim ⟨[], [], []⟩ c4.own (dOwn (fun _ => true) st.own out) := ⟨fun o ho => (by cases ho), fun o _ => by rw [inv4.own o]; exact dOwn_congr fun y hy _ => (hT y hy).symm, fun o ho => (by cases ho), fun o ho => (by cases ho)⟩
    have henv : EnvOk P { c4 with own := dOwn (fun _ => true) st.own out } (dEnv (fun _ => true) st.env out) ((a.put (some u.c) (.int .i64 zn)).put (some u.d) (.int .i64 (IntKind.wrap .i64 (zn + u.n)))).tmps := by
      refine EnvOk.goes hdim.goes inv4.mem.one fun s => ?_
      rw [dEnv_congr (q := T4) fun y hy _ => (hT y hy).symm]
      exact inv4.env s
    have htg : ∀ s t w' d, look (dEnv (fun _ => true) st.env out) s = .gd t w' d → t ≠ u.e ∧ t ≠ u.f := by
      intro s t w' d hl
      rcases dEnv_cases (p := fun _ => true) (base := st.env) (s := s) out with h | ⟨y, hy, _, _, h⟩
      · rw [h] at hl; exact absurd hl (hclean _ _ _ _)
      · rw [h] at hl
        obtain ⟨j, oj, _, t2, t3⟩ := inv4.tags y hy (hT y hy) t w' d hl
        have hjl := (List.getElem?_eq_some_iff.1 t2).1
        by_cases h0 : j < u.pre.length
        · rw [hFi j h0] at t2
          obtain ⟨p1, p2, _⟩ := hpo j oj h0 t2
          exact ⟨fun e => p1 (by rw [t3, e]), fun e => p2 (by rw [t3, e])⟩
        · rcases (show j = u.pre.length ∨ j = u.pre.length + 1 ∨ j = u.pre.length + 2 by omega) with rfl | rfl | rfl
          · rw [hF0] at t2; cases t2; rw [hd4] at t3; cases t3; exact ⟨hap.ce, hap.cf⟩
          · rw [hF1] at t2; cases t2; rw [hd5] at t3; cases t3; exact ⟨hap.de, hap.df⟩
          · rw [hF2] at t2; cases t2; rw [hdl] at t3; cases t3
    have hs4 : ((a.put (some u.c) (.int .i64 zn)).put (some u.d) (.int .i64 (IntKind.wrap .i64 (zn + u.n)))).tmps.size = st.n := inv4.size
    have he1 := henv.put (dst := some u.e) (d := .any) (v := .tuple #[.int .i64 zn, goInt stp]) hs4 (by simpa [putOk] using hlt4.1) (fun t ht => trivial) (fun s t w' d hl e => (htg s t w' d hl).1 (Option.some.inj e).symm)
    have he2 := he1.put (dst := some u.f) (d := .any) (v := goInt stp) (n := st.n) (by simp only [Array.size_setIfInBounds]; exact hs4) (by simpa [putOk] using hlt4.2.1) (fun t ht => trivial) (fun s t w' d hl e => by
      simp only [Go.Eng.put, look] at hl
      split at hl
      · cases hl
      · exact (htg s t w' d hl).2 (Option.some.inj e).symm)
    refine hQ { c4 with own := dOwn (fun _ => true) st.own out } _ _ ⟨hw_4, rfl, hdim.mem inv4.mem, he2, ?_, inv4.defers⟩ (inv4.goes.trans hdim.goes)
    simp only [actU, actB, actA, size_put]
    exact hsa
  have main : ∀ (k : Nat) (listed : Array Bool) (a : Act) (c1 : Cx), listed.size = u.pre.length + 5 → (∀ q, u.pre.length ≤ q → listed.getD q false = false) →
      Closed F (fun j => listed.getD j false) → DInv P B w0 S0 df F (ancsOf F []) st out c c1 (fun j => listed.getD j false) a → drawLeft u.pre.length listed = k →
      wpAny P .any L.toArray Q (k + 5) listed a c1.w := by
    intro k
    induction k with
    | zero => intro listed a c1 hsz htl hcl inv hk; exact fin listed a c1 ⟨hsz, drawLeft_zero hk, by rw [htl _ (by omega)]; rfl, by rw [htl _ (by omega)]; rfl, by rw [htl _ (by omega)]; rfl, by rw [htl _ (by omega)]; rfl, htl _ (by omega)⟩ hcl inv
    | succ k ih =>
      intro listed a c1 hsz htl hcl inv hk
      obtain ⟨i0, g1', g2', g3'⟩ := drawLeft_pos (n := u.pre.length) (L := listed) (by omega)
      rw [show k + 1 + 5 = (k + 5) + 1 by omega]
      refine ⟨fun hr => ?_, fun i hmem => ?_⟩
      · have : i0 ∈ Region.ready .any L.toArray listed := by
          have hi0 : L[i0]? = some L[i0] := by simp [show i0 < L.length by omega]
          refine mem_ready.2 ⟨getD_true (by omega) g2', L[i0], by simp [show i0 < L.length by omega], fun e he hbi => ?_⟩
          have hbit := ha.has i0 L[i0] (by rw [hal]; simp only [List.length_nil, Nat.zero_add]; omega) (by rw [hFi i0 g1']; exact hi0) e he hbi
          obtain ⟨z, hz, rfl⟩ := hb.ex i0 (by omega)
          obtain ⟨_, _, hat⟩ := hb.at z hz
          have h6 := (checkD_out hat.check).2.2.2.2.2
          refine g3' _ ?_
          rcases Nat.lt_or_ge e.on z.i with h | h
          · exact h
          · have := Nat.testBit_lt_two_pow (Nat.lt_of_lt_of_le h6 (Nat.pow_le_pow_right (by omega) h))
            rw [hbit] at this; cases this
        rw [hr] at this; cases this
      · obtain ⟨hun, o, ho, hready⟩ := mem_ready.1 hmem
        have ho' : L[i]? = some o := by simpa using ho
        have hlt : i < L.length := (List.getElem?_eq_some_iff.1 ho').1
        have hu' := getD_both hun
        have hip : i < u.pre.length := by
          by_cases h1 : i < u.pre.length
          · exact h1
          · exfalso
            have no : ∀ {o : Oper} {q : Nat}, (∀ e ∈ o.after, Region.binds .any e = true → listed.getD e.on false = true) → onB o q = true → u.pre.length ≤ q → False := by
              intro o q hrd hon hq
              obtain ⟨e, r1, r2, r3⟩ := onB_ok hon
              have := hrd e r1 r2
              rw [r3, htl q hq] at this; cases this
            have nom : ∀ {o : Oper}, (∀ e ∈ o.after, Region.binds .any e = true → listed.getD e.on false = true) → ((List.range u.pre.length).all fun j => (edgeMask (ancsOf F []) o.after.toList).testBit j) = true → False := by
              intro o hrd hall
              have := of_mask ha hcl hrd (List.all_eq_true.1 hall i0 (by simpa using g1'))
              rw [g2'] at this; cases this
            rcases (show i = u.pre.length ∨ i = u.pre.length + 1 ∨ i = u.pre.length + 2 ∨ i = u.pre.length + 3 ∨ i = u.pre.length + 4 by omega) with rfl | rfl | rfl | rfl | rfl
            · obtain rfl := Option.some.inj (g0.symm.trans ho'); exact nom hready m0
            · obtain rfl := Option.some.inj (g1.symm.trans ho'); exact no hready o1 (by omega)
            · obtain rfl := Option.some.inj (g2.symm.trans ho'); exact nom hready m2
            · obtain rfl := Option.some.inj (g3.symm.trans ho'); exact no hready o3 (by omega)
            · obtain rfl := Option.some.inj (g4.symm.trans ho'); exact no hready o4 (by omega)
        have hoF : F[i]? = some o := by rw [hFi i hip]; exact ho'
        have same : ∀ K : Act → World → Prop, wpOp P F.toArray Q i K a c1.w → wpOp P L.toArray Q i K a c1.w := by
          intro K hK
          unfold wpOp at hK ⊢
          rw [show F.toArray[i]? = some o by simpa using hoF] at hK
          rw [show L.toArray[i]? = some o by simpa using ho']
          simp only at hK ⊢
          have hwe : Region.wanted o (yielded F.toArray a.tmps) = Region.wanted o (yielded L.toArray a.tmps) := by
            unfold Region.wanted
            cases hg : o.guard with
            | none => rfl
            | some jw =>
              obtain ⟨j, w'⟩ := jw
              have hj := (hpo i o hip ho').2.2 j w' hg
              unfold yielded
              have : F.toArray[j]? = L.toArray[j]? := by simpa using hFi j hj
              simp only [this]
          rwa [hwe] at hK
        refine same _ (draw_step hC rfl hb ha hside hclean hcl hoF hu' hready (T' := fun j => (listed.setIfInBounds i true).getD j false) (by simp [show i < listed.size by omega]) (fun j hj => getD_set_ne false (Ne.symm hj)) inv fun a' c' inv' => ?_)
        refine ih _ a' c' (by simp [hsz]) (fun q hq => by rw [getD_set_ne false (by omega)]; exact htl q hq) (fun j oj hj hl e he hbi => ?_) inv' ?_
        · simp only at hl ⊢
          by_cases hij : j = i
          · subst hij
            obtain rfl := Option.some.inj (hj.symm.trans hoF)
            exact getD_set_true (hready e he hbi)
          · rw [getD_set_ne false (Ne.symm hij)] at hl
            exact getD_set_true (hcl j oj hj hl e he hbi)
        · have := drawLeft_set (n := u.pre.length) hip hu' (by omega)
          omega
  refine wp_region_any hmix ?_
  have hw := hs.w
  subst hw
  have hbel : Below c.w.heap.size c.w c.w.drew := (Below.refl _ _).drew
  obtain ⟨hm1, hg1'⟩ := hs.mem.grow hbel (fun _ => False) (fun b h => h.elim)
  simp only [S_false] at hm1 hg1'
  have hnone : ∀ j, (Array.replicate L.toArray.size false).getD j false = false := fun j => by
    rcases Nat.lt_or_ge j L.length with h | h
    · simp [h]
    · simp [Array.getD_eq_getD_getElem?, Array.getElem?_eq_none (show (Array.replicate L.length false).size ≤ j by simpa using h)]
  have hfE : ∀ (l : List DZ), dEnv (fun j => (Array.replicate L.toArray.size false).getD j false) st.env l = st.env := fun l => by
    have := dEnv_drop (p := fun j => (Array.replicate L.toArray.size false).getD j false) (base := st.env) (l := l) (r := []) fun z _ => hnone z.i
    rw [List.append_nil] at this
    exact this
  have hfO : ∀ (l : List DZ), dOwn (fun j => (Array.replicate L.toArray.size false).getD j false) st.own l = st.own := fun l => by
    have := dOwn_drop (p := fun j => (Array.replicate L.toArray.size false).getD j false) (base := st.own) (l := l) (r := []) fun z _ => hnone z.i
    rw [List.append_nil] at this
    exact this
  have hsz0 : L.toArray.size = u.pre.length + 5 := by simpa using hLlen
  rw [show wpAny P .any L.toArray Q L.toArray.size = wpAny P .any L.toArray Q (u.pre.length + 5) by rw [hsz0]]
  refine main u.pre.length (Array.replicate L.toArray.size false) a { c with w := c.w.drew } (by simpa using hLlen) (fun q _ => hnone _) (fun j o _ hl => ?_) ⟨hm1, fun o => ?_, ?_, hs.size, hs.defers, hg1', fun y _ hl => ?_⟩ (drawLeft_new _ _ (by omega))
  · simp only at hl; rw [hnone] at hl; cases hl
  · rw [hfO, ← hs.own]
  · rw [hfE]; exact hs.env.goes hg1' hs.mem.one
  · rw [hnone] at hl; cases hl

end
end Go.Eng
namespace Go.Eng
open Go.RowKit

variable {P : Program} {C : Cfg} {B : Nat} {w0 : World} {st : St}
section
variable {B : Nat} {w0 : World} {S0 : Nat → Prop} {df : List Deferred}
theorem drawT_ok (hC : CfgOk P C B w0) (hmix : P.follows .mixedOrders = true) {L F : List Oper} {o : Oper} (ht : tailOf L = some (F, o)) {ps : List Cnd} {st' : St} (h : drawR C F st = some (ps, st')) (hp : ∀ p ∈ ps, p) (hclean : ∀ s t w d, look st.env s ≠ .gd t w d)
    {c : Cx} {a : Act} {w : World} (hs : SatC P B w0 S0 df c st a w) {Q : Exit → Act → World → Prop} (hQ : ∀ c' a' w', SatC P B w0 S0 df c' st' a' w' → Goes c c' → wpList P L.toArray Q [o] a' w') {id : Nat} : (Code.region id L.toArray true).wp P Q a w := by
  have hL : L = F ++ [o] ∧ tailOk F o = true := by
    unfold tailOf at ht
    split at ht
    · rename_i o' r hr
      split at ht
      · rename_i hok
        obtain ⟨rfl, rfl⟩ := Prod.mk.inj (Option.some.inj ht)
        exact ⟨by rw [← List.reverse_reverse L, hr, List.reverse_cons], hok⟩
      · cases ht
    · cases ht
  obtain ⟨hL, hok⟩ := hL
  unfold tailOk at hok
  simp only [Bool.and_eq_true] at hok
  obtain ⟨hbf, hall, hgF⟩ := hok
  obtain ⟨hog, e0⟩ := befB_ok hbf
  unfold drawR at h
  split at h <;> (try (cases h; done))
  rename_i out hrun
  cases h
  have hb : Built C F (preD C F st.nxt 0 F st.env st.own) (ancsOf F []) st (0 + F.length) out := runD_built F 0 [] out rfl .nil hrun
  rw [Nat.zero_add] at hb
  obtain ⟨ha, hal⟩ := ancsOf_ok (all := F) F [] rfl ⟨fun i j h => by simp at h, fun i o h => by simp at h⟩
  have hside := sidesD_ok hp
  have hLlen : L.length = F.length + 1 := by rw [hL]; simp
  have hFi : ∀ i, i < F.length → F[i]? = L[i]? := fun i hi => by rw [hL, List.getElem?_append_left hi]
  have gl : L[F.length]? = some o := by rw [hL]; simp
  have hpo : ∀ (j : Nat) (o : Oper), F[j]? = some o → ∀ (j' : Nat) (w' : Bool), o.guard = some (j', w') → j' < F.length := by
    intro j o hj j' w' hg
    have := List.all_eq_true.1 hgF o (List.mem_of_getElem? hj)
    rw [hg] at this
    simpa using this
  have nom : ∀ {listed : Array Bool} {i0 : Nat}, Closed F (fun j => listed.getD j false) → i0 < F.length → listed.getD i0 false = false → (∀ e ∈ o.after, Region.binds .any e = true → listed.getD e.on false = true) → False := by
    intro listed i0 hcl hi hz hrd
    have := of_mask (T := fun j => listed.getD j false) ha hcl hrd (List.all_eq_true.1 hall i0 (by simpa using hi))
    rw [hz] at this; cases this
  -- the end
  have fin : ∀ (listed : Array Bool) (a : Act) (c1 : Cx), listed.size = F.length + 1 → listed.getD F.length false = false → (∀ q, q < F.length → listed.getD q false = true) → DInv P B w0 S0 df F (ancsOf F []) st out c c1 (fun j => listed.getD j false) a → wpAny P .any L.toArray Q 1 listed a c1.w := by
    intro listed a c1 hsz hl hpre inv
    have hT : ∀ y ∈ out, listed.getD y.i false = true := fun y hy => hpre _ (hb.lt y hy)
    have hdim : Dim ⟨[], [], []⟩ c1.own (dOwn (fun _ => true) st.own out) := ⟨fun o ho => (by cases ho), fun o _ => by rw [inv.own o]; exact dOwn_congr fun y hy _ => (hT y hy).symm, fun o ho => (by cases ho), fun o ho => (by cases ho)⟩
    have hend : wpList P L.toArray Q [o] a c1.w := by
      refine hQ { c1 with own := dOwn (fun _ => true) st.own out } a c1.w ⟨rfl, rfl, hdim.mem inv.mem, ?_, inv.size, inv.defers⟩ (inv.goes.trans hdim.goes)
      refine EnvOk.goes hdim.goes inv.mem.one fun s => ?_
      rw [dEnv_congr (q := fun j => listed.getD j false) fun y hy _ => (hT y hy).symm]
      exact inv.env s
    have hwant : ∀ ys, Region.wanted o ys = true := fun ys => by simp [Region.wanted, hog]
    refine ⟨fun hr => ?_, fun i hmem => ?_⟩
    · have : F.length ∈ Region.ready .any L.toArray listed := mem_ready.2 ⟨getD_true (by omega) hl, o, by simpa using gl, fun e he hbi => hpre _ (e0 e he hbi)⟩
      rw [hr] at this; cases this
    · obtain ⟨hun, o1, ho, hready⟩ := mem_ready.1 hmem
      have ho' : L[i]? = some o1 := by simpa using ho
      have hlt : i < L.length := (List.getElem?_eq_some_iff.1 ho').1
      have hu' := getD_both hun
      obtain rfl : i = F.length := by
        by_cases h1 : i < F.length
        · rw [hpre i h1] at hu'; cases hu'
        · omega
      obtain rfl := Option.some.inj (gl.symm.trans ho')
      unfold wpList at hend
      rw [if_pos (hwant _)] at hend
      unfold wpOp
      rw [show L.toArray[F.length]? = some o by simpa using gl]
      simp only
      rw [if_pos (hwant _)]
      refine hend.imp (Oper.wp_mono fun a' w' hq => ⟨?_, hq⟩) (fun x => x)
      cases hr : Region.ready .any L.toArray (listed.setIfInBounds F.length true) with
      | nil => rfl
      | cons i r =>
        obtain ⟨h1, o2, h2, _⟩ := mem_ready.1 (show i ∈ Region.ready .any L.toArray (listed.setIfInBounds F.length true) by rw [hr]; exact List.mem_cons_self)
        have hlt2 : i < L.length := (List.getElem?_eq_some_iff.1 (by simpa using h2 : L[i]? = some o2)).1
        have h3 := getD_both h1
        by_cases h4 : i < F.length
        · rw [getD_set_ne false (by omega), hpre i h4] at h3; cases h3
        · obtain rfl : i = F.length := by omega
          have : (listed.setIfInBounds F.length true).getD F.length false = true := by simp [show F.length < listed.size by omega]
          rw [this] at h3; cases h3
  have main : ∀ (k : Nat) (listed : Array Bool) (a : Act) (c1 : Cx), listed.size = F.length + 1 → listed.getD F.length false = false →
      Closed F (fun j => listed.getD j false) → DInv P B w0 S0 df F (ancsOf F []) st out c c1 (fun j => listed.getD j false) a → drawLeft F.length listed = k →
      wpAny P .any L.toArray Q (k + 1) listed a c1.w := by
    intro k
    induction k with
    | zero => intro listed a c1 hsz htl hcl inv hk; exact fin listed a c1 hsz htl (drawLeft_zero hk) inv
    | succ k ih =>
      intro listed a c1 hsz htl hcl inv hk
      obtain ⟨i0, g1', g2', g3'⟩ := drawLeft_pos (n := F.length) (L := listed) (by omega)
      refine ⟨fun hr => ?_, fun i hmem => ?_⟩
      · have : i0 ∈ Region.ready .any L.toArray listed := by
          have hi0 : L[i0]? = some L[i0] := by simp [show i0 < L.length by omega]
          refine mem_ready.2 ⟨getD_true (by omega) g2', L[i0], by simp [show i0 < L.length by omega], fun e he hbi => ?_⟩
          have hbit := ha.has i0 L[i0] (by rw [hal]; simp only [List.length_nil, Nat.zero_add]; omega) (by rw [hFi i0 g1']; exact hi0) e he hbi
          obtain ⟨z, hz, rfl⟩ := hb.ex i0 (by omega)
          obtain ⟨_, _, hat⟩ := hb.at z hz
          have h6 := (checkD_out hat.check).2.2.2.2.2
          refine g3' _ ?_
          rcases Nat.lt_or_ge e.on z.i with h | h
          · exact h
          · have := Nat.testBit_lt_two_pow (Nat.lt_of_lt_of_le h6 (Nat.pow_le_pow_right (by omega) h))
            rw [hbit] at this; cases this
        rw [hr] at this; cases this
      · obtain ⟨hun, o1, ho, hready⟩ := mem_ready.1 hmem
        have ho' : L[i]? = some o1 := by simpa using ho
        have hlt : i < L.length := (List.getElem?_eq_some_iff.1 ho').1
        have hu' := getD_both hun
        have hip : i < F.length := by
          by_cases h1 : i < F.length
          · exact h1
          · exfalso
            obtain rfl : i = F.length := by omega
            obtain rfl := Option.some.inj (gl.symm.trans ho')
            exact nom hcl g1' g2' hready
        have hoF : F[i]? = some o1 := by rw [hFi i hip]; exact ho'
        have same : ∀ K : Act → World → Prop, wpOp P F.toArray Q i K a c1.w → wpOp P L.toArray Q i K a c1.w := by
          intro K hK
          unfold wpOp at hK ⊢
          rw [show F.toArray[i]? = some o1 by simpa using hoF] at hK
          rw [show L.toArray[i]? = some o1 by simpa using ho']
          simp only at hK ⊢
          have hwe : Region.wanted o1 (yielded F.toArray a.tmps) = Region.wanted o1 (yielded L.toArray a.tmps) := by
            unfold Region.wanted
            cases hg : o1.guard with
            | none => rfl
            | some jw =>
              obtain ⟨j, w'⟩ := jw
              have hj := hpo i o1 hoF j w' hg
              unfold yielded
              have : F.toArray[j]? = L.toArray[j]? := by simpa using hFi j hj
              simp only [this]
          rwa [hwe] at hK
        refine same _ (draw_step hC rfl hb ha hside hclean hcl hoF hu' hready (T' := fun j => (listed.setIfInBounds i true).getD j false) (by simp [show i < listed.size by omega]) (fun j hj => getD_set_ne false (Ne.symm hj)) inv fun a' c' inv' => ?_)
        refine ih _ a' c' (by simp [hsz]) (by rw [getD_set_ne false (by omega)]; exact htl) (fun j oj hj hl e he hbi => ?_) inv' ?_
        · simp only at hl ⊢
          by_cases hij : j = i
          · subst hij
            obtain rfl := Option.some.inj (hj.symm.trans hoF)
            exact getD_set_true (hready e he hbi)
          · rw [getD_set_ne false (Ne.symm hij)] at hl
            exact getD_set_true (hcl j oj hj hl e he hbi)
        · have := drawLeft_set (n := F.length) hip hu' (by omega)
          omega
  refine wp_region_any hmix ?_
  have hw := hs.w
  subst hw
  have hbel : Below c.w.heap.size c.w c.w.drew := (Below.refl _ _).drew
  obtain ⟨hm1, hg1'⟩ := hs.mem.grow hbel (fun _ => False) (fun b h => h.elim)
  simp only [S_false] at hm1 hg1'
  have hnone : ∀ j, (Array.replicate L.toArray.size false).getD j false = false := fun j => by
    rcases Nat.lt_or_ge j L.length with h | h
    · simp [h]
    · simp [Array.getD_eq_getD_getElem?, Array.getElem?_eq_none (show (Array.replicate L.length false).size ≤ j by simpa using h)]
  have hfE : ∀ (l : List DZ), dEnv (fun j => (Array.replicate L.toArray.size false).getD j false) st.env l = st.env := fun l => by
    have := dEnv_drop (p := fun j => (Array.replicate L.toArray.size false).getD j false) (base := st.env) (l := l) (r := []) fun z _ => hnone z.i
    rw [List.append_nil] at this
    exact this
  have hfO : ∀ (l : List DZ), dOwn (fun j => (Array.replicate L.toArray.size false).getD j false) st.own l = st.own := fun l => by
    have := dOwn_drop (p := fun j => (Array.replicate L.toArray.size false).getD j false) (base := st.own) (l := l) (r := []) fun z _ => hnone z.i
    rw [List.append_nil] at this
    exact this
  have hsz0 : L.toArray.size = F.length + 1 := by simpa using hLlen
  rw [show wpAny P .any L.toArray Q L.toArray.size = wpAny P .any L.toArray Q (F.length + 1) by rw [hsz0]]
  refine main F.length (Array.replicate L.toArray.size false) a { c with w := c.w.drew } (by simpa using hLlen) (hnone _) (fun j o _ hl => ?_) ⟨hm1, fun o => ?_, ?_, hs.size, hs.defers, hg1', fun y _ hl => ?_⟩ (drawLeft_new _ _ (by omega))
  · simp only at hl; rw [hnone] at hl; cases hl
  · rw [hfO, ← hs.own]
  · rw [hfE]; exact hs.env.goes hg1' hs.mem.one
  · rw [hnone] at hl; cases hl
end
end Go.Eng
namespace Go.Eng
open Go.RowKit

variable {P : Program}

theorem wpList_two {ops : Array Oper} {Q : Exit → Act → World → Prop} {post : List Oper} : ∀ {pre : List Oper} {a : Act} {w : World},
    wpList P ops (fun e a w => match e with | .normal => wpList P ops Q post a w | e => Q e a w) pre a w → wpList P ops Q (pre ++ post) a w
  | [], a, w, h => h
  | o :: r, a, w, h => by
    unfold wpList at h
    rw [List.cons_append]
    unfold wpList
    split
    · rename_i hw
      rw [if_pos hw] at h
      rcases h with h | h
      · left
        refine Oper.wp_mono (fun a w hk => wpList_two hk) ?_
        unfold Oper.wp at h ⊢
        generalize (execOp a.eval o).run P w = res at h ⊢
        cases res with
        | ok n w' =>
          cases n <;> simp only [Oper.upon] at h ⊢ <;> first | exact h | exact Calls.mono h (fun e w'' he => by cases e <;> exact he)
        | halt x w' => cases x <;> simp only [Oper.upon] at h ⊢ <;> exact h
      · exact .inr h
    · rename_i hw
      rw [if_neg hw] at h
      exact wpList_two h

theorem deferOf_ok {body : Code} {dd : Dfr} (h : deferOf body = some dd) : ∃ id ops ts o args, body = .seq (.region id ops false) dd.rest ∧ dd.all = ops.toList ∧ ops.toList = dd.pre ++ [o] ∧
    o.op = .defer { callee := .value (.func dd.h), args := args, argTypes := ts } ∧ o.guard = none ∧ o.dst = none ∧ dd.args = args.toList := by
  unfold deferOf at h
  split at h
  · rename_i id ops rest
    split at h
    · rename_i o pre hrev
      split at h
      · rename_i hh args ts h1 h2 h3
        obtain rfl := Option.some.inj h
        refine ⟨id, ops, ts, o, args, rfl, rfl, ?_, h1, h2, h3, rfl⟩
        have := congrArg List.reverse hrev
        rw [List.reverse_reverse, List.reverse_cons] at this
        exact this
      · cases h
    · cases h
  · cases h

theorem keptD_ok {md : Md} {c c' : Cx} (hk : Kept P md c c') (hh : Handles c) {d : D} {v : Value} (hd : keptD md d = true) (h : RV P c d v) : RV P c' d v := by
  cases md with
  | top => cases hd
  | goes => exact RV.goes hk hh h
  | keep g N => exact hk d v hd h
theorem keptDs_ok {md : Md} {c c' : Cx} (hk : Kept P md c c') (hh : Handles c) : ∀ {ds : List D} {vs : List Value}, ds.all (keptD md) = true → RVs P c ds vs → RVs P c' ds vs
  | [], _, _, h => h
  | d :: r, vs, hd, h => by
    simp only [List.all_cons, Bool.and_eq_true] at hd
    obtain ⟨v, vs', rfl, h1, h2⟩ := h
    exact ⟨v, vs', rfl, keptD_ok hk hh hd.1 h1, keptDs_ok hk hh hd.2 h2⟩

theorem wp_defer {o : Oper} {g : FuncId} {args : Array Operand} {ts : Array TypeId} (ho : o.op = .defer { callee := .value (.func g), args := args, argTypes := ts }) (hd : o.dst = none) {a : Act} {w : World} {K : Act → World → Prop} {Q : Exit → Act → World → Prop}
    (hK : K { a with defers := { target := .fn (.func g) #[], args := (args.toList.map a.eval).toArray } :: a.defers } w) : o.wp P a w K Q := by
  unfold Oper.wp execOp
  rw [ho]
  have e : a.eval (.func g) = .func (.func g) #[] #[] := rfl
  simp only [resolve, e, Deferred.ofValue, Sem.run_bind, Sem.run_pure, Result.andThen_ok]
  rw [Oper.upon_defer]
  have e2 : #[] ++ Array.map a.eval args = (args.toList.map a.eval).toArray := by
    apply Array.ext'; simp
  rw [hd, e2]
  exact hK
theorem invoke_plain {g : FuncId} {fn : Func} (h1 : P.funcs[g]? = some fn) (h2 : (fn.name == "runtime.NumGoroutine") = false) (h3 : fn.body.isNone = false) (args : Array Value) (w : World) :
    (invoke (.fn (.func g) #[]) args).run P w = .ok (.enter g args) w := by
  simp only [invoke, callFunc, Sem.run_bind, Sem.run_pure, Result.andThen_ok, run_program, h1, h2, h3, Bool.false_eq_true, if_false, Array.append_empty]
end Go.Eng
namespace Go.Eng
open Go.RowKit

variable {P : Program} {C : Cfg} {B : Nat} {w0 : World}
section
variable {B : Nat} {w0 : World} {S0 : Nat → Prop} {df : List Deferred}

def Runs (P : Program) (it : Item) (Q : Exit → Act → World → Prop) (a : Act) (w : World) : Prop := match it with
  | .code cd => cd.wp P Q a w
  | .ops all rest => wpList P all.toArray Q rest a w

theorem SatC.put {c c' : Cx} {st : St} {a : Act} {w : World} (hs : SatC P B w0 S0 df c st a w) (hm : Mem P B w0 S0 c') (hg : Goes c c') {dst : Option Nat} {d : D} {v : Value} (hp : putOk st.n dst = true)
    (hd : ∀ t, dst = some t → GV P c' (a.tmps.setIfInBounds t v) d v) (ht : ∀ s t w d', look st.env s = .gd t w d' → dst ≠ some t) {own : Own} (hown : c'.own = own) {nxt : Nat} :
    SatC P B w0 S0 df c' ⟨put st.env dst d, own, nxt, st.n⟩ (a.put dst v) c'.w := by
  have he := (hs.env.goes hg hs.mem.one).put (v := v) hs.size hp hd ht
  refine ⟨rfl, hown, hm, ?_, ?_, ?_⟩
  · cases dst <;> exact he
  · cases dst <;> simp [Act.put, hs.size]
  · cases dst <;> exact hs.defers

theorem Post.goes {md : Md} {c c1 : Cx} (hg : Kept P md c c1) {K : Exit → St → Prop} {e : Exit} {a : Act} {w : World} (h : Post P B w0 S0 df md c1 K e a w) : Post P B w0 S0 df md c K e a w := by
  obtain ⟨st, c', h1, h2, h3⟩ := h
  exact ⟨st, c', h1, h2, hg.trans h3⟩

def packV (vs : List Value) : Value := match vs with
  | [v] => v
  | vs => .tuple vs.toArray

def resF (tm : Array Value) (r : ResultVar) : Sem Value := match r with
  | .tmp t => pure (tm.getD t undef)
  | .cell p T => do loadVar T (← asAddr (tm.getD p undef))

theorem results_ok (hC : CfgOk P C B w0) {c : Cx} (hm : Mem P B w0 S0 c) {env : Env} {tm : Array Value} (he : EnvOk P c env tm) : ∀ {rs : List ResultVar} {ds : List D}, retOf C env c.own rs = some ds → ∃ vs, RVs P c ds vs ∧ (rs.mapM (resF tm)).run P c.w = .ok vs c.w
  | [], ds, h => by
    simp only [retOf, Option.some.injEq] at h
    subst h
    exact ⟨[], rfl, by simp⟩
  | .tmp t :: r, ds, h => by
    unfold retOf at h
    split at h
    · rename_i ds' h'
      obtain rfl := Option.some.inj h
      obtain ⟨vs, h1, h2⟩ := results_ok hC hm he h'
      refine ⟨tm.getD t undef :: vs, ⟨_, _, rfl, (he t).ungd, h1⟩, ?_⟩
      simp only [List.mapM_cons, resF, Sem.run_bind, Sem.run_pure, Result.andThen_ok, h2]
    · cases h
  | .cell t T :: r, ds, h => by
    unfold retOf at h
    split at h
    · rename_i ds' h'
      obtain ⟨vs, h1, h2⟩ := results_ok hC hm he h'
      split at h
      · rename_i k off g hl hg
        split at h
        · rename_i ty cs hk
          split at h
          · rename_i d hcut
            obtain rfl := Option.some.inj h
            have hv := (he t).ungd
            rw [hl] at hv
            have hbk := hm.ok k
            unfold BlkOk at hbk
            simp only [hk] at hbk
            obtain ⟨b, vals, hρ, hheap, hrs, _⟩ := hbk
            simp only [RV, hk] at hv
            obtain ⟨b', hρ', hv⟩ := hv
            rw [hρ] at hρ'
            simp only [Value.pointer.injEq, Option.some.injEq, Addr.mk.injEq] at hρ'
            obtain ⟨rfl, _⟩ := hρ'
            obtain ⟨es, he1, he2, he3, he4⟩ := cut_ok hcut hrs
            have hlie : Lies c.w b off es := fun j v hj => by simp [World.cell?, hheap, he3 j v hj]
            refine ⟨_ :: vs, ⟨_, _, rfl, he4, h1⟩, ?_⟩
            simp only [List.mapM_cons, resF, hv, asAddr, Sem.run_bind, Sem.run_pure, Result.andThen_ok, run_loadVar hC hg he1 he2 hlie, h2]
          · cases h
        · cases h
      · cases h
    · cases h

theorem results_run {fn : Func} {tm : Array Value} {w : World} {vs : List Value} (h : (fn.results.toList.mapM (resF tm)).run P w = .ok vs w) : (results fn tm).run P w = .ok (packV vs) w := by
  unfold results
  rw [Array.mapM_eq_mapM_toList]
  have key : ∀ f : ResultVar → Sem Value, (∀ r, f r = resF tm r) → (fn.results.toList.mapM f).run P w = .ok vs w := by
    intro f hf; rw [funext hf]; exact h
  simp only [Sem.run_bind, Sem.run_map]
  rw [key _ (fun r => by cases r <;> rfl)]
  simp only [Result.andThen_ok, Sem.run_pure]
  match vs with
  | [] => rfl
  | [v] => rfl
  | u :: v :: r => simp [packV]

theorem retD_ok {c : Cx} {ds : List D} {vs : List Value} (h : RVs P c ds vs) : RV P c (retD ds) (packV vs) := by
  match ds, vs, h with
  | [], vs, h => obtain rfl : vs = [] := h; exact ⟨[], rfl, rfl⟩
  | [d], vs, h => obtain ⟨v, vs', rfl, h1, h2⟩ := h; obtain rfl : vs' = [] := h2; exact h1
  | d :: e :: r, vs, h =>
    obtain ⟨v, vs', rfl, h1, h2⟩ := h
    obtain ⟨u, us, rfl, h3, h4⟩ := h2
    exact ⟨v :: u :: us, rfl, v, _, rfl, h1, u, us, rfl, h3, h4⟩

theorem enter_ok {c : Cx} : ∀ {ds : List D} {vs : List Value} (k : Nat) (pre : List Value), RVs P c ds vs → pre.length = k → ∀ s n, RV P c (look ((List.range' k ds.length).zip ds) s) (((pre ++ vs).toArray ++ Array.replicate n undef).getD s undef)
  | [], vs, k, pre, h, hk, s, n => by simp only [List.length_nil, List.range'_zero, List.zip_nil_right, look]; trivial
  | d :: r, vs, k, pre, h, hk, s, n => by
    obtain ⟨v, vs', rfl, h1, h2⟩ := h
    simp only [List.length_cons, List.range'_succ, List.zip_cons_cons, look]
    split
    · rename_i e
      subst e
      have : ((pre ++ v :: vs').toArray ++ Array.replicate n undef).getD k undef = v := by
        have e1 : ((pre ++ v :: vs').toArray ++ Array.replicate n undef)[k]? = some v := by
          rw [Array.getElem?_append_left (by simp; omega)]
          simp only [List.getElem?_toArray]
          rw [List.getElem?_append_right (by omega), hk]
          simp
        rw [Array.getD_eq_getD_getElem?, e1]; rfl
      rw [this]
      exact h1
    · have := enter_ok (k + 1) (pre ++ [v]) h2 (by simp [hk]) s n
      simpa [List.append_assoc] using this

theorem nil_eq (hC : CfgOk P C B w0) {T : TypeId} (hT : isSl (kindT C T) = true) {base : Option Addr} {n cap : Nat} {w : World} (u v : Operand) :
    (eqGuard .eql T u v (.slice base n cap) (.slice none 0 0)).run P w = .ok () w ∧ (binOp .eql T (.slice base n cap) (.slice none 0 0)).run P w = .ok (.bool base.isNone) w := by
  unfold isSl at hT
  split at hT
  · rename_i e hk
    obtain ⟨_, d, _, _, hu, _, _, _, _, hd⟩ := tabOk hC hk (by simp)
    have hu := (kind_sl hd) ▸ hu
    refine ⟨by unfold eqGuard; rfl, ?_⟩
    have e1 : binOp .eql T (.slice base n cap) (.slice none 0 0) = (do pure (.bool (← Op.equalIn (9999 + 1) T (.slice base n cap) (.slice none 0 0)))) := rfl
    rw [e1]
    unfold Op.equalIn
    cases base <;> simp only [Sem.run_bind, underlying, run_program, Result.andThen_ok, Sem.run_pure, hu] <;> rfl
  · cases hT

theorem frz_ok {st : St} {a : Act} {w : World} {c : Cx} (hs : SatC P B w0 S0 df c st a w) (t : Nat) (wb : Bool) (o : Oper) : ∃ c1, SatC P B w0 S0 df c1 { st with own := frzG C st.env st.own t wb o } a w ∧ Goes c c1 := by
  have same : ∃ c1, SatC P B w0 S0 df c1 { st with own := st.own } a w ∧ Goes c c1 := ⟨c, hs, Goes.refl c⟩
  unfold frzG
  split
  · split
    · split
      · split
        · exact same
        · generalize flats _ = fl
          obtain ⟨c1, e1, e2, e3, hm1, hg1, hf1⟩ := hs.mem.freeze fl
          exact ⟨c1, ⟨e2.trans hs.w, by rw [e1, hs.own], hm1, hs.env.goes hg1 hs.mem.one, hs.size, hs.defers⟩, hg1⟩
      · exact same
    · exact same
  · exact same

set_option maxHeartbeats 2000000 in
theorem offM_ok {c : Cx} {env : Env} {tm : Array Value} {n t : Nat} {w : Bool} (h : EnvOk P c env tm) (hn : tm.size = n) (ho : offM env n t w = true) : tm.getD t undef ≠ .bool w := by
  unfold offM at ho
  split at ho
  · rename_i t' w' hl
    simp only [Bool.and_eq_true, beq_iff_eq] at ho
    obtain ⟨rfl, rfl⟩ := ho
    intro e
    have := h (n + t')
    rw [hl] at this
    have h2 := this.1 e
    have h3 : tm.getD (n + t') undef = undef := by simp [Array.getD_eq_getD_getElem?, Array.getElem?_eq_none (show tm.size ≤ n + t' by omega)]
    rw [h3] at h2
    exact absurd (show undef = Value.bool true from h2) (by simp [undef])
  · cases ho

theorem look_map {f : D → D} (hf : f .any = .any) (s : Nat) : ∀ env : Env, look (env.map fun p => (p.1, f p.2)) s = f (look env s)
  | [] => by simp [look, hf]
  | (k, d) :: r => by
    simp only [List.map_cons, look]
    split
    · rfl
    · exact look_map hf s r

theorem onE_ok {c : Cx} {env : Env} {tm : Array Value} {t : Nat} {w : Bool} (h : EnvOk P c env tm) (ht : tm.getD t undef = .bool w) : EnvOk P c (onE t w env) tm := by
  intro s
  unfold onE
  simp only [look]
  by_cases e : t = s
  · subst e
    rw [if_pos rfl, ht]
    exact RV.of_bool w
  · rw [if_neg e, look_map rfl]
    exact strip_gv ht (h s)
theorem onE_tags {c : Cx} {env : Env} {tm : Array Value} {t : Nat} {w : Bool} {o : Oper} {rest : List Oper} (h : EnvOk P c env tm) (ht : tm.getD t undef = .bool w) (hg : TagsOk env (o :: rest)) : TagsOk (onE t w env) ({ o with guard := none } :: rest) := by
  intro s t' w' d hl o' ho'
  unfold onE at hl
  simp only [look] at hl
  by_cases e : t = s
  · rw [if_pos e] at hl; cases hl
  · rw [if_neg e, look_map rfl] at hl
    have key : ∃ d', look env s = .gd t' w' d' := by
      have hs := h s
      cases hk : look env s with
      | gd t2 w2 d2 =>
        rw [hk] at hl hs
        simp only [strip'] at hl
        split at hl
        · rename_i e2
          obtain ⟨rfl, rfl⟩ := e2
          subst hl
          exact absurd (hs.1 ht) (by simp [RV])
        · cases hl; exact ⟨_, rfl⟩
      | _ => rw [hk] at hl; cases hl
    obtain ⟨d', hk⟩ := key
    rcases List.mem_cons.1 ho' with rfl | ho'
    · exact hg s t' w' d' hk o List.mem_cons_self
    · exact hg s t' w' d' hk o' (List.mem_cons_of_mem _ ho')
theorem offE_ok {c : Cx} {env : Env} {tm : Array Value} {n t : Nat} {w : Bool} (h : EnvOk P c env tm) (hn : tm.size = n) (ht : tm.getD t undef = .bool (!w)) (hne : tm.getD t undef ≠ .bool w) : EnvOk P c (offE n t w env) tm := by
  intro s
  unfold offE
  simp only [look]
  by_cases e : t = s
  · subst e
    rw [if_pos rfl, ht]
    exact RV.of_bool _
  · rw [if_neg e]
    by_cases e2 : n + t = s
    · subst e2
      rw [if_pos rfl]
      have h3 : tm.getD (n + t) undef = undef := by simp [Array.getD_eq_getD_getElem?, Array.getElem?_eq_none (show tm.size ≤ n + t by omega)]
      rw [h3]
      exact ⟨fun e => absurd e hne, fun _ => rfl⟩
    · rw [if_neg e2]; exact h s
theorem offE_tags {env : Env} {n t : Nat} {w : Bool} {rest : List Oper} (h : TagsOk env rest) (ht : ∀ o ∈ rest, o.dst ≠ some t) : TagsOk (offE n t w env) rest := by
  intro s t' w' d hl o' ho'
  unfold offE at hl
  simp only [look] at hl
  by_cases e : t = s
  · rw [if_pos e] at hl; cases hl
  · rw [if_neg e] at hl
    by_cases e2 : n + t = s
    · rw [if_pos e2] at hl; cases hl; exact ht o' ho'
    · rw [if_neg e2] at hl; exact h s t' w' d hl o' ho'

theorem SatC.dyn {P : Program} {C : Cfg} {B : Nat} {w0 : World} {S0 : Nat → Prop} {df : List Deferred} {c : Cx} {st : St} {a : Act} {w : World} {o : Oper} {t : Nat} {g : FuncId} (hs : SatC P B w0 S0 df c st a w) (h : dynOf C st.env o = some (t, some g)) : SatC P B w0 S0 df c { st with env := (t, .fn g []) :: st.env } a w := by
  have hl : look st.env t = .dat .fp (some g) := by
    unfold dynOf at h
    split at h
    · split at h
      · rename_i hl
        obtain ⟨rfl, rfl⟩ := Prod.mk.inj (Option.some.inj h)
        exact hl
      · cases h
    · cases h
  refine ⟨hs.w, hs.own, hs.mem, fun s => ?_, hs.size, hs.defers⟩
  have h0 := hs.env s
  unfold look
  split
  · rename_i e
    subst e
    rw [hl] at h0
    obtain ⟨cs, h1, h2⟩ := h0
    obtain rfl : cs = _ := h1
    exact ⟨[], h2, rfl⟩
  · exact h0
theorem dyn_tags {env : Env} {rest : List Oper} {t : Nat} {g : FuncId} (h : TagsOk env rest) : TagsOk ((t, .fn g []) :: env) rest := by
  intro s t' w d hl
  unfold look at hl
  split at hl
  · cases hl
  · exact h s t' w d hl

theorem exec_ok (hC : CfgOk P C B w0) : ∀ (n : Nat) {df : List Deferred} (md : Md) (it : Item) (st : St) (K : Exit → St → Prop) (a : Act) (w : World) (c : Cx) (Q : Exit → Act → World → Prop), exec C md n it st K → SatC P B w0 S0 df c st a w →
    (match it with | .ops _ rest => TagsOk st.env rest | _ => True) → (∀ e a w, Post P B w0 S0 df md c K e a w → Q e a w) → Runs P it Q a w := by
  intro n0
  induction n0 using Nat.strongRecOn with
  | _ n0 ih =>
  cases n0 with
  | zero => intro df md it st K a w c Q h; cases it <;> exact Fail.elim h
  | succ n =>
    intro df md it st K a w c Q h hs ht hQ
    have here : ∀ {e : Exit} {st' : St}, K e st' → SatC P B w0 S0 df c st' a w → Q e a w := fun hk hs' => hQ _ _ _ ⟨_, c, hk, hs', Kept.refl _ c⟩
    cases it with
    | code cd =>
      unfold exec at h
      cases cd with
      | skip => exact wp_skip (here h hs)
      | ret => exact wp_ret (here h hs)
      | exit id => exact wp_exit (here h hs)
      | seq x y =>
        simp only at h
        split at h
        · rename_i L hL
          have hmd : md ≠ .goes := by
            rintro rfl
            unfold cutAnn at hL
            split at hL <;> simp [loopKey] at hL
          obtain ⟨h1, hrest⟩ := h
          refine wp_seq (ih n (Nat.lt_succ_self n) md (.code x) st _ a w c _ h1 hs trivial fun e a' w' hp => ?_)
          obtain ⟨st', c', h1, h2, h3⟩ := hp
          cases e with
          | normal =>
            simp only at h1
            split at h1
            · rename_i hn
              obtain ⟨z, hz, hent⟩ := LoopAnn.holds_ex h1
              obtain ⟨c1, hs1, hk1⟩ := entM_frz hmd hent h2 hn.symm
              exact ih n (Nat.lt_succ_self n) md (.code y) _ K a' w' c1 Q (hrest z hz) hs1 trivial fun e a w hp => hQ e a w (hp.goes (h3.trans hk1))
            · exact Fail.elim h1
          | _ => exact hQ _ _ _ ⟨st', c', h1, h2, h3⟩
        · refine wp_seq (ih n (Nat.lt_succ_self n) md (.code x) st _ a w c _ h hs trivial fun e a' w' hp => ?_)
          obtain ⟨st', c', h1, h2, h3⟩ := hp
          cases e with
          | normal => exact ih n (Nat.lt_succ_self n) md (.code y) st' K a' w' c' Q h1 h2 trivial fun e a w hp => hQ e a w (hp.goes h3)
          | _ => exact hQ _ _ _ ⟨st', c', h1, h2, h3⟩
      | cond p x y =>
        simp only at h
        split at h
        · rename_i b hb
          have hv := opnd_gv hs.env p
          rw [hb] at hv
          refine wp_cond (t := b) (RV.bool hv) ?_
          cases b with
          | true => exact ih n (Nat.lt_succ_self n) md (.code x) st K a w c Q h hs trivial hQ
          | false => exact ih n (Nat.lt_succ_self n) md (.code y) st K a w c Q h hs trivial hQ
        · exact h.elim
      | block id x =>
        simp only at h
        refine wp_block (ih n (Nat.lt_succ_self n) md (.code x) st _ a w c _ h hs trivial fun e a' w' hp => ?_)
        obtain ⟨st', c', h1, h2, h3⟩ := hp
        cases e with
        | exit id' =>
          simp only [Exit.inBlock] at h1 ⊢
          split
          · rename_i e; rw [if_pos e] at h1; exact hQ _ _ _ ⟨st', c', h1, h2, h3⟩
          · rename_i e; rw [if_neg e] at h1; exact hQ _ _ _ ⟨st', c', h1, h2, h3⟩
        | _ => exact hQ _ _ _ ⟨st', c', h1, h2, h3⟩
      | region id ops draw =>
        cases draw with
        | true =>
          simp only at h
          split at h
          · rename_i ps st' hdr
            obtain ⟨hps, hk⟩ := andL_out h
            have := drawR_ok hC hC.mixed hdr hps (fun s t w d => look_no_gd _ s t w d) (c := c) (a := a) (w := w) ⟨hs.w, hs.own, hs.mem, clean_ok hs.env, hs.size, hs.defers⟩ (Q := Q) (fun c' a' w' hs' hg' => hQ _ _ _ ⟨st', c', hk, hs', Kept.of hg' hs.mem.one⟩) (id := id)
            simpa [Runs] using this
          · split at h
            · rename_i ps st' hdr
              obtain ⟨hps, hk⟩ := andL_out h
              have := drawM_ok hC hC.mixed hdr hps (fun s t w d => look_no_gd _ s t w d) (c := c) (a := a) (w := w) ⟨hs.w, hs.own, hs.mem, clean_ok hs.env, hs.size, hs.defers⟩ (Q := Q) (fun c' a' w' hs' hg' => hQ _ _ _ ⟨st', c', hk, hs', Kept.of hg' hs.mem.one⟩) (id := id)
              simpa [Runs] using this
            · split at h
              · rename_i F o hto
                split at h
                · rename_i ps st' hdr
                  obtain ⟨hps, hk⟩ := andL_out h
                  have := drawT_ok hC hC.mixed hto hdr hps (fun s t w d => look_no_gd _ s t w d) (c := c) (a := a) (w := w) ⟨hs.w, hs.own, hs.mem, clean_ok hs.env, hs.size, hs.defers⟩ (Q := Q) (fun c' a' w' hs' hg' =>
                    ih n (Nat.lt_succ_self n) md (.ops ops.toList [o]) { st' with env := clean st'.env } K a' w' c' Q hk ⟨hs'.w, hs'.own, hs'.mem, clean_ok hs'.env, hs'.size, hs'.defers⟩ (fun s t w d hl => absurd hl (look_no_gd _ s t w d)) fun e a w hp => hQ e a w (hp.goes (Kept.of hg' hs.mem.one))) (id := id)
                  simpa [Runs] using this
                · exact h.elim
              · exact h.elim
        | false =>
          simp only at h
          have := ih n (Nat.lt_succ_self n) md (.ops ops.toList ops.toList) { st with env := clean st.env } K a w c Q h ⟨hs.w, hs.own, hs.mem, clean_ok hs.env, hs.size, hs.defers⟩ (clean_tags _ _) hQ
          exact wp_region_list (by simpa [Runs] using this)
      | scope x =>
        simp only at h
        refine wp_scope_straight (ih n (Nat.lt_succ_self n) md (.code x) st _ a w c _ h hs trivial fun e a' w' hp => ?_)
        obtain ⟨st', c', h1, h2, h3⟩ := hp
        cases e with
        | goto l => exact Fail.elim h1
        | _ => exact hQ _ _ _ ⟨st', c', h1, h2, h3⟩
      | label l => exact wp_label (here h hs)
      | loop x =>
        simp only at h
        split at h
        · rename_i L hL
          have hmd : md ≠ .goes := by
            rintro rfl
            unfold loopAnn at hL
            split at hL <;> simp [loopKey] at hL
          obtain ⟨hstart, hround⟩ := h
          obtain ⟨x0, hx0, hent⟩ := LoopAnn.holds_ex hstart
          obtain ⟨c1, hs1, hk1⟩ := entM_frz hmd hent hs rfl
          refine wp_loop_by (fun x a w => L.inv st x ∧ ∃ c', SatC P B w0 S0 df c' (L.stM md st x) a w ∧ Kept P md c c') (L.mu st) x0 ⟨hx0.out, c1, hs1, hk1⟩ fun x a' w' hI => ?_
          obtain ⟨hinv, c2, hs2, hk2⟩ := hI
          refine ih n (Nat.lt_succ_self n) md (.code _) (L.stM md st x) _ a' w' c2 _ (hround x ⟨hinv⟩) hs2 trivial fun e a'' w'' hp => ?_
          obtain ⟨st', c3, h1, hs3, hk3⟩ := hp
          cases e with
          | normal =>
            simp only at h1
            split at h1
            · rename_i hn
              obtain ⟨x', hi', hm', he'⟩ := LoopAnn.goesOn_ex h1
              obtain ⟨c4, hs4, hk4⟩ := entM_frz hmd he' hs3 hn.symm
              exact ⟨x', ⟨hi'.out, c4, hs4, hk2.trans (hk3.trans hk4)⟩, hm'.out⟩
            · exact Fail.elim h1
          | _ => exact hQ _ _ _ ⟨st', c3, h1, hs3, hk2.trans hk3⟩
        · rename_i hL
          split at h
          · rename_i hun
            -- round by round
            have rounds : ∀ k, k ≤ n → ∀ (st : St) (a : Act) (w : World) (c1 : Cx), exec C md k (.code (.loop x)) st K → SatC P B w0 S0 df c1 st a w → Kept P md c c1 → Code.rounds P x Q k a w := by
              intro k
              induction k with
              | zero => intro _ st a w c1 h; exact Fail.elim h
              | succ k ihk =>
                intro hkn st a w c1 h hs hk
                unfold exec at h
                simp only [hL, hun, if_true] at h
                refine ih k (by omega) md (.code x) st _ a w c1 _ h hs trivial fun e a' w' hp => ?_
                obtain ⟨st', c', h1, h2, h3⟩ := hp
                cases e with
                | normal => exact ihk (by omega) st' a' w' c' h1 h2 (hk.trans h3)
                | _ => exact hQ _ _ _ ⟨st', c', h1, h2, hk.trans h3⟩
            refine wp_loop_rounds (n + 1) ?_
            refine ih n (Nat.lt_succ_self n) md (.code x) st _ a w c _ h hs trivial fun e a' w' hp => ?_
            obtain ⟨st', c', h1, h2, h3⟩ := hp
            cases e with
            | normal => exact rounds n (Nat.le_refl n) st' a' w' c' h1 h2 h3
            | _ => exact hQ _ _ _ ⟨st', c', h1, h2, h3⟩
          · exact Fail.elim h
      | _ => exact Fail.elim h
    | ops all rest =>
      cases rest with
      | nil => show wpList P all.toArray Q [] a w; exact here h hs
      | cons o rest =>
        unfold exec at h
        simp only at h
        split at h
        · rename_i hput
          have hnt : ∀ s t w d', look st.env s = .gd t w d' → o.dst ≠ some t := fun s t w d' hl => ht s t w d' hl o List.mem_cons_self
          -- behind an operation that comes to a value
          have next : ∀ {c' : Cx} {st' : St} {a' : Act}, exec C md n (.ops all rest) st' K → SatC P B w0 S0 df c' st' a' c'.w → TagsOk st'.env rest → Kept P md c c' → wpList P all.toArray Q rest a' c'.w := by
            intro c' st' a' h1 h2 h3 h4
            exact ih n (Nat.lt_succ_self n) md (.ops all rest) st' K a' c'.w c' Q h1 h2 h3 fun e a w hp => hQ e a w (hp.goes h4)
          have hplain : ∀ {d : D}, (∀ t w d', d ≠ .gd t w d') → TagsOk (put st.env o.dst d) rest := fun hd => ht.put fun t w d' e => absurd e (hd t w d')
          split at h
          · rename_i t e hdy
            obtain ⟨g, rfl, hx⟩ := dynA_out h
            refine ih n (Nat.lt_succ_self n) md (.ops all (o :: rest)) _ K a w c Q hx (hs.dyn hdy) (dyn_tags ht) hQ
          cases hgd : o.guard with
          | none =>
            rw [hgd] at h
            simp only at h
            refine wpList_plain hgd fun K' hK' => ?_
            have stepc : ∀ r, stepF C (fun x => ungd (opnd st.env x)) st.own st.nxt o false = some r → (if r.nxt = st.nxt ∨ fresh st.own st.nxt = true then andL r.side (impL r.hyp (exec C md n (.ops all rest) ⟨put st.env o.dst r.d, r.own, r.nxt, st.n⟩ K)) else Fail 10 (o.dst.getD 999)) → o.wp P a w K' Q := by
              intro r hr hst
              split at hst
              · rename_i hnx
                obtain ⟨hside, hrest⟩ := andL_out hst
                have hf : r.nxt = st.nxt ∨ lookO c.own st.nxt = .gone := by
                  rcases hnx with e | e
                  · exact .inl e
                  · right
                    rw [hs.own]
                    unfold fresh at e
                    split at e
                    · assumption
                    · cases e
                have := stepF_ok hC hs.mem (fun x => opnd_ok hs.env x) (nxt := st.nxt) (o := o) (g := false) (r := r) (by rw [hs.own]; exact hr) hside hf
                rw [← hs.w]
                refine this K' Q fun v c' hm' hg' _ hown hv hhyp => hK' _ _ ?_
                have hs' := hs.put hm' hg' (d := r.d) (v := v) hput (fun t _ => hv.toGV) hnt hown (nxt := r.nxt)
                exact next (impL_out hrest hhyp) hs' (hplain (fun t w d' e => by rw [e] at hv; exact hv)) (Kept.of hg' hs.mem.one)
              · exact hst.elim
            cases hop : o.op with
            | pick p x y =>
              rw [hop] at h
              simp only at h
              split at h
              · rename_i d hd
                obtain ⟨b, u, h1, h2, rfl⟩ := pickD_ok (P := P) (c := c) (a := a) (f := id) (fun z => opnd_gv hs.env z) hd
                have hrun := pick_run (P := P) (w := w) hop h1
                rw [h2] at hrun
                unfold Oper.wp
                rw [hrun, Oper.upon_value]
                refine hK' _ _ ?_
                have hs' := hs.put hs.mem (Goes.refl c) (d := .dat .bool u) (v := .bool u) hput (fun t _ => .of_bool u) hnt hs.own (nxt := st.nxt)
                have := next h hs' (hplain (fun t w d' e => by cases e)) (Kept.refl _ c)
                rwa [hs.w] at this
              · exact h.elim
            | call cl =>
              obtain ⟨callee, args, ts⟩ := cl
              rw [hop] at h
              simp only at h
              split at h
              · rename_i r hr; exact stepc r hr h
              · cases callee with
                | value f =>
                  simp only at h
                  split at h
                  · rename_i g caps hl
                    split at h
                    · rename_i mc hmc
                      split at h
                      · rename_i k xs y hma
                        refine mcall_ok hC hs.mem (fun x => opnd_ok hs.env x) hop hl hmc (by rw [hs.own]; exact hma) h.1.out hs.w fun v c' hm' hg' hown hv => hK' _ _ ?_
                        have hs' := hs.put hm' hg' (d := mRes mc (mc.F xs y)) (v := v) hput (fun t _ => hv.toGV) hnt (hown.trans (by rw [hs.own])) (nxt := st.nxt)
                        exact next h.2 hs' (hplain (fun t w d' e => by unfold mRes at e; split at e <;> cases e)) (Kept.of hg' hs.mem.one)
                      · exact h.elim
                    · rename_i hmc
                      split at h
                      · rename_i fn hfn
                        split at h
                        · rename_i body hbody
                          split at h
                          · rename_i dd hdd
                            split at h
                            · rename_i hsz
                              obtain ⟨hsz, hsub⟩ := hsz
                              obtain ⟨hfn1, hfn2⟩ := hC.inls g fn hfn
                              have hfv := opnd_ok hs.env f
                              rw [hl] at hfv
                              obtain ⟨vs, hfv, hcaps⟩ := hfv
                              have hargs := (RVs.of_map (fun x => opnd_ok hs.env x) args.toList).append hcaps
                              have hlen := hargs.length
                              simp only [List.length_append, List.length_map, Array.length_toList] at hlen
                              obtain ⟨rid, rops, dts, od, dargs, hb1, hb2, hb3, hb4, hb5, hb6, hb7⟩ := deferOf_ok hdd
                              refine wp_call hop hfv ⟨fn, hfn1, hfn2, by rw [hbody]; rfl⟩ (R := fun e w' => ∃ v, e = .returned v ∧ K' (a.put o.dst v) w') (calls_of_wp_defers hfn1 hbody ?_) fun e w' hr => hr
                              have hsat : SatC P B w0 S0 [] c ⟨clean ((List.range (args.size + caps.length)).zip (args.toList.map (fun x => ungd (opnd st.env x)) ++ caps)), st.own, st.nxt, fn.ntmps⟩
                                  { tmps := (args.toList.map a.eval ++ vs).toArray ++ Array.replicate (fn.ntmps - (args.toList.map a.eval ++ vs).toArray.size) undef, defers := [] } w := by
                                refine ⟨hs.w, hs.own, hs.mem, clean_ok fun s => ?_, ?_, rfl⟩
                                · have := enter_ok (P := P) 0 [] hargs rfl s (fn.ntmps - (args.toList.map a.eval ++ vs).toArray.size)
                                  simp only [List.nil_append, List.length_append, List.length_map, Array.length_toList] at this
                                  rw [List.range_eq_range']
                                  exact this.toGV
                                · simp only [Array.size_append, List.size_toArray, List.length_append, List.length_map, Array.length_toList, Array.size_replicate]
                                  omega
                              have hmt : laidMd C g body st.own ≠ .top := by unfold laidMd; split <;> (intro e; cases e)
                              generalize laidMd C g body st.own = md' at h hsub hmt
                              rw [hb1]
                              refine wp_seq (wp_region_list ?_)
                              rw [hb3]
                              refine wpList_two ?_
                              have hall : rops.toList.toArray = rops := by simp
                              suffices hsuf : ∀ e a1 w1, Post P B w0 S0 [] md' c _ e a1 w1 → (fun e b wb => match e with | .normal => wpList P rops (Exit.then (dd.rest.wp P (bodyPostD P fn fun e w' => ∃ v, e = .returned v ∧ K' (a.put o.dst v) w')) (bodyPostD P fn fun e w' => ∃ v, e = .returned v ∧ K' (a.put o.dst v) w')) [od] b wb | e => Exit.then (dd.rest.wp P (bodyPostD P fn fun e w' => ∃ v, e = .returned v ∧ K' (a.put o.dst v) w')) (bodyPostD P fn fun e w' => ∃ v, e = .returned v ∧ K' (a.put o.dst v) w') e b wb) e a1 w1 from by
                                have := ih n (Nat.lt_succ_self n) md' (.ops dd.all dd.pre) _ _ _ w c _ h hsat (clean_tags _ _) hsuf
                                unfold Runs at this
                                simp only [hb2, hall] at this
                                exact this
                              intro e a1 w1 hp
                              obtain ⟨st1, c1, hk1, hs1, hg1⟩ := hp
                              cases e with
                              | normal =>
                                refine wpList_plain hb5 fun K2 hK2 => wp_defer hb4 hb6 (hK2 _ _ ?_)
                                have hs1' : SatC P B w0 S0 [{ target := .fn (.func dd.h) #[], args := (dargs.toList.map a1.eval).toArray }] c1 st1 { a1 with defers := { target := .fn (.func dd.h) #[], args := (dargs.toList.map a1.eval).toArray } :: a1.defers } w1 := ⟨hs1.w, hs1.own, hs1.mem, hs1.env, hs1.size, by rw [hs1.defers]⟩
                                refine ih n (Nat.lt_succ_self n) md' (.code dd.rest) st1 _ _ w1 c1 _ hk1 hs1' trivial fun e2 a2 w2 hp2 => ?_
                                obtain ⟨st2, c2, hk2, hs2, hg2⟩ := hp2
                                cases e2 <;> first | exact Fail.elim hk2 | skip
                                all_goals
                                  simp only at hk2
                                  split at hk2
                                  · rename_i fn2 hfn2'
                                    split at hk2
                                    · rename_i body2 hbody2
                                      split at hk2
                                      · rename_i hq
                                        obtain ⟨hq1, hq2, hq3⟩ := hq
                                        obtain ⟨hf21, hf22⟩ := hC.inls dd.h fn2 hfn2'
                                        have hda : RVs P c1 (dd.args.map fun x => ungd (opnd st1.env x)) (dargs.toList.map a1.eval) := by rw [hb7]; exact RVs.of_map (fun x => opnd_ok hs1.env x) dargs.toList
                                        have hda2 := keptDs_ok hg2 hs1.mem.one (by rw [List.all_map]; exact hq3) hda
                                        have hlen2 := hda2.length
                                        simp only [List.length_map] at hlen2
                                        show Leaves P fn a2.tmps _ a2.defers .returning w2
                                        rw [hs2.defers]
                                        refine leaves_cons (by intro e; cases e) (invoke_plain hf21 hf22 (by rw [hbody2]; rfl) _ _) (CallsD.mono (callsD_of_wp hf21 hbody2 (R := fun e w' => ∃ v, e = .returned v ∧ Leaves P fn a2.tmps (fun e w' => ∃ v, e = .returned v ∧ K' (a.put o.dst v) w') [] .returning w') ?_) ?_)
                                        · have hsat2 : SatC P B w0 S0 [] c2 ⟨(List.range dd.args.length).zip (dd.args.map fun x => ungd (opnd st1.env x)), st2.own, st2.nxt, fn2.ntmps⟩
                                              { tmps := (dargs.toList.map a1.eval).toArray ++ Array.replicate (fn2.ntmps - (dargs.toList.map a1.eval).toArray.size) undef, defers := [] } w2 := by
                                            refine ⟨hs2.w, hs2.own, hs2.mem, fun s => ?_, ?_, rfl⟩
                                            · have := enter_ok (P := P) 0 [] hda2 rfl s (fn2.ntmps - (dargs.toList.map a1.eval).toArray.size)
                                              simp only [List.nil_append, List.length_map] at this
                                              rw [List.range_eq_range']
                                              exact this.toGV
                                            · simp only [Array.size_append, List.size_toArray, List.length_map, Array.size_replicate]
                                              omega
                                          have hmt2 : laidMd C dd.h body2 st2.own ≠ .top := by unfold laidMd; split <;> (intro e; cases e)
                                          generalize laidMd C dd.h body2 st2.own = md2 at hk2 hq2 hmt2
                                          refine ih n (Nat.lt_succ_self n) md2 (.code body2) _ _ _ w2 c2 _ hk2 hsat2 trivial fun e3 a3 w3 hp3 => ?_
                                          obtain ⟨st3, c3, hk3, hs3, hg3⟩ := hp3
                                          cases e3 <;> first | exact Fail.elim hk3 | skip
                                          all_goals
                                            simp only at hk3
                                            split at hk3
                                            · rename_i ds2 hds2
                                              split at hk3
                                              · rename_i ds hds
                                                rw [← hs3.own] at hds2 hds
                                                obtain ⟨rv2, hrv2, hrun2⟩ := results_ok hC hs3.mem hs3.env hds2
                                                have henv2 : EnvOk P c3 (keepE md2 st2.env) a2.tmps := hs2.env.keep hg3 hs2.mem.one hmt2
                                                obtain ⟨rv, hrv, hrun⟩ := results_ok hC hs3.mem henv2 hds
                                                rw [hs3.w] at hrun hrun2
                                                have hgAll : Kept P md' c c3 := (hg1.trans hg2).trans (hg3.sub hq2 hs2.mem.one)
                                                have hs2' : SatC P B w0 S0 df c3 ⟨keepE md' st.env, st3.own, st3.nxt, st.n⟩ a c3.w := ⟨rfl, hs3.own, hs3.mem, hs.env.keep hgAll hs.mem.one hmt, hs.size, hs.defers⟩
                                                have hput' := hs2'.put hs3.mem (Goes.refl c3) (d := retD ds) (v := packV rv) hput (fun t _ => (retD_ok hrv).toGV) (fun s t w d' hl => hnt s t w d' (keepE_gd hl)) hs3.own (nxt := st3.nxt)
                                                have htags : TagsOk (put (keepE md' st.env) o.dst (retD ds)) rest := by
                                                  refine TagsOk.put (fun s t w d hl => ht s t w d (keepE_gd hl)) fun t w d' e => ?_
                                                  have := retD_ok hrv
                                                  rw [e] at this
                                                  exact this.elim
                                                refine ⟨hs3.defers, _, results_run hrun2, _, rfl, _, results_run hrun, _, rfl, ?_⟩
                                                rw [← hs3.w]
                                                exact hK' _ _ (next hk3 hput' htags (hgAll.sub hsub hs.mem.one))
                                              · exact hk3.elim
                                            · exact hk3.elim
                                        · rintro e u' w' ⟨rfl, v, rfl, hL⟩
                                          exact hL
                                      · exact hk2.elim
                                    · exact hk2.elim
                                  · exact hk2.elim
                              | _ => exact Fail.elim hk1
                            · exact h.elim
                          rename_i hdd
                          split at h
                          · rename_i hsz
                            obtain ⟨hsz, hsub⟩ := hsz
                            obtain ⟨hfn1, hfn2⟩ := hC.inls g fn hfn
                            have hfv := opnd_ok hs.env f
                            rw [hl] at hfv
                            obtain ⟨vs, hfv, hcaps⟩ := hfv
                            have hargs := (RVs.of_map (fun x => opnd_ok hs.env x) args.toList).append hcaps
                            have hlen := hargs.length
                            simp only [List.length_append, List.length_map, Array.length_toList] at hlen
                            refine wp_call hop hfv ⟨fn, hfn1, hfn2, by rw [hbody]; rfl⟩ (R := fun e w' => ∃ v, e = .returned v ∧ K' (a.put o.dst v) w') (calls_of_wp hfn1 hbody ?_) fun e w' hr => hr
                            have hsat : SatC P B w0 S0 [] c ⟨(List.range (args.size + caps.length)).zip (args.toList.map (fun x => ungd (opnd st.env x)) ++ caps), st.own, st.nxt, fn.ntmps⟩
                                { tmps := (args.toList.map a.eval ++ vs).toArray ++ Array.replicate (fn.ntmps - (args.toList.map a.eval ++ vs).toArray.size) undef, defers := [] } w := by
                              refine ⟨hs.w, hs.own, hs.mem, fun s => ?_, ?_, rfl⟩
                              · have := enter_ok (P := P) 0 [] hargs rfl s (fn.ntmps - (args.toList.map a.eval ++ vs).toArray.size)
                                simp only [List.nil_append, List.length_append, List.length_map, Array.length_toList] at this
                                rw [List.range_eq_range']
                                exact this.toGV
                              · simp only [Array.size_append, List.size_toArray, List.length_append, List.length_map, Array.length_toList, Array.size_replicate]
                                omega
                            have hmt : laidMd C g body st.own ≠ .top := by unfold laidMd; split <;> (intro e; cases e)
                            generalize laidMd C g body st.own = md' at h hsub hmt
                            refine ih n (Nat.lt_succ_self n) md' (.code body) _ _ _ w c _ h hsat trivial fun e a' w' hp => ?_
                            obtain ⟨st', c', hk, hs', hg⟩ := hp
                            have fin : (match retOf C st'.env st'.own fn.results.toList with
                                | some ds => exec C md n (.ops all rest) ⟨put (keepE md' st.env) o.dst (retD ds), st'.own, st'.nxt, st.n⟩ K
                                | none => Fail 11 (o.dst.getD 999)) → a'.defers = [] ∧ ∃ v, (results fn a'.tmps).run P w' = .ok v w' ∧ ∃ v', Ending.returned v = .returned v' ∧ K' (a.put o.dst v') w' := by
                              intro hk
                              split at hk
                              · rename_i ds hds
                                rw [← hs'.own] at hds
                                obtain ⟨rv, hrv, hrun⟩ := results_ok hC hs'.mem hs'.env hds
                                have hs2 : SatC P B w0 S0 df c' ⟨keepE md' st.env, st'.own, st'.nxt, st.n⟩ a c'.w := ⟨rfl, hs'.own, hs'.mem, hs.env.keep hg hs.mem.one hmt, hs.size, hs.defers⟩
                                have hput' := hs2.put hs'.mem (Goes.refl c') (d := retD ds) (v := packV rv) hput (fun t _ => (retD_ok hrv).toGV) (fun s t w d' hl => hnt s t w d' (keepE_gd hl)) hs'.own (nxt := st'.nxt)
                                rw [hs'.w] at hrun
                                refine ⟨hs'.defers, _, results_run hrun, _, rfl, ?_⟩
                                rw [← hs'.w]
                                have htags : TagsOk (put (keepE md' st.env) o.dst (retD ds)) rest := by
                                  refine TagsOk.put (fun s t w d hl => ht s t w d (keepE_gd hl)) fun t w d' e => ?_
                                  have := retD_ok hrv
                                  rw [e] at this
                                  exact this.elim
                                exact hK' _ _ (next hk hput' htags (hg.sub hsub hs.mem.one))
                              · exact hk.elim
                            cases e with
                            | normal => exact fin hk
                            | ret => exact fin hk
                            | _ => exact Fail.elim hk
                          · exact h.elim
                        · exact h.elim
                      · exact h.elim
                  · exact h.elim
                | _ => exact h.elim
            | binOp op T x y U =>
              rw [hop] at h
              simp only at h
              split at h
              · rename_i r hr; exact stepc r hr h
              · cases op with
                | eql =>
                  simp only at h
                  split at h
                  · rename_i t xs hso
                    split at h
                    · rename_i hcnd
                      simp only [Bool.and_eq_true] at hcnd
                      have hx := opnd_ok hs.env x
                      have hy := opnd_ok hs.env y
                      have hyv : a.eval y = .slice none 0 0 := by
                        have := hcnd.1
                        unfold isNil at this
                        split at this
                        · rename_i e; rw [e] at hy; exact hy
                        · cases this
                      obtain ⟨base, cap, hxv, hcells⟩ := slOf_cells hs.mem hx (by rw [hs.own]; exact hso)
                      obtain ⟨g1, g2⟩ := nil_eq (P := P) (base := base) (n := xs.length) (cap := cap) (w := w) hC hcnd.2 x y
                      unfold Oper.wp
                      have hrun : (execOp a.eval o).run P w = .ok (.value (.bool base.isNone)) w := by
                        unfold execOp
                        rw [hop]
                        simp only [Sem.run_bind, Sem.run_pure, hxv, hyv, g1, g2, Result.andThen_ok]
                      rw [hrun, Oper.upon_value]
                      refine hK' _ _ ?_
                      have hb := h base.isNone ⟨fun e => Classical.byContradiction fun hne => by
                        obtain ⟨b, off, news, hbase, _⟩ := hcells hne
                        rw [hbase] at e; cases e⟩
                      have hs' := hs.put hs.mem (Goes.refl c) (d := .dat .bool base.isNone) (v := .bool base.isNone) hput (fun t _ => .of_bool _) hnt hs.own (nxt := st.nxt)
                      have := next hb hs' (hplain (fun t w d' e => by cases e)) (Kept.refl _ c)
                      rwa [hs.w] at this
                    · exact h.elim
                  · exact h.elim
                | _ => exact h.elim
            | next x isS =>
              rw [hop] at h
              simp only at h
              split at h
              · rename_i r hr; exact stepc r hr h
              · cases isS with
                | false =>
                  simp only at h
                  split at h
                  · rename_i k hxk
                    split at h
                    · rename_i vt f left cnt cur hk
                      have hxv := opnd_ok hs.env x
                      rw [hxk] at hxv
                      rw [← hs.own] at hk
                      unfold Oper.wp
                      rcases mnext_on (x := x) (ty := o.type) hs.mem hk hxv with ⟨hno, hrun0⟩ | ⟨s, y, m, c', u, hq1, hrun0, hsz, hu, r2, r3, r4⟩
                      · have hrun : (execOp a.eval o).run P w = .ok (.value (.tuple #[.bool false])) w := by
                          unfold execOp
                          rw [hop, ← hs.w]
                          simp only [Sem.run_bind, Sem.run_pure, hrun0, Result.andThen_ok]
                        rw [hrun, Oper.upon_value]
                        refine hK' _ _ ?_
                        have hq := h.2 ⟨hno⟩
                        have hs' := hs.put hs.mem (Goes.refl c) (d := .tup [.dat .bool false]) (v := .tuple #[.bool false]) hput (fun t _ => ⟨_, rfl, _, _, rfl, .of_bool _, rfl⟩) hnt hs.own (nxt := st.nxt)
                        have := next hq hs' (hplain (fun t w d' e => by cases e)) (Kept.refl _ c)
                        rwa [hs.w] at this
                      · have hrun : (execOp a.eval o).run P w = .ok (.value (.tuple #[.bool true, .string s, u])) c'.w := by
                          unfold execOp
                          rw [hop, ← hs.w]
                          simp only [Sem.run_bind, Sem.run_pure, hrun0, Result.andThen_ok]
                        rw [hrun, Oper.upon_value]
                        refine hK' _ _ ?_
                        have hq := h.1 s y m ⟨hq1⟩
                        have hs' := hs.put r2 r3 (d := .tup [.dat .bool true, .dat .str s, .dat vt y]) (v := .tuple #[.bool true, .string s, u]) hput (fun t _ => ⟨_, rfl, _, _, rfl, .of_bool _, _, _, rfl, ⟨_, ⟨rfl, hsz⟩, rfl⟩, _, _, rfl, hu, rfl⟩) hnt (r4.trans (by rw [hs.own])) (nxt := st.nxt)
                        have := next hq hs' (hplain (fun t w d' e => by cases e)) (Kept.of r3 hs.mem.one)
                        exact this
                    · exact h.elim
                  · exact h.elim
                | true =>
                  simp only at h
                  split at h
                  · rename_i k hxk
                    split at h
                    · rename_i s pos hk
                      have hxv := opnd_ok hs.env x
                      rw [hxk] at hxv
                      rw [← hs.own] at hk
                      obtain ⟨n1, n2, n3⟩ := next_on (x := x) (ty := o.type) hs.mem hk hxv
                      rw [bcase_iff] at h
                      unfold Oper.wp
                      by_cases hp : pos < s.size
                      · obtain ⟨c', r1, r2, r3, r4⟩ := n1 hp
                        have hrun : (execOp a.eval o).run P w = .ok (.value (.tuple #[.bool true, .int .i64 pos, .int .i32 (runeAt s pos)])) c'.w := by
                          unfold execOp
                          rw [hop, ← hs.w]
                          simp only [Sem.run_bind, Sem.run_pure, r1, Result.andThen_ok]
                        rw [hrun, Oper.upon_value]
                        refine hK' _ _ ?_
                        have hq := h.1 (decide_eq_true hp)
                        have hs' := hs.put r2 r3 (d := nextD s pos) (v := .tuple #[.bool true, .int .i64 pos, .int .i32 (runeAt s pos)]) hput (fun t _ => ⟨_, rfl, _, _, rfl, .of_bool _, _, _, rfl, .of_int (small_wrap (by omega)), _, _, rfl, .of_int (runeAt_wrap s pos), rfl⟩) hnt (r4.trans (by rw [hs.own])) (nxt := st.nxt)
                        have := next hq hs' (hplain (fun t w d' e => by cases e)) (Kept.of r3 hs.mem.one)
                        exact this
                      · have hrun : (execOp a.eval o).run P w = .ok (.value (.tuple #[.bool false])) w := by
                          unfold execOp
                          rw [hop, ← hs.w]
                          simp only [Sem.run_bind, Sem.run_pure, n2 hp, Result.andThen_ok]
                        rw [hrun, Oper.upon_value]
                        refine hK' _ _ ?_
                        have hq := h.2 (decide_eq_false hp)
                        have hs' := hs.put hs.mem (Goes.refl c) (d := .tup [.dat .bool false]) (v := .tuple #[.bool false]) hput (fun t _ => ⟨_, rfl, _, _, rfl, .of_bool _, rfl⟩) hnt hs.own (nxt := st.nxt)
                        have := next hq hs' (hplain (fun t w d' e => by cases e)) (Kept.refl _ c)
                        rwa [hs.w] at this
                    · exact h.elim
                  · exact h.elim
            | _ =>
              rw [hop] at h
              simp only at h
              split at h
              · rename_i r hr; exact stepc r hr h
              · exact h.elim
          | some jw =>
            obtain ⟨j, wb⟩ := jw
            rw [hgd] at h
            simp only at h
            split at h
            · rename_i t htd
              split at h
              · rename_i cnd hcnd
                split at h
                · rename_i htag
                  simp only [Bool.and_eq_true, List.all_eq_true, bne_iff_ne] at htag
                  obtain ⟨htag1, htag2⟩ := htag
                  have hiff := condB_ok hs.env 9 hcnd
                  have hwant : Region.wanted o (yielded all.toArray a.tmps) = true ↔ a.tmps.getD t undef = .bool wb := by
                    unfold Region.wanted yielded
                    rw [hgd]
                    simp only [List.getElem?_toArray, htd, Option.bind_some]
                    rw [Array.getD_eq_getD_getElem?]
                    cases ht2 : a.tmps[t]? with
                    | none => simp [undef]
                    | some u => cases u <;> simp
                  have hgtag : ∀ {d : D}, TagsOk (put st.env o.dst (.gd t wb d)) rest := fun {d} => ht.put fun t' w' d' e => by
                    cases e; exact htag1
                  have hreg : ∀ {v : Value} {s : Nat}, o.dst = some s → (a.tmps.setIfInBounds s v).getD t undef = a.tmps.getD t undef := by
                    intro v s hd
                    have hne : s ≠ t := fun e => htag2 (by rw [hd, e])
                    simp [Array.getElem?_setIfInBounds_ne hne]
                  -- not wanted: nothing is done
                  have skip : ∀ {d : D}, a.tmps.getD t undef ≠ .bool wb → exec C md n (.ops all rest) ⟨put st.env o.dst (.gd t wb d), st.own, st.nxt, st.n⟩ K → wpList P all.toArray Q rest (a.put o.dst undef) w := by
                    intro d hne hk
                    have hs' := hs.put hs.mem (Goes.refl c) (d := .gd t wb d) (v := undef) hput (fun s hd => ⟨fun e => absurd (by rwa [hreg hd] at e) hne, fun _ => rfl⟩) hnt hs.own (nxt := st.nxt)
                    have := next hk hs' hgtag (Kept.refl _ c)
                    rwa [hs.w] at this
                  split at h
                  · rename_i hoff
                    have hne := offM_ok hs.env hs.size hoff
                    refine wpList_step fun K' hK' => ?_
                    rw [if_neg fun e => hne (hwant.1 e)]
                    exact hK' _ _ (skip hne h)
                  -- a way for each of the guard's two answers
                  have fork : ∀ (b : Bool), look st.env t = .dat .bool b → bcase (cond wb b (!b)) (exec C md n (.ops all ({ o with guard := none } :: rest)) { st with env := onE t wb st.env } K)
                      (exec C md n (.ops all rest) { st with env := put (offE st.n t wb st.env) o.dst (.gd t wb (.dat .bool false)) } K) → wpList P all.toArray Q (o :: rest) a w := by
                    intro b hb hbc
                    have htb : a.tmps.getD t undef = .bool b := by
                      have := hs.env t
                      rw [hb] at this
                      exact RV.bool this
                    have htags : ∀ o' ∈ o :: rest, o'.dst ≠ some t := fun o' ho' => by
                      rcases List.mem_cons.1 ho' with rfl | ho'
                      · exact htag2
                      · exact htag1 o' ho'
                    rw [bcase_iff] at hbc
                    by_cases e : b = wb
                    · subst e
                      have hq := hbc.1 (by cases b <;> rfl)
                      have he1 : EnvOk P c (onE t b st.env) a.tmps := onE_ok hs.env htb
                      have := ih n (Nat.lt_succ_self n) md (.ops all ({ o with guard := none } :: rest)) { st with env := onE t b st.env } K a w c Q hq ⟨hs.w, hs.own, hs.mem, he1, hs.size, hs.defers⟩ (onE_tags hs.env htb ht) hQ
                      have this : wpList P all.toArray Q ({ o with guard := none } :: rest) a w := this
                      unfold wpList at this ⊢
                      rw [if_pos (by simp [Region.wanted])] at this
                      rw [if_pos (hwant.2 htb)]
                      exact this
                    · have hne : a.tmps.getD t undef ≠ .bool wb := by rw [htb]; simpa using e
                      have hq := hbc.2 (by cases b <;> cases wb <;> simp_all)
                      have hbn : b = !wb := by cases b <;> cases wb <;> simp_all
                      have he1 : EnvOk P c (offE st.n t wb st.env) a.tmps := offE_ok hs.env hs.size (by rw [htb, hbn]) hne
                      have hs1 : SatC P B w0 S0 df c { st with env := offE st.n t wb st.env } a w := ⟨hs.w, hs.own, hs.mem, he1, hs.size, hs.defers⟩
                      have htg : TagsOk (offE st.n t wb st.env) (o :: rest) := offE_tags ht htags
                      have hs' := hs1.put hs1.mem (Goes.refl c) (d := .gd t wb (.dat .bool false)) (v := undef) hput (fun s hd => ⟨fun e => absurd (by rwa [hreg hd] at e) hne, fun _ => rfl⟩) (fun s t w d' hl => htg s t w d' hl o List.mem_cons_self) hs1.own (nxt := st.nxt)
                      have := next hq hs' (htg.put fun t' w' d' e => by cases e; exact htag1) (Kept.refl _ c)
                      rw [hs1.w] at this
                      refine wpList_step fun K' hK' => ?_
                      rw [if_neg fun e => hne (hwant.1 e)]
                      exact hK' _ _ this
                  -- .. of the guard's own guard
                  have fork2 : ∀ (t2 : Nat) (w2 b2 : Bool), outG st.env t = some (t2, w2, b2) → bcase (cond w2 b2 (!b2)) (exec C md n (.ops all (o :: rest)) { st with env := onE t2 w2 st.env } K)
                      (exec C md n (.ops all rest) { st with env := put (offE st.n t2 w2 st.env) o.dst (.gd t wb (.dat .bool false)) } K) → wpList P all.toArray Q (o :: rest) a w := by
                    intro t2 w2 b2 hout hbc
                    obtain ⟨d2, hl2, hb2⟩ : ∃ d, look st.env t = .gd t2 w2 d ∧ look st.env t2 = .dat .bool b2 := by
                      unfold outG at hout
                      split at hout
                      · rename_i hl
                        split at hout
                        · rename_i hb; cases hout; exact ⟨_, hl, hb⟩
                        · cases hout
                      · cases hout
                    have htb : a.tmps.getD t2 undef = .bool b2 := by
                      have := hs.env t2
                      rw [hb2] at this
                      exact RV.bool this
                    have htags : ∀ o' ∈ o :: rest, o'.dst ≠ some t2 := fun o' ho' => ht t t2 w2 d2 hl2 o' ho'
                    rw [bcase_iff] at hbc
                    by_cases e : b2 = w2
                    · subst e
                      have hq := hbc.1 (by cases b2 <;> rfl)
                      have he1 : EnvOk P c (onE t2 b2 st.env) a.tmps := onE_ok hs.env htb
                      have htg : TagsOk (onE t2 b2 st.env) (o :: rest) := fun s t' w' d hl o' ho' => by
                        rcases List.mem_cons.1 ho' with rfl | ho'
                        · exact onE_tags hs.env htb ht s t' w' d hl { o' with guard := none } List.mem_cons_self
                        · exact onE_tags hs.env htb ht s t' w' d hl o' (List.mem_cons_of_mem _ ho')
                      exact ih n (Nat.lt_succ_self n) md (.ops all (o :: rest)) { st with env := onE t2 b2 st.env } K a w c Q hq ⟨hs.w, hs.own, hs.mem, he1, hs.size, hs.defers⟩ htg hQ
                    · have hne2 : a.tmps.getD t2 undef ≠ .bool w2 := by rw [htb]; simpa using e
                      have hund : a.tmps.getD t undef = undef := by
                        have := hs.env t
                        rw [hl2] at this
                        exact this.2 hne2
                      have hne : a.tmps.getD t undef ≠ .bool wb := by rw [hund]; simp [undef]
                      have hq := hbc.2 (by cases b2 <;> cases w2 <;> simp_all)
                      have hbn : b2 = !w2 := by cases b2 <;> cases w2 <;> simp_all
                      have he1 : EnvOk P c (offE st.n t2 w2 st.env) a.tmps := offE_ok hs.env hs.size (by rw [htb, hbn]) hne2
                      have hs1 : SatC P B w0 S0 df c { st with env := offE st.n t2 w2 st.env } a w := ⟨hs.w, hs.own, hs.mem, he1, hs.size, hs.defers⟩
                      have htg : TagsOk (offE st.n t2 w2 st.env) (o :: rest) := offE_tags ht htags
                      have hs' := hs1.put hs1.mem (Goes.refl c) (d := .gd t wb (.dat .bool false)) (v := undef) hput (fun s hd => ⟨fun e => absurd (by rwa [hreg hd] at e) hne, fun _ => rfl⟩) (fun s t w d' hl => htg s t w d' hl o List.mem_cons_self) hs1.own (nxt := st.nxt)
                      have := next hq hs' (htg.put fun t' w' d' e => by cases e; exact htag1) (Kept.refl _ c)
                      rw [hs1.w] at this
                      refine wpList_step fun K' hK' => ?_
                      rw [if_neg fun e => hne (hwant.1 e)]
                      exact hK' _ _ this
                  obtain ⟨c1, hs1, hgo⟩ := frz_ok (C := C) hs t wb o
                  have skip1 : ∀ {d : D}, a.tmps.getD t undef ≠ .bool wb → exec C md n (.ops all rest) ⟨put st.env o.dst (.gd t wb d), frzG C st.env st.own t wb o, st.nxt, st.n⟩ K → wpList P all.toArray Q rest (a.put o.dst undef) w := by
                    intro d hne hk
                    have hs' := hs1.put hs1.mem (Goes.refl c1) (d := .gd t wb d) (v := undef) hput (fun s hd => ⟨fun e => absurd (by rwa [hreg hd] at e) hne, fun _ => rfl⟩) hnt hs1.own (nxt := st.nxt)
                    have := next hk hs' hgtag (Kept.of hgo hs.mem.one)
                    rwa [hs1.w] at this
                  have stepg : ∀ (K' : Act → World → Prop) (hK' : ∀ a w, wpList P all.toArray Q rest a w → K' a w) r, stepF C (fun x => ungd (strip' t wb (opnd st.env x))) (frzG C st.env st.own t wb o) st.nxt o true = some r → andL (r.side.map (Cnd.imp cnd)) (impL (r.hyp.map fun p => cnd = true → p) (exec C md n (.ops all rest) ⟨put st.env o.dst (.gd t wb r.d), frzG C st.env st.own t wb o, st.nxt, st.n⟩ K)) →
                      if Region.wanted o (yielded all.toArray a.tmps) then o.wp P a w K' Q else K' (a.put o.dst undef) w := by
                    intro K' hK' r hr hst
                    obtain ⟨hside, hrest⟩ := andL_out hst
                    split
                    · rename_i hw
                      have hw := hwant.1 hw
                      have hc := hiff.1 hw
                      obtain ⟨hown', hnxt'⟩ := stepF_guard hr
                      have := stepF_ok hC hs1.mem (fun x => opnd_guard hs1.env hw x) (nxt := st.nxt) (o := o) (g := true) (r := r) (by rw [hs1.own]; exact hr) (fun p hp => hside _ (List.mem_map.2 ⟨p, hp, rfl⟩) hc) (.inl hnxt')
                      rw [← hs1.w]
                      refine this K' Q fun v c' hm' hg' _ hown hv hhyp => hK' _ _ ?_
                      have hs' := hs1.put hm' hg' (d := .gd t wb r.d) (v := v) hput (fun s hd => ⟨fun _ => hv, fun e => absurd hw (by rwa [hreg hd] at e)⟩) hnt (hown.trans hown') (nxt := st.nxt)
                      refine next (impL_out hrest fun q hq => ?_) hs' hgtag (Kept.of (hgo.trans hg') hs.mem.one)
                      obtain ⟨p, hp, rfl⟩ := List.mem_map.1 hq
                      exact fun _ => hhyp p hp
                    · rename_i hw
                      have hne : a.tmps.getD t undef ≠ .bool wb := fun e => hw (hwant.2 e)
                      refine hK' _ _ (skip1 hne (impL_out hrest fun q hq => ?_))
                      obtain ⟨p, hp, rfl⟩ := List.mem_map.1 hq
                      exact fun e => absurd (hiff.2 e) hne
                  cases hop : o.op with
                  | pick p x y =>
                    refine wpList_step fun K' hK' => ?_
                    rw [hop] at h
                    simp only at h
                    split at h
                    · rename_i d hd
                      split
                      · rename_i hw
                        have hw := hwant.1 hw
                        obtain ⟨b, u, h1, h2, rfl⟩ := pickD_ok (P := P) (c := c) (a := a) (f := strip' t wb) (fun z => strip_gv hw (opnd_gv hs.env z)) hd
                        have hrun := pick_run (P := P) (w := w) hop h1
                        rw [h2] at hrun
                        unfold Oper.wp
                        rw [hrun, Oper.upon_value]
                        refine hK' _ _ ?_
                        have hs' := hs.put hs.mem (Goes.refl c) (d := .gd t wb (.dat .bool u)) (v := .bool u) hput (fun s hd => ⟨fun _ => .of_bool u, fun e => absurd hw (by rwa [hreg hd] at e)⟩) hnt hs.own (nxt := st.nxt)
                        have := next h hs' hgtag (Kept.refl _ c)
                        rwa [hs.w] at this
                      · rename_i hw
                        exact hK' _ _ (skip (fun e => hw (hwant.2 e)) h)
                    · exact h.elim
                  | _ =>
                    rw [hop] at h
                    simp only at h
                    split at h
                    · rename_i r hr; exact wpList_step fun K' hK' => stepg K' hK' r hr h
                    · split at h
                      · rename_i b hb; exact fork b hb (by rw [hop]; exact h)
                      · split at h
                        · rename_i t2 w2 b2 ho2; exact fork2 t2 w2 b2 ho2 h
                        · exact h.elim
                · exact h.elim
              · exact h.elim
            · exact h.elim
        · exact h.elim

end
end Go.Eng
namespace Go.Eng
open Go.RowKit

variable {P : Program} {C : Cfg} {B : Nat} {w0 : World}

theorem retV_pack (r : Ty) (rs : List Value) : retV r rs = packV (group r rs) := by
  unfold retV packV
  rfl

theorem valid_of_vc {G : World → Prop} (hC : ∀ w, G w → CfgOk P C w.heap.size w) {g : FuncId} {fn : Func} {con : Contract} {fuel : Nat} (hf : P.funcs[g]? = some fn) (hname : (fn.name == "runtime.NumGoroutine") = false) (h : vcFn C fuel fn con) : Valid P G g con := by
  unfold vcFn at h
  split at h
  · rename_i body hbody
    refine ⟨⟨fn, hf, hname, by rw [hbody]; rfl⟩, fun w hG S x cs hS hx hpre => ?_⟩
    have h := h x ⟨hpre⟩
    split at h
    · rename_i hsz
      let c0 : Cx := ⟨S, w, fun _ => .slice none 0 0, []⟩
      have hm0 : Mem P w.heap.size w S c0 := ⟨fun o => trivial, fun o o' b _ hb _ => (by cases hb), hS, fun b hb => hb, fun b hb => .inl hb, Below.refl _ _, Nat.le_refl _, fun o => rfl, fun _ _ => rfl⟩
      have hargs : RVs P c0 (resOf con.a x) (group con.a cs) := res_ok (c := c0) con.a hx
      have hlen := hargs.length
      refine calls_of_wp hf hbody ?_
      have hsat : SatC P w.heap.size w S [] c0 ⟨(List.range (resOf con.a x).length).zip (resOf con.a x), [], 0, fn.ntmps⟩
          { tmps := (group con.a cs).toArray ++ Array.replicate (fn.ntmps - (group con.a cs).toArray.size) undef, defers := [] } w := by
        refine ⟨rfl, rfl, hm0, fun s => ?_, ?_, rfl⟩
        · have := enter_ok (P := P) 0 [] hargs rfl s (fn.ntmps - (group con.a cs).toArray.size)
          simp only [List.nil_append] at this
          rw [List.range_eq_range']
          exact this.toGV
        · simp only [Array.size_append, List.size_toArray, Array.size_replicate]
          omega
      refine exec_ok (hC w hG) fuel .top (.code body) _ _ _ w c0 _ h hsat trivial fun e a' w' hp => ?_
      obtain ⟨st, c', hk, hs, _⟩ := hp
      have fin : (match retOf C st.env st.own fn.results.toList with
          | some ds => match con.fresh with
            | none => if fits con.r ds then match argsOf (stay (freeze st.own (flats ds))) con.r ds with
                | some y => if con.clip then match ds with
                    | [.clip ..] => y = con.F x
                    | _ => False
                  else y = con.F x
                | none => False
              else False
            | some e => match (⟨con.r, con.F x⟩ : Σ r : Ty, r.El) with
              | ⟨.cons (.sl t) .unit, y⟩ => match ds with
                | [.own o] => match lookO st.own o with
                  | .row e' t' xs => if e = e' then match cast? (.sl t') (.sl t) xs with
                      | some xs => xs = y.1
                      | none => False
                    else False
                  | _ => False
                | [.cst (.slice none 0 0)] => if 0 < t.size then y.1 = [] else False
                | _ => False
              | _ => False
          | none => False) → a'.defers = [] ∧ ∃ v, (results fn a'.tmps).run P w' = .ok v w' ∧ (Below w.heap.size w w' ∧ match con.fresh with
            | none => ∃ rs, Ending.returned v = .returned (retV con.r rs) ∧ RdC P con.r (fun b => S b ∨ w.heap.size ≤ b ∧ b < w'.heap.size) w' (con.F x) rs ∧ (con.clip = true → ∃ base n, retV con.r rs = .slice base n n)
            | some et => match (⟨con.r, con.F x⟩ : Σ r : Ty, r.El) with
              | ⟨.cons (.sl t) .unit, y⟩ => ∃ u cs, Ending.returned v = .returned u ∧ u.oneCell' = true ∧ 0 < t.size ∧ w'.ownsRow w.heap.size et t.size u (List.length y.1) cs ∧
                  RdL P t (fun b => S b ∨ w.heap.size ≤ b ∧ b < w'.heap.size ∧ u.ownBlock ≠ some b) w' y.1 cs
              | _ => False) := by
        intro hk
        split at hk
        · rename_i ds hds
          rw [← hs.own] at hds
          obtain ⟨rv, hrv, hrun⟩ := results_ok (hC w hG) hs.mem hs.env hds
          have hw := hs.w
          subst hw
          refine ⟨hs.defers, _, results_run hrun, hs.mem.below, ?_⟩
          split at hk
          · rename_i hfresh
            split at hk
            · rename_i hfit
              split at hk
              · rename_i y hy
                have hclip : con.clip = true → ∃ t xs, ds = [.clip t xs] := by
                  intro hc
                  rw [if_pos hc] at hk
                  split at hk
                  · exact ⟨_, _, rfl⟩
                  · exact hk.elim
                have hk : y = con.F x := by
                  split at hk
                  · split at hk
                    · exact hk
                    · exact hk.elim
                  · exact hk
                subst hk
                obtain ⟨c1, e1, e2, e3, hm1, hg1, _⟩ := hs.mem.freeze (flats ds)
                obtain ⟨k1, k2, k3⟩ := fits_ok con.r hm1.one hfit (RVs.goes hg1 hs.mem.one hrv)
                unfold argsOf at hy
                rw [← hs.own, ← e1] at hy
                split at hy
                · rename_i z hz
                  obtain rfl := Option.some.inj hy
                  obtain ⟨c3, c4, e, r1, r2⟩ := gather_ok (Vis.stay hm1) con.r hz k1
                  obtain rfl : c4 = [] := r2
                  rw [List.append_nil] at e
                  refine ⟨c3, ?_, ?_, fun hc => ?_⟩
                  · rw [retV_pack, ← e, k3]
                  rotate_left
                  · obtain ⟨t, xs, rfl⟩ := hclip hc
                    obtain ⟨v, vs', rfl, hv, hv2⟩ := hrv
                    obtain rfl : vs' = [] := hv2
                    obtain ⟨base, rfl, _⟩ := hv
                    rw [retV_pack, ← e, k3]
                    exact ⟨base, _, rfl⟩
                  · rw [e2] at r1
                    refine r1.mono fun b hb => ⟨?_, rfl⟩
                    rcases hm1.to_ b hb with h1 | h1
                    · exact .inl h1
                    · exact .inr ⟨h1, by rw [← e2]; exact hm1.bound b hb⟩
                · cases hy
              · exact hk.elim
            · exact hk.elim
          · rename_i et hfresh
            split at hk
            · rename_i t y hry
              split at hk
              · rename_i o
                split at hk
                · rename_i e' t' xs ho
                  split at hk
                  · rename_i he
                    subst he
                    split at hk
                    · rename_i ys hc
                      obtain ⟨et', hx'⟩ := cast?_some hc
                      cases et'
                      subst hx'
                      subst hk
                      rw [← hs.own] at ho
                      have hbk := hs.mem.ok o
                      unfold BlkOk at hbk
                      simp only [ho] at hbk
                      obtain ⟨hz, rcs, hown, hrl, hnS⟩ := hbk
                      obtain ⟨v, vs', rfl, hv, hv2⟩ := hrv
                      obtain rfl : vs' = [] := hv2
                      simp only [RV, ho] at hv
                      subst hv
                      refine ⟨c'.ρ o, rcs, rfl, hs.mem.one o, hz, hown, hrl.mono fun b hb => ⟨?_, rfl⟩⟩
                      rcases hs.mem.to_ b hb with h1 | h1
                      · exact .inl h1
                      · exact .inr ⟨h1, hs.mem.bound b hb, fun e => hnS b e hb⟩
                    · exact hk.elim
                  · exact hk.elim
                · exact hk.elim
              · split at hk
                · rename_i hz
                  obtain ⟨v, vs', rfl, hv, hv2⟩ := hrv
                  obtain rfl : vs' = [] := hv2
                  obtain rfl : v = .slice none 0 0 := hv
                  refine ⟨.slice none 0 0, [], rfl, rfl, hz, ?_, ?_⟩
                  · rw [hk]; exact World.ownsRow_nil _ _ _ _
                  · rw [hk]; rfl
                · exact hk.elim
              · exact hk.elim
            · exact hk.elim
        · exact hk.elim
      cases e with
      | normal => exact fin hk
      | ret => exact fin hk
      | _ => exact (hk : False).elim
    · exact h.elim
  · exact h.elim

end Go.Eng
namespace Go.Eng
open Go.RowKit

variable {P : Program} {C : Cfg} {B : Nat} {w0 : World}

def fieldsB (C : Cfg) (f : TypeId → Ty → Bool) : List Field → Ty → Nat → Bool
  | [], .unit, _ => true
  | fl :: r, .cons t u, off => decide (fl.name ≠ "_") && decide (fl.offset = off) && decide (sizeT C fl.type = t.size) && (aggT C fl.type == some t.isAgg) && f fl.type t && fieldsB C f r u (off + t.size)
  | _, _, _ => false
def arrB (C : Cfg) (f : TypeId → Ty → Bool) (e : TypeId) : Nat → Ty → Bool
  | 0, .unit => true
  | n + 1, .cons t u => decide (sizeT C e = t.size) && (aggT C e == some t.isAgg) && f e t && arrB C f e n u
  | _, _ => false
def eqB (P : Program) (C : Cfg) : Nat → TypeId → Ty → Bool
  | 0, _, _ => false
  | n + 1, T, t => match P.underlying T, t with
    | some .bool, .bool => true
    | some (.int k), .int k' => decide (k = k')
    | some .string, .str => true
    | some (.struct fs), t => t.isAgg && !P.stoodInHeld T && fieldsB C (eqB P C n) fs.toList t 0
    | some (.array len e), t => t.isAgg && (aggT C e).isSome && arrB C (eqB P C n) e len t
    | _, _ => false

theorem part_at (hC : CfgOk P C B w0) {T : TypeId} {t : Ty} (hs : sizeT C T = t.size) (hg : aggT C T = some t.isAgg) {S : Nat → Prop} {w : World} {x : t.El} {pre c1 post : List Value} (h : RdC P t S w x c1) (w' : World) :
    (part T (pre ++ (c1 ++ post)).toArray pre.length).run P w' = .ok (vOf t c1) w' := by
  unfold part
  simp only [Sem.run_bind, run_isAgg hC hg, Result.andThen_ok]
  cases ha : t.isAgg with
  | true =>
    rw [ha] at hg
    simp only [if_true, Sem.run_bind, run_sizeOf hC (agg_ne hg), Result.andThen_ok, Sem.run_pure, vOf, ha]
    rw [hs, ← h.length]
    congr 2
    apply Array.ext'
    simp
  | false =>
    have h1 := h.leaf ha
    simp only [Bool.false_eq_true, if_false, vOf, ha]
    rw [h1]
    simp [vOf, ha]


theorem fields_ok (hC : CfgOk P C B w0) {f : TypeId → Ty → Bool} {d : Nat} (hf : ∀ T t, f T t = true → ∀ (S : Nat → Prop) (w : World) (x y : t.El) (xs ys : List Value), RdC P t S w x xs → RdC P t S w y ys → ∀ w', (Op.equalIn d T (vOf t xs) (vOf t ys)).run P w' = .ok (t.eqb x y) w') :
    ∀ (fs : List Field) (t : Ty) (off : Nat), fieldsB C f fs t off = true → ∀ (S : Nat → Prop) (w : World) (x y : t.El) (xs ys pre pre' : List Value), pre.length = off → pre'.length = off → RdC P t S w x xs → RdC P t S w y ys →
      ∀ w', (Op.eqFields d (pre ++ xs).toArray (pre' ++ ys).toArray fs).run P w' = .ok (t.eqb x y) w'
  | [], t, off, h, S, w, x, y, xs, ys, pre, pre', h1, h2, hx, hy, w' => by
    cases t with
    | unit => simp [Op.eqFields, Ty.eqb]
    | _ => exact absurd h (by simp [fieldsB])
  | fl :: r, t, off, h, S, w, x, y, xs, ys, pre, pre', h1, h2, hx, hy, w' => by
    cases t with
    | cons t u =>
      simp only [fieldsB, Bool.and_eq_true, decide_eq_true_eq, beq_iff_eq] at h
      obtain ⟨⟨⟨⟨⟨hn, ho⟩, hs⟩, ha⟩, hft⟩, hr⟩ := h
      obtain ⟨c1, c2, rfl, g1, g2⟩ := hx
      obtain ⟨d1, d2, rfl, k1, k2⟩ := hy
      have e1 : (pre ++ (c1 ++ c2)) = (pre ++ c1) ++ c2 := by simp
      have e2 : (pre' ++ (d1 ++ d2)) = (pre' ++ d1) ++ d2 := by simp
      have ih := fields_ok hC hf r u (off + t.size) hr S w x.2 y.2 c2 d2 (pre ++ c1) (pre' ++ d1) (by rw [List.length_append, h1, g1.length]) (by rw [List.length_append, h2, k1.length]) g2 k2 w'
      rw [← e1, ← e2] at ih
      have p1 := part_at hC hs ha g1 (pre := pre) (post := c2) w'
      have p2 := part_at hC hs ha k1 (pre := pre') (post := d2) w'
      rw [h1, ← ho] at p1
      rw [h2, ← ho] at p2
      simp only [Op.eqFields, hn, ne_eq, not_false_eq_true, if_true, Sem.run_bind, p1, p2, Result.andThen_ok, hf fl.type t hft S w x.1 y.1 c1 d1 g1 k1 w']
      simp only [Ty.eqb]
      cases t.eqb x.1 y.1 with
      | true => simpa using ih
      | false => simp
    | _ => exact absurd h (by simp [fieldsB])

theorem bytes_eq (x y : ByteArray) : (x == y) = true ↔ x = y := by
  cases x; cases y
  rename_i x y
  show (x == y) = true ↔ _
  rw [beq_iff_eq]
  constructor
  · rintro rfl; rfl
  · intro h; injection h

theorem arr_ok (hC : CfgOk P C B w0) {f : TypeId → Ty → Bool} {d : Nat} {e : TypeId} (hf : ∀ T t, f T t = true → ∀ (S : Nat → Prop) (w : World) (x y : t.El) (xs ys : List Value), RdC P t S w x xs → RdC P t S w y ys → ∀ w', (Op.equalIn d T (vOf t xs) (vOf t ys)).run P w' = .ok (t.eqb x y) w') :
    ∀ (len : Nat) (t : Ty) (k : Nat), arrB C f e len t = true → ∀ (S : Nat → Prop) (w : World) (x y : t.El) (xs ys pre pre' : List Value), pre.length = k * sizeT C e → pre'.length = k * sizeT C e → RdC P t S w x xs → RdC P t S w y ys →
      ∀ w', (forIn (List.range' k len 1) ((none, ()) : Option Bool × Unit) fun i __s => do
            let __do_lift ← part e (pre ++ xs).toArray (i * sizeT C e)
            let __do_lift_1 ← part e (pre' ++ ys).toArray (i * sizeT C e)
            let __do_lift ← Op.equalIn d e __do_lift __do_lift_1
            if (!__do_lift) = true then pure (ForInStep.done (some false, ())) else pure (ForInStep.yield (none, ()))).run P w' = .ok (cond (t.eqb x y) (none, ()) (some false, ())) w'
  | 0, t, k, h, S, w, x, y, xs, ys, pre, pre', h1, h2, hx, hy, w' => by
    cases t with
    | unit => simp [Ty.eqb]
    | _ => exact absurd h (by simp [arrB])
  | len + 1, t, k, h, S, w, x, y, xs, ys, pre, pre', h1, h2, hx, hy, w' => by
    cases t with
    | cons t u =>
      simp only [arrB, Bool.and_eq_true, decide_eq_true_eq, beq_iff_eq] at h
      obtain ⟨⟨⟨hs, ha⟩, hft⟩, hr⟩ := h
      obtain ⟨c1, c2, rfl, g1, g2⟩ := hx
      obtain ⟨d1, d2, rfl, k1, k2⟩ := hy
      have e1 : (pre ++ (c1 ++ c2)) = (pre ++ c1) ++ c2 := by simp
      have e2 : (pre' ++ (d1 ++ d2)) = (pre' ++ d1) ++ d2 := by simp
      have ih := arr_ok hC hf len u (k + 1) hr S w x.2 y.2 c2 d2 (pre ++ c1) (pre' ++ d1) (by rw [List.length_append, h1, g1.length, Nat.succ_mul, hs]) (by rw [List.length_append, h2, k1.length, Nat.succ_mul, hs]) g2 k2 w'
      rw [← e1, ← e2] at ih
      have p1 := part_at hC hs ha g1 (pre := pre) (post := c2) w'
      have p2 := part_at hC hs ha k1 (pre := pre') (post := d2) w'
      rw [h1] at p1
      rw [h2] at p2
      rw [List.range'_succ]
      simp only [List.forIn_cons, Sem.run_bind, p1, p2, Result.andThen_ok, hf e t hft S w x.1 y.1 c1 d1 g1 k1 w', Ty.eqb]
      by_cases hb : t.eqb x.1 y.1 = true
      · simp only [hb, Bool.not_true, Bool.false_eq_true, if_false, Sem.run_pure, Result.andThen_ok, Bool.true_and]
        exact ih
      · have hb : t.eqb x.1 y.1 = false := by simpa using hb
        simp only [hb, Bool.not_false, if_true, Sem.run_pure, Result.andThen_ok, Bool.false_and, cond_false]
    | _ => exact absurd h (by simp [arrB])

theorem eqB_ok (hC : CfgOk P C B w0) : ∀ (n m : Nat) (T : TypeId) (t : Ty), eqB P C n T t = true → ∀ (S : Nat → Prop) (w : World) (x y : t.El) (xs ys : List Value), RdC P t S w x xs → RdC P t S w y ys → ∀ w', (Op.equalIn (n + m) T (vOf t xs) (vOf t ys)).run P w' = .ok (t.eqb x y) w'
  | 0, m, T, t, h, S, w, x, y, xs, ys, hx, hy, w' => by cases h
  | n + 1, m, T, t, h, S, w, x, y, xs, ys, hx, hy, w' => by
    rw [show n + 1 + m = (n + m) + 1 by omega]
    unfold eqB at h
    split at h
    · rename_i hu
      obtain rfl := (show xs = _ from hx)
      obtain rfl := (show ys = _ from hy)
      simpa [vOf, Ty.isAgg, Ty.eqb] using run_equalIn_bool' w' (n + m) T x y hu
    · rename_i k k' hu
      obtain rfl : k = k' := by simpa using h
      obtain ⟨rfl, _⟩ := hx
      obtain ⟨rfl, _⟩ := hy
      have := run_equalIn_int (P := P) w' (n + m) T k k x y hu
      simp only [vOf, Ty.isAgg, Bool.false_eq_true, if_false, List.headD_cons, this, Ty.eqb]
      congr 1
    · rename_i hu
      obtain ⟨rfl, _⟩ := hx
      obtain ⟨rfl, _⟩ := hy
      have := run_equalIn_string (P := P) w' (n + m) T x y hu
      simp only [vOf, Ty.isAgg, Bool.false_eq_true, if_false, List.headD_cons, this, Ty.eqb, ← beq_toListBytes]
      congr 1
      rw [Bool.eq_iff_iff, decide_eq_true_eq]
      exact bytes_eq x y
    · rename_i t0 fs hu
      simp only [Bool.and_eq_true, Bool.not_eq_true'] at h
      obtain ⟨⟨ha, hst⟩, hfs⟩ := h
      have hfo : P.fieldsOf T = fs := by unfold Program.fieldsOf; rw [hu]
      simp only [vOf, ha, if_true]
      rw [run_equalIn_struct w' (n + m) T _ _ (by rw [hfo]; exact hu) hst, hfo]
      have := fields_ok hC (f := eqB P C n) (d := n + m) (fun T t h => eqB_ok hC n m T t h) fs.toList _ 0 hfs S w x y xs ys [] [] rfl rfl hx hy w'
      simpa using this
    · rename_i t0 len e hu
      simp only [Bool.and_eq_true] at h
      obtain ⟨⟨ha, hse⟩, harr⟩ := h
      obtain ⟨ge, hge⟩ := Option.isSome_iff_exists.1 hse
      simp only [vOf, ha, if_true, Op.equalIn, Sem.run_bind, run_underlying hu, Result.andThen_ok, run_sizeOf hC (agg_ne hge)]
      rw [Std.Legacy.Range.forIn_eq_forIn_range']
      have := arr_ok hC (f := eqB P C n) (d := n + m) (e := e) (fun T t h => eqB_ok hC n m T t h) len _ 0 harr S w x y xs ys [] [] (by simp) (by simp) hx hy w'
      simp only [List.nil_append] at this
      have hsz : ([:len] : Std.Legacy.Range).size = len := by simp [Std.Legacy.Range.size]
      rw [hsz]
      rw [this]
      cases Ty.eqb _ x y <;> simp
    · cases h

end Go.Eng
namespace Go.Eng
open Go.RowKit

variable {P : Program} {C : Cfg} {B : Nat} {w0 : World}

def TI.bare (i : TI) : TI := { i with ty := none }
def Cfg.bare (C : Cfg) : Cfg := { tab := C.tab.map fun p => (p.1, p.2.bare), cons := [], inls := [], loops := [] }

theorem assoc_map {β γ : Type} (f : β → γ) : ∀ (l : List (Nat × β)) (k : Nat), assoc (l.map fun p => (p.1, f p.2)) k = (assoc l k).map f
  | [], _ => rfl
  | (s, b) :: r, k => by
    simp only [List.map_cons, assoc]
    split
    · rfl
    · exact assoc_map f r k
theorem assoc_mem {β : Type} : ∀ {l : List (Nat × β)} {k : Nat} {b : β}, assoc l k = some b → (k, b) ∈ l
  | (s, b') :: r, k, b, h => by
    unfold assoc at h
    split at h
    · rename_i e; subst e; cases h; exact List.mem_cons_self
    · exact List.mem_cons_of_mem _ (assoc_mem h)
theorem assocC_mem : ∀ {l : List (Nat × Contract)} {k : Nat} {b : Contract}, assocC l k = some b → (k, b) ∈ l
  | (s, b') :: r, k, b, h => by
    unfold assocC at h
    split at h
    · rename_i e; subst e; cases h; exact List.mem_cons_self
    · exact List.mem_cons_of_mem _ (assocC_mem h)

theorem bare_ok (hmix : P.follows .mixedOrders = true) (htab : ∀ p ∈ C.tab, rowOk P p) : CfgOk P C.bare B w0 where
  mixed := hmix
  eqs := fun T t h => by
    unfold tyT Cfg.bare at h
    simp only at h
    rw [assoc_map TI.bare] at h
    cases ha : assoc C.tab T with
    | none => rw [ha] at h; cases h
    | some i => rw [ha] at h; cases h
  tab := fun T ti h => by
    unfold Cfg.bare at h
    simp only at h
    rw [assoc_map TI.bare] at h
    cases ha : assoc C.tab T with
    | none => rw [ha] at h; cases h
    | some i =>
      rw [ha] at h
      cases h
      have := htab (T, i) (assoc_mem ha)
      exact this
  cons := fun g c h => by cases h
  inls := fun g fn h => by cases h
  keys := fun T h => by cases h
  mcons := fun g c h => by cases h
  bcons := fun g c h => by cases h
  qcons := fun g c h => by cases h

def eqsB (P : Program) (C : Cfg) : Bool := C.tab.all fun p => match p.2.ty with
  | some t => !(t.isAgg && t.flat) || (eqB P C.bare 20 p.1 t && !P.eqGuardType P.depth p.1)
  | none => true

def keysB (P : Program) (C : Cfg) : Bool := C.keys.all fun T => match tyT C T with
  | some t => keyTB P T t
  | none => true

theorem eqOk_of (hC : CfgOk P C B w0) {T : TypeId} {t : Ty} (ha : t.isAgg = true) (h : eqB P C 20 T t = true) (hg : P.eqGuardType P.depth T = false) : EqOk P T t := by
  intro w S x y xs ys hx hy
  refine ⟨fun op u v => run_eqGuard_agg w op T u v _ _ hg, ?_⟩
  have := eqB_ok hC 20 9980 T t h S w x y xs ys hx hy w
  simp only [vOf, ha, if_true] at this
  exact this

theorem cfgOk_of (hmix : P.follows .mixedOrders = true) (htab : ∀ p ∈ C.tab, rowOk P p) (heq : eqsB P C = true) (hcons : ∀ p ∈ C.cons, Callable P p.1 ∧ ∀ w, Below B w0 w → ValidAt P p.1 p.2 w) (hinls : ∀ p ∈ C.inls, P.funcs[p.1]? = some p.2 ∧ (p.2.name == "runtime.NumGoroutine") = false) (hkeys : keysB P C = true) (hm : ∀ p ∈ C.mcons, Callable P p.1 ∧ ∀ w, Below B w0 w → MValidAt P p.1 p.2 w := by intro p hp; cases hp) (hb : ∀ p ∈ C.bcons, Callable P p.1 ∧ ∀ w, Below B w0 w → BValidAt P p.1 p.2 w := by intro p hp; cases hp) (hq : ∀ p ∈ C.qcons, Callable P p.1 ∧ ∀ w, Below B w0 w → QValidAt P p.1 p.2 w := by intro p hp; cases hp) : CfgOk P C B w0 where
  bcons := fun g c h => hb _ (assoc_mem h)
  qcons := fun g c h => hq _ (assoc_mem h)
  mcons := fun g c h => hm _ (assoc_mem h)
  mixed := hmix
  eqs := fun T t h ha hf => by
    unfold tyT at h
    cases hi : assoc C.tab T with
    | none => rw [hi] at h; cases h
    | some i =>
      rw [hi] at h
      have := List.all_eq_true.1 heq _ (assoc_mem hi)
      simp only at h
      simp only [h, ha, hf, Bool.and_true, Bool.not_true, Bool.false_or, Bool.and_eq_true, Bool.not_eq_true'] at this
      exact eqOk_of (bare_ok (B := B) (w0 := w0) hmix htab) ha this.1 this.2
  tab := fun T ti h => htab _ (assoc_mem h)
  cons := fun g c h => hcons _ (assocC_mem h)
  inls := fun g fn h => hinls _ (assoc_mem h)
  keys := fun T hT t ht => by
    have := List.all_eq_true.1 hkeys T hT
    rw [ht] at this
    exact this

def rowB (P : Program) (p : TypeId × TI) : Bool := match P.info? p.1, P.underlying p.1 with
  | some i, some d => match i.zero with
    | some z => decide (i.size = p.2.size) && decide (i.bytes = p.2.bytes) && decide (z.cells.size = i.size) && shapeOk z p.2.kind && (match d with | .struct fs => fs.toList.all (fun f => (P.info? f.type).isSome) | _ => true)
    | none => false
  | _, _ => false
theorem rowOk_of {p : TypeId × TI} (h : rowB P p = true) (hz : ((P.info? p.1).bind (·.zero)).map (fun z => z.cells.toList) = some p.2.zero) (hk : (P.underlying p.1).map kindOf = some p.2.kind) : rowOk P p := by
  unfold rowB at h
  split at h
  · rename_i i d hi hd
    split at h
    · rename_i z hzr
      simp only [Bool.and_eq_true, decide_eq_true_eq] at h
      obtain ⟨⟨⟨⟨h1, h2⟩, h3⟩, h4⟩, h5⟩ := h
      rw [hi] at hz
      rw [hd] at hk
      simp only [Option.bind_some, hzr, Option.map_some, Option.some.injEq] at hz hk
      refine ⟨i, d, z, hi, hd, h1, h2, hzr, hz, hk, h3, ?_, h4⟩
      rintro fs rfl
      exact h5
    · cases h
  · cases h

end Go.Eng
namespace Go.Eng
open Go.RowKit


def allB : List Cnd → Bool
  | [] => true
  | p :: r => p.b && allB r
theorem allB_out {q : Prop} : ∀ {l : List Cnd}, allB l = true → q → andL l q
  | [], _, h => h
  | p :: r, hb, h => by
    simp only [allB, Bool.and_eq_true] at hb
    exact ⟨⟨p.ok hb.1⟩, allB_out hb.2 h⟩

def isNone {α : Type} : Option α → Bool
  | some _ => false
  | none => true

def execB (C : Cfg) (md : Md) : Nat → Item → St → (Exit → St → Bool) → Bool
  | 0, _, _, _ => false
  | n + 1, .code c, st, K => match c with
    | .skip => K .normal st
    | .seq a b => match cutAnn C md b with
      | some _ => false
      | none => execB C md n (.code a) st fun e st' => match e with
        | .normal => execB C md n (.code b) st' K
        | e => K e st'
    | .cond c a b => match opnd st.env c with
      | .dat .bool x => match x with
        | true => execB C md n (.code a) st K
        | false => execB C md n (.code b) st K
      | _ => false
    | .block id b => execB C md n (.code b) st fun e st' => match e with
      | .exit id' => if id' = id then K .normal st' else K (.exit id') st'
      | e => K e st'
    | .exit id => K (.exit id) st
    | .ret => K .ret st
    | .region _ ops false => execB C md n (.ops ops.toList ops.toList) { st with env := clean st.env } K
    | .region _ ops true => match drawR C ops.toList { st with env := clean st.env } with
      | some (ps, st') => allB ps && K .normal st'
      | none => false
    | .scope b => execB C md n (.code b) st fun e st' => match e with
      | .goto _ => false
      | e => K e st'
    | .label _ => K .normal st
    | .loop b => match loopAnn C md b with
      | some _ => false
      | none => C.unroll && execB C md n (.code b) st fun e st' => match e with
          | .normal => execB C md n (.code (.loop b)) st' K
          | e => K e st'
    | _ => false
  | n + 1, .ops all rest, st, K => match rest with
    | [] => K .normal st
    | o :: rest => putOk st.n o.dst && (match dynOf C st.env o with | some _ => false | none => true) && (match o.guard with
      | none => match o.op with
        | .pick c a b => match pickD st.env c a b id with
          | some d => execB C md n (.ops all rest) { st with env := put st.env o.dst d } K
          | none => false
        | _ => match stepF C (fun x => ungd (opnd st.env x)) st.own st.nxt o false with
          | some r => (decide (r.nxt = st.nxt) || fresh st.own st.nxt) && allB r.side && execB C md n (.ops all rest) ⟨put st.env o.dst r.d, r.own, r.nxt, st.n⟩ K
          | none => match o.op with
            | .call { callee := .value f, args, .. } => match ungd (opnd st.env f) with
              | .fn g caps => match assoc C.mcons g with
                | some _ => false
                | none => match assoc C.inls g with
                | some fn => match fn.body with
                  | some body => (deferOf body).isNone && decide (args.size + caps.length ≤ fn.ntmps) && subMd md (laidMd C g body st.own) && execB C (laidMd C g body st.own) n (.code body) ⟨(List.range (args.size + caps.length)).zip (args.toList.map (fun x => ungd (opnd st.env x)) ++ caps), st.own, st.nxt, fn.ntmps⟩ fun e st' => match e with
                    | .normal | .ret => match retOf C st'.env st'.own fn.results.toList with
                      | some ds => execB C md n (.ops all rest) ⟨put (keepE (laidMd C g body st.own) st.env) o.dst (retD ds), st'.own, st'.nxt, st.n⟩ K
                      | none => false
                    | _ => false
                  | none => false
                | none => false
              | _ => false
            | .binOp .eql T x y _ => match slOf st.own (ungd (opnd st.env x)) with
              | some ⟨_, xs⟩ => (isNil (ungd (opnd st.env y)) && isSl (kindT C T)) && (!xs.isEmpty || execB C md n (.ops all rest) { st with env := put st.env o.dst (.dat .bool true) } K) && execB C md n (.ops all rest) { st with env := put st.env o.dst (.dat .bool false) } K
              | none => false
            | .next x true => match ungd (opnd st.env x) with
              | .own k => match lookO st.own k with
                | .iter s pos => match decide (pos < s.size) with
                  | true => execB C md n (.ops all rest) ⟨put st.env o.dst (nextD s pos), (k, .iter s (nextP s pos)) :: st.own, st.nxt, st.n⟩ K
                  | false => execB C md n (.ops all rest) ⟨put st.env o.dst (.tup [.dat .bool false]), st.own, st.nxt, st.n⟩ K
                | _ => false
              | _ => false
            | _ => false
      | some (j, w) => match (all[j]?).bind (·.dst) with
        | some t => match condB st.env 9 t w with
          | some c => (rest.all (fun o => o.dst != some t) && o.dst != some t) && (if offM st.env st.n t w then execB C md n (.ops all rest) { st with env := put st.env o.dst (.gd t w (.dat .bool false)) } K else match o.op with
            | .pick p a b => match pickD st.env p a b (strip' t w) with
              | some d => execB C md n (.ops all rest) { st with env := put st.env o.dst (.gd t w d) } K
              | none => false
            | _ => match stepF C (fun x => ungd (strip' t w (opnd st.env x))) (frzG C st.env st.own t w o) st.nxt o true with
              | some r => hypNil r.hyp && allB (r.side.map (Cnd.imp c)) && execB C md n (.ops all rest) ⟨put st.env o.dst (.gd t w r.d), frzG C st.env st.own t w o, st.nxt, st.n⟩ K
              | none => match look st.env t with
                | .dat .bool b => match cond w b (!b) with
                  | true => execB C md n (.ops all ({ o with guard := none } :: rest)) { st with env := onE t w st.env } K
                  | false => execB C md n (.ops all rest) { st with env := put (offE st.n t w st.env) o.dst (.gd t w (.dat .bool false)) } K
                | _ => false)
          | none => false
        | none => false)

theorem impL_of {q : Prop} (l : List Prop) (h : q) : impL l q := by
  induction l with
  | nil => exact h
  | cons p r ih => exact fun _ => ih

theorem execB_ok (C : Cfg) : ∀ (n : Nat) (md : Md) (it : Item) (st : St) (KB : Exit → St → Bool) (K : Exit → St → Prop), (∀ e st, KB e st = true → K e st) → execB C md n it st KB = true → exec C md n it st K := by
  intro n
  induction n with
  | zero => intro md it st KB K _ h; unfold execB at h; cases h
  | succ n ih =>
    intro md it st KB K hK h
    cases it with
    | code c =>
      unfold execB at h
      unfold exec
      cases c with
      | skip => exact hK _ _ h
      | ret => exact hK _ _ h
      | exit id => exact hK _ _ h
      | label l => exact hK _ _ h
      | seq a b =>
        simp only at h ⊢
        split
        · rename_i L hL; rw [hL] at h; cases h
        · rename_i hL
          rw [hL] at h
          refine ih md _ _ _ _ (fun e st' h => ?_) h
          cases e with
          | normal => exact ih md _ _ _ _ hK h
          | _ => exact hK _ _ h
      | scope b =>
        refine ih md _ _ _ _ (fun e st' h => ?_) h
        cases e with
        | goto l => cases h
        | _ => exact hK _ _ h
      | block id b =>
        refine ih md _ _ _ _ (fun e st' h => ?_) h
        cases e with
        | exit id' =>
          simp only at h ⊢
          split
          · rename_i e; rw [if_pos e] at h; exact hK _ _ h
          · rename_i e; rw [if_neg e] at h; exact hK _ _ h
        | _ => exact hK _ _ h
      | cond p a b =>
        simp only at h ⊢
        split
        · rename_i x hx
          rw [hx] at h
          simp only at h
          cases x with
          | true => exact ih md _ _ _ _ hK h
          | false => exact ih md _ _ _ _ hK h
        · split at h
          · rename_i hno _ x hx; exact absurd hx (hno x)
          · cases h
      | region id ops draw =>
        cases draw with
        | false => exact ih md _ _ _ _ hK h
        | true =>
          simp only at h ⊢
          split
          · rename_i ps st' hd
            rw [hd] at h
            simp only [Bool.and_eq_true] at h
            exact allB_out h.1 (hK _ _ h.2)
          · rename_i hd; rw [hd] at h; cases h
      | loop b =>
        simp only at h ⊢
        split
        · rename_i L hL; rw [hL] at h; cases h
        · rename_i hL
          rw [hL] at h
          simp only [Bool.and_eq_true] at h
          rw [if_pos h.1]
          refine ih md _ _ _ _ (fun e st' h => ?_) h.2
          cases e with
          | normal => exact ih md _ _ _ _ hK h
          | _ => exact hK _ _ h
      | _ => cases h
    | ops all rest =>
      unfold execB at h
      unfold exec
      cases rest with
      | nil => exact hK _ _ h
      | cons o rest =>
        simp only [Bool.and_eq_true] at h
        obtain ⟨⟨hput, hdy⟩, h⟩ := h
        simp only
        rw [if_pos hput]
        split
        · rename_i hq; rw [hq] at hdy; cases hdy
        split
        · rename_i hgd
          rw [hgd] at h
          simp only at h
          split
          · rename_i p x y hop
            rw [hop] at h
            simp only at h
            split
            · rename_i d hd; rw [hd] at h; exact ih md _ _ _ _ hK h
            · rename_i hd; rw [hd] at h; cases h
          · rename_i hop
            split at h
            · rename_i p x y hop'; exact absurd hop' (hop p x y)
            · split
              · rename_i r hr
                rw [hr] at h
                simp only [Bool.and_eq_true, Bool.or_eq_true, decide_eq_true_eq] at h
                rw [if_pos h.1.1]
                exact allB_out h.1.2 (impL_of _ (ih md _ _ _ _ hK h.2))
              · rename_i hr
                rw [hr] at h
                simp only at h
                split at h
                · rename_i f args ts hcall
                  rw [hcall]
                  simp only
                  split at h
                  · rename_i g caps hl
                    rw [hl]
                    simp only
                    split at h
                    · cases h
                    · rename_i hmc
                      rw [hmc]
                      simp only
                      split at h
                      · rename_i fn hfn
                        rw [hfn]
                        simp only
                        split at h
                        · rename_i body hb
                          rw [hb]
                          simp only [Bool.and_eq_true, decide_eq_true_eq] at h ⊢
                          rw [Option.isNone_iff_eq_none.1 h.1.1.1]
                          simp only
                          rw [if_pos ⟨h.1.1.2, h.1.2⟩]
                          refine ih _ _ _ _ _ (fun e st' h => ?_) h.2
                          have fin : (match retOf C st'.env st'.own fn.results.toList with
                              | some ds => execB C md n (.ops all rest) ⟨put (keepE (laidMd C g body st.own) st.env) o.dst (retD ds), st'.own, st'.nxt, st.n⟩ KB
                              | none => false) = true → (match retOf C st'.env st'.own fn.results.toList with
                              | some ds => exec C md n (.ops all rest) ⟨put (keepE (laidMd C g body st.own) st.env) o.dst (retD ds), st'.own, st'.nxt, st.n⟩ K
                              | none => Fail 11 (o.dst.getD 999)) := by
                            intro h
                            split
                            · rename_i ds hds; rw [hds] at h; exact ih md _ _ _ _ hK h
                            · rename_i hds; rw [hds] at h; cases h
                          cases e with
                          | normal => exact fin h
                          | ret => exact fin h
                          | _ => cases h
                        · cases h
                      · cases h
                  · cases h
                · rename_i T x y ty hb
                  rw [hb]
                  simp only
                  split at h
                  · rename_i t xs hso
                    rw [hso]
                    simp only [Bool.and_eq_true, Bool.or_eq_true] at h ⊢
                    rw [if_pos h.1.1]
                    intro b hb
                    cases b with
                    | false => exact ih md _ _ _ _ hK h.2
                    | true =>
                      have := hb.out rfl
                      rcases h.1.2 with h3 | h3
                      · rw [this] at h3; cases h3
                      · exact ih md _ _ _ _ hK h3
                  · cases h
                · rename_i x hnx
                  rw [hnx]
                  simp only
                  split at h
                  · rename_i k hxk
                    rw [hxk]
                    simp only
                    split at h
                    · rename_i s pos hk
                      rw [hk]
                      simp only
                      cases hd : decide (pos < s.size) with
                      | true => rw [hd] at h; exact ih md _ _ _ _ hK h
                      | false => rw [hd] at h; exact ih md _ _ _ _ hK h
                    · cases h
                  · cases h
                · cases h
        · rename_i j w hgd
          rw [hgd] at h
          simp only at h
          split
          · rename_i t ht
            rw [ht] at h
            simp only at h
            split
            · rename_i c hc
              rw [hc] at h
              simp only [Bool.and_eq_true] at h ⊢
              obtain ⟨hno, h⟩ := h
              rw [if_pos (by simpa using hno)]
              split at h
              · rename_i hoff
                rw [if_pos hoff]
                exact ih md _ _ _ _ hK h
              rename_i hoff
              rw [if_neg hoff]
              split
              · rename_i p x y hop
                rw [hop] at h
                simp only at h
                split
                · rename_i d hd; rw [hd] at h; exact ih md _ _ _ _ hK h
                · rename_i hd; rw [hd] at h; cases h
              · rename_i hop
                split at h
                · rename_i p x y hop'; exact absurd hop' (hop p x y)
                · split
                  · rename_i r hr
                    rw [hr] at h
                    simp only [Bool.and_eq_true] at h
                    exact allB_out h.1.2 (impL_of _ (ih md _ _ _ _ hK h.2))
                  · rename_i hr; rw [hr] at h
                    simp only at h
                    split at h
                    · rename_i b hb
                      rw [hb]
                      simp only
                      split at h
                      · rename_i hc; rw [hc]; exact ih md _ _ _ _ hK h
                      · rename_i hc; rw [hc]; exact ih md _ _ _ _ hK h
                    · cases h
            · rename_i hc; rw [hc] at h; cases h
          · rename_i ht; rw [ht] at h; cases h

def vcB (C : Cfg) (fuel : Nat) (fn : Func) (r : Ty) (y : r.El) : Bool :=
  match fn.body with
  | some body => r.flat && execB C .top fuel (.code body) ⟨[], [], 0, fn.ntmps⟩ fun e st => match e with
      | .ret | .normal => match retOf C st.env st.own fn.results.toList with
        | some ds => fits r ds && (match argsOf (stay (freeze st.own (flats ds))) r ds with
            | some z => r.eqb z y
            | none => false)
        | none => false
      | _ => false
  | none => false

theorem vc_of_B {C : Cfg} {fuel : Nat} {fn : Func} {r : Ty} {y : r.El} (h : vcB C fuel fn r y = true) : vcFn C fuel fn { a := .unit, r := r, pre := fun _ => True, F := fun _ => y } := by
  unfold vcB at h
  unfold vcFn
  split at h
  · rename_i body hb
    rw [hb]
    simp only [Bool.and_eq_true] at h
    obtain ⟨hf, h⟩ := h
    intro x _
    have : (resOf Ty.unit x).length ≤ fn.ntmps := Nat.zero_le _
    simp only
    rw [if_pos this]
    refine execB_ok C _ _ _ _ _ _ (fun e st h => ?_) h
    cases hds : retOf C st.env st.own fn.results.toList with
    | none => cases e <;> simp [hds] at h
    | some ds =>
      have h' : (fits r ds && (match argsOf (stay (freeze st.own (flats ds))) r ds with
            | some z => r.eqb z y
            | none => false)) = true := by cases e <;> simp only [hds] at h <;> first | exact h | cases h
      simp only [Bool.and_eq_true] at h'
      have h2 := h'.2
      cases hz : argsOf (stay (freeze st.own (flats ds))) r ds with
      | none => rw [hz] at h2; cases h2
      | some z =>
        rw [hz] at h2
        have := eqb_eq r hf _ _ h2
        subst this
        cases e <;> simp only [hds] at h ⊢ <;> first | (rw [if_pos h'.1, hz]; simp; done) | cases h
  · cases h
end Go.Eng
namespace Go.Eng
open Go.RowKit

variable {H : Type} {enc : TypeId × Value → H} {P : Program} {w : World} {sp : Nat → Bool} {held : Bool}

def tyFs (rec : TypeId → Ty → Bool) (P : Program) : Nat → List Field → Ty → Bool
  | _, [], .unit => true
  | off, f :: r, .cons t u => f.offset == off && rec f.type t && P.cellsOf f.type == t.size && tyFs rec P (off + t.size) r u
  | _, _, _ => false
def tyAr (rec : TypeId → Ty → Bool) (P : Program) (e : TypeId) : Nat → Ty → Bool
  | 0, .unit => true
  | n + 1, .cons t u => rec e t && P.cellsOf e == t.size && tyAr rec P e n u
  | _, _ => false
def tyB (P : Program) : Nat → TypeId → Ty → Bool
  | 0, _, _ => false
  | n + 1, T, t => match P.underlying T with
    | some (.int k) => match t with
      | .int k' => decide (k = k')
      | _ => false
    | some .bool => match t with
      | .bool => true
      | _ => false
    | some .string => match t with
      | .str => true
      | _ => false
    | some (.slice e) => match t with
      | .sl t => tyB P n e t && P.cellsOf e == t.size && decide (0 < t.size)
      | _ => false
    | some (.pointer e) => match t with
      | .ptr t => tyB P n e t && P.cellsOf e == t.size && decide (0 < t.size)
      | _ => false
    | some (.struct fs) => t.isAgg && P.cellsOf T == t.size && tyFs (tyB P n) P 0 fs.toList t
    | some (.array k e) => t.isAgg && P.cellsOf T == t.size && tyAr (tyB P n) P e k t
    | _ => false

theorem cells_plain {a : Addr} {n : Nat} {cs : List Value} (h : w.cells? 0 a n = some cs) (hn : 0 < n) : ∃ b off, a = ⟨b, off, none⟩ ∧ b < w.heap.size ∧ Lies w b off cs := by
  obtain ⟨_, hl, hc⟩ := World.cells?_some h
  obtain ⟨b, off, spot⟩ := a
  have h0 := hc 0 hn
  have hs : ∃ v, cs[0]? = some v := ⟨cs[0], by simp [hl, hn]⟩
  obtain ⟨v, hv⟩ := hs
  rw [hv] at h0
  have hspot : spot = none := by simpa [Addr.add] using World.cell?_spot h0
  subst hspot
  refine ⟨b, off, rfl, World.block_lt_of_cell? w ⟨b, off, none⟩ (by simpa [Addr.add] using h0), fun j u hj => ?_⟩
  have hj' : j < n := by rw [← hl]; exact (List.getElem?_eq_some_iff.1 hj).1
  rw [← Go.WideShapes.add_plain, hc j hj', hj]

theorem split_at {cs : List Value} {a b : Nat} (h : cs.length = a + b) : cs = cs.take a ++ cs.drop a ∧ (cs.take a).length = a ∧ (cs.drop a).length = b := by
  refine ⟨(List.take_append_drop a cs).symm, by simp; omega, by simp; omega⟩

abbrev Old (w : World) : Nat → Prop := fun b => b < w.heap.size

theorem rd_fields {n : Nat} (hI : ∀ T t, tyB P n T t = true → ∀ fuel cs x, DataW.trod enc P w 0 sp held fuel T cs = some x → ∃ y, RdC P t (Old w) w y cs) :
    ∀ (fs : List Field) (t : Ty) (off m : Nat) (cs : List Value), tyFs (tyB P n) P off fs t = true → off + t.size = cs.length →
      (∀ f ∈ fs, ∃ x, DataW.trod enc P w 0 sp held m f.type ((cs.drop f.offset).take (P.cellsOf f.type)) = some x) → ∃ y, RdC P t (Old w) w y (cs.drop off) := by
  intro fs
  induction fs with
  | nil =>
    intro t off m cs h hl _
    cases t <;> simp [tyFs] at h
    exact ⟨(), by simp [Ty.size] at hl; simp [RdC, hl]⟩
  | cons f r ih =>
    intro t off m cs h hl hx
    cases t <;> simp only [tyFs, Bool.false_eq_true, Bool.and_eq_true, beq_iff_eq] at h
    rename_i t u
    obtain ⟨⟨⟨h1, h2⟩, h3⟩, h4⟩ := h
    subst h1
    obtain ⟨x, hx0⟩ := hx f List.mem_cons_self
    obtain ⟨y, hy⟩ := hI _ _ h2 _ _ _ hx0
    obtain ⟨z, hz⟩ := ih u (f.offset + t.size) m cs h4 (by simp only [Ty.size] at hl; omega) (fun g hg => hx g (List.mem_cons_of_mem _ hg))
    refine ⟨(y, z), _, _, ?_, hy, hz⟩
    rw [h3]
    have := List.take_append_drop t.size (cs.drop f.offset)
    rw [List.drop_drop] at this
    exact this.symm

theorem rd_elems {n : Nat} {e : TypeId} (hI : ∀ T t, tyB P n T t = true → ∀ fuel cs x, DataW.trod enc P w 0 sp held fuel T cs = some x → ∃ y, RdC P t (Old w) w y cs) :
    ∀ (k : Nat) (t : Ty) (i m : Nat) (cs : List Value), tyAr (tyB P n) P e k t = true → i * P.cellsOf e + t.size = cs.length →
      (∀ j, i ≤ j → j < i + k → ∃ x, DataW.trod enc P w 0 sp held m e ((cs.drop (j * P.cellsOf e)).take (P.cellsOf e)) = some x) → ∃ y, RdC P t (Old w) w y (cs.drop (i * P.cellsOf e)) := by
  intro k
  induction k with
  | zero =>
    intro t i m cs h hl _
    cases t <;> simp [tyAr] at h
    exact ⟨(), by simp [Ty.size] at hl; simp [RdC, hl]⟩
  | succ k ih =>
    intro t i m cs h hl hx
    cases t <;> simp only [tyAr, Bool.false_eq_true, Bool.and_eq_true, beq_iff_eq] at h
    rename_i t u
    obtain ⟨⟨h2, h3⟩, h4⟩ := h
    obtain ⟨x, hx0⟩ := hx i (Nat.le_refl _) (by omega)
    obtain ⟨y, hy⟩ := hI _ _ h2 _ _ _ hx0
    have e1 : (i + 1) * P.cellsOf e = i * P.cellsOf e + t.size := by rw [Nat.add_mul, h3]; omega
    obtain ⟨z, hz⟩ := ih u (i + 1) m cs h4 (by simp only [Ty.size] at hl; omega) (fun j h1 h2 => hx j (by omega) (by omega))
    refine ⟨(y, z), _, _, ?_, hy, hz⟩
    rw [e1, ← List.drop_drop, h3]
    exact (List.take_append_drop _ _).symm

theorem wrap_of_wf {k : IntKind} {n : Int} (h : (Lit.int k n).wf = true) : k.wrap n = n := by
  have h' : k.min ≤ n ∧ n ≤ k.max := by simpa [Lit.wf] using h
  cases k <;> simp [IntKind.min, IntKind.max, IntKind.signed, IntKind.bits] at h' <;> simp [IntKind.wrap, IntKind.signed, IntKind.bits] <;> (try split) <;> omega

theorem lies_at {b b' k k' : Nat} {es : List Value} (h : b = b') (h' : k = k') (hl : Lies w b' k' es) : Lies w b k es := by subst h; subst h'; exact hl

theorem rd_of_trod : ∀ (n : Nat) (T : TypeId) (t : Ty), tyB P n T t = true → ∀ (fuel : Nat) (cs : List Value) (x : DataW H × List MemPlace), DataW.trod enc P w 0 sp held fuel T cs = some x → ∃ y, RdC P t (Old w) w y cs
  | 0, _, _, h, _, _, _, _ => by cases h
  | n + 1, T, t, h, fuel, cs, x, hx => by
    have hI := rd_of_trod n
    unfold tyB at h
    cases hu : P.underlying T with
    | none => rw [hu] at h; cases h
    | some d =>
      rw [hu] at h
      cases d <;> simp only [Bool.false_eq_true] at h
      case bool =>
        cases t <;> simp only [Bool.false_eq_true] at h
        obtain ⟨b, rfl, _⟩ := DataW.trod_bool hu hx
        exact ⟨b, rfl⟩
      case int k =>
        cases t <;> simp only [Bool.false_eq_true, decide_eq_true_eq] at h
        subst h
        obtain ⟨m, rfl, _, hw⟩ := DataW.trod_int hu hx
        exact ⟨m, rfl, wrap_of_wf hw⟩
      case string =>
        cases t <;> simp only [Bool.false_eq_true] at h
        obtain ⟨s, rfl, _, hs⟩ := DataW.trod_string hu hx
        exact ⟨s, rfl, hs⟩
      case pointer e =>
        cases t <;> simp only [Bool.false_eq_true, Bool.and_eq_true, beq_iff_eq, decide_eq_true_eq] at h
        rename_i t
        obtain ⟨⟨h1, h2⟩, h3⟩ := h
        rcases DataW.trod_pointer hu hx with ⟨rfl, _⟩ | ⟨a, cs', y, m, _, rfl, _, hc, hy⟩
        · exact ⟨(none : Option t.El), rfl⟩
        · obtain ⟨z, hz⟩ := hI e t h1 _ _ _ hy
          obtain ⟨b, off, rfl, hb, hl⟩ := cells_plain hc (by omega)
          exact ⟨(some z : Option t.El), b, off, cs', rfl, hb, hz, hl⟩
      case slice e =>
        cases t <;> simp only [Bool.false_eq_true, Bool.and_eq_true, beq_iff_eq, decide_eq_true_eq] at h
        rename_i t
        obtain ⟨⟨h1, h2⟩, h3⟩ := h
        rcases DataW.trod_slice hu hx with ⟨rfl, _⟩ | ⟨a, len, cap, elems, rest, m, _, rfl, _, _, hlc, hcm, hel, hall, _⟩
        · exact ⟨([] : List t.El), none, 0, rfl, Nat.le_refl _, by unfold maxLen; omega, fun h => absurd rfl h⟩
        · have each : ∀ i, i < len → ∃ b off es y, a.add (i * P.cellsOf e) = ⟨b, off, none⟩ ∧ b < w.heap.size ∧ Lies w b off es ∧ RdC P t (Old w) w y es := by
            intro i hi
            have hh := hall i hi
            have : ∃ z, elems[i]? = some z := ⟨elems[i], by simp [hel, hi]⟩
            obtain ⟨z, hz⟩ := this
            rw [hz, Option.bind_eq_some_iff] at hh
            obtain ⟨es, hes, htr⟩ := hh
            obtain ⟨y, hy⟩ := hI e t h1 _ _ _ htr
            obtain ⟨b, off, e1, hb, hl⟩ := cells_plain hes (by omega)
            exact ⟨b, off, es, y, e1, hb, hl, hy⟩
          classical
          let f : Nat → t.El := fun i => if hi : i < len then Classical.choose (Classical.choose_spec (Classical.choose_spec (Classical.choose_spec (each i hi)))) else t.zero
          refine ⟨((List.range len).map f : List t.El), some a, cap, by simp, by simpa using hlc, hcm, fun hne => ?_⟩
          have hlen : 0 < len := by
            rcases Nat.eq_zero_or_pos len with h0 | h0
            · subst h0; exact absurd rfl hne
            · exact h0
          obtain ⟨b, off, _, _, e0, hb, _, _⟩ := each 0 hlen
          have ea : a = ⟨b, off, none⟩ := by simpa [Addr.add] using e0
          subst ea
          refine ⟨b, off, rfl, hb, fun i x hi => ?_⟩
          rw [List.getElem?_map] at hi
          have hil : i < len := by
            rcases Nat.lt_or_ge i len with h' | h'
            · exact h'
            · rw [List.getElem?_eq_none (by simpa using h')] at hi; cases hi
          rw [List.getElem?_range hil] at hi
          obtain rfl := Option.some.inj hi
          have hs := Classical.choose_spec (each i hil)
          have hs2 := Classical.choose_spec hs
          have hs3 := Classical.choose_spec hs2
          have hs4 := Classical.choose_spec hs3
          refine ⟨Classical.choose hs2, ?_, ?_⟩
          · simp only [f, hil, dif_pos]
            exact hs4.2.2.2
          · have this : (⟨b, off + i * P.cellsOf e, none⟩ : Addr) = ⟨Classical.choose (each i hil), Classical.choose hs, none⟩ := (Go.WideShapes.add_plain b off (i * P.cellsOf e)).symm.trans hs4.1
            have e1 : b = Classical.choose (each i hil) := congrArg Addr.block this
            have e2 : off + i * P.cellsOf e = Classical.choose hs := congrArg Addr.off this
            rw [← h2]
            exact lies_at e1 e2 hs4.2.2.1
      case struct fs =>
        simp only [Bool.and_eq_true, beq_iff_eq] at h
        obtain ⟨⟨_, h2⟩, h3⟩ := h
        obtain ⟨xs, m, _, _, hl, hxl, hf⟩ := DataW.trod_struct hu hx
        have := rd_fields (P := P) (w := w) (enc := enc) (sp := sp) (held := held) hI fs.toList t 0 m cs h3 (by rw [hl, h2]; omega) (fun f hfm => by
          obtain ⟨i, hi, rfl⟩ := List.getElem_of_mem hfm
          have hi' : i < fs.size := by simpa using hi
          refine ⟨xs[i]'(by rw [hxl]; exact hi'), ?_⟩
          rw [hf i _ (by simp [hi'])]
          simp [hxl, hi'])
        simpa using this
      case array k e =>
        simp only [Bool.and_eq_true, beq_iff_eq] at h
        obtain ⟨⟨_, h2⟩, h3⟩ := h
        obtain ⟨xs, m, _, _, hl, hxl, hf⟩ := DataW.trod_array hu hx
        have := rd_elems (P := P) (w := w) (enc := enc) (sp := sp) (held := held) hI k t 0 m cs h3 (by rw [hl, h2]; omega) (fun j _ hj => by
          refine ⟨xs[j]'(by omega), ?_⟩
          rw [hf j (by omega)]
          simp [show j < xs.length by omega])
        simpa using this

theorem tyB_agg {n : Nat} {T : TypeId} {t : Ty} (h : tyB P n T t = true) {r : Reach} {base : Nat} {v : Value} (hv : Value.okWide P w r base T v) : v = vOf t v.cells.toList := by
  cases n with
  | zero => cases h
  | succ n =>
    unfold tyB at h
    unfold Value.okWide at hv
    cases hu : P.underlying T with
    | none => rw [hu] at h; cases h
    | some d =>
      rw [hu] at h hv
      cases d <;> simp only [Bool.false_eq_true] at h
      case struct fs =>
        simp only [Bool.and_eq_true] at h
        obtain ⟨cs, rfl, _⟩ := hv
        simp [vOf, h.1.1, Value.cells]
      case array k e =>
        simp only [Bool.and_eq_true] at h
        obtain ⟨cs, rfl, _⟩ := hv
        simp [vOf, h.1.1, Value.cells]
      all_goals
        cases t <;> simp only [Bool.false_eq_true] at h
        simp only [Cell.okWide, Cell.ok, hu] at hv
        cases v <;> first | (simp at hv; done) | rfl

def tysB (P : Program) : List TypeId → Ty → Bool
  | [], .unit => true
  | T :: r, .cons t u => tyB P 60 T t && tysB P r u
  | _, _ => false

theorem rd_of_all {r : Reach} {base : Nat} : ∀ (ts : List TypeId) (a : Ty) (vs : List Value) (ds : List (DataW H)) (ps : List MemPlace), tysB P ts a = true → (∀ (j : Nat) t v, ts[j]? = some t → vs[j]? = some v → Value.okWide P w r base t v) →
    DataW.TrodAll enc P w 0 sp held ts vs ds ps → ∃ x cs, RdC P a (Old w) w x cs ∧ group a cs = vs
  | [], a, vs, ds, ps, h, _, ht => by
    cases a <;> simp [tysB] at h
    obtain ⟨rfl, _, _⟩ := Go.ChangeShapes.trodAll_nil ht
    exact ⟨(), [], rfl, rfl⟩
  | T :: ts, a, vs, ds, ps, h, hv, ht => by
    cases a <;> simp only [tysB, Bool.false_eq_true, Bool.and_eq_true] at h
    rename_i t u
    obtain ⟨v, vs', d, ds', p, q, rfl, rfl, rfl, h0, hr⟩ := Go.ChangeShapes.trodAll_cons ht
    obtain ⟨fuel, hf⟩ := h0
    obtain ⟨y, hy⟩ := rd_of_trod _ T t h.1 fuel _ _ hf
    obtain ⟨z, cs, hz, hg⟩ := rd_of_all ts u vs' ds' q h.2 (fun j t v h1 h2 => hv (j + 1) t v h1 h2) hr
    have e := tyB_agg h.1 (hv 0 T v rfl rfl)
    refine ⟨(y, z), v.cells.toList ++ cs, ⟨_, _, rfl, hy, hz⟩, ?_⟩
    have hl := hy.length
    simp only [group]
    rw [← hl, List.take_left, List.drop_left, ← e, hg]

theorem law_walk {g : FuncId} {a : Ty} {pre : a.El → Prop} {F : a.El → (Ty.cons .bool .unit).El} {preB : a.El → Bool} {preOk : ∀ x, preB x = true → pre x} {W : World} {r : Reach} {base : Nat} {ts : List TypeId} {args : Array Value} {ds : List (DataW H)} {ps : List MemPlace}
    {G : World → Prop} (hG : G W) (hv : Valid P G g ⟨a, .cons .bool .unit, pre, F, preB, preOk, none, false⟩)
    (hpre : ∀ x, pre x) (hF : ∀ x, F x = (true, ())) (ht : tysB P ts a = true) (hval : ∀ (j : Nat) t v, ts[j]? = some t → args[j]? = some v → Value.okWide P W r base t v)
    (hA : DataW.TrodAll enc P W 0 sp held ts args.toList ds ps) : Calls P g args W fun e W' => e = .returned (.bool true) ∧ Below W.heap.size W W' := by
  obtain ⟨x, cs, hx, hg⟩ := rd_of_all ts a args.toList ds ps ht (fun j t v h1 h2 => hval j t v h1 (by simpa using h2)) hA
  have hw := hv.2 W hG (Old W) x cs (fun b hb => hb) hx (hpre x)
  simp only [hg] at hw
  refine hw.mono fun e W' ⟨hb, h⟩ => ⟨?_, hb⟩
  obtain ⟨rs, he, hrs, _⟩ := h
  simp only [hF] at hrs
  obtain ⟨c1, c2, rfl, h1, h2⟩ := hrs
  obtain rfl : c1 = [.bool true] := h1
  obtain rfl : c2 = [] := h2
  exact he
end Go.Eng
namespace Go.Eng

theorem Wr_iff (p : Prop) : Wr p ↔ p := ⟨fun h => h.out, fun h => ⟨h⟩⟩
theorem wrap_id {n : Int} (h1 : -9223372036854775808 ≤ n) (h2 : n ≤ 9223372036854775807) : IntKind.wrap IntKind.i64 n = n := by
  simp [IntKind.wrap, IntKind.signed, IntKind.bits]; omega
theorem drop_cons {α : Type} (m : List α) (i : Int) (z : α) (h0 : 0 ≤ i) (h : i < m.length) : m.drop i.toNat = m.getD i.toNat z :: m.drop (i + 1).toNat := by
  have h' : i.toNat < m.length := by omega
  rw [List.drop_eq_getElem_cons h']
  have e : (i + 1).toNat = i.toNat + 1 := by omega
  rw [e, List.getD_eq_getElem?_getD]
  simp [h']
theorem take_succ {α : Type} (m : List α) (i : Int) (z : α) (h0 : 0 ≤ i) (h : i < m.length) : m.take (i + 1).toNat = m.take i.toNat ++ [m.getD i.toNat z] := by
  have h' : i.toNat < m.length := by omega
  have e : (i + 1).toNat = i.toNat + 1 := by omega
  rw [e, List.take_succ_eq_append_getElem h', List.getD_eq_getElem?_getD]
  simp [h']
def cClone (e : TypeId) (bytes : Nat) (t : Ty) : Contract := { a := .cons (.sl t) .unit, r := .cons (.sl t) .unit, pre := fun x => decide (List.length (α := t.El) x.1 * bytes ≤ 140737488355328) = true, F := fun x => x, preB := fun x => decide (List.length (α := t.El) x.1 * bytes ≤ 140737488355328), preOk := fun _ h => h, fresh := some e }
def cClip (t : Ty) : Contract := { a := .cons (.sl t) .unit, r := .cons (.sl t) .unit, pre := fun _ => True, F := fun x => x, preB := fun _ => true, preOk := fun _ _ => trivial, clip := true }
theorem allV_nil {P : Program} {G : World → Prop} : ∀ p ∈ ([] : List (FuncId × Contract)), Valid P G p.1 p.2 := fun p hp => by cases hp
theorem allV_cons {P : Program} {G : World → Prop} {g : FuncId} {c : Contract} {r : List (FuncId × Contract)} (h : Valid P G g c) (t : ∀ p ∈ r, Valid P G p.1 p.2) : ∀ p ∈ (g, c) :: r, Valid P G p.1 p.2 := fun p hp => by
  rcases List.mem_cons.1 hp with rfl | hp
  · exact h
  · exact t p hp
theorem allI_nil {P : Program} : ∀ p ∈ ([] : List (FuncId × Func)), P.funcs[p.1]? = some p.2 ∧ (p.2.name == "runtime.NumGoroutine") = false := fun p hp => by cases hp
theorem allI_cons {P : Program} {g : FuncId} {f : Func} {r : List (FuncId × Func)} (h : P.funcs[g]? = some f) (hn : (f.name == "runtime.NumGoroutine") = false) (t : ∀ p ∈ r, P.funcs[p.1]? = some p.2 ∧ (p.2.name == "runtime.NumGoroutine") = false) :
    ∀ p ∈ (g, f) :: r, P.funcs[p.1]? = some p.2 ∧ (p.2.name == "runtime.NumGoroutine") = false := fun p hp => by
  rcases List.mem_cons.1 hp with rfl | hp
  · exact ⟨h, hn⟩
  · exact t p hp
structure Vc (C : Cfg) (fuel : Nat) (fn : Func) (con : Contract) : Prop where
  out : vcFn C fuel fn con
theorem Vc.ofB {C : Cfg} {fuel : Nat} {fn : Func} {r : Ty} {y : r.El} (h : vcB C fuel fn r y = true) : Vc C fuel fn { a := .unit, r := r, pre := fun _ => True, F := fun _ => y } := ⟨vc_of_B h⟩
theorem mkValid {P : Program} {G : World → Prop} (hG : ∀ w w', Go.RowKit.Below w.heap.size w w' → G w → G w') {tab : List (TypeId × TI)} (hmix : P.follows .mixedOrders = true) (htab : ∀ p ∈ tab, rowOk P p) (heq : eqsB P { tab, cons := [], inls := [], loops := [] } = true)
    {cons : List (FuncId × Contract)} {inls : List (FuncId × Func)} {loops cuts : List (Nat × LoopAnn)} {unroll : Bool} {arrs : List Nat} (C : Cfg) (hC : C = { tab, cons, inls, loops, cuts, unroll, arrs })
    (hcons : ∀ p ∈ cons, Valid P G p.1 p.2) (hinls : ∀ p ∈ inls, P.funcs[p.1]? = some p.2 ∧ (p.2.name == "runtime.NumGoroutine") = false)
    {g : FuncId} {fn : Func} {con : Contract} {fuel : Nat} (hf : P.funcs[g]? = some fn) (hname : (fn.name == "runtime.NumGoroutine") = false) (h : Vc C fuel fn con) : Valid P G g con := by
  subst hC
  exact valid_of_vc (fun w hw => cfgOk_of (C := { tab, cons, inls, loops, cuts, unroll, arrs }) hmix htab heq (fun p hp => ⟨(hcons p hp).1, fun w' hb => (hcons p hp).2 w' (hG w w' hb hw)⟩) hinls rfl) hf hname h.out
theorem mkValidK {P : Program} {G : World → Prop} (hG : ∀ w w', Go.RowKit.Below w.heap.size w w' → G w → G w') {tab : List (TypeId × TI)} (hmix : P.follows .mixedOrders = true) (htab : ∀ p ∈ tab, rowOk P p) (heq : eqsB P { tab, cons := [], inls := [], loops := [] } = true)
    {cons : List (FuncId × Contract)} {inls : List (FuncId × Func)} {loops cuts : List (Nat × LoopAnn)} {unroll : Bool} {arrs : List Nat} {keys : List TypeId} (hkeys : keysB P { tab, cons := [], inls := [], loops := [], keys } = true) (C : Cfg) (hC : C = { tab, cons, inls, loops, cuts, unroll, arrs, keys })
    (hcons : ∀ p ∈ cons, Valid P G p.1 p.2) (hinls : ∀ p ∈ inls, P.funcs[p.1]? = some p.2 ∧ (p.2.name == "runtime.NumGoroutine") = false)
    {g : FuncId} {fn : Func} {con : Contract} {fuel : Nat} (hf : P.funcs[g]? = some fn) (hname : (fn.name == "runtime.NumGoroutine") = false) (h : Vc C fuel fn con) : Valid P G g con := by
  subst hC
  exact valid_of_vc (fun w hw => cfgOk_of (C := { tab, cons, inls, loops, cuts, unroll, arrs, keys }) hmix htab heq (fun p hp => ⟨(hcons p hp).1, fun w' hb => (hcons p hp).2 w' (hG w w' hb hw)⟩) hinls hkeys) hf hname h.out
theorem mkValidM {P : Program} {G : World → Prop} (hG : ∀ w w', Go.RowKit.Below w.heap.size w w' → G w → G w') {tab : List (TypeId × TI)} (hmix : P.follows .mixedOrders = true) (htab : ∀ p ∈ tab, rowOk P p) (heq : eqsB P { tab, cons := [], inls := [], loops := [] } = true)
    {cons : List (FuncId × Contract)} {inls : List (FuncId × Func)} {loops cuts : List (Nat × LoopAnn)} {unroll : Bool} {arrs : List Nat} {keys : List TypeId} {mcons : List (FuncId × MCon)} (hkeys : keysB P { tab, cons := [], inls := [], loops := [], keys } = true) (C : Cfg) (hC : C = { tab, cons, inls, loops, cuts, unroll, arrs, keys, mcons })
    (hm : ∀ p ∈ mcons, MValid P G p.1 p.2)
    (hcons : ∀ p ∈ cons, Valid P G p.1 p.2) (hinls : ∀ p ∈ inls, P.funcs[p.1]? = some p.2 ∧ (p.2.name == "runtime.NumGoroutine") = false)
    {g : FuncId} {fn : Func} {con : Contract} {fuel : Nat} (hf : P.funcs[g]? = some fn) (hname : (fn.name == "runtime.NumGoroutine") = false) (h : Vc C fuel fn con) : Valid P G g con := by
  subst hC
  exact valid_of_vc (fun w hw => cfgOk_of (C := { tab, cons, inls, loops, cuts, unroll, arrs, keys, mcons }) hmix htab heq (fun p hp => ⟨(hcons p hp).1, fun w' hb => (hcons p hp).2 w' (hG w w' hb hw)⟩) hinls hkeys (fun p hp => ⟨(hm p hp).1, fun w' hb => (hm p hp).2 w' (hG w w' hb hw)⟩)) hf hname h.out
theorem allM_nil {P : Program} {G : World → Prop} : ∀ p ∈ ([] : List (FuncId × MCon)), MValid P G p.1 p.2 := fun p hp => by cases hp
theorem allM_cons {P : Program} {G : World → Prop} {g : FuncId} {c : MCon} {r : List (FuncId × MCon)} (h : MValid P G g c) (t : ∀ p ∈ r, MValid P G p.1 p.2) : ∀ p ∈ (g, c) :: r, MValid P G p.1 p.2 := fun p hp => by
  rcases List.mem_cons.1 hp with rfl | hp
  · exact h
  · exact t p hp
end Go.Eng
namespace Go.Eng
open Go.RowKit
def typedB : (t : Ty) → t.El → Bool
  | .int k, (n : Int) => decide (k.wrap n = n)
  | .bool, _ => true
  | .str, (s : ByteArray) => decide (s.size ≤ maxLen)
  | .unit, _ => true
  | .cons t u, x => typedB t x.1 && typedB u x.2
  | .sl t, (xs : List t.El) => decide (xs.length ≤ maxLen) && xs.all (typedB t)
  | .ptr _, _ => true
  | .fn _ _, _ => true
  | .err, _ => true
  | .fp, _ => true
theorem typed_of_rd {P : Program} : ∀ (t : Ty) {S : Nat → Prop} {w : World} {x : t.El} {cs : List Value}, RdC P t S w x cs → typedB t x = true
  | .int _, _, _, _, _, h => by simp only [typedB, decide_eq_true_eq]; exact h.2
  | .bool, _, _, _, _, _ => rfl
  | .str, _, _, _, _, h => by simp only [typedB, decide_eq_true_eq]; exact h.2
  | .unit, _, _, _, _, _ => rfl
  | .cons t u, _, _, _, _, h => by
    obtain ⟨c1, c2, _, h1, h2⟩ := h
    simp only [typedB, Bool.and_eq_true]
    exact ⟨typed_of_rd t h1, typed_of_rd u h2⟩
  | .sl t, _, _, xs, _, h => by
    obtain ⟨base, cap, _, h1, h2, h3⟩ := h
    simp only [typedB, Bool.and_eq_true, decide_eq_true_eq, List.all_eq_true]
    refine ⟨Nat.le_trans h1 h2, fun x hx => ?_⟩
    have hne : xs ≠ [] := by intro e; rw [e] at hx; cases hx
    obtain ⟨b, off, _, _, h4⟩ := h3 hne
    obtain ⟨i, hi⟩ := List.getElem?_of_mem hx
    obtain ⟨es, h5, _⟩ := h4 i x hi
    exact typed_of_rd t h5
  | .ptr _, _, _, _, _, _ => rfl
  | .fn _ _, _, _, _, _, _ => rfl
  | .err, _, _, _, _, _ => rfl
  | .fp, _, _, _, _, _ => rfl
theorem T_ok (c : Contract) (x : c.a.El) (h : (typedB c.a x && c.preB x) = true) : typedB c.a x = true ∧ c.pre x := by
  simp only [Bool.and_eq_true] at h
  exact ⟨h.1, c.preOk x h.2⟩
def Contract.T (c : Contract) : Contract := { c with pre := fun x => typedB c.a x = true ∧ c.pre x, preB := fun x => typedB c.a x && c.preB x, preOk := T_ok c }
theorem Valid.T {P : Program} {G : World → Prop} {g : FuncId} {c : Contract} (h : Valid P G g c.T) : Valid P G g c :=
  ⟨h.1, fun w hG S x cs hS hx hp => h.2 w hG S x cs hS hx ⟨typed_of_rd c.a hx, hp⟩⟩
end Go.Eng

/-
  A text of mine, of several parts: ZdP3, ZdP4, Zd2V, ZdShelf2, ZdDef7, ZdP15, Zd7Cfg, Zd7Vc, ZdP16, ZdP17, ZdP18, ZdP19, Zd7V, ZdDef8, Zd8Cfg.
-/
import Derived.Test.YtfhlceooobabcaaGreatDoorZaa
import Derived.Test.YtfhlceooobabcaaGreatDoorZab
import Derived.Test.YtfhlceooobabcaaGreatDoorZac
import Derived.Test.YtfhlceooobabcaaGreatDoorZad
import Derived.Shelf.Strings.OnBuilder
import Derived.Shelf.Spec.TrailingZeros
import Derived.Shelf.Strings.SplitShaped
import Derived.Shelf.Strings.Split
import Derived.Shelf.Strings.Prefix
import Derived.Shelf.Strings.LastIndex
import Derived.Shelf.Strings.BuilderRune
import Derived.Shelf.Strconv.ErrVarAll
import Derived.Shelf.Strconv.AtoiAll
import Derived.Shelf.Strconv.Itoa3
import Derived.Test.YtfhlceooobabcaaGreatDoorProg
import Derived.Lib.IndexMore
import Derived.Lib.Join
import Derived.WalkSmall
import Derived.Lib.SmallJoins
import Derived.Lib.AppendIntMem
set_option linter.all false
set_option linter.all false
namespace Go.Proofs.YtfhlceooobabcaaGreatDoor.Wd
open Go Go.Eng Go.Lb Go.Ad
set_option maxRecDepth 100000
set_option maxHeartbeats 4000000

theorem v49 : Vc g49 300 Tryz.f49 (cClip DialT) := by
  constructor
  rw [v49_eq]
  simp only [Wr_iff, bcase_iff, true_and, and_true, decide_eq_true_eq, decide_eq_false_iff_not, Bool.and_eq_true, Bool.and_eq_false_iff, Bool.or_eq_true, Bool.or_eq_false_iff, Bool.not_eq_true', Bool.not_eq_false', Option.map_some, Option.getD_some, Option.isSome_some, Option.isSome_map, imp_self, nilL, noneO]
  intro x _
  refine ⟨by omega, by omega, by omega, ?_⟩
  simp
theorem v101 : Vc g101 300 Tryz.f101 (cClip SockT) := by
  constructor
  rw [v101_eq]
  simp only [Wr_iff, bcase_iff, true_and, and_true, decide_eq_true_eq, decide_eq_false_iff_not, Bool.and_eq_true, Bool.and_eq_false_iff, Bool.or_eq_true, Bool.or_eq_false_iff, Bool.not_eq_true', Bool.not_eq_false', Option.map_some, Option.getD_some, Option.isSome_some, Option.isSome_map, imp_self, nilL, noneO]
  intro x _
  refine ⟨by omega, by omega, by omega, ?_⟩
  simp
theorem v102 : Vc g102 300 Tryz.f102 (cClip MarkT) := by
  constructor
  rw [v102_eq]
  simp only [Wr_iff, bcase_iff, true_and, and_true, decide_eq_true_eq, decide_eq_false_iff_not, Bool.and_eq_true, Bool.and_eq_false_iff, Bool.or_eq_true, Bool.or_eq_false_iff, Bool.not_eq_true', Bool.not_eq_false', Option.map_some, Option.getD_some, Option.isSome_some, Option.isSome_map, imp_self, nilL, noneO]
  intro x _
  refine ⟨by omega, by omega, by omega, ?_⟩
  simp
theorem v99 : Vc g99 300 Tryz.f99 (cClone 96 48 DialT) := by
  constructor
  rw [v99_eq]
  simp only [Wr_iff, bcase_iff, true_and, and_true, decide_eq_true_eq, decide_eq_false_iff_not, Bool.and_eq_true, Bool.and_eq_false_iff, Bool.or_eq_true, Bool.or_eq_false_iff, Bool.not_eq_true', Bool.not_eq_false', Option.map_some, Option.getD_some, Option.isSome_some, Option.isSome_map, imp_self, nilL, noneO]
  intro x hx b hb
  exact ⟨hb, fun _ => ⟨by simp; omega, rfl⟩⟩
theorem check_0 (p : Pl) : check p = 0 ↔ checkB p = true := by
  unfold check
  cases checkB p <;> simp
theorem v10 : Vc g10 300 Tryz.f10 cNew := by
  constructor
  rw [v10_eq]
  simp only [Wr_iff, bcase_iff, true_and, and_true, decide_eq_true_eq, decide_eq_false_iff_not, Bool.and_eq_true, Bool.and_eq_false_iff, Bool.or_eq_true, Bool.or_eq_false_iff, Bool.not_eq_true', Bool.not_eq_false', Option.map_some, Option.getD_some, Option.isSome_some, Option.isSome_map, imp_self, nilL, noneO]
  intro x _
  generalize x.fst = p
  refine ⟨fun h => ?_, fun h => ?_⟩
  · rw [newW, (check_0 p).1 h]; rfl
  · have : checkB p = false := by
      cases hb : checkB p with
      | false => rfl
      | true => exact absurd ((check_0 p).2 hb) h
    rw [newW, this]; rfl
theorem okW_iff (w : Wd) : okW w = true ↔ w.2.2.2.1.length ≤ 1000000 ∧ w.2.2.1.length ≤ 1000000 ∧ w.2.2.2.2.2.2.1.length ≤ 1000000 ∧ okP w.1 = true := by
  simp only [okW, okD, Bool.and_eq_true, decide_eq_true_eq]
theorem v56 : Vc g56 300 Tryz.f56 cOpen := by
  constructor
  rw [v56_eq]
  simp only [Wr_iff, bcase_iff, true_and, and_true, decide_eq_true_eq, decide_eq_false_iff_not, Bool.and_eq_true, Bool.and_eq_false_iff, Bool.or_eq_true, Bool.or_eq_false_iff, Bool.not_eq_true', Bool.not_eq_false', Option.map_some, Option.getD_some, Option.isSome_some, Option.isSome_map, imp_self, nilL, noneO]
  intro x
  generalize x.fst = l
  generalize x.snd.fst = m
  intro hx
  simp only [okSM, Bool.and_eq_true, decide_eq_true_eq] at hx
  simp only [List.length_cons, List.length_nil]
  refine ⟨by omega, by omega, by omega, by omega, ?_⟩
  rfl
/-! the place of the first one -/
theorem IdxI.idx {α : Type} {p : α → Bool} {l : List α} {i : Int} (z : α) (hi : IdxI p l i) (h : i < l.length) (hq : p (l.getD i.toNat z) = true) : i = idxZ p l := by
  have h0 := hi.i0
  unfold idxZ
  rw [hi.hit (z := z) h hq]
  simp only [cond_true]
  have hs := split_at z h0 h
  have hn : (l.take i.toNat).findIdx p = (l.take i.toNat).length := by
    rw [List.findIdx_eq_length]
    intro x hx
    have := hi.a
    rw [List.any_eq_false] at this
    simpa using this x hx
  have hlen : (l.take i.toNat).length = i.toNat := by rw [List.length_take]; omega
  generalize l.getD i.toNat z = y at hs hq
  rw [hs, List.findIdx_append, if_neg (by omega), List.findIdx_cons, hq]
  simp only [cond_true]
  omega
theorem idx_no {α : Type} {p : α → Bool} {l : List α} (h : l.any p = false) : -1 = idxZ p l := by
  unfold idxZ; rw [h]; rfl
theorem idx_lt {α : Type} {p : α → Bool} {l : List α} (h : 0 ≤ idxZ p l) : idxZ p l < l.length := by
  unfold idxZ at h ⊢
  cases ha : l.any p with
  | false => rw [ha] at h; simp at h
  | true =>
    simp only [cond_true]
    have := List.findIdx_lt_length.2 (List.any_eq_true.1 ha)
    omega
theorem okG_some {w : Wd} (h : okG (some (w, ())) = true) : okW w = true := by
  simpa [okG, glW] using h
theorem v46 : Vc g46 300 Tryz.f46 cDialP := by
  constructor
  rw [v46_eq]
  rintro ⟨o, b, ⟨⟩⟩
  cases o with
  | none => intro h; cases h.out
  | some w =>
  obtain ⟨w, ⟨⟩⟩ := w
  simp only [Wr_iff, bcase_iff, true_and, and_true, decide_eq_true_eq, decide_eq_false_iff_not, Bool.and_eq_true, Bool.and_eq_false_iff, Bool.or_eq_true, Bool.or_eq_false_iff, Bool.not_eq_true', Bool.not_eq_false', Option.map_some, Option.getD_some, Option.isSome_some, Option.isSome_map, imp_self, nilL, noneO]
  intro hx
  have hw := (okW_iff w).1 (okG_some hx)
  have hl : w.2.2.2.1.length ≤ 5000000000 := by omega
  have e : glW (some (w, ())) = w := rfl
  rw [e]
  refine ⟨by ((repeat' apply And.intro) <;> first | exact Nat.le_refl _ | exact IdxI.zero _ _ | exact UnlI.zero _ _ | assumption), fun i hu => ⟨fun hi => ⟨hu.i0, hi, fun hg => ?_, fun hg => ?_⟩, fun hi => ?_⟩⟩
  · exact congrArg (fun z : Int => (z, ())) (hu.idx DialT.zero hi (decide_eq_true hg))
  · obtain ⟨k1, k2⟩ := hu.on DialT.zero hl hi (decide_eq_false hg)
    ((repeat' apply And.intro) <;> first | exact Nat.le_refl _ | exact IdxI.zero _ _ | exact UnlI.zero _ _ | assumption)
  · exact congrArg (fun z : Int => (z, ())) (idx_no (hu.fin hi))
theorem dz : DialT.zero = zDl := rfl
theorem v54 : Vc g54 300 Tryz.f54 cReadyP := by
  constructor
  rw [v54_eq]
  rintro ⟨o, b, ⟨⟩⟩
  cases o with
  | none => intro h; cases h.out
  | some w =>
  obtain ⟨w, ⟨⟩⟩ := w
  simp only [Wr_iff, bcase_iff, true_and, and_true, decide_eq_true_eq, decide_eq_false_iff_not, Bool.and_eq_true, Bool.and_eq_false_iff, Bool.or_eq_true, Bool.or_eq_false_iff, Bool.not_eq_true', Bool.not_eq_false', Option.map_some, Option.getD_some, Option.isSome_some, Option.isSome_map, imp_self, nilL, noneO]
  intro hx
  have e : glW (some (w, ())) = w := rfl
  rw [e]
  have hlt : 0 ≤ ixD w.2.2.2.1 b → ixD w.2.2.2.1 b < w.2.2.2.1.length := idx_lt
  have hr : readyW w b = (decide (0 ≤ ixD w.2.2.2.1 b) && readyD (getDl w.2.2.2.1 (ixD w.2.2.2.1 b))) := rfl
  have hgd : getDl w.2.2.2.1 (ixD w.2.2.2.1 b) = w.2.2.2.1.getD (ixD w.2.2.2.1 b).toNat DialT.zero := rfl
  rw [hr, hgd]
  clear hr hgd
  have e2 : (some w.2.2.2.1).getD DialT.sl.zero = w.2.2.2.1 := rfl
  generalize (some w.2.2.2.1).getD DialT.sl.zero = l at e2 ⊢
  subst e2
  generalize ixD w.2.2.2.1 b = k at *
  generalize w.2.2.2.1.getD k.toNat DialT.zero = d
  refine ⟨hx, fun _ => trivial, fun _ => trivial, fun _ => trivial, fun _ => trivial, fun h => by omega, fun h => hlt (by omega), fun _ => trivial, fun _ => trivial, fun h => pr ?_, fun h => ⟨by omega, hlt (by omega), fun h0 => ⟨fun _ => pr ?_, fun hn => absurd h0 hn⟩, fun h0 => ⟨fun h1 => pr ?_, fun h1 => ⟨fun h2 => pr ?_, fun h2 => pr ?_⟩⟩⟩⟩
  · rcases h with h | h
    · rw [decide_eq_false (by omega)]; rfl
    · simp [readyD, overD, h]
  · simp only [readyD, overD, h.2, h0, decide_eq_true (show 0 ≤ k by omega)]; rfl
  · simp only [readyD, overD, h.2, h1, decide_eq_true (show 0 ≤ k by omega)]; rfl
  · simp only [readyD, overD, h.2, h2, decide_eq_true (show 0 ≤ k by omega)]
    simp
  · simp [readyD, overD, h.2, h0, h1, h2]
theorem v20 : Vc g20 300 Tryz.f20 cReady := by
  constructor
  rw [v20_eq]
  simp only [Wr_iff, bcase_iff, true_and, and_true, decide_eq_true_eq, decide_eq_false_iff_not, Bool.and_eq_true, Bool.and_eq_false_iff, Bool.or_eq_true, Bool.or_eq_false_iff, Bool.not_eq_true', Bool.not_eq_false', Option.map_some, Option.getD_some, Option.isSome_some, Option.isSome_map, imp_self, nilL, noneO]
  intro x hx
  exact ⟨by simpa [okG, glW] using hx, rfl⟩
/-! how many -/
theorem CntI.zero {α : Type} (p : α → Bool) (l : List α) : CntI p l 0 0 := ⟨by omega, by omega, rfl⟩
theorem cnt_le {α : Type} (p : α → Bool) (l : List α) (i : Int) : 0 ≤ cntB p l i ∧ cntB p l i ≤ l.length := by
  unfold cntB
  have h1 := List.length_filter_le p (l.take i.toNat)
  have h2 : (l.take i.toNat).length ≤ l.length := by rw [List.length_take]; omega
  omega
theorem CntI.next {α : Type} {p : α → Bool} {l : List α} {i n : Int} (z : α) (h : CntI p l i n) (hi : i < l.length) : cntB p l (i + 1) = n + (bif p (l.getD i.toNat z) then 1 else 0) := by
  rw [h.a]
  unfold cntB
  rw [take_succ l i z h.i0 hi, List.filter_append, List.length_append]
  generalize l.getD i.toNat z = y
  cases hp : p y <;> simp [List.filter_cons, hp]
theorem CntI.yes {α : Type} {p : α → Bool} {l : List α} {i n : Int} (z : α) (hl : l.length ≤ 5000000000) (h : CntI p l i n) (hi : i < l.length) (hp : p (l.getD i.toNat z) = true) :
    CntI p l (IntKind.wrap .i64 (i + 1)) (IntKind.wrap .i64 (n + 1)) ∧ l.length - (IntKind.wrap .i64 (i + 1)).toNat < l.length - i.toNat := by
  have h0 := h.i0
  have hb := cnt_le p l i
  have ha := h.a
  have hn := h.next z hi
  rw [hp] at hn
  rw [w64 (by omega) (by omega), w64 (n := n + 1) (by omega) (by omega)]
  exact ⟨⟨by omega, by omega, hn.symm⟩, by omega⟩
theorem CntI.no {α : Type} {p : α → Bool} {l : List α} {i n : Int} (z : α) (hl : l.length ≤ 5000000000) (h : CntI p l i n) (hi : i < l.length) (hp : p (l.getD i.toNat z) = false) :
    CntI p l (IntKind.wrap .i64 (i + 1)) n ∧ l.length - (IntKind.wrap .i64 (i + 1)).toNat < l.length - i.toNat := by
  have h0 := h.i0
  have hn := h.next z hi
  rw [hp] at hn
  rw [w64 (by omega) (by omega)]
  exact ⟨⟨by omega, by omega, by rw [hn]; simp⟩, by omega⟩
theorem CntI.fin {α : Type} {p : α → Bool} {l : List α} {i n : Int} (h : CntI p l i n) (hi : ¬ i < l.length) : n = (List.length (l.filter p) : Nat) := by
  have := h.a
  rw [this]
  unfold cntB
  rw [take_all h.i1 hi]
theorem eAd (a b : Ad) : Ty.eqb AdT a b = true ↔ a = b := eqA a b
theorem v53 : Vc g53 300 Tryz.f53 cHas := by
  constructor
  rw [v53_eq]
  simp only [Wr_iff, bcase_iff, true_and, and_true, decide_eq_true_eq, decide_eq_false_iff_not, Bool.and_eq_true, Bool.and_eq_false_iff, Bool.or_eq_true, Bool.or_eq_false_iff, Bool.not_eq_true', Bool.not_eq_false', Option.map_some, Option.getD_some, Option.isSome_some, Option.isSome_map, imp_self, nilL, noneO]
  rintro ⟨l, a, ⟨⟩⟩ hx
  have hl := (lenA_iff l).1 hx
  refine ⟨by ((repeat' apply And.intro) <;> first | exact Nat.le_refl _ | exact IdxI.zero _ _ | exact CntI.zero _ _ | assumption), fun i hu => ⟨fun hi => ⟨hu.i0, hi, fun hg => ?_, fun hg => ?_⟩, fun hi => ?_⟩⟩
  · refine pr ?_
    have h1 : eqAd a (l.getD i.toNat AdT.zero) = true := decide_eq_true ((eqA _ _).1 hg).symm
    have h2 := hu.hit (z := AdT.zero) hi h1
    exact (decide_eq_true hu.i0).trans h2.symm
  · have h1 : eqAd a (l.getD i.toNat AdT.zero) = false := decide_eq_false fun h => (eqA_f _ _).1 hg h.symm
    have hl' : l.length ≤ 5000000000 := by omega
    obtain ⟨k1, k2⟩ := hu.on AdT.zero hl' hi h1
    ((repeat' apply And.intro) <;> first | exact Nat.le_refl _ | exact IdxI.zero _ _ | exact CntI.zero _ _ | assumption)
  · refine pr ?_
    have h2 := hu.fin hi
    exact Eq.trans (by decide) h2.symm
theorem v19 : Vc g19 300 Tryz.f19 cUnder := by
  constructor
  rw [v19_eq]
  simp only [Wr_iff, bcase_iff, true_and, and_true, decide_eq_true_eq, decide_eq_false_iff_not, Bool.and_eq_true, Bool.and_eq_false_iff, Bool.or_eq_true, Bool.or_eq_false_iff, Bool.not_eq_true', Bool.not_eq_false', Option.map_some, Option.getD_some, Option.isSome_some, Option.isSome_map, imp_self, nilL, noneO]
  rintro ⟨w, l, ⟨⟩⟩ hx
  have hw := (okW_iff w).1 hx.1
  have hl' : w.2.2.2.1.length ≤ 5000000000 := by omega
  refine ⟨by ((repeat' apply And.intro) <;> first | exact Nat.le_refl _ | exact IdxI.zero _ _ | exact CntI.zero _ _ | assumption), fun ⟨i, n⟩ hu => ⟨fun hi => ⟨hu.i0, hi, fun _ => hx.2, fun hg => ?_, fun hg => ?_⟩, fun hi => ?_⟩⟩
  · have h1 : underB l (w.2.2.2.1.getD i.toNat DialT.zero) = true := by
      simp only [underB, overD, Bool.and_eq_true, Bool.or_eq_true, Bool.not_eq_true', decide_eq_true_eq]
      refine ⟨hg.1, ?_⟩
      rcases hg.2 with h | h
      · exact .inl (by simpa using h)
      · exact .inr h
    obtain ⟨k1, k2⟩ := hu.yes DialT.zero hl' hi h1
    ((repeat' apply And.intro) <;> first | exact Nat.le_refl _ | exact IdxI.zero _ _ | exact CntI.zero _ _ | assumption)
  · have h1 : underB l (w.2.2.2.1.getD i.toNat DialT.zero) = false := by
      simp only [underB, overD, Bool.and_eq_false_iff, Bool.or_eq_false_iff, Bool.not_eq_false', decide_eq_false_iff_not]
      rcases hg with h | ⟨h1, h2⟩
      · exact .inl h
      · exact .inr ⟨by simpa using h1, h2⟩
    obtain ⟨k1, k2⟩ := hu.no DialT.zero hl' hi h1
    ((repeat' apply And.intro) <;> first | exact Nat.le_refl _ | exact IdxI.zero _ _ | exact CntI.zero _ _ | assumption)
  · exact congrArg (fun z : Int => (z, ())) (hu.fin hi)
end Go.Proofs.YtfhlceooobabcaaGreatDoor.Wd
set_option linter.all false
namespace Go.Proofs.YtfhlceooobabcaaGreatDoor.Wd
open Go Go.Eng Go.Lb Go.Ad
set_option maxRecDepth 100000
set_option maxHeartbeats 4000000

theorem okG_of {w : Wd} (h : okW w = true) : okG (some (w, ())) = true := by simpa [okG, glW] using h
theorem v18 : Vc g18 300 Tryz.f18 cCut := by
  constructor
  rw [v18_eq]
  simp only [Wr_iff, bcase_iff, true_and, and_true, decide_eq_true_eq, decide_eq_false_iff_not, Bool.and_eq_true, Bool.and_eq_false_iff, Bool.or_eq_true, Bool.or_eq_false_iff, Bool.not_eq_true', Bool.not_eq_false', Option.map_some, Option.getD_some, Option.isSome_some, Option.isSome_map, imp_self, nilL, noneO]
  rintro ⟨w, b, ⟨⟩⟩ hx
  dsimp only at hx ⊢
  have hw := (okW_iff w).1 hx
  have e : glW (some (w, ())) = w := rfl
  rw [e]
  have hlt : 0 ≤ ixD w.2.2.2.1 b → ixD w.2.2.2.1 b < w.2.2.2.1.length := idx_lt
  have hc : cutW w b = (bif decide (0 ≤ ixD w.2.2.2.1 b) && !overD (getDl w.2.2.2.1 (ixD w.2.2.2.1 b)) then putDl w (setDl w.2.2.2.1 (ixD w.2.2.2.1 b) cutD) else w) := rfl
  refine ⟨okG_of hx, fun h => hlt h, fun _ => trivial, fun _ => trivial, fun h => ⟨by omega, h.1, hlt h.1, ?_⟩, fun h => ?_⟩
  · refine congrArg (fun z : Wd => (z, ())) ?_
    have h1 : overD (getDl w.2.2.2.1 (ixD w.2.2.2.1 b)) = false := h.2
    rw [hc, h1, decide_eq_true h.1]
    rfl
  · refine congrArg (fun z : Wd => (z, ())) ?_
    rw [hc]
    rcases h with h | h
    · rw [decide_eq_false h]; rfl
    · have h1 : overD (getDl w.2.2.2.1 (ixD w.2.2.2.1 b)) = true := h
      rw [h1, Bool.not_true, Bool.and_false]; rfl
theorem dialE_iff (w : Wd) (b : Int) (a : Ad) : dialE w b a = (bif may1 a then (bif decide (0 ≤ ixD w.2.2.2.1 b) then 100 else 0) else 20) := rfl
theorem v17 : Vc g17 300 Tryz.f17 cDial := by
  constructor
  rw [v17_eq]
  simp only [Wr_iff, bcase_iff, true_and, and_true, decide_eq_true_eq, decide_eq_false_iff_not, Bool.and_eq_true, Bool.and_eq_false_iff, Bool.or_eq_true, Bool.or_eq_false_iff, Bool.not_eq_true', Bool.not_eq_false', Option.map_some, Option.getD_some, Option.isSome_some, Option.isSome_map, imp_self, nilL, noneO]
  rintro ⟨w, b, a, ⟨⟩⟩ hx
  dsimp only at hx ⊢
  have hw := (okW_iff w).1 hx
  have e : glW (some (w, ())) = w := rfl
  rw [e]
  have hl' : w.2.2.2.1.length ≤ 5000000000 := by omega
  refine ⟨rfl, fun h => ?_, fun h => ⟨okG_of hx, fun h1 => ?_, fun h1 => ⟨by ((repeat' apply And.intro) <;> first | exact Nat.le_refl _ | exact IdxI.zero _ _ | exact CntI.zero _ _ | assumption), fun ⟨i, n⟩ hu => ⟨fun hi => ⟨hu.i0, hi, fun hg => ?_, fun hg => ?_⟩, fun hi => ⟨hw.2.2.2, ?_, ?_⟩⟩⟩⟩⟩
  · have h2 : may1 a = false := by rw [← may_one]; exact h
    have h3 : dialE w b a = 20 := by rw [dialE_iff, h2]; rfl
    rw [dialW, h3]; rfl
  · have h2 : may1 a = true := by rw [← may_one]; exact h
    have h3 : dialE w b a = 100 := by rw [dialE_iff, h2, decide_eq_true h1]; rfl
    rw [dialW, h3]; rfl
  · have q : dlAd a (w.2.2.2.1.getD i.toNat DialT.zero) = true := decide_eq_true ((eAd _ _).1 hg)
    obtain ⟨k1, k2⟩ := hu.yes DialT.zero hl' hi q
    ((repeat' apply And.intro) <;> first | exact Nat.le_refl _ | exact IdxI.zero _ _ | exact CntI.zero _ _ | assumption)
  · have q : dlAd a (w.2.2.2.1.getD i.toNat DialT.zero) = false := decide_eq_false ((eqA_f _ _).1 hg)
    obtain ⟨k1, k2⟩ := hu.no DialT.zero hl' hi q
    ((repeat' apply And.intro) <;> first | exact Nat.le_refl _ | exact IdxI.zero _ _ | exact CntI.zero _ _ | assumption)
  · simp only [List.length_cons, List.length_nil]; omega
  · have h2 : may1 a = true := by rw [← may_one]; exact h
    have h3 : dialE w b a = 0 := by rw [dialE_iff, h2, decide_eq_false h1]; rfl
    have h4 : n = nthD w.2.2.2.1 a := hu.fin hi
    rw [dialW, h3, ← h4]; exact ⟨by simp, rfl⟩
theorem get_set {l : List Dl} {i : Int} {d : Dl} (h0 : 0 ≤ i) (h : i < l.length) : (l.set i.toNat d).getD i.toNat zDl = d := by
  rw [List.getD_eq_getElem?_getD, List.getElem?_set_self (by omega)]
  rfl
theorem v21 : Vc g21 300 Tryz.f21 cEnd := by
  constructor
  rw [v21_eq]
  simp only [Wr_iff, bcase_iff, true_and, and_true, decide_eq_true_eq, decide_eq_false_iff_not, Bool.and_eq_true, Bool.and_eq_false_iff, Bool.or_eq_true, Bool.or_eq_false_iff, Bool.not_eq_true', Bool.not_eq_false', Option.map_some, Option.getD_some, Option.isSome_some, Option.isSome_map, imp_self, nilL, noneO]
  rintro ⟨w, b, ⟨⟩⟩ hx
  dsimp only at hx ⊢
  have hw := (okW_iff w).1 hx
  have e : glW (some (w, ())) = w := rfl
  rw [e]
  have hlt : 0 ≤ ixD w.2.2.2.1 b → ixD w.2.2.2.1 b < w.2.2.2.1.length := idx_lt
  refine ⟨okG_of hx, fun h => ?_, fun h => ⟨okG_of hx, by omega, ?_⟩⟩
  · rw [endW, endM, endE, h]; rfl
  · have h0 : 0 ≤ ixD w.2.2.2.1 b := by
      unfold readyW at h
      simp only [Bool.and_eq_true, decide_eq_true_eq] at h
      exact h.1
    have h1 := hlt h0
    have q : (endDs w b).getD (ixD w.2.2.2.1 b).toNat zDl = endD (getDl w.2.2.2.1 (ixD w.2.2.2.1 b)) := get_set h0 h1
    have h2 : ixD w.2.2.2.1 b < ((endDs w b).length : Int) := by
      unfold endDs setDl; rw [List.length_set]; exact h1
    have hE : endE w b = 0 := by rw [endE, h]; rfl
    refine ⟨h0, h1, h0, h2, fun hf => ⟨h0, h2, ?_, ?_⟩, fun hf => ?_⟩
    · simp only [okSM, Bool.and_eq_true, decide_eq_true_eq]; exact ⟨hw.2.1, hw.2.2.1⟩
    · have hf' : fateOf w b = 0 := (congrArg (fun z : Dl => z.2.2.1) q).symm.trans hf
      have hW : endW w b = (w.1, w.2.1, addS w.2.2.1 ((endDs w b).getD (ixD w.2.2.2.1 b).toNat zDl).2.1 b w.2.1, endDs w b, w.2.2.2.2.1, w.2.2.2.2.2.1, addM w.2.2.2.2.2.2.1 false (lenS w.2.2.1) w.2.1, ()) := by
        rw [q, endW, h, hf']; rfl
      have hM : endM w b = (11, 0, 0, lenS w.2.2.1, { data := #[] }, 0, ()) := by rw [endM, h, hf']; rfl
      rw [hW, hM, hE]; rfl
    · have hf' : ¬ fateOf w b = 0 := fun e => hf ((congrArg (fun z : Dl => z.2.2.1) q).trans e)
      have hW : endW w b = putDl w (endDs w b) := by rw [endW, h, decide_eq_false hf']; rfl
      have hM : endM w b = (11, 0, 0, 0, { data := #[] }, 160, ()) := by rw [endM, h, decide_eq_false hf']; rfl
      rw [hW, hM, hE]; rfl
end Go.Proofs.YtfhlceooobabcaaGreatDoor.Wd
namespace Go.Proofs.YtfhlceooobabcaaGreatDoor.Wd
open Go Go.Eng Go.Lb Go.Ad
set_option maxRecDepth 100000
theorem val49 : Valid Tryz.prog GW 49 (cClip DialT) := mkValid gws Tb.mix Tb.tab_ok Tb.eqs_ok g49 rfl allV_nil allI_nil Tryz.func49 (by kernel_rfl) v49
theorem val101 : Valid Tryz.prog GW 101 (cClip SockT) := mkValid gws Tb.mix Tb.tab_ok Tb.eqs_ok g101 rfl allV_nil allI_nil Tryz.func101 (by kernel_rfl) v101
theorem val102 : Valid Tryz.prog GW 102 (cClip MarkT) := mkValid gws Tb.mix Tb.tab_ok Tb.eqs_ok g102 rfl allV_nil allI_nil Tryz.func102 (by kernel_rfl) v102
theorem val99 : Valid Tryz.prog GW 99 (cClone 96 48 DialT) := mkValid gws Tb.mix Tb.tab_ok Tb.eqs_ok g99 rfl allV_nil allI_nil Tryz.func99 (by kernel_rfl) v99
theorem val10 : Valid Tryz.prog GW 10 cNew := mkValid gws Tb.mix Tb.tab_ok Tb.eqs_ok g10 rfl (allV_cons val36 allV_nil) allI_nil Tryz.func10 (by kernel_rfl) v10
theorem val46 : Valid Tryz.prog GW 46 cDialP := mkValid gws Tb.mix Tb.tab_ok Tb.eqs_ok g46 rfl allV_nil (allI_cons Tryz.func97 (by kernel_rfl) (allI_cons Tryz.func98 (by kernel_rfl) (allI_cons Tryz.func132 (by kernel_rfl) allI_nil))) Tryz.func46 (by kernel_rfl) v46
theorem val54 : Valid Tryz.prog GW 54 cReadyP := mkValid gws Tb.mix Tb.tab_ok Tb.eqs_ok g54 rfl (allV_cons val46 allV_nil) allI_nil Tryz.func54 (by kernel_rfl) v54
theorem val17 : Valid Tryz.prog GW 17 cDial := mkValid gws Tb.mix Tb.tab_ok Tb.eqs_ok g17 rfl (allV_cons val27 (allV_cons val45 (allV_cons val46 (allV_cons val49 allV_nil)))) (allI_cons Tryz.func47 (by kernel_rfl) (allI_cons Tryz.func48 (by kernel_rfl) allI_nil)) Tryz.func17 (by kernel_rfl) v17
theorem val18 : Valid Tryz.prog GW 18 cCut := mkValid gws Tb.mix Tb.tab_ok Tb.eqs_ok g18 rfl (allV_cons val46 (allV_cons val99 allV_nil)) (allI_cons Tryz.func50 (by kernel_rfl) (allI_cons Tryz.func51 (by kernel_rfl) allI_nil)) Tryz.func18 (by kernel_rfl) v18
theorem val20 : Valid Tryz.prog GW 20 cReady := mkValid gws Tb.mix Tb.tab_ok Tb.eqs_ok g20 rfl (allV_cons val54 allV_nil) allI_nil Tryz.func20 (by kernel_rfl) v20
theorem val56 : Valid Tryz.prog GW 56 cOpen := mkValid gws Tb.mix Tb.tab_ok Tb.eqs_ok g56 rfl (allV_cons val101 (allV_cons val102 allV_nil)) allI_nil Tryz.func56 (by kernel_rfl) v56
theorem val21 : Valid Tryz.prog GW 21 cEnd := mkValid gws Tb.mix Tb.tab_ok Tb.eqs_ok g21 rfl (allV_cons val46 (allV_cons val54 (allV_cons val56 (allV_cons val99 allV_nil)))) (allI_cons Tryz.func50 (by kernel_rfl) (allI_cons Tryz.func55 (by kernel_rfl) allI_nil)) Tryz.func21 (by kernel_rfl) v21
theorem val53 : Valid Tryz.prog GW 53 cHas := mkValid gws Tb.mix Tb.tab_ok Tb.eqs_ok g53 rfl allV_nil (allI_cons Tryz.func100 (by kernel_rfl) allI_nil) Tryz.func53 (by kernel_rfl) v53
theorem val19 : Valid Tryz.prog GW 19 cUnder := mkValid gws Tb.mix Tb.tab_ok Tb.eqs_ok g19 rfl (allV_cons val53 allV_nil) (allI_cons Tryz.func47 (by kernel_rfl) (allI_cons Tryz.func52 (by kernel_rfl) allI_nil)) Tryz.func19 (by kernel_rfl) v19
end Go.Proofs.YtfhlceooobabcaaGreatDoor.Wd
namespace Go.Proofs
open Go.Shelf
def Tryz.lays156_ren : Go.Shelf.Ren := ⟨fun | 156 => 111 | 165 => 139 | 166 => 140 | 169 => 141 | 240 => 165 | 241 => 166 | 276 => 180 | 277 => 181 | n => n, fun | 31 => 113 | 9 => 9 | 3 => 3 | 4 => 4 | 0 => 0 | 20 => 20 | 72 => 181 | 76 => 185 | 70 => 179 | 37 => 168 | 75 => 184 | 127 => 210 | 164 => 221 | 5 => 5 | 80 => 187 | n => n, fun | n => n⟩
theorem Tryz.lays156 : Go.Proofs.Lays.n156 Tryz.prog Tryz.lays156_ren := {
  mixed := by kernel_rfl
  f156 := Tryz.func111.trans (congrArg some (by kernel_rfl))
  f165 := Tryz.func139.trans (congrArg some (by kernel_rfl))
  f166 := Tryz.func140.trans (congrArg some (by kernel_rfl))
  f169 := Tryz.func141.trans (congrArg some (by kernel_rfl))
  f240 := Tryz.func165.trans (congrArg some (by kernel_rfl))
  f241 := Tryz.func166.trans (congrArg some (by kernel_rfl))
  f276 := Tryz.func180.trans (congrArg some (by kernel_rfl))
  f277 := Tryz.func181.trans (congrArg some (by kernel_rfl))
  t0 := Tryz.underlying0
  a0 := Tryz.isAgg0
  z0 := Tryz.sizeOf0
  v0 := Tryz.zeroValue0
  t3 := Tryz.underlying3
  a3 := Tryz.isAgg3
  z3 := Tryz.sizeOf3
  v3 := Tryz.zeroValue3
  t4 := Tryz.underlying4
  a4 := Tryz.isAgg4
  z4 := Tryz.sizeOf4
  v4 := Tryz.zeroValue4
  t9 := Tryz.underlying9
  a9 := Tryz.isAgg9
  z9 := Tryz.sizeOf9
  v9 := Tryz.zeroValue9
  t20 := Tryz.underlying20
  a20 := Tryz.isAgg20
  z20 := Tryz.sizeOf20
  v20 := Tryz.zeroValue20
  t31 := Tryz.underlying113
  a31 := Tryz.isAgg113
  z31 := Tryz.sizeOf113
  v31 := Tryz.zeroValue113
  t37 := Tryz.underlying168
  a37 := Tryz.isAgg168
  z37 := Tryz.sizeOf168
  v37 := Tryz.zeroValue168
  t70 := Tryz.underlying179
  a70 := Tryz.isAgg179
  z70 := Tryz.sizeOf179
  v70 := Tryz.zeroValue179
  t72 := Tryz.underlying181
  a72 := Tryz.isAgg181
  z72 := Tryz.sizeOf181
  v72 := Tryz.zeroValue181
  t75 := Tryz.underlying184
  a75 := Tryz.isAgg184
  z75 := Tryz.sizeOf184
  v75 := Tryz.zeroValue184
  t76 := Tryz.underlying185
  a76 := Tryz.isAgg185
  z76 := Tryz.sizeOf185
  v76 := Tryz.zeroValue185
  t127 := Tryz.underlying210
  a127 := Tryz.isAgg210
  z127 := Tryz.sizeOf210
  v127 := Tryz.zeroValue210
  t164 := Tryz.underlying221
  a164 := Tryz.isAgg221
  z164 := Tryz.sizeOf221
  v164 := Tryz.zeroValue221 }
theorem Tryz.Builder_Extra_156 : Builder.Extra Tryz.prog Tryz.lays156_ren := {
  sizeBuilder := by kernel_rfl
  liesBuilder := by kernel_rfl
  t5 := Tryz.underlying5
  a5 := Tryz.isAgg5
  z5 := Tryz.sizeOf5
  v5 := Tryz.zeroValue5
  infoByte := by kernel_rfl
  cellsByte := by kernel_rfl
  sizeByte := by kernel_rfl
  neB5 := by decide }
open Go.RowKit in
/-- No element: the empty string; the world is as it was. (Whatever the slice's address and capacity: a nil slice too.) (LAID: no walk: one application.) -/
theorem Tryz.strings_Join_none (a : Option Addr) (c : Nat) (sep : ByteArray) (w : World) :
    Calls Tryz.prog 111 #[.slice a 0 c, .string sep] w fun e w' => e = .returned (.string ⟨#[]⟩) ∧ w' = w := Any.strings_Join_none Tryz.lays156 Tryz.Builder_Extra_156 a c sep w
open Go.RowKit in
/-- strings.Join: "Join concatenates the elements of its first argument to create a single string. The separator string sep is placed between elements in the resulting string.": HOWEVER MANY ELEMENTS. Below the heap's end the world is as it was. (LAID: no walk: one application.) -/
theorem Tryz.strings_Join (bk o c : Nat) (xs : List ByteArray) (sep : ByteArray) (w : World) (hcells : ∀ (j : Nat) x, xs[j]? = some x → w.cell? ⟨bk, o + j, none⟩ = some (.string x)) (hbk : bk < w.heap.size) (hN : xs.length ≤ 140737488355328) (hcap : xs.length ≤ c) (hlen : (Lib.join (xs.map (·.data.toList)) sep.data.toList).length ≤ 140737488355328) :
    Calls Tryz.prog 111 #[.slice (some ⟨bk, o, none⟩) xs.length c, .string sep] w fun e w' => e = .returned (.string ⟨(Lib.join (xs.map (·.data.toList)) sep.data.toList).toArray⟩) ∧ Below w.heap.size w w' := Any.strings_Join Tryz.lays156 Tryz.Builder_Extra_156 bk o c xs sep w hcells hbk hN hcap hlen
def Tryz.lays7n27_ren : Go.Shelf.Ren := ⟨fun | 27 => 197 | 28 => 202 | 29 => 203 | n => n, fun | 25 => 173 | 3 => 3 | 27 => 206 | 22 => 208 | 4 => 4 | 53 => 238 | 0 => 0 | 5 => 5 | 54 => 239 | n => n, fun | 0 => 2 | 1 => 3 | n => n⟩
theorem Tryz.lays7n27 : Go.Proofs.Lays7.n27 Tryz.prog Tryz.lays7n27_ren := {
  mixed := by kernel_rfl
  f27 := Tryz.func197.trans (congrArg some (by kernel_rfl))
  f28 := Tryz.func202.trans (congrArg some (by kernel_rfl))
  f29 := Tryz.func203.trans (congrArg some (by kernel_rfl))
  t0 := Tryz.underlying0
  a0 := Tryz.isAgg0
  z0 := Tryz.sizeOf0
  v0 := Tryz.zeroValue0
  i0 := by kernel_rfl
  t3 := Tryz.underlying3
  a3 := Tryz.isAgg3
  z3 := Tryz.sizeOf3
  v3 := Tryz.zeroValue3
  i3 := by kernel_rfl
  t4 := Tryz.underlying4
  a4 := Tryz.isAgg4
  z4 := Tryz.sizeOf4
  v4 := Tryz.zeroValue4
  i4 := by kernel_rfl
  t5 := Tryz.underlying5
  a5 := Tryz.isAgg5
  z5 := Tryz.sizeOf5
  v5 := Tryz.zeroValue5
  i5 := by kernel_rfl
  t22 := Tryz.underlying208
  a22 := Tryz.isAgg208
  z22 := Tryz.sizeOf208
  v22 := Tryz.zeroValue208
  i22 := by kernel_rfl
  t25 := Tryz.underlying173
  a25 := Tryz.isAgg173
  z25 := Tryz.sizeOf173
  v25 := Tryz.zeroValue173
  i25 := by kernel_rfl
  t27 := Tryz.underlying206
  a27 := Tryz.isAgg206
  z27 := Tryz.sizeOf206
  v27 := Tryz.zeroValue206
  i27 := by kernel_rfl
  t53 := Tryz.underlying238
  a53 := Tryz.isAgg238
  z53 := Tryz.sizeOf238
  v53 := Tryz.zeroValue238
  i53 := by kernel_rfl
  t54 := Tryz.underlying239
  a54 := Tryz.isAgg239
  z54 := Tryz.sizeOf239
  g0 := by kernel_rfl
  g1 := by kernel_rfl }
theorem Tryz.bits_TrailingZeros (x : Nat) (h : x < 18446744073709551616) (w : World) (hT : x ≠ 0 → TabAt 3 Lib.deBruijn64tab w) :
    Calls Tryz.prog 197 #[.int .u64 x] w fun e w' => e = .returned (.int .i64 (Lib.ctz 64 x)) ∧ w' = w := Any7.bits_TrailingZeros Tryz.lays7n27 x h w hT
def Tryz.laysM171_ren : Go.Shelf.Ren := ⟨fun | 171 => 136 | 243 => 163 | 246 => 179 | 283 => 186 | 284 => 187 | 285 => 188 | 286 => 189 | 129 => 162 | 317 => 194 | 318 => 195 | 319 => 196 | 320 => 197 | 337 => 202 | 338 => 203 | n => n, fun | 3 => 3 | 9 => 9 | 2 => 2 | 4 => 4 | 171 => 227 | 0 => 0 | 53 => 208 | 37 => 168 | 5 => 5 | 173 => 229 | 212 => 234 | 51 => 206 | 20 => 20 | 213 => 235 | 46 => 173 | 232 => 238 | 233 => 239 | n => n, fun | 17 => 1 | 18 => 2 | 19 => 3 | n => n⟩
theorem Tryz.laysM171 : Go.Proofs.LaysM.n171 Tryz.prog Tryz.laysM171_ren := {
  mixed := by kernel_rfl
  f129 := Tryz.func162.trans (congrArg some (by kernel_rfl))
  f171 := Tryz.func136.trans (congrArg some (by kernel_rfl))
  f243 := Tryz.func163.trans (congrArg some (by kernel_rfl))
  f246 := Tryz.func179.trans (congrArg some (by kernel_rfl))
  f283 := Tryz.func186.trans (congrArg some (by kernel_rfl))
  f284 := Tryz.func187.trans (congrArg some (by kernel_rfl))
  f285 := Tryz.func188.trans (congrArg some (by kernel_rfl))
  f286 := Tryz.func189.trans (congrArg some (by kernel_rfl))
  f317 := Tryz.func194.trans (congrArg some (by kernel_rfl))
  f318 := Tryz.func195.trans (congrArg some (by kernel_rfl))
  f319 := Tryz.func196.trans (congrArg some (by kernel_rfl))
  f320 := Tryz.func197.trans (congrArg some (by kernel_rfl))
  f337 := Tryz.func202.trans (congrArg some (by kernel_rfl))
  f338 := Tryz.func203.trans (congrArg some (by kernel_rfl))
  t0 := Tryz.underlying0
  a0 := Tryz.isAgg0
  z0 := Tryz.sizeOf0
  v0 := Tryz.zeroValue0
  t2 := Tryz.underlying2
  a2 := Tryz.isAgg2
  z2 := Tryz.sizeOf2
  v2 := Tryz.zeroValue2
  t3 := Tryz.underlying3
  a3 := Tryz.isAgg3
  z3 := Tryz.sizeOf3
  v3 := Tryz.zeroValue3
  t4 := Tryz.underlying4
  a4 := Tryz.isAgg4
  z4 := Tryz.sizeOf4
  v4 := Tryz.zeroValue4
  t5 := Tryz.underlying5
  a5 := Tryz.isAgg5
  z5 := Tryz.sizeOf5
  v5 := Tryz.zeroValue5
  t9 := Tryz.underlying9
  a9 := Tryz.isAgg9
  z9 := Tryz.sizeOf9
  v9 := Tryz.zeroValue9
  t20 := Tryz.underlying20
  a20 := Tryz.isAgg20
  z20 := Tryz.sizeOf20
  v20 := Tryz.zeroValue20
  t37 := Tryz.underlying168
  a37 := Tryz.isAgg168
  z37 := Tryz.sizeOf168
  v37 := Tryz.zeroValue168
  t46 := Tryz.underlying173
  a46 := Tryz.isAgg173
  z46 := Tryz.sizeOf173
  v46 := Tryz.zeroValue173
  t51 := Tryz.underlying206
  a51 := Tryz.isAgg206
  z51 := Tryz.sizeOf206
  v51 := Tryz.zeroValue206
  t53 := Tryz.underlying208
  a53 := Tryz.isAgg208
  z53 := Tryz.sizeOf208
  v53 := Tryz.zeroValue208
  t171 := Tryz.underlying227
  a171 := Tryz.isAgg227
  z171 := Tryz.sizeOf227
  v171 := Tryz.zeroValue227
  t173 := Tryz.underlying229
  a173 := Tryz.isAgg229
  z173 := Tryz.sizeOf229
  v173 := Tryz.zeroValue229
  t212 := Tryz.underlying234
  a212 := Tryz.isAgg234
  z212 := Tryz.sizeOf234
  v212 := Tryz.zeroValue234
  t213 := Tryz.underlying235
  a213 := Tryz.isAgg235
  z213 := Tryz.sizeOf235
  t232 := Tryz.underlying238
  a232 := Tryz.isAgg238
  z232 := Tryz.sizeOf238
  v232 := Tryz.zeroValue238
  t233 := Tryz.underlying239
  a233 := Tryz.isAgg239
  z233 := Tryz.sizeOf239
  v233 := Tryz.zeroValue239
  g17 := by kernel_rfl
  g18 := by kernel_rfl
  g19 := by kernel_rfl
  i0 := by kernel_rfl
  i2 := by kernel_rfl
  i3 := by kernel_rfl
  i4 := by kernel_rfl
  i5 := by kernel_rfl
  i9 := by kernel_rfl
  i20 := by kernel_rfl
  i37 := by kernel_rfl
  i46 := by kernel_rfl
  i51 := by kernel_rfl
  i53 := by kernel_rfl
  i171 := by kernel_rfl
  i173 := by kernel_rfl
  i212 := by kernel_rfl
  i232 := by kernel_rfl
  i233 := by kernel_rfl
  m17 := by kernel_rfl
  m18 := by kernel_rfl
  m19 := by kernel_rfl }
open Go.RowKit Go.Sort Go.Lib in
/-- strconv.Itoa: "Itoa is equivalent to FormatInt(int64(i), 10).": i's DECIMAL NUMERAL ('Lib.itoa': a '-' where i is negative, then the digits), FOR EVERY int. The world behind the call: the world before it, new blocks behind the heap (the library's 'var a [24]byte'), draws. (LAID: no walk: one application.) -/
theorem Tryz.strconv_Itoa (n : Int) (h0 : -9223372036854775808 ≤ n) (h1 : n ≤ 9223372036854775807) (w : World) (htab : Lib.TabIs Tryz.prog w "internal/strconv.uint64pow10" .u64 Lib.pow10Tab) :
    Calls Tryz.prog 136 #[.int .i64 n] w fun e w' => e = .returned (.string ⟨(Lib.itoa n).toArray⟩) ∧ ∃ k os, w' = grow (w.drewN k) os := Any.strconv_Itoa Tryz.laysM171 n h0 h1 w htab
end Go.Proofs
set_option maxRecDepth 100000
namespace Go.Proofs.YtfhlceooobabcaaGreatDoor.Wd
open Go Go.Eng Go.Lb Go.Ad
abbrev U64 : Ty := .int .u64
def joinL (l : List ByteArray) (d : ByteArray) : List UInt8 := Go.Lib.join (l.map bytesL) (bytesL d)
def joinS (l : List ByteArray) (d : ByteArray) : ByteArray := ofL (joinL l d)
def ctzZ (n : Int) : Int := (Go.Lib.ctz 64 n.toNat : Nat)
def cJoinS : Contract := conD (.cons (.sl .str) (.cons .str .unit)) (.cons .str .unit) (fun x => decide (List.length (α := ByteArray) x.1 ≤ 100000) && decide ((joinL x.1 x.2.1).length ≤ 4000000000)) fun x => (joinS x.1 x.2.1, ())
def cTZ : Contract := conD (.cons U64 .unit) (.cons I64 .unit) (fun x => decide ((0 : Int) ≤ x.1) && decide (x.1 < (18446744073709551616 : Int))) fun x => (ctzZ x.1, ())
def cItoa : Contract := conD (.cons I64 .unit) (.cons .str .unit) (fun x => decide ((0 : Int) ≤ x.1) && decide (x.1 ≤ (65535 : Int))) fun x => (digS x.1, ())
abbrev G8T : Ty := .arr 8 U16
def cLong : Contract := conD (.cons G8T .unit) (.cons I64 (.cons I64 .unit)) (fun _ => true) fun x => (long1 x.1, (long2 x.1, ()))
def cHexes : Contract := conD (.cons (.sl U16) .unit) (.cons .str .unit) (fun x => decide (List.length (α := Int) x.1 ≤ 8)) fun x => (hexes x.1, ())
def cText : Contract := conD (.cons AdT .unit) (.cons .str (.cons I64 .unit)) (fun _ => true) fun x => (text1 x.1, (text2 x.1, ()))
def cRow : Contract := conD (.cons AdL .unit) (.cons .str (.cons I64 .unit)) (fun x => lenA x.1) fun x => (row1 x.1, (row2 x.1, ()))
structure LongI (g : G8) (i n at_ many : Int) : Prop where
  i0 : 0 ≤ i
  i1 : i ≤ 8
  n0 : 0 ≤ n
  n1 : n ≤ i
  m0 : 0 ≤ many
  m1 : many ≤ 8
  a0 : 0 ≤ at_
  a1 : at_ ≤ 8
  a : longGo i n at_ many ((gl g).drop i.toNat) = longL (gl g)
def longA : LoopAnn where
  α := Int × Int × Int × Int
  keep := []
  okeep := []
  nxt := 30
  env := fun s x => [(7, .dat G8T (bDat G8T s 0).out), (8, .dat I64 x.1), (4, .dat I64 x.2.1), (2, .dat I64 x.2.2.1), (3, .dat I64 x.2.2.2)]
  own := fun _ _ => []
  inv := fun s x => LongI (bDat G8T s 0).out x.1 x.2.1 x.2.2.1 x.2.2.2
  mu := fun _ x => 8 - x.1.toNat
  pick := some fun _ s => ((bDat I64 s 8).out, (bDat I64 s 4).out, (bDat I64 s 2).out, (bDat I64 s 3).out)
structure MapI {α β : Type} (f : α → β) (l : List α) (out : List β) (i : Int) : Prop where
  i0 : 0 ≤ i
  i1 : i ≤ l.length
  a : out = (l.take i.toNat).map f
def hexA : LoopAnn where
  α := List ByteArray × Int
  keep := [0, 6, 7]
  okeep := []
  nxt := 30
  env := fun _ x => [(3, .own 20), (8, .dat I64 x.2)]
  own := fun _ x => [(20, .row 9 .str x.1)]
  inv := fun s x => MapI hexS (bDat (.sl U16) s 0).out x.1 x.2
  mu := fun s x => (bDat (.sl U16) s 0).out.length - x.2.toNat
  pick := some fun _ s => ((bRow .str s 3).out, (bDat I64 s 8).out)
def byteL (xs : List Int) (i : Int) : List UInt8 := (xs.drop i.toNat).map fun n => UInt8.ofNat n.toNat
structure BitsI (u0 u i : Int) (xs : List Int) : Prop where
  v0 : 0 ≤ u
  i0 : 62 ≤ i
  i1 : i ≤ 65
  l : xs.length = 65
  u1 : u < 16 ^ (i - 61).toNat
  a : hexF (i - 61).toNat u.toNat ++ byteL xs i = hexF 4 u0.toNat
def bitsA : LoopAnn where
  α := Int × Int × List Int
  keep := [0, 2, 3, 4, 10, 11, 14, 15, 16]
  okeep := []
  nxt := 40
  env := fun _ x => [(1, .dat (.int .u64) x.1), (13, .dat I64 x.2.1), (12, .pe 35 0 0)]
  own := fun _ x => [(35, .row 235 U8 x.2.2)]
  inv := fun s x => BitsI (bDat U64 s 1).out x.1 x.2.1 x.2.2
  mu := fun _ x => x.2.1.toNat
  pick := some fun _ s => ((bDat U64 s 1).out, (bDat I64 s 13).out, (bRow U8 s 12).out)
structure RowI (l : List Ad) (out : List ByteArray) (i : Int) : Prop where
  i0 : 0 ≤ i
  i1 : i ≤ l.length
  l16 : l.length ≤ 16
  m : (l.take i.toNat).all may1 = true
  a : out = (l.take i.toNat).map text1
def rowA : LoopAnn where
  α := List ByteArray × Int
  keep := [0, 12, 13]
  okeep := []
  nxt := 30
  env := fun _ x => [(4, .own 20), (14, .dat I64 x.2)]
  own := fun _ x => [(20, .row 9 .str x.1)]
  inv := fun s x => RowI (bDat AdL s 12).out x.1 x.2
  mu := fun s x => List.length (α := Ad) (bDat AdL s 12).out - x.2.toNat
  pick := some fun _ s => ((bRow .str s 4).out, (bDat I64 s 14).out)
def dgL (b n : Int) : List UInt8 := bif decide (b = 16) then hexL n.toNat else digL n.toNat
def dgS (n b : Int) : ByteArray := ofL (dgL b n)
def run1 (g : G8) : Int := bif decide (long2 g = 0) then -1 else long1 g
def run2 (g : G8) : Int := bif decide (long2 g = 0) then 1 else long2 g
def sixS (g : G8) : ByteArray := ofL (inL g)
def cDigs : Contract := conD (.cons I64 (.cons I64 .unit)) (.cons .str .unit) (fun x => decide ((0 : Int) ≤ x.1) && decide ((x.1 : Int) ≤ 65535) && (decide ((x.2.1 : Int) = 10) || decide ((x.2.1 : Int) = 16))) fun x => (dgS x.1 x.2.1, ())
def cRun : Contract := conD (.cons G8T .unit) (.cons I64 (.cons I64 .unit)) (fun _ => true) fun x => (run1 x.1, (run2 x.1, ()))
def cSixS : Contract := conD (.cons G8T .unit) (.cons .str .unit) (fun _ => true) fun x => (sixS x.1, ())
def cMay1 : Contract := conD (.cons AdT .unit) (.cons .bool .unit) (fun _ => true) fun x => (may1 x.1, ())
structure May2I (a : Ad) (i : Int) : Prop where
  i0 : 2 ≤ i
  i1 : i ≤ 8
  z : a.1 = 4 → ∀ k : Nat, 2 ≤ k → (k : Int) < i → (gl a.2.1).getD k 0 = 0
def may2L : LoopAnn where
  α := Int
  keep := [1]
  okeep := [0]
  nxt := 30
  env := fun _ x => [(3, .dat I64 x)]
  own := fun _ _ => []
  inv := fun s x => May2I (cDat AdT s 1 0).out x
  mu := fun _ x => 8 - x.toNat
  pick := some fun _ s => (bDat I64 s 3).out
def mayRL : LoopAnn where
  α := Int
  keep := [0]
  okeep := []
  nxt := 30
  env := fun _ x => [(3, .dat I64 x)]
  own := fun _ _ => []
  inv := fun s x => MayI (bDat AdL s 0).out x
  mu := fun s x => List.length (α := Ad) (bDat AdL s 0).out - x.toNat
  pick := some fun _ s => (bDat I64 s 3).out
/-! the document's -/
structure DgRI (b m n : Int) (s : ByteArray) : Prop where
  n0 : 0 ≤ n
  n1 : n ≤ 65535
  e : (n = 0 ∧ s = ofL (dgL b m)) ∨ (0 < n ∧ dgL b n ++ bytesL s = dgL b m)
def dgRL : LoopAnn where
  α := Int × ByteArray
  keep := [1]
  okeep := []
  nxt := 30
  env := fun _ x => [(0, .dat I64 x.1), (5, .dat .str x.2)]
  own := fun _ _ => []
  inv := fun s x => DgRI (bDat I64 s 1).out (bDat I64 s 0).out x.1 x.2
  mu := fun _ x => x.1.toNat
  pick := some fun _ s => ((bDat I64 s 0).out, (bDat .str s 5).out)
/-- how many are 0 from here on -/
def zc : List Int → Nat
  | [] => 0
  | x :: r => bif decide (x = 0) then zc r + 1 else 0
def runG (l : List Int) : Nat → Int × Int
  | 0 => (-1, 1)
  | i + 1 => bif decide (((zc (l.drop i) : Nat) : Int) > (runG l i).2) then ((i : Int), ((zc (l.drop i) : Nat) : Int)) else runG l i
structure RunRI (g : G8) (a m i : Int) : Prop where
  i0 : 0 ≤ i
  i1 : i ≤ 8
  e : (a, m) = runG (gl g) i.toNat
def runL : LoopAnn where
  α := Int × Int × Int
  keep := [1]
  okeep := [0]
  nxt := 30
  env := fun _ x => [(4, .dat I64 x.1), (5, .dat I64 x.2.1), (6, .dat I64 x.2.2)]
  own := fun _ _ => []
  inv := fun s x => RunRI (cDat G8T s 1 0).out x.1 x.2.1 x.2.2
  mu := fun _ x => 8 - x.2.2.toNat
  pick := some fun _ s => ((bDat I64 s 4).out, (bDat I64 s 5).out, (bDat I64 s 6).out)
structure ZcI (g : G8) (i n : Int) : Prop where
  n0 : 0 ≤ n
  n1 : i + n ≤ 8
  e : zc ((gl g).drop i.toNat) = n.toNat + zc ((gl g).drop (i + n).toNat)
def zcL : LoopAnn where
  α := Int
  keep := [1, 4, 5, 6]
  okeep := [0]
  nxt := 30
  env := fun _ x => [(7, .dat I64 x)]
  own := fun _ _ => []
  inv := fun s x => ZcI (cDat G8T s 1 0).out (bDat I64 s 6).out x
  mu := fun _ x => 8 - x.toNat
  pick := some fun _ s => (bDat I64 s 7).out
def sixP (g : G8) (i : Int) : List UInt8 := bif decide (long2 g = 0) || decide (i ≤ long1 g) then hexesL ((gl g).take i.toNat) else hexesL ((gl g).take (long1 g).toNat) ++ [58, 58] ++ hexesL (((gl g).take i.toNat).drop (long1 g + long2 g).toNat)
structure SixRI (g : G8) (s : ByteArray) (i : Int) : Prop where
  i0 : 0 ≤ i
  i1 : i ≤ 8
  out : long2 g = 0 ∨ i ≤ long1 g ∨ long1 g + long2 g ≤ i
  e : s = ofL (sixP g i)
def sixL : LoopAnn where
  α := ByteArray × Int
  keep := [1, 3, 4]
  okeep := [0]
  nxt := 30
  env := fun _ x => [(5, .dat .str x.1), (6, .dat I64 x.2)]
  own := fun _ _ => []
  inv := fun s x => SixRI (cDat G8T s 1 0).out x.1 x.2
  mu := fun _ x => 8 - x.2.toNat
  pick := some fun _ s => ((bDat .str s 5).out, (bDat I64 s 6).out)
structure RowRI (l : List Ad) (s : ByteArray) (i : Int) : Prop where
  i0 : 0 ≤ i
  i1 : i ≤ l.length
  e : s = ofL (Go.Lib.join ((l.take i.toNat).map text0) [32])
def rowRL : LoopAnn where
  α := ByteArray × Int
  keep := [0]
  okeep := []
  nxt := 30
  env := fun _ x => [(4, .dat .str x.1), (5, .dat I64 x.2)]
  own := fun _ _ => []
  inv := fun s x => RowRI (bDat AdL s 0).out x.1 x.2
  mu := fun s x => List.length (α := Ad) (bDat AdL s 0).out - x.2.toNat
  pick := some fun _ s => ((bDat .str s 4).out, (bDat I64 s 5).out)
end Go.Proofs.YtfhlceooobabcaaGreatDoor.Wd
set_option linter.all false
namespace Go.Proofs.YtfhlceooobabcaaGreatDoor.Wd
open Go Go.RowKit Go.Eng Go.Lb Go.Ad
set_option maxRecDepth 100000
set_option maxHeartbeats 8000000
theorem digF_len : ∀ (f n : Nat), (digF f n).length ≤ f
  | 0, _ => by simp [digF]
  | f + 1, n => by
    unfold digF
    cases decide (n < 10)
    · simp only [cond_false, List.length_append, List.length_singleton]
      have := digF_len f (n / 10)
      omega
    · simp
theorem digS_size (n : Int) : (digS n).size ≤ 5 := by
  rw [digS, ofL_size]; exact digF_len 5 _
/-- what the variables hold that the library reads -/
structure GA (w : World) : Prop where
  max : ∃ m, w.cell? ⟨0, 0, none⟩ = some (.int .i64 m)
  pow : Go.Lib.TabIs Tryz.prog w "internal/strconv.uint64pow10" .u64 Go.Lib.pow10Tab
  tz : Go.Proofs.TabAt 3 Go.Lib.deBruijn64tab w
theorem var_on {w w' : World} {n : String} {cs : Array Value} (hg : (Tryz.prog.globalNamed n).isSome = true) (hb : Below w.heap.size w w') (h : w.var? Tryz.prog n = some cs) : w'.var? Tryz.prog n = some cs := by
  obtain ⟨g, hg⟩ := Option.isSome_iff_exists.1 hg
  have hlt : g < w.heap.size := by
    unfold World.var? at h
    rw [hg] at h
    simp only [Option.bind_some] at h
    rcases Nat.lt_or_ge g w.heap.size with h' | h'
    · exact h'
    · rw [Array.getElem?_eq_none h'] at h; cases h
  exact var?_below hb hg hlt h
theorem gas : ∀ w w', Below w.heap.size w w' → GA w → GA w' := by
  intro w w' hb h
  obtain ⟨⟨m, h1⟩, h2, h3⟩ := h
  have h0 : 0 < w.heap.size := World.block_lt_of_cell? w ⟨0, 0, none⟩ h1
  refine ⟨⟨m, ?_⟩, var_on (by kernel_rfl) hb h2, fun j hj => ?_⟩
  · rw [World.cell?_of_block (w := w) (w' := w') (hb.block 0 h0)]
    exact h1
  · have h7 : 3 < w.heap.size := World.block_lt_of_cell? w ⟨3, j, none⟩ (h3 j hj)
    rw [World.cell?_of_block (w := w) (w' := w') (hb.block 3 h7)]
    exact h3 j hj
theorem dec_dig : ∀ (f n : Nat), n < 10 ^ (f + 1) → Go.Lib.decDigits n = digF (f + 1) n
  | 0, n, h => by
    rw [Go.Lib.decDigits, dif_pos (by simpa using h), digF, cond_eq_ite, if_pos (by simpa using h)]
  | f + 1, n, h => by
    rw [Go.Lib.decDigits, digF, cond_eq_ite]
    by_cases h10 : n < 10
    · rw [dif_pos h10, if_pos (by simpa using h10)]
    · rw [dif_neg h10, if_neg (by simpa using h10), dec_dig f (n / 10) (by rw [Nat.pow_succ] at h; omega)]
theorem valItoa : Valid Tryz.prog GA 136 cItoa := by
  refine ⟨⟨Tryz.f136, Tryz.func136, by kernel_rfl, rfl⟩, fun w hG S x cs hS hx hpre => ?_⟩
  obtain ⟨n, ⟨⟩⟩ := x
  obtain ⟨c1, c2, rfl, ⟨rfl, hs1⟩, h2⟩ := hx
  obtain rfl : c2 = [] := h2
  have hp : (decide ((0 : Int) ≤ n) && decide (n ≤ (65535 : Int))) = true := hpre
  simp only [Bool.and_eq_true, decide_eq_true_eq] at hp
  have hF : cItoa.F (n, ()) = (digS n, ()) := rfl
  rw [hF]
  clear hpre hF
  obtain ⟨hn0, hn1⟩ := hp
  have hn0 : Int.le 0 n := hn0
  have hn1 : Int.le n 65535 := hn1
  have key : ∀ m : Int, Int.le 0 m → Int.le m 65535 → -9223372036854775808 ≤ m ∧ m ≤ 9223372036854775807 ∧ ¬ m < 0 ∧ m.toNat < 100000 := by
    intro m a b
    have a : (0 : Int) ≤ m := a
    have b : m ≤ 65535 := b
    omega
  obtain ⟨k1, k2, k3, k4⟩ := key n hn0 hn1
  refine Calls.mono (Tryz.strconv_Itoa n k1 k2 w hG.pow) ?_
  rintro e w' ⟨rfl, k, os, rfl⟩
  have he : (⟨(Go.Lib.itoa n).toArray⟩ : ByteArray) = digS n := by
    unfold Go.Lib.itoa digS digL
    rw [if_neg k3, dec_dig 4 n.toNat k4]
    rfl
  rw [he]
  have := digS_size n
  exact ⟨Go.Lib.below_grow _ w (Nat.le_refl _) k os, [.string (digS n)], rfl, ⟨[.string (digS n)], [], rfl, ⟨rfl, by simp only; unfold maxLen; omega⟩, rfl⟩, fun h => by cases h⟩

theorem valJoin : Valid Tryz.prog GA 111 cJoinS := by
  refine ⟨⟨Tryz.f111, Tryz.func111, by kernel_rfl, rfl⟩, fun w hG S x cs hS hx hpre => ?_⟩
  obtain ⟨xs, d, ⟨⟩⟩ := x
  obtain ⟨c1, c2, rfl, ⟨base, cap, rfl, hc1, hc2, hmem⟩, h2⟩ := hx
  obtain ⟨c3, c4, rfl, ⟨rfl, hp1⟩, h4⟩ := h2
  obtain rfl : c4 = [] := h4
  have hp : (decide (List.length (α := ByteArray) xs ≤ 100000) && decide ((joinL xs d).length ≤ 4000000000)) = true := hpre
  simp only [Bool.and_eq_true, decide_eq_true_eq] at hp
  have hs : (joinS xs d).size ≤ maxLen := by
    rw [size_bytesL]; unfold joinS; rw [bytesL_ofL]; unfold maxLen; omega
  have hF : cJoinS.F (xs, d, ()) = (joinS xs d, ()) := rfl
  rw [hF]
  cases hxs : xs with
  | nil =>
    subst hxs
    refine Calls.mono (Tryz.strings_Join_none base cap d w) ?_
    rintro e w' ⟨rfl, rfl⟩
    exact ⟨Below.refl _ _, [.string (joinS [] d)], rfl, ⟨[.string (joinS [] d)], [], rfl, ⟨rfl, hs⟩, rfl⟩, fun h => by cases h⟩
  | cons y ys =>
    obtain ⟨b, off, rfl, hb, hcells⟩ := hmem (by rw [hxs]; exact List.cons_ne_nil _ _)
    rw [← hxs]
    refine Calls.mono (Tryz.strings_Join b off cap xs d w ?_ (hS b hb) ?_ hc1 ?_) ?_
    · intro j x hj
      obtain ⟨es, ⟨rfl, _⟩, hl⟩ := hcells j x hj
      have := hl 0 _ rfl
      simpa [Ty.size] using this
    · have := hp.1; show List.length (α := ByteArray) xs ≤ _; omega
    · have := hp.2; unfold joinL at this; exact Nat.le_trans this (by omega)
    · rintro e w' ⟨rfl, hw⟩
      exact ⟨hw, [.string (joinS xs d)], rfl, ⟨[.string (joinS xs d)], [], rfl, ⟨rfl, hs⟩, rfl⟩, fun h => by cases h⟩
theorem ctzFrom_le : ∀ f n, Go.Lib.ctzFrom f n ≤ f
  | 0, _ => Nat.le_refl _
  | f + 1, n => by
    rw [Go.Lib.ctzFrom]
    have := ctzFrom_le f (n / 2)
    split <;> omega
theorem ctz_le (n : Nat) : Go.Lib.ctz 64 n ≤ 64 := by
  unfold Go.Lib.ctz
  split
  · exact Nat.le_refl _
  · exact ctzFrom_le _ _
theorem valTZ : Valid Tryz.prog GA 197 cTZ := by
  refine ⟨⟨Tryz.f197, Tryz.func197, by kernel_rfl, rfl⟩, fun w hG S x cs hS hx hpre => ?_⟩
  obtain ⟨n, ⟨⟩⟩ := x
  obtain ⟨c1, c2, rfl, ⟨rfl, hs1⟩, h2⟩ := hx
  obtain rfl : c2 = [] := h2
  have hp : (decide ((0 : Int) ≤ n) && decide (n < (18446744073709551616 : Int))) = true := hpre
  simp only [Bool.and_eq_true, decide_eq_true_eq] at hp
  obtain ⟨m, rfl⟩ : ∃ m : Nat, n = m := ⟨Int.toNat n, by have := hp.1; exact (Int.toNat_of_nonneg this).symm⟩
  refine Calls.mono (Tryz.bits_TrailingZeros m (by have h2 : (m : Int) < 18446744073709551616 := hp.2; omega) w (fun _ => hG.tz)) ?_
  rintro e w' ⟨rfl, rfl⟩
  refine ⟨Below.refl _ _, [.int .i64 (ctzZ m)], rfl, ⟨[.int .i64 (ctzZ m)], [], rfl, ⟨rfl, ?_⟩, rfl⟩, fun h => by cases h⟩
  show IntKind.wrap .i64 (ctzZ m) = ctzZ m
  unfold ctzZ
  have := ctz_le (m : Int).toNat
  exact w64 (by omega) (by omega)
end Go.Proofs.YtfhlceooobabcaaGreatDoor.Wd
namespace Go.Proofs.YtfhlceooobabcaaGreatDoor.Wd
open Go Go.Eng Go.Lb Go.Ad
set_option maxRecDepth 100000
noncomputable def g137 : Cfg := { tab := Tb.tab, cons := [], inls := [], loops := [(3, longA)], cuts := [], unroll := false, arrs := [], keys := [] }
noncomputable def g138 : Cfg := { tab := Tb.tab, cons := [(111, cJoinS), (197, cTZ)], inls := [(164, Tryz.f164), (179, Tryz.f179), (189, Tryz.f189), (196, Tryz.f196)], loops := [(3, hexA), (1900011, bitsA)], cuts := [], unroll := false, arrs := [], keys := [] }
noncomputable def g110 : Cfg := { tab := Tb.tab, cons := [(45, cMay), (111, cJoinS), (136, cItoa), (137, cLong), (138, cHexes)], inls := [], loops := [], cuts := [], unroll := true, arrs := [], keys := [] }
noncomputable def g75 : Cfg := { tab := Tb.tab, cons := [(110, cText), (111, cJoinS)], inls := [], loops := [(5, rowA)], cuts := [], unroll := false, arrs := [], keys := [] }
noncomputable def g112 : Cfg := { tab := Tb.tab, cons := [], inls := [], loops := [(4, may2L)], cuts := [], unroll := false, arrs := [], keys := [] }
noncomputable def g77 : Cfg := { tab := Tb.tab, cons := [(112, cMay1)], inls := [], loops := [(2, mayRL)], cuts := [], unroll := false, arrs := [], keys := [] }
noncomputable def g113 : Cfg := { tab := Tb.tab, cons := [], inls := [], loops := [(4, dgRL)], cuts := [], unroll := false, arrs := [], keys := [] }
noncomputable def g142 : Cfg := { tab := Tb.tab, cons := [], inls := [], loops := [(3, runL), (6, zcL)], cuts := [], unroll := false, arrs := [], keys := [] }
noncomputable def g114 : Cfg := { tab := Tb.tab, cons := [(113, cDigs), (142, cRun)], inls := [], loops := [(4, sixL)], cuts := [], unroll := false, arrs := [], keys := [] }
noncomputable def g78 : Cfg := { tab := Tb.tab, cons := [(112, cMay1), (113, cDigs), (114, cSixS)], inls := [], loops := [], cuts := [], unroll := false, arrs := [], keys := [] }
noncomputable def g33 : Cfg := { tab := Tb.tab, cons := [(77, cMay), (78, cText)], inls := [], loops := [(5, rowRL)], cuts := [], unroll := false, arrs := [], keys := [] }
end Go.Proofs.YtfhlceooobabcaaGreatDoor.Wd
namespace Go.Proofs.YtfhlceooobabcaaGreatDoor.Wd
open Go Go.Eng Go.Lb Go.Ad
set_option maxRecDepth 100000
theorem v137_eq : vcFn g137 300 Tryz.f137 cLong = ( ∀ (x : (Int × Int × Int × Int × Int × Int × Int × Int × Unit) × Unit), Wr (Bool.true = Bool.true) → (Wr (LongI x.fst (0 : Int) (0 : Int) (0 : Int) (0 : Int)) ∧ Wr (x.fst = x.fst) ∧ Wr ((0 : Int) = (0 : Int)) ∧ Wr ((0 :
  Int) = (0 : Int)) ∧ Wr ((0 : Int) = (0 : Int)) ∧ Wr ((0 : Int) = (0 : Int))) ∧ ∀ (x_1 : Int × Int × Int × Int), Wr (LongI x.fst x_1.fst x_1.snd.fst x_1.snd.snd.fst x_1.snd.snd.snd) → bcase (Decidable.decide (x_1.fst <
  (8 : Int))) (Wr ((0 : Int) ≤ x_1.fst) ∧ Wr (x_1.fst < (↑(8 : Nat) : Int)) ∧ bcase (!Decidable.decide (List.getD (x.fst.fst :: x.fst.snd.fst :: x.fst.snd.snd.fst :: x.fst.snd.snd.snd.fst :: x.fst.snd.snd.snd.snd.fst ::
  x.fst.snd.snd.snd.snd.snd.fst :: x.fst.snd.snd.snd.snd.snd.snd.fst :: x.fst.snd.snd.snd.snd.snd.snd.snd.fst :: nilL Int) (Int.toNat x_1.fst) (0 : Int) = (0 : Int))) (bcase (Decidable.decide ((0 : Int) > Max.max
  x_1.snd.snd.snd (1 : Int))) (Wr (LongI x.fst (IntKind.wrap IntKind.i64 (x_1.fst + (1 : Int))) (0 : Int) (IntKind.wrap IntKind.i64 (IntKind.wrap IntKind.i64 (x_1.fst + (1 : Int)) - (0 : Int))) (0 : Int)) ∧ Wr ((8 : Nat)
  - Int.toNat (IntKind.wrap IntKind.i64 (x_1.fst + (1 : Int))) < (8 : Nat) - Int.toNat x_1.fst) ∧ Wr (x.fst = x.fst) ∧ Wr (IntKind.wrap IntKind.i64 (x_1.fst + (1 : Int)) = IntKind.wrap IntKind.i64 (x_1.fst + (1 : Int))) ∧
  Wr ((0 : Int) = (0 : Int)) ∧ Wr (IntKind.wrap IntKind.i64 (IntKind.wrap IntKind.i64 (x_1.fst + (1 : Int)) - (0 : Int)) = IntKind.wrap IntKind.i64 (IntKind.wrap IntKind.i64 (x_1.fst + (1 : Int)) - (0 : Int))) ∧ Wr ((0 :
  Int) = (0 : Int))) (Wr (LongI x.fst (IntKind.wrap IntKind.i64 (x_1.fst + (1 : Int))) (0 : Int) x_1.snd.snd.fst x_1.snd.snd.snd) ∧ Wr ((8 : Nat) - Int.toNat (IntKind.wrap IntKind.i64 (x_1.fst + (1 : Int))) < (8 : Nat) -
  Int.toNat x_1.fst) ∧ Wr (x.fst = x.fst) ∧ Wr (IntKind.wrap IntKind.i64 (x_1.fst + (1 : Int)) = IntKind.wrap IntKind.i64 (x_1.fst + (1 : Int))) ∧ Wr ((0 : Int) = (0 : Int)) ∧ Wr (x_1.snd.snd.fst = x_1.snd.snd.fst) ∧ Wr
  (x_1.snd.snd.snd = x_1.snd.snd.snd))) (bcase (Decidable.decide (IntKind.wrap IntKind.i64 (x_1.snd.fst + (1 : Int)) > Max.max x_1.snd.snd.snd (1 : Int))) (Wr (LongI x.fst (IntKind.wrap IntKind.i64 (x_1.fst + (1 : Int)))
  (IntKind.wrap IntKind.i64 (x_1.snd.fst + (1 : Int))) (IntKind.wrap IntKind.i64 (IntKind.wrap IntKind.i64 (x_1.fst + (1 : Int)) - IntKind.wrap IntKind.i64 (x_1.snd.fst + (1 : Int)))) (IntKind.wrap IntKind.i64
  (x_1.snd.fst + (1 : Int)))) ∧ Wr ((8 : Nat) - Int.toNat (IntKind.wrap IntKind.i64 (x_1.fst + (1 : Int))) < (8 : Nat) - Int.toNat x_1.fst) ∧ Wr (x.fst = x.fst) ∧ Wr (IntKind.wrap IntKind.i64 (x_1.fst + (1 : Int)) =
  IntKind.wrap IntKind.i64 (x_1.fst + (1 : Int))) ∧ Wr (IntKind.wrap IntKind.i64 (x_1.snd.fst + (1 : Int)) = IntKind.wrap IntKind.i64 (x_1.snd.fst + (1 : Int))) ∧ Wr (IntKind.wrap IntKind.i64 (IntKind.wrap IntKind.i64
  (x_1.fst + (1 : Int)) - IntKind.wrap IntKind.i64 (x_1.snd.fst + (1 : Int))) = IntKind.wrap IntKind.i64 (IntKind.wrap IntKind.i64 (x_1.fst + (1 : Int)) - IntKind.wrap IntKind.i64 (x_1.snd.fst + (1 : Int)))) ∧ Wr
  (IntKind.wrap IntKind.i64 (x_1.snd.fst + (1 : Int)) = IntKind.wrap IntKind.i64 (x_1.snd.fst + (1 : Int)))) (Wr (LongI x.fst (IntKind.wrap IntKind.i64 (x_1.fst + (1 : Int))) (IntKind.wrap IntKind.i64 (x_1.snd.fst + (1 :
  Int))) x_1.snd.snd.fst x_1.snd.snd.snd) ∧ Wr ((8 : Nat) - Int.toNat (IntKind.wrap IntKind.i64 (x_1.fst + (1 : Int))) < (8 : Nat) - Int.toNat x_1.fst) ∧ Wr (x.fst = x.fst) ∧ Wr (IntKind.wrap IntKind.i64 (x_1.fst + (1 :
  Int)) = IntKind.wrap IntKind.i64 (x_1.fst + (1 : Int))) ∧ Wr (IntKind.wrap IntKind.i64 (x_1.snd.fst + (1 : Int)) = IntKind.wrap IntKind.i64 (x_1.snd.fst + (1 : Int))) ∧ Wr (x_1.snd.snd.fst = x_1.snd.snd.fst) ∧ Wr
  (x_1.snd.snd.snd = x_1.snd.snd.snd)))) ((x_1.snd.snd.fst, x_1.snd.snd.snd, ()) = (Go.Ad.long1 x.fst, Go.Ad.long2 x.fst, ()))) := by kernel_rfl
theorem v138_eq : vcFn g138 300 Tryz.f138 cHexes.T = ( ∀ (x : List Int × Unit), Wr (typedB (Ty.cons (Ty.sl U16) Ty.unit) x = Bool.true ∧ Decidable.decide (List.length x.fst ≤ (8 : Nat)) = Bool.true) → (Wr (MapI Go.Ad.hexS x.fst (nilL ByteArray) (0 : Int)) ∧ Wr ((0 : Int) =
  (0 : Int)) ∧ Wr (x.fst = x.fst) ∧ Wr (x.fst = x.fst) ∧ Wr ((↑(List.length x.fst) : Int) = (↑(List.length x.fst) : Int)) ∧ Wr (nilL ByteArray = nilL ByteArray)) ∧ ∀ (x_1 : List ByteArray × Int), Wr (MapI Go.Ad.hexS x.fst
  x_1.fst x_1.snd) → bcase (Decidable.decide (x_1.snd < (↑(List.length x.fst) : Int))) (Wr ((0 : Int) ≤ x_1.snd) ∧ Wr (x_1.snd < (↑(List.length x.fst) : Int)) ∧ Wr (Bool.true = Bool.true) ∧ bcase (Decidable.decide
  (IntKind.wrap IntKind.i64 (List.getD x.fst (Int.toNat x_1.snd) (0 : Int)) < (0 : Int))) (Wr ((Decidable.decide ((0 : Int) ≤ IntKind.wrap IntKind.u64 (16 : Int)) && Decidable.decide (IntKind.wrap IntKind.u64 (16 : Int) <
  (18446744073709551616 : Int))) = Bool.true) ∧ (Wr (BitsI (IntKind.wrap IntKind.u64 ((0 : Int) - IntKind.wrap IntKind.u64 (IntKind.wrap IntKind.i64 (List.getD x.fst (Int.toNat x_1.snd) (0 : Int))))) (IntKind.wrap
  IntKind.u64 ((0 : Int) - IntKind.wrap IntKind.u64 (IntKind.wrap IntKind.i64 (List.getD x.fst (Int.toNat x_1.snd) (0 : Int))))) (65 : Int) (List.replicate (65 : Nat) (0 : Int))) ∧ Wr (IntKind.wrap IntKind.u64 ((0 : Int)
  - IntKind.wrap IntKind.u64 (IntKind.wrap IntKind.i64 (List.getD x.fst (Int.toNat x_1.snd) (0 : Int)))) = IntKind.wrap IntKind.u64 ((0 : Int) - IntKind.wrap IntKind.u64 (IntKind.wrap IntKind.i64 (List.getD x.fst
  (Int.toNat x_1.snd) (0 : Int))))) ∧ Wr ((65 : Int) = (65 : Int)) ∧ Wr ((0 : Nat) < List.length (List.replicate (65 : Nat) (0 : Int))) ∧ Wr ((16 : Int) = (16 : Int)) ∧ Wr (Decidable.decide (IntKind.wrap IntKind.i64
  (List.getD x.fst (Int.toNat x_1.snd) (0 : Int)) < (0 : Int)) = Decidable.decide (IntKind.wrap IntKind.i64 (List.getD x.fst (Int.toNat x_1.snd) (0 : Int)) < (0 : Int))) ∧ Wr (Bool.false = Bool.false) ∧ Wr (ByteArray.mk
  (List.toArray (nilL UInt8)) = ByteArray.mk (List.toArray (nilL UInt8))) ∧ Wr (IntKind.wrap IntKind.u64 (ctzZ (IntKind.wrap IntKind.u64 (16 : Int))) = IntKind.wrap IntKind.u64 (ctzZ (IntKind.wrap IntKind.u64 (16 :
  Int)))) ∧ Wr (IntKind.wrap IntKind.u64 (16 : Int) = IntKind.wrap IntKind.u64 (16 : Int)) ∧ Wr (IntKind.wrap IntKind.u64 (IntKind.wrap IntKind.u64 (16 : Int) - (1 : Int)) = IntKind.wrap IntKind.u64 (IntKind.wrap
  IntKind.u64 (16 : Int) - (1 : Int))) ∧ Wr (List.replicate (65 : Nat) (0 : Int) = List.replicate (65 : Nat) (0 : Int)) ∧ Wr (x_1.fst = x_1.fst)) ∧ ∀ (x_2 : Int × Int × List Int), Wr (BitsI (IntKind.wrap IntKind.u64 ((0 :
  Int) - IntKind.wrap IntKind.u64 (IntKind.wrap IntKind.i64 (List.getD x.fst (Int.toNat x_1.snd) (0 : Int))))) x_2.fst x_2.snd.fst x_2.snd.snd) → bcase (Decidable.decide (x_2.fst ≥ IntKind.wrap IntKind.u64 (16 : Int)))
  (Wr ((0 : Int) ≤ andI IntKind.u64 x_2.fst (IntKind.wrap IntKind.u64 (IntKind.wrap IntKind.u64 (16 : Int) - (1 : Int)))) ∧ Wr (andI IntKind.u64 x_2.fst (IntKind.wrap IntKind.u64 (IntKind.wrap IntKind.u64 (16 : Int) - (1
  : Int))) < (↑(ByteArray.size (ByteArray.mk (List.toArray ((48 : UInt8) :: (49 : UInt8) :: (50 : UInt8) :: (51 : UInt8) :: (52 : UInt8) :: (53 : UInt8) :: (54 : UInt8) :: (55 : UInt8) :: (56 : UInt8) :: (57 : UInt8) ::
  (97 : UInt8) :: (98 : UInt8) :: (99 : UInt8) :: (100 : UInt8) :: (101 : UInt8) :: (102 : UInt8) :: (103 : UInt8) :: (104 : UInt8) :: (105 : UInt8) :: (106 : UInt8) :: (107 : UInt8) :: (108 : UInt8) :: (109 : UInt8) ::
  (110 : UInt8) :: (111 : UInt8) :: (112 : UInt8) :: (113 : UInt8) :: (114 : UInt8) :: (115 : UInt8) :: (116 : UInt8) :: (117 : UInt8) :: (118 : UInt8) :: (119 : UInt8) :: (120 : UInt8) :: (121 : UInt8) :: (122 : UInt8)
  :: nilL UInt8)))) : Int)) ∧ Wr (List.length x_2.snd.snd = (65 : Nat)) ∧ Wr ((0 : Int) ≤ IntKind.wrap IntKind.i64 (x_2.snd.fst - (1 : Int))) ∧ Wr (IntKind.wrap IntKind.i64 (x_2.snd.fst - (1 : Int)) < (↑(65 : Nat) : Int))
  ∧ Wr ((0 : Int) ≤ IntKind.wrap IntKind.u64 (ctzZ (IntKind.wrap IntKind.u64 (16 : Int)))) ∧ Wr (BitsI (IntKind.wrap IntKind.u64 ((0 : Int) - IntKind.wrap IntKind.u64 (IntKind.wrap IntKind.i64 (List.getD x.fst (Int.toNat
  x_1.snd) (0 : Int))))) (Int.fdiv x_2.fst ((2 : Int) ^ Min.min (Int.toNat (IntKind.wrap IntKind.u64 (ctzZ (IntKind.wrap IntKind.u64 (16 : Int))))) (IntKind.bits IntKind.u64))) (IntKind.wrap IntKind.i64 (x_2.snd.fst - (1
  : Int))) (List.set x_2.snd.snd (Int.toNat (IntKind.wrap IntKind.i64 (x_2.snd.fst - (1 : Int)))) (byteAt (ByteArray.mk (List.toArray ((48 : UInt8) :: (49 : UInt8) :: (50 : UInt8) :: (51 : UInt8) :: (52 : UInt8) :: (53 :
  UInt8) :: (54 : UInt8) :: (55 : UInt8) :: (56 : UInt8) :: (57 : UInt8) :: (97 : UInt8) :: (98 : UInt8) :: (99 : UInt8) :: (100 : UInt8) :: (101 : UInt8) :: (102 : UInt8) :: (103 : UInt8) :: (104 : UInt8) :: (105 :
  UInt8) :: (106 : UInt8) :: (107 : UInt8) :: (108 : UInt8) :: (109 : UInt8) :: (110 : UInt8) :: (111 : UInt8) :: (112 : UInt8) :: (113 : UInt8) :: (114 : UInt8) :: (115 : UInt8) :: (116 : UInt8) :: (117 : UInt8) :: (118
  : UInt8) :: (119 : UInt8) :: (120 : UInt8) :: (121 : UInt8) :: (122 : UInt8) :: nilL UInt8))) (Int.toNat (andI IntKind.u64 x_2.fst (IntKind.wrap IntKind.u64 (IntKind.wrap IntKind.u64 (16 : Int) - (1 : Int)))))))) ∧ Wr
  (Int.toNat (IntKind.wrap IntKind.i64 (x_2.snd.fst - (1 : Int))) < Int.toNat x_2.snd.fst) ∧ Wr (Int.fdiv x_2.fst ((2 : Int) ^ Min.min (Int.toNat (IntKind.wrap IntKind.u64 (ctzZ (IntKind.wrap IntKind.u64 (16 : Int)))))
  (IntKind.bits IntKind.u64)) = Int.fdiv x_2.fst ((2 : Int) ^ Min.min (Int.toNat (IntKind.wrap IntKind.u64 (ctzZ (IntKind.wrap IntKind.u64 (16 : Int))))) (IntKind.bits IntKind.u64))) ∧ Wr (IntKind.wrap IntKind.i64
  (x_2.snd.fst - (1 : Int)) = IntKind.wrap IntKind.i64 (x_2.snd.fst - (1 : Int))) ∧ Wr ((0 : Nat) < List.length (List.set x_2.snd.snd (Int.toNat (IntKind.wrap IntKind.i64 (x_2.snd.fst - (1 : Int)))) (byteAt (ByteArray.mk
  (List.toArray ((48 : UInt8) :: (49 : UInt8) :: (50 : UInt8) :: (51 : UInt8) :: (52 : UInt8) :: (53 : UInt8) :: (54 : UInt8) :: (55 : UInt8) :: (56 : UInt8) :: (57 : UInt8) :: (97 : UInt8) :: (98 : UInt8) :: (99 : UInt8)
  :: (100 : UInt8) :: (101 : UInt8) :: (102 : UInt8) :: (103 : UInt8) :: (104 : UInt8) :: (105 : UInt8) :: (106 : UInt8) :: (107 : UInt8) :: (108 : UInt8) :: (109 : UInt8) :: (110 : UInt8) :: (111 : UInt8) :: (112 :
  UInt8) :: (113 : UInt8) :: (114 : UInt8) :: (115 : UInt8) :: (116 : UInt8) :: (117 : UInt8) :: (118 : UInt8) :: (119 : UInt8) :: (120 : UInt8) :: (121 : UInt8) :: (122 : UInt8) :: nilL UInt8))) (Int.toNat (andI
  IntKind.u64 x_2.fst (IntKind.wrap IntKind.u64 (IntKind.wrap IntKind.u64 (16 : Int) - (1 : Int)))))))) ∧ Wr ((16 : Int) = (16 : Int)) ∧ Wr (Decidable.decide (IntKind.wrap IntKind.i64 (List.getD x.fst (Int.toNat x_1.snd)
  (0 : Int)) < (0 : Int)) = Decidable.decide (IntKind.wrap IntKind.i64 (List.getD x.fst (Int.toNat x_1.snd) (0 : Int)) < (0 : Int))) ∧ Wr (Bool.false = Bool.false) ∧ Wr (ByteArray.mk (List.toArray (nilL UInt8)) =
  ByteArray.mk (List.toArray (nilL UInt8))) ∧ Wr (IntKind.wrap IntKind.u64 (ctzZ (IntKind.wrap IntKind.u64 (16 : Int))) = IntKind.wrap IntKind.u64 (ctzZ (IntKind.wrap IntKind.u64 (16 : Int)))) ∧ Wr (IntKind.wrap
  IntKind.u64 (16 : Int) = IntKind.wrap IntKind.u64 (16 : Int)) ∧ Wr (IntKind.wrap IntKind.u64 (IntKind.wrap IntKind.u64 (16 : Int) - (1 : Int)) = IntKind.wrap IntKind.u64 (IntKind.wrap IntKind.u64 (16 : Int) - (1 :
  Int))) ∧ Wr (List.set x_2.snd.snd (Int.toNat (IntKind.wrap IntKind.i64 (x_2.snd.fst - (1 : Int)))) (byteAt (ByteArray.mk (List.toArray ((48 : UInt8) :: (49 : UInt8) :: (50 : UInt8) :: (51 : UInt8) :: (52 : UInt8) :: (53
  : UInt8) :: (54 : UInt8) :: (55 : UInt8) :: (56 : UInt8) :: (57 : UInt8) :: (97 : UInt8) :: (98 : UInt8) :: (99 : UInt8) :: (100 : UInt8) :: (101 : UInt8) :: (102 : UInt8) :: (103 : UInt8) :: (104 : UInt8) :: (105 :
  UInt8) :: (106 : UInt8) :: (107 : UInt8) :: (108 : UInt8) :: (109 : UInt8) :: (110 : UInt8) :: (111 : UInt8) :: (112 : UInt8) :: (113 : UInt8) :: (114 : UInt8) :: (115 : UInt8) :: (116 : UInt8) :: (117 : UInt8) :: (118
  : UInt8) :: (119 : UInt8) :: (120 : UInt8) :: (121 : UInt8) :: (122 : UInt8) :: nilL UInt8))) (Int.toNat (andI IntKind.u64 x_2.fst (IntKind.wrap IntKind.u64 (IntKind.wrap IntKind.u64 (16 : Int) - (1 : Int)))))) =
  List.set x_2.snd.snd (Int.toNat (IntKind.wrap IntKind.i64 (x_2.snd.fst - (1 : Int)))) (byteAt (ByteArray.mk (List.toArray ((48 : UInt8) :: (49 : UInt8) :: (50 : UInt8) :: (51 : UInt8) :: (52 : UInt8) :: (53 : UInt8) ::
  (54 : UInt8) :: (55 : UInt8) :: (56 : UInt8) :: (57 : UInt8) :: (97 : UInt8) :: (98 : UInt8) :: (99 : UInt8) :: (100 : UInt8) :: (101 : UInt8) :: (102 : UInt8) :: (103 : UInt8) :: (104 : UInt8) :: (105 : UInt8) :: (106
  : UInt8) :: (107 : UInt8) :: (108 : UInt8) :: (109 : UInt8) :: (110 : UInt8) :: (111 : UInt8) :: (112 : UInt8) :: (113 : UInt8) :: (114 : UInt8) :: (115 : UInt8) :: (116 : UInt8) :: (117 : UInt8) :: (118 : UInt8) ::
  (119 : UInt8) :: (120 : UInt8) :: (121 : UInt8) :: (122 : UInt8) :: nilL UInt8))) (Int.toNat (andI IntKind.u64 x_2.fst (IntKind.wrap IntKind.u64 (IntKind.wrap IntKind.u64 (16 : Int) - (1 : Int))))))) ∧ Wr (x_1.fst =
  x_1.fst)) (Wr ((0 : Int) ≤ x_2.fst) ∧ Wr (x_2.fst < (↑(ByteArray.size (ByteArray.mk (List.toArray ((48 : UInt8) :: (49 : UInt8) :: (50 : UInt8) :: (51 : UInt8) :: (52 : UInt8) :: (53 : UInt8) :: (54 : UInt8) :: (55 :
  UInt8) :: (56 : UInt8) :: (57 : UInt8) :: (97 : UInt8) :: (98 : UInt8) :: (99 : UInt8) :: (100 : UInt8) :: (101 : UInt8) :: (102 : UInt8) :: (103 : UInt8) :: (104 : UInt8) :: (105 : UInt8) :: (106 : UInt8) :: (107 :
  UInt8) :: (108 : UInt8) :: (109 : UInt8) :: (110 : UInt8) :: (111 : UInt8) :: (112 : UInt8) :: (113 : UInt8) :: (114 : UInt8) :: (115 : UInt8) :: (116 : UInt8) :: (117 : UInt8) :: (118 : UInt8) :: (119 : UInt8) :: (120
  : UInt8) :: (121 : UInt8) :: (122 : UInt8) :: nilL UInt8)))) : Int)) ∧ Wr (List.length x_2.snd.snd = (65 : Nat)) ∧ Wr ((0 : Int) ≤ IntKind.wrap IntKind.i64 (x_2.snd.fst - (1 : Int))) ∧ Wr (IntKind.wrap IntKind.i64
  (x_2.snd.fst - (1 : Int)) < (↑(65 : Nat) : Int)) ∧ bcase (Decidable.decide (IntKind.wrap IntKind.i64 (List.getD x.fst (Int.toNat x_1.snd) (0 : Int)) < (0 : Int))) (Wr (List.length (List.set x_2.snd.snd (Int.toNat
  (IntKind.wrap IntKind.i64 (x_2.snd.fst - (1 : Int)))) (byteAt (ByteArray.mk (List.toArray ((48 : UInt8) :: (49 : UInt8) :: (50 : UInt8) :: (51 : UInt8) :: (52 : UInt8) :: (53 : UInt8) :: (54 : UInt8) :: (55 : UInt8) ::
  (56 : UInt8) :: (57 : UInt8) :: (97 : UInt8) :: (98 : UInt8) :: (99 : UInt8) :: (100 : UInt8) :: (101 : UInt8) :: (102 : UInt8) :: (103 : UInt8) :: (104 : UInt8) :: (105 : UInt8) :: (106 : UInt8) :: (107 : UInt8) ::
  (108 : UInt8) :: (109 : UInt8) :: (110 : UInt8) :: (111 : UInt8) :: (112 : UInt8) :: (113 : UInt8) :: (114 : UInt8) :: (115 : UInt8) :: (116 : UInt8) :: (117 : UInt8) :: (118 : UInt8) :: (119 : UInt8) :: (120 : UInt8)
  :: (121 : UInt8) :: (122 : UInt8) :: nilL UInt8))) (Int.toNat x_2.fst))) = (65 : Nat)) ∧ Wr ((0 : Int) ≤ IntKind.wrap IntKind.i64 (IntKind.wrap IntKind.i64 (x_2.snd.fst - (1 : Int)) - (1 : Int))) ∧ Wr (IntKind.wrap
  IntKind.i64 (IntKind.wrap IntKind.i64 (x_2.snd.fst - (1 : Int)) - (1 : Int)) < (↑(65 : Nat) : Int)) ∧ Wr ((0 : Int) ≤ IntKind.wrap IntKind.i64 (IntKind.wrap IntKind.i64 (x_2.snd.fst - (1 : Int)) - (1 : Int))) ∧ Wr
  (IntKind.wrap IntKind.i64 (IntKind.wrap IntKind.i64 (x_2.snd.fst - (1 : Int)) - (1 : Int)) ≤ (↑(65 : Nat) : Int)) ∧ Wr ((↑(65 : Nat) : Int) ≤ (↑(65 : Nat) : Int)) ∧ Wr (List.length (List.set (List.set x_2.snd.snd
  (Int.toNat (IntKind.wrap IntKind.i64 (x_2.snd.fst - (1 : Int)))) (byteAt (ByteArray.mk (List.toArray ((48 : UInt8) :: (49 : UInt8) :: (50 : UInt8) :: (51 : UInt8) :: (52 : UInt8) :: (53 : UInt8) :: (54 : UInt8) :: (55 :
  UInt8) :: (56 : UInt8) :: (57 : UInt8) :: (97 : UInt8) :: (98 : UInt8) :: (99 : UInt8) :: (100 : UInt8) :: (101 : UInt8) :: (102 : UInt8) :: (103 : UInt8) :: (104 : UInt8) :: (105 : UInt8) :: (106 : UInt8) :: (107 :
  UInt8) :: (108 : UInt8) :: (109 : UInt8) :: (110 : UInt8) :: (111 : UInt8) :: (112 : UInt8) :: (113 : UInt8) :: (114 : UInt8) :: (115 : UInt8) :: (116 : UInt8) :: (117 : UInt8) :: (118 : UInt8) :: (119 : UInt8) :: (120
  : UInt8) :: (121 : UInt8) :: (122 : UInt8) :: nilL UInt8))) (Int.toNat x_2.fst))) (Int.toNat (IntKind.wrap IntKind.i64 (IntKind.wrap IntKind.i64 (x_2.snd.fst - (1 : Int)) - (1 : Int)))) (45 : Int)) = (65 : Nat)) ∧ Wr
  (List.length (List.drop (Int.toNat (IntKind.wrap IntKind.i64 (IntKind.wrap IntKind.i64 (x_2.snd.fst - (1 : Int)) - (1 : Int)))) (List.take (Int.toNat (↑(65 : Nat) : Int)) (List.set (List.set x_2.snd.snd (Int.toNat
  (IntKind.wrap IntKind.i64 (x_2.snd.fst - (1 : Int)))) (byteAt (ByteArray.mk (List.toArray ((48 : UInt8) :: (49 : UInt8) :: (50 : UInt8) :: (51 : UInt8) :: (52 : UInt8) :: (53 : UInt8) :: (54 : UInt8) :: (55 : UInt8) ::
  (56 : UInt8) :: (57 : UInt8) :: (97 : UInt8) :: (98 : UInt8) :: (99 : UInt8) :: (100 : UInt8) :: (101 : UInt8) :: (102 : UInt8) :: (103 : UInt8) :: (104 : UInt8) :: (105 : UInt8) :: (106 : UInt8) :: (107 : UInt8) ::
  (108 : UInt8) :: (109 : UInt8) :: (110 : UInt8) :: (111 : UInt8) :: (112 : UInt8) :: (113 : UInt8) :: (114 : UInt8) :: (115 : UInt8) :: (116 : UInt8) :: (117 : UInt8) :: (118 : UInt8) :: (119 : UInt8) :: (120 : UInt8)
  :: (121 : UInt8) :: (122 : UInt8) :: nilL UInt8))) (Int.toNat x_2.fst))) (Int.toNat (IntKind.wrap IntKind.i64 (IntKind.wrap IntKind.i64 (x_2.snd.fst - (1 : Int)) - (1 : Int)))) (45 : Int)))) ≤ Go.maxLen) ∧ Wr
  ((List.length x_1.fst + List.length (strI (List.drop (Int.toNat (IntKind.wrap IntKind.i64 (IntKind.wrap IntKind.i64 (x_2.snd.fst - (1 : Int)) - (1 : Int)))) (List.take (Int.toNat (↑(65 : Nat) : Int)) (List.set (List.set
  x_2.snd.snd (Int.toNat (IntKind.wrap IntKind.i64 (x_2.snd.fst - (1 : Int)))) (byteAt (ByteArray.mk (List.toArray ((48 : UInt8) :: (49 : UInt8) :: (50 : UInt8) :: (51 : UInt8) :: (52 : UInt8) :: (53 : UInt8) :: (54 :
  UInt8) :: (55 : UInt8) :: (56 : UInt8) :: (57 : UInt8) :: (97 : UInt8) :: (98 : UInt8) :: (99 : UInt8) :: (100 : UInt8) :: (101 : UInt8) :: (102 : UInt8) :: (103 : UInt8) :: (104 : UInt8) :: (105 : UInt8) :: (106 :
  UInt8) :: (107 : UInt8) :: (108 : UInt8) :: (109 : UInt8) :: (110 : UInt8) :: (111 : UInt8) :: (112 : UInt8) :: (113 : UInt8) :: (114 : UInt8) :: (115 : UInt8) :: (116 : UInt8) :: (117 : UInt8) :: (118 : UInt8) :: (119
  : UInt8) :: (120 : UInt8) :: (121 : UInt8) :: (122 : UInt8) :: nilL UInt8))) (Int.toNat x_2.fst))) (Int.toNat (IntKind.wrap IntKind.i64 (IntKind.wrap IntKind.i64 (x_2.snd.fst - (1 : Int)) - (1 : Int)))) (45 : Int)))) ::
  nilL ByteArray)) * (16 : Nat) ≤ (140737488355328 : Nat)) ∧ Wr (MapI Go.Ad.hexS x.fst (x_1.fst ++ strI (List.drop (Int.toNat (IntKind.wrap IntKind.i64 (IntKind.wrap IntKind.i64 (x_2.snd.fst - (1 : Int)) - (1 : Int))))
  (List.take (Int.toNat (↑(65 : Nat) : Int)) (List.set (List.set x_2.snd.snd (Int.toNat (IntKind.wrap IntKind.i64 (x_2.snd.fst - (1 : Int)))) (byteAt (ByteArray.mk (List.toArray ((48 : UInt8) :: (49 : UInt8) :: (50 :
  UInt8) :: (51 : UInt8) :: (52 : UInt8) :: (53 : UInt8) :: (54 : UInt8) :: (55 : UInt8) :: (56 : UInt8) :: (57 : UInt8) :: (97 : UInt8) :: (98 : UInt8) :: (99 : UInt8) :: (100 : UInt8) :: (101 : UInt8) :: (102 : UInt8)
  :: (103 : UInt8) :: (104 : UInt8) :: (105 : UInt8) :: (106 : UInt8) :: (107 : UInt8) :: (108 : UInt8) :: (109 : UInt8) :: (110 : UInt8) :: (111 : UInt8) :: (112 : UInt8) :: (113 : UInt8) :: (114 : UInt8) :: (115 :
  UInt8) :: (116 : UInt8) :: (117 : UInt8) :: (118 : UInt8) :: (119 : UInt8) :: (120 : UInt8) :: (121 : UInt8) :: (122 : UInt8) :: nilL UInt8))) (Int.toNat x_2.fst))) (Int.toNat (IntKind.wrap IntKind.i64 (IntKind.wrap
  IntKind.i64 (x_2.snd.fst - (1 : Int)) - (1 : Int)))) (45 : Int)))) :: nilL ByteArray) (IntKind.wrap IntKind.i64 (x_1.snd + (1 : Int)))) ∧ Wr (List.length x.fst - Int.toNat (IntKind.wrap IntKind.i64 (x_1.snd + (1 :
  Int))) < List.length x.fst - Int.toNat x_1.snd) ∧ Wr (IntKind.wrap IntKind.i64 (x_1.snd + (1 : Int)) = IntKind.wrap IntKind.i64 (x_1.snd + (1 : Int))) ∧ Wr (x.fst = x.fst) ∧ Wr (x.fst = x.fst) ∧ Wr ((↑(List.length
  x.fst) : Int) = (↑(List.length x.fst) : Int)) ∧ Wr (x_1.fst ++ strI (List.drop (Int.toNat (IntKind.wrap IntKind.i64 (IntKind.wrap IntKind.i64 (x_2.snd.fst - (1 : Int)) - (1 : Int)))) (List.take (Int.toNat (↑(65 : Nat) :
  Int)) (List.set (List.set x_2.snd.snd (Int.toNat (IntKind.wrap IntKind.i64 (x_2.snd.fst - (1 : Int)))) (byteAt (ByteArray.mk (List.toArray ((48 : UInt8) :: (49 : UInt8) :: (50 : UInt8) :: (51 : UInt8) :: (52 : UInt8) ::
  (53 : UInt8) :: (54 : UInt8) :: (55 : UInt8) :: (56 : UInt8) :: (57 : UInt8) :: (97 : UInt8) :: (98 : UInt8) :: (99 : UInt8) :: (100 : UInt8) :: (101 : UInt8) :: (102 : UInt8) :: (103 : UInt8) :: (104 : UInt8) :: (105 :
  UInt8) :: (106 : UInt8) :: (107 : UInt8) :: (108 : UInt8) :: (109 : UInt8) :: (110 : UInt8) :: (111 : UInt8) :: (112 : UInt8) :: (113 : UInt8) :: (114 : UInt8) :: (115 : UInt8) :: (116 : UInt8) :: (117 : UInt8) :: (118
  : UInt8) :: (119 : UInt8) :: (120 : UInt8) :: (121 : UInt8) :: (122 : UInt8) :: nilL UInt8))) (Int.toNat x_2.fst))) (Int.toNat (IntKind.wrap IntKind.i64 (IntKind.wrap IntKind.i64 (x_2.snd.fst - (1 : Int)) - (1 : Int))))
  (45 : Int)))) :: nilL ByteArray = x_1.fst ++ strI (List.drop (Int.toNat (IntKind.wrap IntKind.i64 (IntKind.wrap IntKind.i64 (x_2.snd.fst - (1 : Int)) - (1 : Int)))) (List.take (Int.toNat (↑(65 : Nat) : Int)) (List.set
  (List.set x_2.snd.snd (Int.toNat (IntKind.wrap IntKind.i64 (x_2.snd.fst - (1 : Int)))) (byteAt (ByteArray.mk (List.toArray ((48 : UInt8) :: (49 : UInt8) :: (50 : UInt8) :: (51 : UInt8) :: (52 : UInt8) :: (53 : UInt8) ::
  (54 : UInt8) :: (55 : UInt8) :: (56 : UInt8) :: (57 : UInt8) :: (97 : UInt8) :: (98 : UInt8) :: (99 : UInt8) :: (100 : UInt8) :: (101 : UInt8) :: (102 : UInt8) :: (103 : UInt8) :: (104 : UInt8) :: (105 : UInt8) :: (106
  : UInt8) :: (107 : UInt8) :: (108 : UInt8) :: (109 : UInt8) :: (110 : UInt8) :: (111 : UInt8) :: (112 : UInt8) :: (113 : UInt8) :: (114 : UInt8) :: (115 : UInt8) :: (116 : UInt8) :: (117 : UInt8) :: (118 : UInt8) ::
  (119 : UInt8) :: (120 : UInt8) :: (121 : UInt8) :: (122 : UInt8) :: nilL UInt8))) (Int.toNat x_2.fst))) (Int.toNat (IntKind.wrap IntKind.i64 (IntKind.wrap IntKind.i64 (x_2.snd.fst - (1 : Int)) - (1 : Int)))) (45 :
  Int)))) :: nilL ByteArray)) (Wr ((0 : Int) ≤ IntKind.wrap IntKind.i64 (x_2.snd.fst - (1 : Int))) ∧ Wr (IntKind.wrap IntKind.i64 (x_2.snd.fst - (1 : Int)) ≤ (↑(65 : Nat) : Int)) ∧ Wr ((↑(65 : Nat) : Int) ≤ (↑(65 : Nat) :
  Int)) ∧ Wr (List.length (List.set x_2.snd.snd (Int.toNat (IntKind.wrap IntKind.i64 (x_2.snd.fst - (1 : Int)))) (byteAt (ByteArray.mk (List.toArray ((48 : UInt8) :: (49 : UInt8) :: (50 : UInt8) :: (51 : UInt8) :: (52 :
  UInt8) :: (53 : UInt8) :: (54 : UInt8) :: (55 : UInt8) :: (56 : UInt8) :: (57 : UInt8) :: (97 : UInt8) :: (98 : UInt8) :: (99 : UInt8) :: (100 : UInt8) :: (101 : UInt8) :: (102 : UInt8) :: (103 : UInt8) :: (104 : UInt8)
  :: (105 : UInt8) :: (106 : UInt8) :: (107 : UInt8) :: (108 : UInt8) :: (109 : UInt8) :: (110 : UInt8) :: (111 : UInt8) :: (112 : UInt8) :: (113 : UInt8) :: (114 : UInt8) :: (115 : UInt8) :: (116 : UInt8) :: (117 :
  UInt8) :: (118 : UInt8) :: (119 : UInt8) :: (120 : UInt8) :: (121 : UInt8) :: (122 : UInt8) :: nilL UInt8))) (Int.toNat x_2.fst))) = (65 : Nat)) ∧ Wr (List.length (List.drop (Int.toNat (IntKind.wrap IntKind.i64
  (x_2.snd.fst - (1 : Int)))) (List.take (Int.toNat (↑(65 : Nat) : Int)) (List.set x_2.snd.snd (Int.toNat (IntKind.wrap IntKind.i64 (x_2.snd.fst - (1 : Int)))) (byteAt (ByteArray.mk (List.toArray ((48 : UInt8) :: (49 :
  UInt8) :: (50 : UInt8) :: (51 : UInt8) :: (52 : UInt8) :: (53 : UInt8) :: (54 : UInt8) :: (55 : UInt8) :: (56 : UInt8) :: (57 : UInt8) :: (97 : UInt8) :: (98 : UInt8) :: (99 : UInt8) :: (100 : UInt8) :: (101 : UInt8) ::
  (102 : UInt8) :: (103 : UInt8) :: (104 : UInt8) :: (105 : UInt8) :: (106 : UInt8) :: (107 : UInt8) :: (108 : UInt8) :: (109 : UInt8) :: (110 : UInt8) :: (111 : UInt8) :: (112 : UInt8) :: (113 : UInt8) :: (114 : UInt8)
  :: (115 : UInt8) :: (116 : UInt8) :: (117 : UInt8) :: (118 : UInt8) :: (119 : UInt8) :: (120 : UInt8) :: (121 : UInt8) :: (122 : UInt8) :: nilL UInt8))) (Int.toNat x_2.fst))))) ≤ Go.maxLen) ∧ Wr ((List.length x_1.fst +
  List.length (strI (List.drop (Int.toNat (IntKind.wrap IntKind.i64 (x_2.snd.fst - (1 : Int)))) (List.take (Int.toNat (↑(65 : Nat) : Int)) (List.set x_2.snd.snd (Int.toNat (IntKind.wrap IntKind.i64 (x_2.snd.fst - (1 :
  Int)))) (byteAt (ByteArray.mk (List.toArray ((48 : UInt8) :: (49 : UInt8) :: (50 : UInt8) :: (51 : UInt8) :: (52 : UInt8) :: (53 : UInt8) :: (54 : UInt8) :: (55 : UInt8) :: (56 : UInt8) :: (57 : UInt8) :: (97 : UInt8)
  :: (98 : UInt8) :: (99 : UInt8) :: (100 : UInt8) :: (101 : UInt8) :: (102 : UInt8) :: (103 : UInt8) :: (104 : UInt8) :: (105 : UInt8) :: (106 : UInt8) :: (107 : UInt8) :: (108 : UInt8) :: (109 : UInt8) :: (110 : UInt8)
  :: (111 : UInt8) :: (112 : UInt8) :: (113 : UInt8) :: (114 : UInt8) :: (115 : UInt8) :: (116 : UInt8) :: (117 : UInt8) :: (118 : UInt8) :: (119 : UInt8) :: (120 : UInt8) :: (121 : UInt8) :: (122 : UInt8) :: nilL
  UInt8))) (Int.toNat x_2.fst))))) :: nilL ByteArray)) * (16 : Nat) ≤ (140737488355328 : Nat)) ∧ Wr (MapI Go.Ad.hexS x.fst (x_1.fst ++ strI (List.drop (Int.toNat (IntKind.wrap IntKind.i64 (x_2.snd.fst - (1 : Int))))
  (List.take (Int.toNat (↑(65 : Nat) : Int)) (List.set x_2.snd.snd (Int.toNat (IntKind.wrap IntKind.i64 (x_2.snd.fst - (1 : Int)))) (byteAt (ByteArray.mk (List.toArray ((48 : UInt8) :: (49 : UInt8) :: (50 : UInt8) :: (51
  : UInt8) :: (52 : UInt8) :: (53 : UInt8) :: (54 : UInt8) :: (55 : UInt8) :: (56 : UInt8) :: (57 : UInt8) :: (97 : UInt8) :: (98 : UInt8) :: (99 : UInt8) :: (100 : UInt8) :: (101 : UInt8) :: (102 : UInt8) :: (103 :
  UInt8) :: (104 : UInt8) :: (105 : UInt8) :: (106 : UInt8) :: (107 : UInt8) :: (108 : UInt8) :: (109 : UInt8) :: (110 : UInt8) :: (111 : UInt8) :: (112 : UInt8) :: (113 : UInt8) :: (114 : UInt8) :: (115 : UInt8) :: (116
  : UInt8) :: (117 : UInt8) :: (118 : UInt8) :: (119 : UInt8) :: (120 : UInt8) :: (121 : UInt8) :: (122 : UInt8) :: nilL UInt8))) (Int.toNat x_2.fst))))) :: nilL ByteArray) (IntKind.wrap IntKind.i64 (x_1.snd + (1 :
  Int)))) ∧ Wr (List.length x.fst - Int.toNat (IntKind.wrap IntKind.i64 (x_1.snd + (1 : Int))) < List.length x.fst - Int.toNat x_1.snd) ∧ Wr (IntKind.wrap IntKind.i64 (x_1.snd + (1 : Int)) = IntKind.wrap IntKind.i64
  (x_1.snd + (1 : Int))) ∧ Wr (x.fst = x.fst) ∧ Wr (x.fst = x.fst) ∧ Wr ((↑(List.length x.fst) : Int) = (↑(List.length x.fst) : Int)) ∧ Wr (x_1.fst ++ strI (List.drop (Int.toNat (IntKind.wrap IntKind.i64 (x_2.snd.fst - (1
  : Int)))) (List.take (Int.toNat (↑(65 : Nat) : Int)) (List.set x_2.snd.snd (Int.toNat (IntKind.wrap IntKind.i64 (x_2.snd.fst - (1 : Int)))) (byteAt (ByteArray.mk (List.toArray ((48 : UInt8) :: (49 : UInt8) :: (50 :
  UInt8) :: (51 : UInt8) :: (52 : UInt8) :: (53 : UInt8) :: (54 : UInt8) :: (55 : UInt8) :: (56 : UInt8) :: (57 : UInt8) :: (97 : UInt8) :: (98 : UInt8) :: (99 : UInt8) :: (100 : UInt8) :: (101 : UInt8) :: (102 : UInt8)
  :: (103 : UInt8) :: (104 : UInt8) :: (105 : UInt8) :: (106 : UInt8) :: (107 : UInt8) :: (108 : UInt8) :: (109 : UInt8) :: (110 : UInt8) :: (111 : UInt8) :: (112 : UInt8) :: (113 : UInt8) :: (114 : UInt8) :: (115 :
  UInt8) :: (116 : UInt8) :: (117 : UInt8) :: (118 : UInt8) :: (119 : UInt8) :: (120 : UInt8) :: (121 : UInt8) :: (122 : UInt8) :: nilL UInt8))) (Int.toNat x_2.fst))))) :: nilL ByteArray = x_1.fst ++ strI (List.drop
  (Int.toNat (IntKind.wrap IntKind.i64 (x_2.snd.fst - (1 : Int)))) (List.take (Int.toNat (↑(65 : Nat) : Int)) (List.set x_2.snd.snd (Int.toNat (IntKind.wrap IntKind.i64 (x_2.snd.fst - (1 : Int)))) (byteAt (ByteArray.mk
  (List.toArray ((48 : UInt8) :: (49 : UInt8) :: (50 : UInt8) :: (51 : UInt8) :: (52 : UInt8) :: (53 : UInt8) :: (54 : UInt8) :: (55 : UInt8) :: (56 : UInt8) :: (57 : UInt8) :: (97 : UInt8) :: (98 : UInt8) :: (99 : UInt8)
  :: (100 : UInt8) :: (101 : UInt8) :: (102 : UInt8) :: (103 : UInt8) :: (104 : UInt8) :: (105 : UInt8) :: (106 : UInt8) :: (107 : UInt8) :: (108 : UInt8) :: (109 : UInt8) :: (110 : UInt8) :: (111 : UInt8) :: (112 :
  UInt8) :: (113 : UInt8) :: (114 : UInt8) :: (115 : UInt8) :: (116 : UInt8) :: (117 : UInt8) :: (118 : UInt8) :: (119 : UInt8) :: (120 : UInt8) :: (121 : UInt8) :: (122 : UInt8) :: nilL UInt8))) (Int.toNat x_2.fst)))))
  :: nilL ByteArray)))) (Wr ((Decidable.decide ((0 : Int) ≤ IntKind.wrap IntKind.u64 (16 : Int)) && Decidable.decide (IntKind.wrap IntKind.u64 (16 : Int) < (18446744073709551616 : Int))) = Bool.true) ∧ (Wr (BitsI
  (IntKind.wrap IntKind.u64 (IntKind.wrap IntKind.i64 (List.getD x.fst (Int.toNat x_1.snd) (0 : Int)))) (IntKind.wrap IntKind.u64 (IntKind.wrap IntKind.i64 (List.getD x.fst (Int.toNat x_1.snd) (0 : Int)))) (65 : Int)
  (List.replicate (65 : Nat) (0 : Int))) ∧ Wr (IntKind.wrap IntKind.u64 (IntKind.wrap IntKind.i64 (List.getD x.fst (Int.toNat x_1.snd) (0 : Int))) = IntKind.wrap IntKind.u64 (IntKind.wrap IntKind.i64 (List.getD x.fst
  (Int.toNat x_1.snd) (0 : Int)))) ∧ Wr ((65 : Int) = (65 : Int)) ∧ Wr ((0 : Nat) < List.length (List.replicate (65 : Nat) (0 : Int))) ∧ Wr ((16 : Int) = (16 : Int)) ∧ Wr (Decidable.decide (IntKind.wrap IntKind.i64
  (List.getD x.fst (Int.toNat x_1.snd) (0 : Int)) < (0 : Int)) = Decidable.decide (IntKind.wrap IntKind.i64 (List.getD x.fst (Int.toNat x_1.snd) (0 : Int)) < (0 : Int))) ∧ Wr (Bool.false = Bool.false) ∧ Wr (ByteArray.mk
  (List.toArray (nilL UInt8)) = ByteArray.mk (List.toArray (nilL UInt8))) ∧ Wr (IntKind.wrap IntKind.u64 (ctzZ (IntKind.wrap IntKind.u64 (16 : Int))) = IntKind.wrap IntKind.u64 (ctzZ (IntKind.wrap IntKind.u64 (16 :
  Int)))) ∧ Wr (IntKind.wrap IntKind.u64 (16 : Int) = IntKind.wrap IntKind.u64 (16 : Int)) ∧ Wr (IntKind.wrap IntKind.u64 (IntKind.wrap IntKind.u64 (16 : Int) - (1 : Int)) = IntKind.wrap IntKind.u64 (IntKind.wrap
  IntKind.u64 (16 : Int) - (1 : Int))) ∧ Wr (List.replicate (65 : Nat) (0 : Int) = List.replicate (65 : Nat) (0 : Int)) ∧ Wr (x_1.fst = x_1.fst)) ∧ ∀ (x_2 : Int × Int × List Int), Wr (BitsI (IntKind.wrap IntKind.u64
  (IntKind.wrap IntKind.i64 (List.getD x.fst (Int.toNat x_1.snd) (0 : Int)))) x_2.fst x_2.snd.fst x_2.snd.snd) → bcase (Decidable.decide (x_2.fst ≥ IntKind.wrap IntKind.u64 (16 : Int))) (Wr ((0 : Int) ≤ andI IntKind.u64
  x_2.fst (IntKind.wrap IntKind.u64 (IntKind.wrap IntKind.u64 (16 : Int) - (1 : Int)))) ∧ Wr (andI IntKind.u64 x_2.fst (IntKind.wrap IntKind.u64 (IntKind.wrap IntKind.u64 (16 : Int) - (1 : Int))) < (↑(ByteArray.size
  (ByteArray.mk (List.toArray ((48 : UInt8) :: (49 : UInt8) :: (50 : UInt8) :: (51 : UInt8) :: (52 : UInt8) :: (53 : UInt8) :: (54 : UInt8) :: (55 : UInt8) :: (56 : UInt8) :: (57 : UInt8) :: (97 : UInt8) :: (98 : UInt8)
  :: (99 : UInt8) :: (100 : UInt8) :: (101 : UInt8) :: (102 : UInt8) :: (103 : UInt8) :: (104 : UInt8) :: (105 : UInt8) :: (106 : UInt8) :: (107 : UInt8) :: (108 : UInt8) :: (109 : UInt8) :: (110 : UInt8) :: (111 : UInt8)
  :: (112 : UInt8) :: (113 : UInt8) :: (114 : UInt8) :: (115 : UInt8) :: (116 : UInt8) :: (117 : UInt8) :: (118 : UInt8) :: (119 : UInt8) :: (120 : UInt8) :: (121 : UInt8) :: (122 : UInt8) :: nilL UInt8)))) : Int)) ∧ Wr
  (List.length x_2.snd.snd = (65 : Nat)) ∧ Wr ((0 : Int) ≤ IntKind.wrap IntKind.i64 (x_2.snd.fst - (1 : Int))) ∧ Wr (IntKind.wrap IntKind.i64 (x_2.snd.fst - (1 : Int)) < (↑(65 : Nat) : Int)) ∧ Wr ((0 : Int) ≤ IntKind.wrap
  IntKind.u64 (ctzZ (IntKind.wrap IntKind.u64 (16 : Int)))) ∧ Wr (BitsI (IntKind.wrap IntKind.u64 (IntKind.wrap IntKind.i64 (List.getD x.fst (Int.toNat x_1.snd) (0 : Int)))) (Int.fdiv x_2.fst ((2 : Int) ^ Min.min
  (Int.toNat (IntKind.wrap IntKind.u64 (ctzZ (IntKind.wrap IntKind.u64 (16 : Int))))) (IntKind.bits IntKind.u64))) (IntKind.wrap IntKind.i64 (x_2.snd.fst - (1 : Int))) (List.set x_2.snd.snd (Int.toNat (IntKind.wrap
  IntKind.i64 (x_2.snd.fst - (1 : Int)))) (byteAt (ByteArray.mk (List.toArray ((48 : UInt8) :: (49 : UInt8) :: (50 : UInt8) :: (51 : UInt8) :: (52 : UInt8) :: (53 : UInt8) :: (54 : UInt8) :: (55 : UInt8) :: (56 : UInt8)
  :: (57 : UInt8) :: (97 : UInt8) :: (98 : UInt8) :: (99 : UInt8) :: (100 : UInt8) :: (101 : UInt8) :: (102 : UInt8) :: (103 : UInt8) :: (104 : UInt8) :: (105 : UInt8) :: (106 : UInt8) :: (107 : UInt8) :: (108 : UInt8) ::
  (109 : UInt8) :: (110 : UInt8) :: (111 : UInt8) :: (112 : UInt8) :: (113 : UInt8) :: (114 : UInt8) :: (115 : UInt8) :: (116 : UInt8) :: (117 : UInt8) :: (118 : UInt8) :: (119 : UInt8) :: (120 : UInt8) :: (121 : UInt8)
  :: (122 : UInt8) :: nilL UInt8))) (Int.toNat (andI IntKind.u64 x_2.fst (IntKind.wrap IntKind.u64 (IntKind.wrap IntKind.u64 (16 : Int) - (1 : Int)))))))) ∧ Wr (Int.toNat (IntKind.wrap IntKind.i64 (x_2.snd.fst - (1 :
  Int))) < Int.toNat x_2.snd.fst) ∧ Wr (Int.fdiv x_2.fst ((2 : Int) ^ Min.min (Int.toNat (IntKind.wrap IntKind.u64 (ctzZ (IntKind.wrap IntKind.u64 (16 : Int))))) (IntKind.bits IntKind.u64)) = Int.fdiv x_2.fst ((2 : Int) ^
  Min.min (Int.toNat (IntKind.wrap IntKind.u64 (ctzZ (IntKind.wrap IntKind.u64 (16 : Int))))) (IntKind.bits IntKind.u64))) ∧ Wr (IntKind.wrap IntKind.i64 (x_2.snd.fst - (1 : Int)) = IntKind.wrap IntKind.i64 (x_2.snd.fst -
  (1 : Int))) ∧ Wr ((0 : Nat) < List.length (List.set x_2.snd.snd (Int.toNat (IntKind.wrap IntKind.i64 (x_2.snd.fst - (1 : Int)))) (byteAt (ByteArray.mk (List.toArray ((48 : UInt8) :: (49 : UInt8) :: (50 : UInt8) :: (51 :
  UInt8) :: (52 : UInt8) :: (53 : UInt8) :: (54 : UInt8) :: (55 : UInt8) :: (56 : UInt8) :: (57 : UInt8) :: (97 : UInt8) :: (98 : UInt8) :: (99 : UInt8) :: (100 : UInt8) :: (101 : UInt8) :: (102 : UInt8) :: (103 : UInt8)
  :: (104 : UInt8) :: (105 : UInt8) :: (106 : UInt8) :: (107 : UInt8) :: (108 : UInt8) :: (109 : UInt8) :: (110 : UInt8) :: (111 : UInt8) :: (112 : UInt8) :: (113 : UInt8) :: (114 : UInt8) :: (115 : UInt8) :: (116 :
  UInt8) :: (117 : UInt8) :: (118 : UInt8) :: (119 : UInt8) :: (120 : UInt8) :: (121 : UInt8) :: (122 : UInt8) :: nilL UInt8))) (Int.toNat (andI IntKind.u64 x_2.fst (IntKind.wrap IntKind.u64 (IntKind.wrap IntKind.u64 (16
  : Int) - (1 : Int)))))))) ∧ Wr ((16 : Int) = (16 : Int)) ∧ Wr (Decidable.decide (IntKind.wrap IntKind.i64 (List.getD x.fst (Int.toNat x_1.snd) (0 : Int)) < (0 : Int)) = Decidable.decide (IntKind.wrap IntKind.i64
  (List.getD x.fst (Int.toNat x_1.snd) (0 : Int)) < (0 : Int))) ∧ Wr (Bool.false = Bool.false) ∧ Wr (ByteArray.mk (List.toArray (nilL UInt8)) = ByteArray.mk (List.toArray (nilL UInt8))) ∧ Wr (IntKind.wrap IntKind.u64
  (ctzZ (IntKind.wrap IntKind.u64 (16 : Int))) = IntKind.wrap IntKind.u64 (ctzZ (IntKind.wrap IntKind.u64 (16 : Int)))) ∧ Wr (IntKind.wrap IntKind.u64 (16 : Int) = IntKind.wrap IntKind.u64 (16 : Int)) ∧ Wr (IntKind.wrap
  IntKind.u64 (IntKind.wrap IntKind.u64 (16 : Int) - (1 : Int)) = IntKind.wrap IntKind.u64 (IntKind.wrap IntKind.u64 (16 : Int) - (1 : Int))) ∧ Wr (List.set x_2.snd.snd (Int.toNat (IntKind.wrap IntKind.i64 (x_2.snd.fst -
  (1 : Int)))) (byteAt (ByteArray.mk (List.toArray ((48 : UInt8) :: (49 : UInt8) :: (50 : UInt8) :: (51 : UInt8) :: (52 : UInt8) :: (53 : UInt8) :: (54 : UInt8) :: (55 : UInt8) :: (56 : UInt8) :: (57 : UInt8) :: (97 :
  UInt8) :: (98 : UInt8) :: (99 : UInt8) :: (100 : UInt8) :: (101 : UInt8) :: (102 : UInt8) :: (103 : UInt8) :: (104 : UInt8) :: (105 : UInt8) :: (106 : UInt8) :: (107 : UInt8) :: (108 : UInt8) :: (109 : UInt8) :: (110 :
  UInt8) :: (111 : UInt8) :: (112 : UInt8) :: (113 : UInt8) :: (114 : UInt8) :: (115 : UInt8) :: (116 : UInt8) :: (117 : UInt8) :: (118 : UInt8) :: (119 : UInt8) :: (120 : UInt8) :: (121 : UInt8) :: (122 : UInt8) :: nilL
  UInt8))) (Int.toNat (andI IntKind.u64 x_2.fst (IntKind.wrap IntKind.u64 (IntKind.wrap IntKind.u64 (16 : Int) - (1 : Int)))))) = List.set x_2.snd.snd (Int.toNat (IntKind.wrap IntKind.i64 (x_2.snd.fst - (1 : Int))))
  (byteAt (ByteArray.mk (List.toArray ((48 : UInt8) :: (49 : UInt8) :: (50 : UInt8) :: (51 : UInt8) :: (52 : UInt8) :: (53 : UInt8) :: (54 : UInt8) :: (55 : UInt8) :: (56 : UInt8) :: (57 : UInt8) :: (97 : UInt8) :: (98 :
  UInt8) :: (99 : UInt8) :: (100 : UInt8) :: (101 : UInt8) :: (102 : UInt8) :: (103 : UInt8) :: (104 : UInt8) :: (105 : UInt8) :: (106 : UInt8) :: (107 : UInt8) :: (108 : UInt8) :: (109 : UInt8) :: (110 : UInt8) :: (111 :
  UInt8) :: (112 : UInt8) :: (113 : UInt8) :: (114 : UInt8) :: (115 : UInt8) :: (116 : UInt8) :: (117 : UInt8) :: (118 : UInt8) :: (119 : UInt8) :: (120 : UInt8) :: (121 : UInt8) :: (122 : UInt8) :: nilL UInt8)))
  (Int.toNat (andI IntKind.u64 x_2.fst (IntKind.wrap IntKind.u64 (IntKind.wrap IntKind.u64 (16 : Int) - (1 : Int))))))) ∧ Wr (x_1.fst = x_1.fst)) (Wr ((0 : Int) ≤ x_2.fst) ∧ Wr (x_2.fst < (↑(ByteArray.size (ByteArray.mk
  (List.toArray ((48 : UInt8) :: (49 : UInt8) :: (50 : UInt8) :: (51 : UInt8) :: (52 : UInt8) :: (53 : UInt8) :: (54 : UInt8) :: (55 : UInt8) :: (56 : UInt8) :: (57 : UInt8) :: (97 : UInt8) :: (98 : UInt8) :: (99 : UInt8)
  :: (100 : UInt8) :: (101 : UInt8) :: (102 : UInt8) :: (103 : UInt8) :: (104 : UInt8) :: (105 : UInt8) :: (106 : UInt8) :: (107 : UInt8) :: (108 : UInt8) :: (109 : UInt8) :: (110 : UInt8) :: (111 : UInt8) :: (112 :
  UInt8) :: (113 : UInt8) :: (114 : UInt8) :: (115 : UInt8) :: (116 : UInt8) :: (117 : UInt8) :: (118 : UInt8) :: (119 : UInt8) :: (120 : UInt8) :: (121 : UInt8) :: (122 : UInt8) :: nilL UInt8)))) : Int)) ∧ Wr
  (List.length x_2.snd.snd = (65 : Nat)) ∧ Wr ((0 : Int) ≤ IntKind.wrap IntKind.i64 (x_2.snd.fst - (1 : Int))) ∧ Wr (IntKind.wrap IntKind.i64 (x_2.snd.fst - (1 : Int)) < (↑(65 : Nat) : Int)) ∧ bcase (Decidable.decide
  (IntKind.wrap IntKind.i64 (List.getD x.fst (Int.toNat x_1.snd) (0 : Int)) < (0 : Int))) (Wr (List.length (List.set x_2.snd.snd (Int.toNat (IntKind.wrap IntKind.i64 (x_2.snd.fst - (1 : Int)))) (byteAt (ByteArray.mk
  (List.toArray ((48 : UInt8) :: (49 : UInt8) :: (50 : UInt8) :: (51 : UInt8) :: (52 : UInt8) :: (53 : UInt8) :: (54 : UInt8) :: (55 : UInt8) :: (56 : UInt8) :: (57 : UInt8) :: (97 : UInt8) :: (98 : UInt8) :: (99 : UInt8)
  :: (100 : UInt8) :: (101 : UInt8) :: (102 : UInt8) :: (103 : UInt8) :: (104 : UInt8) :: (105 : UInt8) :: (106 : UInt8) :: (107 : UInt8) :: (108 : UInt8) :: (109 : UInt8) :: (110 : UInt8) :: (111 : UInt8) :: (112 :
  UInt8) :: (113 : UInt8) :: (114 : UInt8) :: (115 : UInt8) :: (116 : UInt8) :: (117 : UInt8) :: (118 : UInt8) :: (119 : UInt8) :: (120 : UInt8) :: (121 : UInt8) :: (122 : UInt8) :: nilL UInt8))) (Int.toNat x_2.fst))) =
  (65 : Nat)) ∧ Wr ((0 : Int) ≤ IntKind.wrap IntKind.i64 (IntKind.wrap IntKind.i64 (x_2.snd.fst - (1 : Int)) - (1 : Int))) ∧ Wr (IntKind.wrap IntKind.i64 (IntKind.wrap IntKind.i64 (x_2.snd.fst - (1 : Int)) - (1 : Int)) <
  (↑(65 : Nat) : Int)) ∧ Wr ((0 : Int) ≤ IntKind.wrap IntKind.i64 (IntKind.wrap IntKind.i64 (x_2.snd.fst - (1 : Int)) - (1 : Int))) ∧ Wr (IntKind.wrap IntKind.i64 (IntKind.wrap IntKind.i64 (x_2.snd.fst - (1 : Int)) - (1 :
  Int)) ≤ (↑(65 : Nat) : Int)) ∧ Wr ((↑(65 : Nat) : Int) ≤ (↑(65 : Nat) : Int)) ∧ Wr (List.length (List.set (List.set x_2.snd.snd (Int.toNat (IntKind.wrap IntKind.i64 (x_2.snd.fst - (1 : Int)))) (byteAt (ByteArray.mk
  (List.toArray ((48 : UInt8) :: (49 : UInt8) :: (50 : UInt8) :: (51 : UInt8) :: (52 : UInt8) :: (53 : UInt8) :: (54 : UInt8) :: (55 : UInt8) :: (56 : UInt8) :: (57 : UInt8) :: (97 : UInt8) :: (98 : UInt8) :: (99 : UInt8)
  :: (100 : UInt8) :: (101 : UInt8) :: (102 : UInt8) :: (103 : UInt8) :: (104 : UInt8) :: (105 : UInt8) :: (106 : UInt8) :: (107 : UInt8) :: (108 : UInt8) :: (109 : UInt8) :: (110 : UInt8) :: (111 : UInt8) :: (112 :
  UInt8) :: (113 : UInt8) :: (114 : UInt8) :: (115 : UInt8) :: (116 : UInt8) :: (117 : UInt8) :: (118 : UInt8) :: (119 : UInt8) :: (120 : UInt8) :: (121 : UInt8) :: (122 : UInt8) :: nilL UInt8))) (Int.toNat x_2.fst)))
  (Int.toNat (IntKind.wrap IntKind.i64 (IntKind.wrap IntKind.i64 (x_2.snd.fst - (1 : Int)) - (1 : Int)))) (45 : Int)) = (65 : Nat)) ∧ Wr (List.length (List.drop (Int.toNat (IntKind.wrap IntKind.i64 (IntKind.wrap
  IntKind.i64 (x_2.snd.fst - (1 : Int)) - (1 : Int)))) (List.take (Int.toNat (↑(65 : Nat) : Int)) (List.set (List.set x_2.snd.snd (Int.toNat (IntKind.wrap IntKind.i64 (x_2.snd.fst - (1 : Int)))) (byteAt (ByteArray.mk
  (List.toArray ((48 : UInt8) :: (49 : UInt8) :: (50 : UInt8) :: (51 : UInt8) :: (52 : UInt8) :: (53 : UInt8) :: (54 : UInt8) :: (55 : UInt8) :: (56 : UInt8) :: (57 : UInt8) :: (97 : UInt8) :: (98 : UInt8) :: (99 : UInt8)
  :: (100 : UInt8) :: (101 : UInt8) :: (102 : UInt8) :: (103 : UInt8) :: (104 : UInt8) :: (105 : UInt8) :: (106 : UInt8) :: (107 : UInt8) :: (108 : UInt8) :: (109 : UInt8) :: (110 : UInt8) :: (111 : UInt8) :: (112 :
  UInt8) :: (113 : UInt8) :: (114 : UInt8) :: (115 : UInt8) :: (116 : UInt8) :: (117 : UInt8) :: (118 : UInt8) :: (119 : UInt8) :: (120 : UInt8) :: (121 : UInt8) :: (122 : UInt8) :: nilL UInt8))) (Int.toNat x_2.fst)))
  (Int.toNat (IntKind.wrap IntKind.i64 (IntKind.wrap IntKind.i64 (x_2.snd.fst - (1 : Int)) - (1 : Int)))) (45 : Int)))) ≤ Go.maxLen) ∧ Wr ((List.length x_1.fst + List.length (strI (List.drop (Int.toNat (IntKind.wrap
  IntKind.i64 (IntKind.wrap IntKind.i64 (x_2.snd.fst - (1 : Int)) - (1 : Int)))) (List.take (Int.toNat (↑(65 : Nat) : Int)) (List.set (List.set x_2.snd.snd (Int.toNat (IntKind.wrap IntKind.i64 (x_2.snd.fst - (1 : Int))))
  (byteAt (ByteArray.mk (List.toArray ((48 : UInt8) :: (49 : UInt8) :: (50 : UInt8) :: (51 : UInt8) :: (52 : UInt8) :: (53 : UInt8) :: (54 : UInt8) :: (55 : UInt8) :: (56 : UInt8) :: (57 : UInt8) :: (97 : UInt8) :: (98 :
  UInt8) :: (99 : UInt8) :: (100 : UInt8) :: (101 : UInt8) :: (102 : UInt8) :: (103 : UInt8) :: (104 : UInt8) :: (105 : UInt8) :: (106 : UInt8) :: (107 : UInt8) :: (108 : UInt8) :: (109 : UInt8) :: (110 : UInt8) :: (111 :
  UInt8) :: (112 : UInt8) :: (113 : UInt8) :: (114 : UInt8) :: (115 : UInt8) :: (116 : UInt8) :: (117 : UInt8) :: (118 : UInt8) :: (119 : UInt8) :: (120 : UInt8) :: (121 : UInt8) :: (122 : UInt8) :: nilL UInt8)))
  (Int.toNat x_2.fst))) (Int.toNat (IntKind.wrap IntKind.i64 (IntKind.wrap IntKind.i64 (x_2.snd.fst - (1 : Int)) - (1 : Int)))) (45 : Int)))) :: nilL ByteArray)) * (16 : Nat) ≤ (140737488355328 : Nat)) ∧ Wr (MapI
  Go.Ad.hexS x.fst (x_1.fst ++ strI (List.drop (Int.toNat (IntKind.wrap IntKind.i64 (IntKind.wrap IntKind.i64 (x_2.snd.fst - (1 : Int)) - (1 : Int)))) (List.take (Int.toNat (↑(65 : Nat) : Int)) (List.set (List.set
  x_2.snd.snd (Int.toNat (IntKind.wrap IntKind.i64 (x_2.snd.fst - (1 : Int)))) (byteAt (ByteArray.mk (List.toArray ((48 : UInt8) :: (49 : UInt8) :: (50 : UInt8) :: (51 : UInt8) :: (52 : UInt8) :: (53 : UInt8) :: (54 :
  UInt8) :: (55 : UInt8) :: (56 : UInt8) :: (57 : UInt8) :: (97 : UInt8) :: (98 : UInt8) :: (99 : UInt8) :: (100 : UInt8) :: (101 : UInt8) :: (102 : UInt8) :: (103 : UInt8) :: (104 : UInt8) :: (105 : UInt8) :: (106 :
  UInt8) :: (107 : UInt8) :: (108 : UInt8) :: (109 : UInt8) :: (110 : UInt8) :: (111 : UInt8) :: (112 : UInt8) :: (113 : UInt8) :: (114 : UInt8) :: (115 : UInt8) :: (116 : UInt8) :: (117 : UInt8) :: (118 : UInt8) :: (119
  : UInt8) :: (120 : UInt8) :: (121 : UInt8) :: (122 : UInt8) :: nilL UInt8))) (Int.toNat x_2.fst))) (Int.toNat (IntKind.wrap IntKind.i64 (IntKind.wrap IntKind.i64 (x_2.snd.fst - (1 : Int)) - (1 : Int)))) (45 : Int)))) ::
  nilL ByteArray) (IntKind.wrap IntKind.i64 (x_1.snd + (1 : Int)))) ∧ Wr (List.length x.fst - Int.toNat (IntKind.wrap IntKind.i64 (x_1.snd + (1 : Int))) < List.length x.fst - Int.toNat x_1.snd) ∧ Wr (IntKind.wrap
  IntKind.i64 (x_1.snd + (1 : Int)) = IntKind.wrap IntKind.i64 (x_1.snd + (1 : Int))) ∧ Wr (x.fst = x.fst) ∧ Wr (x.fst = x.fst) ∧ Wr ((↑(List.length x.fst) : Int) = (↑(List.length x.fst) : Int)) ∧ Wr (x_1.fst ++ strI
  (List.drop (Int.toNat (IntKind.wrap IntKind.i64 (IntKind.wrap IntKind.i64 (x_2.snd.fst - (1 : Int)) - (1 : Int)))) (List.take (Int.toNat (↑(65 : Nat) : Int)) (List.set (List.set x_2.snd.snd (Int.toNat (IntKind.wrap
  IntKind.i64 (x_2.snd.fst - (1 : Int)))) (byteAt (ByteArray.mk (List.toArray ((48 : UInt8) :: (49 : UInt8) :: (50 : UInt8) :: (51 : UInt8) :: (52 : UInt8) :: (53 : UInt8) :: (54 : UInt8) :: (55 : UInt8) :: (56 : UInt8)
  :: (57 : UInt8) :: (97 : UInt8) :: (98 : UInt8) :: (99 : UInt8) :: (100 : UInt8) :: (101 : UInt8) :: (102 : UInt8) :: (103 : UInt8) :: (104 : UInt8) :: (105 : UInt8) :: (106 : UInt8) :: (107 : UInt8) :: (108 : UInt8) ::
  (109 : UInt8) :: (110 : UInt8) :: (111 : UInt8) :: (112 : UInt8) :: (113 : UInt8) :: (114 : UInt8) :: (115 : UInt8) :: (116 : UInt8) :: (117 : UInt8) :: (118 : UInt8) :: (119 : UInt8) :: (120 : UInt8) :: (121 : UInt8)
  :: (122 : UInt8) :: nilL UInt8))) (Int.toNat x_2.fst))) (Int.toNat (IntKind.wrap IntKind.i64 (IntKind.wrap IntKind.i64 (x_2.snd.fst - (1 : Int)) - (1 : Int)))) (45 : Int)))) :: nilL ByteArray = x_1.fst ++ strI
  (List.drop (Int.toNat (IntKind.wrap IntKind.i64 (IntKind.wrap IntKind.i64 (x_2.snd.fst - (1 : Int)) - (1 : Int)))) (List.take (Int.toNat (↑(65 : Nat) : Int)) (List.set (List.set x_2.snd.snd (Int.toNat (IntKind.wrap
  IntKind.i64 (x_2.snd.fst - (1 : Int)))) (byteAt (ByteArray.mk (List.toArray ((48 : UInt8) :: (49 : UInt8) :: (50 : UInt8) :: (51 : UInt8) :: (52 : UInt8) :: (53 : UInt8) :: (54 : UInt8) :: (55 : UInt8) :: (56 : UInt8)
  :: (57 : UInt8) :: (97 : UInt8) :: (98 : UInt8) :: (99 : UInt8) :: (100 : UInt8) :: (101 : UInt8) :: (102 : UInt8) :: (103 : UInt8) :: (104 : UInt8) :: (105 : UInt8) :: (106 : UInt8) :: (107 : UInt8) :: (108 : UInt8) ::
  (109 : UInt8) :: (110 : UInt8) :: (111 : UInt8) :: (112 : UInt8) :: (113 : UInt8) :: (114 : UInt8) :: (115 : UInt8) :: (116 : UInt8) :: (117 : UInt8) :: (118 : UInt8) :: (119 : UInt8) :: (120 : UInt8) :: (121 : UInt8)
  :: (122 : UInt8) :: nilL UInt8))) (Int.toNat x_2.fst))) (Int.toNat (IntKind.wrap IntKind.i64 (IntKind.wrap IntKind.i64 (x_2.snd.fst - (1 : Int)) - (1 : Int)))) (45 : Int)))) :: nilL ByteArray)) (Wr ((0 : Int) ≤
  IntKind.wrap IntKind.i64 (x_2.snd.fst - (1 : Int))) ∧ Wr (IntKind.wrap IntKind.i64 (x_2.snd.fst - (1 : Int)) ≤ (↑(65 : Nat) : Int)) ∧ Wr ((↑(65 : Nat) : Int) ≤ (↑(65 : Nat) : Int)) ∧ Wr (List.length (List.set
  x_2.snd.snd (Int.toNat (IntKind.wrap IntKind.i64 (x_2.snd.fst - (1 : Int)))) (byteAt (ByteArray.mk (List.toArray ((48 : UInt8) :: (49 : UInt8) :: (50 : UInt8) :: (51 : UInt8) :: (52 : UInt8) :: (53 : UInt8) :: (54 :
  UInt8) :: (55 : UInt8) :: (56 : UInt8) :: (57 : UInt8) :: (97 : UInt8) :: (98 : UInt8) :: (99 : UInt8) :: (100 : UInt8) :: (101 : UInt8) :: (102 : UInt8) :: (103 : UInt8) :: (104 : UInt8) :: (105 : UInt8) :: (106 :
  UInt8) :: (107 : UInt8) :: (108 : UInt8) :: (109 : UInt8) :: (110 : UInt8) :: (111 : UInt8) :: (112 : UInt8) :: (113 : UInt8) :: (114 : UInt8) :: (115 : UInt8) :: (116 : UInt8) :: (117 : UInt8) :: (118 : UInt8) :: (119
  : UInt8) :: (120 : UInt8) :: (121 : UInt8) :: (122 : UInt8) :: nilL UInt8))) (Int.toNat x_2.fst))) = (65 : Nat)) ∧ Wr (List.length (List.drop (Int.toNat (IntKind.wrap IntKind.i64 (x_2.snd.fst - (1 : Int)))) (List.take
  (Int.toNat (↑(65 : Nat) : Int)) (List.set x_2.snd.snd (Int.toNat (IntKind.wrap IntKind.i64 (x_2.snd.fst - (1 : Int)))) (byteAt (ByteArray.mk (List.toArray ((48 : UInt8) :: (49 : UInt8) :: (50 : UInt8) :: (51 : UInt8) ::
  (52 : UInt8) :: (53 : UInt8) :: (54 : UInt8) :: (55 : UInt8) :: (56 : UInt8) :: (57 : UInt8) :: (97 : UInt8) :: (98 : UInt8) :: (99 : UInt8) :: (100 : UInt8) :: (101 : UInt8) :: (102 : UInt8) :: (103 : UInt8) :: (104 :
  UInt8) :: (105 : UInt8) :: (106 : UInt8) :: (107 : UInt8) :: (108 : UInt8) :: (109 : UInt8) :: (110 : UInt8) :: (111 : UInt8) :: (112 : UInt8) :: (113 : UInt8) :: (114 : UInt8) :: (115 : UInt8) :: (116 : UInt8) :: (117
  : UInt8) :: (118 : UInt8) :: (119 : UInt8) :: (120 : UInt8) :: (121 : UInt8) :: (122 : UInt8) :: nilL UInt8))) (Int.toNat x_2.fst))))) ≤ Go.maxLen) ∧ Wr ((List.length x_1.fst + List.length (strI (List.drop (Int.toNat
  (IntKind.wrap IntKind.i64 (x_2.snd.fst - (1 : Int)))) (List.take (Int.toNat (↑(65 : Nat) : Int)) (List.set x_2.snd.snd (Int.toNat (IntKind.wrap IntKind.i64 (x_2.snd.fst - (1 : Int)))) (byteAt (ByteArray.mk (List.toArray
  ((48 : UInt8) :: (49 : UInt8) :: (50 : UInt8) :: (51 : UInt8) :: (52 : UInt8) :: (53 : UInt8) :: (54 : UInt8) :: (55 : UInt8) :: (56 : UInt8) :: (57 : UInt8) :: (97 : UInt8) :: (98 : UInt8) :: (99 : UInt8) :: (100 :
  UInt8) :: (101 : UInt8) :: (102 : UInt8) :: (103 : UInt8) :: (104 : UInt8) :: (105 : UInt8) :: (106 : UInt8) :: (107 : UInt8) :: (108 : UInt8) :: (109 : UInt8) :: (110 : UInt8) :: (111 : UInt8) :: (112 : UInt8) :: (113
  : UInt8) :: (114 : UInt8) :: (115 : UInt8) :: (116 : UInt8) :: (117 : UInt8) :: (118 : UInt8) :: (119 : UInt8) :: (120 : UInt8) :: (121 : UInt8) :: (122 : UInt8) :: nilL UInt8))) (Int.toNat x_2.fst))))) :: nilL
  ByteArray)) * (16 : Nat) ≤ (140737488355328 : Nat)) ∧ Wr (MapI Go.Ad.hexS x.fst (x_1.fst ++ strI (List.drop (Int.toNat (IntKind.wrap IntKind.i64 (x_2.snd.fst - (1 : Int)))) (List.take (Int.toNat (↑(65 : Nat) : Int))
  (List.set x_2.snd.snd (Int.toNat (IntKind.wrap IntKind.i64 (x_2.snd.fst - (1 : Int)))) (byteAt (ByteArray.mk (List.toArray ((48 : UInt8) :: (49 : UInt8) :: (50 : UInt8) :: (51 : UInt8) :: (52 : UInt8) :: (53 : UInt8) ::
  (54 : UInt8) :: (55 : UInt8) :: (56 : UInt8) :: (57 : UInt8) :: (97 : UInt8) :: (98 : UInt8) :: (99 : UInt8) :: (100 : UInt8) :: (101 : UInt8) :: (102 : UInt8) :: (103 : UInt8) :: (104 : UInt8) :: (105 : UInt8) :: (106
  : UInt8) :: (107 : UInt8) :: (108 : UInt8) :: (109 : UInt8) :: (110 : UInt8) :: (111 : UInt8) :: (112 : UInt8) :: (113 : UInt8) :: (114 : UInt8) :: (115 : UInt8) :: (116 : UInt8) :: (117 : UInt8) :: (118 : UInt8) ::
  (119 : UInt8) :: (120 : UInt8) :: (121 : UInt8) :: (122 : UInt8) :: nilL UInt8))) (Int.toNat x_2.fst))))) :: nilL ByteArray) (IntKind.wrap IntKind.i64 (x_1.snd + (1 : Int)))) ∧ Wr (List.length x.fst - Int.toNat
  (IntKind.wrap IntKind.i64 (x_1.snd + (1 : Int))) < List.length x.fst - Int.toNat x_1.snd) ∧ Wr (IntKind.wrap IntKind.i64 (x_1.snd + (1 : Int)) = IntKind.wrap IntKind.i64 (x_1.snd + (1 : Int))) ∧ Wr (x.fst = x.fst) ∧ Wr
  (x.fst = x.fst) ∧ Wr ((↑(List.length x.fst) : Int) = (↑(List.length x.fst) : Int)) ∧ Wr (x_1.fst ++ strI (List.drop (Int.toNat (IntKind.wrap IntKind.i64 (x_2.snd.fst - (1 : Int)))) (List.take (Int.toNat (↑(65 : Nat) :
  Int)) (List.set x_2.snd.snd (Int.toNat (IntKind.wrap IntKind.i64 (x_2.snd.fst - (1 : Int)))) (byteAt (ByteArray.mk (List.toArray ((48 : UInt8) :: (49 : UInt8) :: (50 : UInt8) :: (51 : UInt8) :: (52 : UInt8) :: (53 :
  UInt8) :: (54 : UInt8) :: (55 : UInt8) :: (56 : UInt8) :: (57 : UInt8) :: (97 : UInt8) :: (98 : UInt8) :: (99 : UInt8) :: (100 : UInt8) :: (101 : UInt8) :: (102 : UInt8) :: (103 : UInt8) :: (104 : UInt8) :: (105 :
  UInt8) :: (106 : UInt8) :: (107 : UInt8) :: (108 : UInt8) :: (109 : UInt8) :: (110 : UInt8) :: (111 : UInt8) :: (112 : UInt8) :: (113 : UInt8) :: (114 : UInt8) :: (115 : UInt8) :: (116 : UInt8) :: (117 : UInt8) :: (118
  : UInt8) :: (119 : UInt8) :: (120 : UInt8) :: (121 : UInt8) :: (122 : UInt8) :: nilL UInt8))) (Int.toNat x_2.fst))))) :: nilL ByteArray = x_1.fst ++ strI (List.drop (Int.toNat (IntKind.wrap IntKind.i64 (x_2.snd.fst - (1
  : Int)))) (List.take (Int.toNat (↑(65 : Nat) : Int)) (List.set x_2.snd.snd (Int.toNat (IntKind.wrap IntKind.i64 (x_2.snd.fst - (1 : Int)))) (byteAt (ByteArray.mk (List.toArray ((48 : UInt8) :: (49 : UInt8) :: (50 :
  UInt8) :: (51 : UInt8) :: (52 : UInt8) :: (53 : UInt8) :: (54 : UInt8) :: (55 : UInt8) :: (56 : UInt8) :: (57 : UInt8) :: (97 : UInt8) :: (98 : UInt8) :: (99 : UInt8) :: (100 : UInt8) :: (101 : UInt8) :: (102 : UInt8)
  :: (103 : UInt8) :: (104 : UInt8) :: (105 : UInt8) :: (106 : UInt8) :: (107 : UInt8) :: (108 : UInt8) :: (109 : UInt8) :: (110 : UInt8) :: (111 : UInt8) :: (112 : UInt8) :: (113 : UInt8) :: (114 : UInt8) :: (115 :
  UInt8) :: (116 : UInt8) :: (117 : UInt8) :: (118 : UInt8) :: (119 : UInt8) :: (120 : UInt8) :: (121 : UInt8) :: (122 : UInt8) :: nilL UInt8))) (Int.toNat x_2.fst))))) :: nilL ByteArray))))) (Wr ((Decidable.decide
  (List.length x_1.fst ≤ (100000 : Nat)) && Decidable.decide (List.length (joinL x_1.fst (ByteArray.mk (List.toArray ((58 : UInt8) :: nilL UInt8)))) ≤ (4000000000 : Nat))) = Bool.true) ∧ (joinS x_1.fst (ByteArray.mk
  (List.toArray ((58 : UInt8) :: nilL UInt8))), ()) = (Go.Ad.hexes x.fst, ()))) := by kernel_rfl
theorem v110_eq : vcFn g110 300 Tryz.f110 cText.T = ( ∀ (x : (Int × (Int × Int × Int × Int × Int × Int × Int × Int × Unit) × Int × Unit) × Unit), Wr (typedB (Ty.cons AdT Ty.unit) x = Bool.true ∧ Bool.true = Bool.true) → Wr (lenA (x.fst :: nilL (Int × (Int × Int × Int × Int
  × Int × Int × Int × Int × Unit) × Int × Unit)) = Bool.true) ∧ bcase (!Go.Ad.mayA (x.fst :: nilL (Int × (Int × Int × Int × Int × Int × Int × Int × Int × Unit) × Int × Unit))) ((ByteArray.mk (List.toArray (nilL UInt8)),
  (20 : Int), ()) = (Go.Ad.text1 x.fst, Go.Ad.text2 x.fst, ())) (Wr ((Decidable.decide ((0 : Int) ≤ x.fst.snd.snd.fst) && Decidable.decide (x.fst.snd.snd.fst ≤ (65535 : Int))) = Bool.true) ∧ Wr (ByteArray.size
  (ByteArray.mk (List.toArray ((58 : UInt8) :: nilL UInt8))) + ByteArray.size (Go.Lb.digS x.fst.snd.snd.fst) ≤ Go.maxLen) ∧ bcase (Decidable.decide (x.fst.fst = (4 : Int))) (Wr ((0 : Int) ≤ (0 : Int)) ∧ Wr ((0 : Int) ≤ (2
  : Int)) ∧ Wr ((2 : Int) ≤ (↑(8 : Nat) : Int)) ∧ Wr ((0 : Int) ≤ (0 : Int)) ∧ Wr ((0 : Int) < (↑(Int.toNat (2 : Int) - Int.toNat (0 : Int)) : Int)) ∧ Wr ((0 : Int) ≤ (8 : Int)) ∧ Wr ((Decidable.decide ((0 : Int) ≤
  IntKind.wrap IntKind.i64 (Int.fdiv (List.getD (x.fst.snd.fst.fst :: x.fst.snd.fst.snd.fst :: x.fst.snd.fst.snd.snd.fst :: x.fst.snd.fst.snd.snd.snd.fst :: x.fst.snd.fst.snd.snd.snd.snd.fst ::
  x.fst.snd.fst.snd.snd.snd.snd.snd.fst :: x.fst.snd.fst.snd.snd.snd.snd.snd.snd.fst :: x.fst.snd.fst.snd.snd.snd.snd.snd.snd.snd.fst :: nilL Int) (Int.toNat (0 : Int) + Int.toNat (0 : Int)) (0 : Int)) ((2 : Int) ^
  Min.min (Int.toNat (8 : Int)) (IntKind.bits IntKind.u16)))) && Decidable.decide (IntKind.wrap IntKind.i64 (Int.fdiv (List.getD (x.fst.snd.fst.fst :: x.fst.snd.fst.snd.fst :: x.fst.snd.fst.snd.snd.fst ::
  x.fst.snd.fst.snd.snd.snd.fst :: x.fst.snd.fst.snd.snd.snd.snd.fst :: x.fst.snd.fst.snd.snd.snd.snd.snd.fst :: x.fst.snd.fst.snd.snd.snd.snd.snd.snd.fst :: x.fst.snd.fst.snd.snd.snd.snd.snd.snd.snd.fst :: nilL Int)
  (Int.toNat (0 : Int) + Int.toNat (0 : Int)) (0 : Int)) ((2 : Int) ^ Min.min (Int.toNat (8 : Int)) (IntKind.bits IntKind.u16))) ≤ (65535 : Int))) = Bool.true) ∧ Wr ((Decidable.decide ((0 : Int) ≤ IntKind.wrap IntKind.i64
  (andI IntKind.u16 (List.getD (x.fst.snd.fst.fst :: x.fst.snd.fst.snd.fst :: x.fst.snd.fst.snd.snd.fst :: x.fst.snd.fst.snd.snd.snd.fst :: x.fst.snd.fst.snd.snd.snd.snd.fst :: x.fst.snd.fst.snd.snd.snd.snd.snd.fst ::
  x.fst.snd.fst.snd.snd.snd.snd.snd.snd.fst :: x.fst.snd.fst.snd.snd.snd.snd.snd.snd.snd.fst :: nilL Int) (Int.toNat (0 : Int) + Int.toNat (0 : Int)) (0 : Int)) (255 : Int))) && Decidable.decide (IntKind.wrap IntKind.i64
  (andI IntKind.u16 (List.getD (x.fst.snd.fst.fst :: x.fst.snd.fst.snd.fst :: x.fst.snd.fst.snd.snd.fst :: x.fst.snd.fst.snd.snd.snd.fst :: x.fst.snd.fst.snd.snd.snd.snd.fst :: x.fst.snd.fst.snd.snd.snd.snd.snd.fst ::
  x.fst.snd.fst.snd.snd.snd.snd.snd.snd.fst :: x.fst.snd.fst.snd.snd.snd.snd.snd.snd.snd.fst :: nilL Int) (Int.toNat (0 : Int) + Int.toNat (0 : Int)) (0 : Int)) (255 : Int)) ≤ (65535 : Int))) = Bool.true) ∧ Wr
  (List.length (Go.Lb.digS (IntKind.wrap IntKind.i64 (Int.fdiv (List.getD (x.fst.snd.fst.fst :: x.fst.snd.fst.snd.fst :: x.fst.snd.fst.snd.snd.fst :: x.fst.snd.fst.snd.snd.snd.fst :: x.fst.snd.fst.snd.snd.snd.snd.fst ::
  x.fst.snd.fst.snd.snd.snd.snd.snd.fst :: x.fst.snd.fst.snd.snd.snd.snd.snd.snd.fst :: x.fst.snd.fst.snd.snd.snd.snd.snd.snd.snd.fst :: nilL Int) (Int.toNat (0 : Int) + Int.toNat (0 : Int)) (0 : Int)) ((2 : Int) ^
  Min.min (Int.toNat (8 : Int)) (IntKind.bits IntKind.u16)))) :: Go.Lb.digS (IntKind.wrap IntKind.i64 (andI IntKind.u16 (List.getD (x.fst.snd.fst.fst :: x.fst.snd.fst.snd.fst :: x.fst.snd.fst.snd.snd.fst ::
  x.fst.snd.fst.snd.snd.snd.fst :: x.fst.snd.fst.snd.snd.snd.snd.fst :: x.fst.snd.fst.snd.snd.snd.snd.snd.fst :: x.fst.snd.fst.snd.snd.snd.snd.snd.snd.fst :: x.fst.snd.fst.snd.snd.snd.snd.snd.snd.snd.fst :: nilL Int)
  (Int.toNat (0 : Int) + Int.toNat (0 : Int)) (0 : Int)) (255 : Int))) :: nilL ByteArray) * (16 : Nat) ≤ (140737488355328 : Nat)) ∧ Wr ((0 : Int) ≤ IntKind.wrap IntKind.i64 ((0 : Int) + (1 : Int))) ∧ Wr (IntKind.wrap
  IntKind.i64 ((0 : Int) + (1 : Int)) < (↑(Int.toNat (2 : Int) - Int.toNat (0 : Int)) : Int)) ∧ Wr ((0 : Int) ≤ (8 : Int)) ∧ Wr ((Decidable.decide ((0 : Int) ≤ IntKind.wrap IntKind.i64 (Int.fdiv (List.getD
  (x.fst.snd.fst.fst :: x.fst.snd.fst.snd.fst :: x.fst.snd.fst.snd.snd.fst :: x.fst.snd.fst.snd.snd.snd.fst :: x.fst.snd.fst.snd.snd.snd.snd.fst :: x.fst.snd.fst.snd.snd.snd.snd.snd.fst ::
  x.fst.snd.fst.snd.snd.snd.snd.snd.snd.fst :: x.fst.snd.fst.snd.snd.snd.snd.snd.snd.snd.fst :: nilL Int) (Int.toNat (0 : Int) + Int.toNat (IntKind.wrap IntKind.i64 ((0 : Int) + (1 : Int)))) (0 : Int)) ((2 : Int) ^
  Min.min (Int.toNat (8 : Int)) (IntKind.bits IntKind.u16)))) && Decidable.decide (IntKind.wrap IntKind.i64 (Int.fdiv (List.getD (x.fst.snd.fst.fst :: x.fst.snd.fst.snd.fst :: x.fst.snd.fst.snd.snd.fst ::
  x.fst.snd.fst.snd.snd.snd.fst :: x.fst.snd.fst.snd.snd.snd.snd.fst :: x.fst.snd.fst.snd.snd.snd.snd.snd.fst :: x.fst.snd.fst.snd.snd.snd.snd.snd.snd.fst :: x.fst.snd.fst.snd.snd.snd.snd.snd.snd.snd.fst :: nilL Int)
  (Int.toNat (0 : Int) + Int.toNat (IntKind.wrap IntKind.i64 ((0 : Int) + (1 : Int)))) (0 : Int)) ((2 : Int) ^ Min.min (Int.toNat (8 : Int)) (IntKind.bits IntKind.u16))) ≤ (65535 : Int))) = Bool.true) ∧ Wr
  ((Decidable.decide ((0 : Int) ≤ IntKind.wrap IntKind.i64 (andI IntKind.u16 (List.getD (x.fst.snd.fst.fst :: x.fst.snd.fst.snd.fst :: x.fst.snd.fst.snd.snd.fst :: x.fst.snd.fst.snd.snd.snd.fst ::
  x.fst.snd.fst.snd.snd.snd.snd.fst :: x.fst.snd.fst.snd.snd.snd.snd.snd.fst :: x.fst.snd.fst.snd.snd.snd.snd.snd.snd.fst :: x.fst.snd.fst.snd.snd.snd.snd.snd.snd.snd.fst :: nilL Int) (Int.toNat (0 : Int) + Int.toNat
  (IntKind.wrap IntKind.i64 ((0 : Int) + (1 : Int)))) (0 : Int)) (255 : Int))) && Decidable.decide (IntKind.wrap IntKind.i64 (andI IntKind.u16 (List.getD (x.fst.snd.fst.fst :: x.fst.snd.fst.snd.fst ::
  x.fst.snd.fst.snd.snd.fst :: x.fst.snd.fst.snd.snd.snd.fst :: x.fst.snd.fst.snd.snd.snd.snd.fst :: x.fst.snd.fst.snd.snd.snd.snd.snd.fst :: x.fst.snd.fst.snd.snd.snd.snd.snd.snd.fst ::
  x.fst.snd.fst.snd.snd.snd.snd.snd.snd.snd.fst :: nilL Int) (Int.toNat (0 : Int) + Int.toNat (IntKind.wrap IntKind.i64 ((0 : Int) + (1 : Int)))) (0 : Int)) (255 : Int)) ≤ (65535 : Int))) = Bool.true) ∧ Wr ((List.length
  (Go.Lb.digS (IntKind.wrap IntKind.i64 (Int.fdiv (List.getD (x.fst.snd.fst.fst :: x.fst.snd.fst.snd.fst :: x.fst.snd.fst.snd.snd.fst :: x.fst.snd.fst.snd.snd.snd.fst :: x.fst.snd.fst.snd.snd.snd.snd.fst ::
  x.fst.snd.fst.snd.snd.snd.snd.snd.fst :: x.fst.snd.fst.snd.snd.snd.snd.snd.snd.fst :: x.fst.snd.fst.snd.snd.snd.snd.snd.snd.snd.fst :: nilL Int) (Int.toNat (0 : Int) + Int.toNat (0 : Int)) (0 : Int)) ((2 : Int) ^
  Min.min (Int.toNat (8 : Int)) (IntKind.bits IntKind.u16)))) :: Go.Lb.digS (IntKind.wrap IntKind.i64 (andI IntKind.u16 (List.getD (x.fst.snd.fst.fst :: x.fst.snd.fst.snd.fst :: x.fst.snd.fst.snd.snd.fst ::
  x.fst.snd.fst.snd.snd.snd.fst :: x.fst.snd.fst.snd.snd.snd.snd.fst :: x.fst.snd.fst.snd.snd.snd.snd.snd.fst :: x.fst.snd.fst.snd.snd.snd.snd.snd.snd.fst :: x.fst.snd.fst.snd.snd.snd.snd.snd.snd.snd.fst :: nilL Int)
  (Int.toNat (0 : Int) + Int.toNat (0 : Int)) (0 : Int)) (255 : Int))) :: nilL ByteArray) + List.length (Go.Lb.digS (IntKind.wrap IntKind.i64 (Int.fdiv (List.getD (x.fst.snd.fst.fst :: x.fst.snd.fst.snd.fst ::
  x.fst.snd.fst.snd.snd.fst :: x.fst.snd.fst.snd.snd.snd.fst :: x.fst.snd.fst.snd.snd.snd.snd.fst :: x.fst.snd.fst.snd.snd.snd.snd.snd.fst :: x.fst.snd.fst.snd.snd.snd.snd.snd.snd.fst ::
  x.fst.snd.fst.snd.snd.snd.snd.snd.snd.snd.fst :: nilL Int) (Int.toNat (0 : Int) + Int.toNat (IntKind.wrap IntKind.i64 ((0 : Int) + (1 : Int)))) (0 : Int)) ((2 : Int) ^ Min.min (Int.toNat (8 : Int)) (IntKind.bits
  IntKind.u16)))) :: Go.Lb.digS (IntKind.wrap IntKind.i64 (andI IntKind.u16 (List.getD (x.fst.snd.fst.fst :: x.fst.snd.fst.snd.fst :: x.fst.snd.fst.snd.snd.fst :: x.fst.snd.fst.snd.snd.snd.fst ::
  x.fst.snd.fst.snd.snd.snd.snd.fst :: x.fst.snd.fst.snd.snd.snd.snd.snd.fst :: x.fst.snd.fst.snd.snd.snd.snd.snd.snd.fst :: x.fst.snd.fst.snd.snd.snd.snd.snd.snd.snd.fst :: nilL Int) (Int.toNat (0 : Int) + Int.toNat
  (IntKind.wrap IntKind.i64 ((0 : Int) + (1 : Int)))) (0 : Int)) (255 : Int))) :: nilL ByteArray)) * (16 : Nat) ≤ (140737488355328 : Nat)) ∧ Wr ((Decidable.decide (List.length (Go.Lb.digS (IntKind.wrap IntKind.i64
  (Int.fdiv (List.getD (x.fst.snd.fst.fst :: x.fst.snd.fst.snd.fst :: x.fst.snd.fst.snd.snd.fst :: x.fst.snd.fst.snd.snd.snd.fst :: x.fst.snd.fst.snd.snd.snd.snd.fst :: x.fst.snd.fst.snd.snd.snd.snd.snd.fst ::
  x.fst.snd.fst.snd.snd.snd.snd.snd.snd.fst :: x.fst.snd.fst.snd.snd.snd.snd.snd.snd.snd.fst :: nilL Int) (Int.toNat (0 : Int) + Int.toNat (0 : Int)) (0 : Int)) ((2 : Int) ^ Min.min (Int.toNat (8 : Int)) (IntKind.bits
  IntKind.u16)))) :: Go.Lb.digS (IntKind.wrap IntKind.i64 (andI IntKind.u16 (List.getD (x.fst.snd.fst.fst :: x.fst.snd.fst.snd.fst :: x.fst.snd.fst.snd.snd.fst :: x.fst.snd.fst.snd.snd.snd.fst ::
  x.fst.snd.fst.snd.snd.snd.snd.fst :: x.fst.snd.fst.snd.snd.snd.snd.snd.fst :: x.fst.snd.fst.snd.snd.snd.snd.snd.snd.fst :: x.fst.snd.fst.snd.snd.snd.snd.snd.snd.snd.fst :: nilL Int) (Int.toNat (0 : Int) + Int.toNat (0 :
  Int)) (0 : Int)) (255 : Int))) :: nilL ByteArray ++ Go.Lb.digS (IntKind.wrap IntKind.i64 (Int.fdiv (List.getD (x.fst.snd.fst.fst :: x.fst.snd.fst.snd.fst :: x.fst.snd.fst.snd.snd.fst :: x.fst.snd.fst.snd.snd.snd.fst ::
  x.fst.snd.fst.snd.snd.snd.snd.fst :: x.fst.snd.fst.snd.snd.snd.snd.snd.fst :: x.fst.snd.fst.snd.snd.snd.snd.snd.snd.fst :: x.fst.snd.fst.snd.snd.snd.snd.snd.snd.snd.fst :: nilL Int) (Int.toNat (0 : Int) + Int.toNat
  (IntKind.wrap IntKind.i64 ((0 : Int) + (1 : Int)))) (0 : Int)) ((2 : Int) ^ Min.min (Int.toNat (8 : Int)) (IntKind.bits IntKind.u16)))) :: Go.Lb.digS (IntKind.wrap IntKind.i64 (andI IntKind.u16 (List.getD
  (x.fst.snd.fst.fst :: x.fst.snd.fst.snd.fst :: x.fst.snd.fst.snd.snd.fst :: x.fst.snd.fst.snd.snd.snd.fst :: x.fst.snd.fst.snd.snd.snd.snd.fst :: x.fst.snd.fst.snd.snd.snd.snd.snd.fst ::
  x.fst.snd.fst.snd.snd.snd.snd.snd.snd.fst :: x.fst.snd.fst.snd.snd.snd.snd.snd.snd.snd.fst :: nilL Int) (Int.toNat (0 : Int) + Int.toNat (IntKind.wrap IntKind.i64 ((0 : Int) + (1 : Int)))) (0 : Int)) (255 : Int))) ::
  nilL ByteArray) ≤ (100000 : Nat)) && Decidable.decide (List.length (joinL (Go.Lb.digS (IntKind.wrap IntKind.i64 (Int.fdiv (List.getD (x.fst.snd.fst.fst :: x.fst.snd.fst.snd.fst :: x.fst.snd.fst.snd.snd.fst ::
  x.fst.snd.fst.snd.snd.snd.fst :: x.fst.snd.fst.snd.snd.snd.snd.fst :: x.fst.snd.fst.snd.snd.snd.snd.snd.fst :: x.fst.snd.fst.snd.snd.snd.snd.snd.snd.fst :: x.fst.snd.fst.snd.snd.snd.snd.snd.snd.snd.fst :: nilL Int)
  (Int.toNat (0 : Int) + Int.toNat (0 : Int)) (0 : Int)) ((2 : Int) ^ Min.min (Int.toNat (8 : Int)) (IntKind.bits IntKind.u16)))) :: Go.Lb.digS (IntKind.wrap IntKind.i64 (andI IntKind.u16 (List.getD (x.fst.snd.fst.fst ::
  x.fst.snd.fst.snd.fst :: x.fst.snd.fst.snd.snd.fst :: x.fst.snd.fst.snd.snd.snd.fst :: x.fst.snd.fst.snd.snd.snd.snd.fst :: x.fst.snd.fst.snd.snd.snd.snd.snd.fst :: x.fst.snd.fst.snd.snd.snd.snd.snd.snd.fst ::
  x.fst.snd.fst.snd.snd.snd.snd.snd.snd.snd.fst :: nilL Int) (Int.toNat (0 : Int) + Int.toNat (0 : Int)) (0 : Int)) (255 : Int))) :: nilL ByteArray ++ Go.Lb.digS (IntKind.wrap IntKind.i64 (Int.fdiv (List.getD
  (x.fst.snd.fst.fst :: x.fst.snd.fst.snd.fst :: x.fst.snd.fst.snd.snd.fst :: x.fst.snd.fst.snd.snd.snd.fst :: x.fst.snd.fst.snd.snd.snd.snd.fst :: x.fst.snd.fst.snd.snd.snd.snd.snd.fst ::
  x.fst.snd.fst.snd.snd.snd.snd.snd.snd.fst :: x.fst.snd.fst.snd.snd.snd.snd.snd.snd.snd.fst :: nilL Int) (Int.toNat (0 : Int) + Int.toNat (IntKind.wrap IntKind.i64 ((0 : Int) + (1 : Int)))) (0 : Int)) ((2 : Int) ^
  Min.min (Int.toNat (8 : Int)) (IntKind.bits IntKind.u16)))) :: Go.Lb.digS (IntKind.wrap IntKind.i64 (andI IntKind.u16 (List.getD (x.fst.snd.fst.fst :: x.fst.snd.fst.snd.fst :: x.fst.snd.fst.snd.snd.fst ::
  x.fst.snd.fst.snd.snd.snd.fst :: x.fst.snd.fst.snd.snd.snd.snd.fst :: x.fst.snd.fst.snd.snd.snd.snd.snd.fst :: x.fst.snd.fst.snd.snd.snd.snd.snd.snd.fst :: x.fst.snd.fst.snd.snd.snd.snd.snd.snd.snd.fst :: nilL Int)
  (Int.toNat (0 : Int) + Int.toNat (IntKind.wrap IntKind.i64 ((0 : Int) + (1 : Int)))) (0 : Int)) (255 : Int))) :: nilL ByteArray) (ByteArray.mk (List.toArray ((46 : UInt8) :: nilL UInt8)))) ≤ (4000000000 : Nat))) =
  Bool.true) ∧ Wr (ByteArray.size (joinS (Go.Lb.digS (IntKind.wrap IntKind.i64 (Int.fdiv (List.getD (x.fst.snd.fst.fst :: x.fst.snd.fst.snd.fst :: x.fst.snd.fst.snd.snd.fst :: x.fst.snd.fst.snd.snd.snd.fst ::
  x.fst.snd.fst.snd.snd.snd.snd.fst :: x.fst.snd.fst.snd.snd.snd.snd.snd.fst :: x.fst.snd.fst.snd.snd.snd.snd.snd.snd.fst :: x.fst.snd.fst.snd.snd.snd.snd.snd.snd.snd.fst :: nilL Int) (Int.toNat (0 : Int) + Int.toNat (0 :
  Int)) (0 : Int)) ((2 : Int) ^ Min.min (Int.toNat (8 : Int)) (IntKind.bits IntKind.u16)))) :: Go.Lb.digS (IntKind.wrap IntKind.i64 (andI IntKind.u16 (List.getD (x.fst.snd.fst.fst :: x.fst.snd.fst.snd.fst ::
  x.fst.snd.fst.snd.snd.fst :: x.fst.snd.fst.snd.snd.snd.fst :: x.fst.snd.fst.snd.snd.snd.snd.fst :: x.fst.snd.fst.snd.snd.snd.snd.snd.fst :: x.fst.snd.fst.snd.snd.snd.snd.snd.snd.fst ::
  x.fst.snd.fst.snd.snd.snd.snd.snd.snd.snd.fst :: nilL Int) (Int.toNat (0 : Int) + Int.toNat (0 : Int)) (0 : Int)) (255 : Int))) :: nilL ByteArray ++ Go.Lb.digS (IntKind.wrap IntKind.i64 (Int.fdiv (List.getD
  (x.fst.snd.fst.fst :: x.fst.snd.fst.snd.fst :: x.fst.snd.fst.snd.snd.fst :: x.fst.snd.fst.snd.snd.snd.fst :: x.fst.snd.fst.snd.snd.snd.snd.fst :: x.fst.snd.fst.snd.snd.snd.snd.snd.fst ::
  x.fst.snd.fst.snd.snd.snd.snd.snd.snd.fst :: x.fst.snd.fst.snd.snd.snd.snd.snd.snd.snd.fst :: nilL Int) (Int.toNat (0 : Int) + Int.toNat (IntKind.wrap IntKind.i64 ((0 : Int) + (1 : Int)))) (0 : Int)) ((2 : Int) ^
  Min.min (Int.toNat (8 : Int)) (IntKind.bits IntKind.u16)))) :: Go.Lb.digS (IntKind.wrap IntKind.i64 (andI IntKind.u16 (List.getD (x.fst.snd.fst.fst :: x.fst.snd.fst.snd.fst :: x.fst.snd.fst.snd.snd.fst ::
  x.fst.snd.fst.snd.snd.snd.fst :: x.fst.snd.fst.snd.snd.snd.snd.fst :: x.fst.snd.fst.snd.snd.snd.snd.snd.fst :: x.fst.snd.fst.snd.snd.snd.snd.snd.snd.fst :: x.fst.snd.fst.snd.snd.snd.snd.snd.snd.snd.fst :: nilL Int)
  (Int.toNat (0 : Int) + Int.toNat (IntKind.wrap IntKind.i64 ((0 : Int) + (1 : Int)))) (0 : Int)) (255 : Int))) :: nilL ByteArray) (ByteArray.mk (List.toArray ((46 : UInt8) :: nilL UInt8)))) + ByteArray.size (ByteArray.mk
  (List.toArray ((58 : UInt8) :: nilL UInt8)) ++ Go.Lb.digS x.fst.snd.snd.fst) ≤ Go.maxLen) ∧ (joinS (Go.Lb.digS (IntKind.wrap IntKind.i64 (Int.fdiv (List.getD (x.fst.snd.fst.fst :: x.fst.snd.fst.snd.fst ::
  x.fst.snd.fst.snd.snd.fst :: x.fst.snd.fst.snd.snd.snd.fst :: x.fst.snd.fst.snd.snd.snd.snd.fst :: x.fst.snd.fst.snd.snd.snd.snd.snd.fst :: x.fst.snd.fst.snd.snd.snd.snd.snd.snd.fst ::
  x.fst.snd.fst.snd.snd.snd.snd.snd.snd.snd.fst :: nilL Int) (Int.toNat (0 : Int) + Int.toNat (0 : Int)) (0 : Int)) ((2 : Int) ^ Min.min (Int.toNat (8 : Int)) (IntKind.bits IntKind.u16)))) :: Go.Lb.digS (IntKind.wrap
  IntKind.i64 (andI IntKind.u16 (List.getD (x.fst.snd.fst.fst :: x.fst.snd.fst.snd.fst :: x.fst.snd.fst.snd.snd.fst :: x.fst.snd.fst.snd.snd.snd.fst :: x.fst.snd.fst.snd.snd.snd.snd.fst ::
  x.fst.snd.fst.snd.snd.snd.snd.snd.fst :: x.fst.snd.fst.snd.snd.snd.snd.snd.snd.fst :: x.fst.snd.fst.snd.snd.snd.snd.snd.snd.snd.fst :: nilL Int) (Int.toNat (0 : Int) + Int.toNat (0 : Int)) (0 : Int)) (255 : Int))) ::
  nilL ByteArray ++ Go.Lb.digS (IntKind.wrap IntKind.i64 (Int.fdiv (List.getD (x.fst.snd.fst.fst :: x.fst.snd.fst.snd.fst :: x.fst.snd.fst.snd.snd.fst :: x.fst.snd.fst.snd.snd.snd.fst :: x.fst.snd.fst.snd.snd.snd.snd.fst
  :: x.fst.snd.fst.snd.snd.snd.snd.snd.fst :: x.fst.snd.fst.snd.snd.snd.snd.snd.snd.fst :: x.fst.snd.fst.snd.snd.snd.snd.snd.snd.snd.fst :: nilL Int) (Int.toNat (0 : Int) + Int.toNat (IntKind.wrap IntKind.i64 ((0 : Int) +
  (1 : Int)))) (0 : Int)) ((2 : Int) ^ Min.min (Int.toNat (8 : Int)) (IntKind.bits IntKind.u16)))) :: Go.Lb.digS (IntKind.wrap IntKind.i64 (andI IntKind.u16 (List.getD (x.fst.snd.fst.fst :: x.fst.snd.fst.snd.fst ::
  x.fst.snd.fst.snd.snd.fst :: x.fst.snd.fst.snd.snd.snd.fst :: x.fst.snd.fst.snd.snd.snd.snd.fst :: x.fst.snd.fst.snd.snd.snd.snd.snd.fst :: x.fst.snd.fst.snd.snd.snd.snd.snd.snd.fst ::
  x.fst.snd.fst.snd.snd.snd.snd.snd.snd.snd.fst :: nilL Int) (Int.toNat (0 : Int) + Int.toNat (IntKind.wrap IntKind.i64 ((0 : Int) + (1 : Int)))) (0 : Int)) (255 : Int))) :: nilL ByteArray) (ByteArray.mk (List.toArray
  ((46 : UInt8) :: nilL UInt8))) ++ (ByteArray.mk (List.toArray ((58 : UInt8) :: nilL UInt8)) ++ Go.Lb.digS x.fst.snd.snd.fst), (0 : Int), ()) = (Go.Ad.text1 x.fst, Go.Ad.text2 x.fst, ())) (Wr (Bool.true = Bool.true) ∧
  bcase (Decidable.decide (Go.Ad.long2 x.fst.snd.fst = (0 : Int))) (Wr ((0 : Int) ≤ (0 : Int)) ∧ Wr ((0 : Int) ≤ (↑(8 : Nat) : Int)) ∧ Wr ((↑(8 : Nat) : Int) ≤ (↑(8 : Nat) : Int)) ∧ Wr (Decidable.decide (List.length
  (List.drop (Int.toNat (0 : Int)) (List.take (Int.toNat (↑(8 : Nat) : Int)) (x.fst.snd.fst.fst :: x.fst.snd.fst.snd.fst :: x.fst.snd.fst.snd.snd.fst :: x.fst.snd.fst.snd.snd.snd.fst :: x.fst.snd.fst.snd.snd.snd.snd.fst
  :: x.fst.snd.fst.snd.snd.snd.snd.snd.fst :: x.fst.snd.fst.snd.snd.snd.snd.snd.snd.fst :: x.fst.snd.fst.snd.snd.snd.snd.snd.snd.snd.fst :: nilL Int))) ≤ (8 : Nat)) = Bool.true) ∧ Wr (ByteArray.size (ByteArray.mk
  (List.toArray ((91 : UInt8) :: nilL UInt8))) + ByteArray.size (Go.Ad.hexes (List.drop (Int.toNat (0 : Int)) (List.take (Int.toNat (↑(8 : Nat) : Int)) (x.fst.snd.fst.fst :: x.fst.snd.fst.snd.fst ::
  x.fst.snd.fst.snd.snd.fst :: x.fst.snd.fst.snd.snd.snd.fst :: x.fst.snd.fst.snd.snd.snd.snd.fst :: x.fst.snd.fst.snd.snd.snd.snd.snd.fst :: x.fst.snd.fst.snd.snd.snd.snd.snd.snd.fst ::
  x.fst.snd.fst.snd.snd.snd.snd.snd.snd.snd.fst :: nilL Int)))) ≤ Go.maxLen) ∧ Wr (ByteArray.size (ByteArray.mk (List.toArray ((91 : UInt8) :: nilL UInt8)) ++ Go.Ad.hexes (List.drop (Int.toNat (0 : Int)) (List.take
  (Int.toNat (↑(8 : Nat) : Int)) (x.fst.snd.fst.fst :: x.fst.snd.fst.snd.fst :: x.fst.snd.fst.snd.snd.fst :: x.fst.snd.fst.snd.snd.snd.fst :: x.fst.snd.fst.snd.snd.snd.snd.fst :: x.fst.snd.fst.snd.snd.snd.snd.snd.fst ::
  x.fst.snd.fst.snd.snd.snd.snd.snd.snd.fst :: x.fst.snd.fst.snd.snd.snd.snd.snd.snd.snd.fst :: nilL Int)))) + ByteArray.size (ByteArray.mk (List.toArray ((93 : UInt8) :: nilL UInt8))) ≤ Go.maxLen) ∧ Wr (ByteArray.size
  (ByteArray.mk (List.toArray ((91 : UInt8) :: nilL UInt8)) ++ Go.Ad.hexes (List.drop (Int.toNat (0 : Int)) (List.take (Int.toNat (↑(8 : Nat) : Int)) (x.fst.snd.fst.fst :: x.fst.snd.fst.snd.fst ::
  x.fst.snd.fst.snd.snd.fst :: x.fst.snd.fst.snd.snd.snd.fst :: x.fst.snd.fst.snd.snd.snd.snd.fst :: x.fst.snd.fst.snd.snd.snd.snd.snd.fst :: x.fst.snd.fst.snd.snd.snd.snd.snd.snd.fst ::
  x.fst.snd.fst.snd.snd.snd.snd.snd.snd.snd.fst :: nilL Int))) ++ ByteArray.mk (List.toArray ((93 : UInt8) :: nilL UInt8))) + ByteArray.size (ByteArray.mk (List.toArray ((58 : UInt8) :: nilL UInt8)) ++ Go.Lb.digS
  x.fst.snd.snd.fst) ≤ Go.maxLen) ∧ (ByteArray.mk (List.toArray ((91 : UInt8) :: nilL UInt8)) ++ Go.Ad.hexes (List.drop (Int.toNat (0 : Int)) (List.take (Int.toNat (↑(8 : Nat) : Int)) (x.fst.snd.fst.fst ::
  x.fst.snd.fst.snd.fst :: x.fst.snd.fst.snd.snd.fst :: x.fst.snd.fst.snd.snd.snd.fst :: x.fst.snd.fst.snd.snd.snd.snd.fst :: x.fst.snd.fst.snd.snd.snd.snd.snd.fst :: x.fst.snd.fst.snd.snd.snd.snd.snd.snd.fst ::
  x.fst.snd.fst.snd.snd.snd.snd.snd.snd.snd.fst :: nilL Int))) ++ ByteArray.mk (List.toArray ((93 : UInt8) :: nilL UInt8)) ++ (ByteArray.mk (List.toArray ((58 : UInt8) :: nilL UInt8)) ++ Go.Lb.digS x.fst.snd.snd.fst), (0
  : Int), ()) = (Go.Ad.text1 x.fst, Go.Ad.text2 x.fst, ())) (Wr ((0 : Int) ≤ (0 : Int)) ∧ Wr ((0 : Int) ≤ Go.Ad.long1 x.fst.snd.fst) ∧ Wr (Go.Ad.long1 x.fst.snd.fst ≤ (↑(8 : Nat) : Int)) ∧ Wr (Decidable.decide
  (List.length (List.drop (Int.toNat (0 : Int)) (List.take (Int.toNat (Go.Ad.long1 x.fst.snd.fst)) (x.fst.snd.fst.fst :: x.fst.snd.fst.snd.fst :: x.fst.snd.fst.snd.snd.fst :: x.fst.snd.fst.snd.snd.snd.fst ::
  x.fst.snd.fst.snd.snd.snd.snd.fst :: x.fst.snd.fst.snd.snd.snd.snd.snd.fst :: x.fst.snd.fst.snd.snd.snd.snd.snd.snd.fst :: x.fst.snd.fst.snd.snd.snd.snd.snd.snd.snd.fst :: nilL Int))) ≤ (8 : Nat)) = Bool.true) ∧ Wr
  (ByteArray.size (ByteArray.mk (List.toArray ((91 : UInt8) :: nilL UInt8))) + ByteArray.size (Go.Ad.hexes (List.drop (Int.toNat (0 : Int)) (List.take (Int.toNat (Go.Ad.long1 x.fst.snd.fst)) (x.fst.snd.fst.fst ::
  x.fst.snd.fst.snd.fst :: x.fst.snd.fst.snd.snd.fst :: x.fst.snd.fst.snd.snd.snd.fst :: x.fst.snd.fst.snd.snd.snd.snd.fst :: x.fst.snd.fst.snd.snd.snd.snd.snd.fst :: x.fst.snd.fst.snd.snd.snd.snd.snd.snd.fst ::
  x.fst.snd.fst.snd.snd.snd.snd.snd.snd.snd.fst :: nilL Int)))) ≤ Go.maxLen) ∧ Wr (ByteArray.size (ByteArray.mk (List.toArray ((91 : UInt8) :: nilL UInt8)) ++ Go.Ad.hexes (List.drop (Int.toNat (0 : Int)) (List.take
  (Int.toNat (Go.Ad.long1 x.fst.snd.fst)) (x.fst.snd.fst.fst :: x.fst.snd.fst.snd.fst :: x.fst.snd.fst.snd.snd.fst :: x.fst.snd.fst.snd.snd.snd.fst :: x.fst.snd.fst.snd.snd.snd.snd.fst ::
  x.fst.snd.fst.snd.snd.snd.snd.snd.fst :: x.fst.snd.fst.snd.snd.snd.snd.snd.snd.fst :: x.fst.snd.fst.snd.snd.snd.snd.snd.snd.snd.fst :: nilL Int)))) + ByteArray.size (ByteArray.mk (List.toArray ((58 : UInt8) :: (58 :
  UInt8) :: nilL UInt8))) ≤ Go.maxLen) ∧ Wr ((0 : Int) ≤ IntKind.wrap IntKind.i64 (Go.Ad.long1 x.fst.snd.fst + Go.Ad.long2 x.fst.snd.fst)) ∧ Wr (IntKind.wrap IntKind.i64 (Go.Ad.long1 x.fst.snd.fst + Go.Ad.long2
  x.fst.snd.fst) ≤ (↑(8 : Nat) : Int)) ∧ Wr ((↑(8 : Nat) : Int) ≤ (↑(8 : Nat) : Int)) ∧ Wr (Decidable.decide (List.length (List.drop (Int.toNat (IntKind.wrap IntKind.i64 (Go.Ad.long1 x.fst.snd.fst + Go.Ad.long2
  x.fst.snd.fst))) (List.take (Int.toNat (↑(8 : Nat) : Int)) (x.fst.snd.fst.fst :: x.fst.snd.fst.snd.fst :: x.fst.snd.fst.snd.snd.fst :: x.fst.snd.fst.snd.snd.snd.fst :: x.fst.snd.fst.snd.snd.snd.snd.fst ::
  x.fst.snd.fst.snd.snd.snd.snd.snd.fst :: x.fst.snd.fst.snd.snd.snd.snd.snd.snd.fst :: x.fst.snd.fst.snd.snd.snd.snd.snd.snd.snd.fst :: nilL Int))) ≤ (8 : Nat)) = Bool.true) ∧ Wr (ByteArray.size (ByteArray.mk
  (List.toArray ((91 : UInt8) :: nilL UInt8)) ++ Go.Ad.hexes (List.drop (Int.toNat (0 : Int)) (List.take (Int.toNat (Go.Ad.long1 x.fst.snd.fst)) (x.fst.snd.fst.fst :: x.fst.snd.fst.snd.fst :: x.fst.snd.fst.snd.snd.fst ::
  x.fst.snd.fst.snd.snd.snd.fst :: x.fst.snd.fst.snd.snd.snd.snd.fst :: x.fst.snd.fst.snd.snd.snd.snd.snd.fst :: x.fst.snd.fst.snd.snd.snd.snd.snd.snd.fst :: x.fst.snd.fst.snd.snd.snd.snd.snd.snd.snd.fst :: nilL Int))) ++
  ByteArray.mk (List.toArray ((58 : UInt8) :: (58 : UInt8) :: nilL UInt8))) + ByteArray.size (Go.Ad.hexes (List.drop (Int.toNat (IntKind.wrap IntKind.i64 (Go.Ad.long1 x.fst.snd.fst + Go.Ad.long2 x.fst.snd.fst)))
  (List.take (Int.toNat (↑(8 : Nat) : Int)) (x.fst.snd.fst.fst :: x.fst.snd.fst.snd.fst :: x.fst.snd.fst.snd.snd.fst :: x.fst.snd.fst.snd.snd.snd.fst :: x.fst.snd.fst.snd.snd.snd.snd.fst ::
  x.fst.snd.fst.snd.snd.snd.snd.snd.fst :: x.fst.snd.fst.snd.snd.snd.snd.snd.snd.fst :: x.fst.snd.fst.snd.snd.snd.snd.snd.snd.snd.fst :: nilL Int)))) ≤ Go.maxLen) ∧ Wr (ByteArray.size (ByteArray.mk (List.toArray ((91 :
  UInt8) :: nilL UInt8)) ++ Go.Ad.hexes (List.drop (Int.toNat (0 : Int)) (List.take (Int.toNat (Go.Ad.long1 x.fst.snd.fst)) (x.fst.snd.fst.fst :: x.fst.snd.fst.snd.fst :: x.fst.snd.fst.snd.snd.fst ::
  x.fst.snd.fst.snd.snd.snd.fst :: x.fst.snd.fst.snd.snd.snd.snd.fst :: x.fst.snd.fst.snd.snd.snd.snd.snd.fst :: x.fst.snd.fst.snd.snd.snd.snd.snd.snd.fst :: x.fst.snd.fst.snd.snd.snd.snd.snd.snd.snd.fst :: nilL Int))) ++
  ByteArray.mk (List.toArray ((58 : UInt8) :: (58 : UInt8) :: nilL UInt8)) ++ Go.Ad.hexes (List.drop (Int.toNat (IntKind.wrap IntKind.i64 (Go.Ad.long1 x.fst.snd.fst + Go.Ad.long2 x.fst.snd.fst))) (List.take (Int.toNat
  (↑(8 : Nat) : Int)) (x.fst.snd.fst.fst :: x.fst.snd.fst.snd.fst :: x.fst.snd.fst.snd.snd.fst :: x.fst.snd.fst.snd.snd.snd.fst :: x.fst.snd.fst.snd.snd.snd.snd.fst :: x.fst.snd.fst.snd.snd.snd.snd.snd.fst ::
  x.fst.snd.fst.snd.snd.snd.snd.snd.snd.fst :: x.fst.snd.fst.snd.snd.snd.snd.snd.snd.snd.fst :: nilL Int)))) + ByteArray.size (ByteArray.mk (List.toArray ((93 : UInt8) :: nilL UInt8))) ≤ Go.maxLen) ∧ Wr (ByteArray.size
  (ByteArray.mk (List.toArray ((91 : UInt8) :: nilL UInt8)) ++ Go.Ad.hexes (List.drop (Int.toNat (0 : Int)) (List.take (Int.toNat (Go.Ad.long1 x.fst.snd.fst)) (x.fst.snd.fst.fst :: x.fst.snd.fst.snd.fst ::
  x.fst.snd.fst.snd.snd.fst :: x.fst.snd.fst.snd.snd.snd.fst :: x.fst.snd.fst.snd.snd.snd.snd.fst :: x.fst.snd.fst.snd.snd.snd.snd.snd.fst :: x.fst.snd.fst.snd.snd.snd.snd.snd.snd.fst ::
  x.fst.snd.fst.snd.snd.snd.snd.snd.snd.snd.fst :: nilL Int))) ++ ByteArray.mk (List.toArray ((58 : UInt8) :: (58 : UInt8) :: nilL UInt8)) ++ Go.Ad.hexes (List.drop (Int.toNat (IntKind.wrap IntKind.i64 (Go.Ad.long1
  x.fst.snd.fst + Go.Ad.long2 x.fst.snd.fst))) (List.take (Int.toNat (↑(8 : Nat) : Int)) (x.fst.snd.fst.fst :: x.fst.snd.fst.snd.fst :: x.fst.snd.fst.snd.snd.fst :: x.fst.snd.fst.snd.snd.snd.fst ::
  x.fst.snd.fst.snd.snd.snd.snd.fst :: x.fst.snd.fst.snd.snd.snd.snd.snd.fst :: x.fst.snd.fst.snd.snd.snd.snd.snd.snd.fst :: x.fst.snd.fst.snd.snd.snd.snd.snd.snd.snd.fst :: nilL Int))) ++ ByteArray.mk (List.toArray ((93
  : UInt8) :: nilL UInt8))) + ByteArray.size (ByteArray.mk (List.toArray ((58 : UInt8) :: nilL UInt8)) ++ Go.Lb.digS x.fst.snd.snd.fst) ≤ Go.maxLen) ∧ (ByteArray.mk (List.toArray ((91 : UInt8) :: nilL UInt8)) ++
  Go.Ad.hexes (List.drop (Int.toNat (0 : Int)) (List.take (Int.toNat (Go.Ad.long1 x.fst.snd.fst)) (x.fst.snd.fst.fst :: x.fst.snd.fst.snd.fst :: x.fst.snd.fst.snd.snd.fst :: x.fst.snd.fst.snd.snd.snd.fst ::
  x.fst.snd.fst.snd.snd.snd.snd.fst :: x.fst.snd.fst.snd.snd.snd.snd.snd.fst :: x.fst.snd.fst.snd.snd.snd.snd.snd.snd.fst :: x.fst.snd.fst.snd.snd.snd.snd.snd.snd.snd.fst :: nilL Int))) ++ ByteArray.mk (List.toArray ((58
  : UInt8) :: (58 : UInt8) :: nilL UInt8)) ++ Go.Ad.hexes (List.drop (Int.toNat (IntKind.wrap IntKind.i64 (Go.Ad.long1 x.fst.snd.fst + Go.Ad.long2 x.fst.snd.fst))) (List.take (Int.toNat (↑(8 : Nat) : Int))
  (x.fst.snd.fst.fst :: x.fst.snd.fst.snd.fst :: x.fst.snd.fst.snd.snd.fst :: x.fst.snd.fst.snd.snd.snd.fst :: x.fst.snd.fst.snd.snd.snd.snd.fst :: x.fst.snd.fst.snd.snd.snd.snd.snd.fst ::
  x.fst.snd.fst.snd.snd.snd.snd.snd.snd.fst :: x.fst.snd.fst.snd.snd.snd.snd.snd.snd.snd.fst :: nilL Int))) ++ ByteArray.mk (List.toArray ((93 : UInt8) :: nilL UInt8)) ++ (ByteArray.mk (List.toArray ((58 : UInt8) :: nilL
  UInt8)) ++ Go.Lb.digS x.fst.snd.snd.fst), (0 : Int), ()) = (Go.Ad.text1 x.fst, Go.Ad.text2 x.fst, ()))))) := by kernel_rfl
theorem v75_eq : vcFn g75 300 Tryz.f75 cRow = ( ∀ (x : List (Int × (Int × Int × Int × Int × Int × Int × Int × Int × Unit) × Int × Unit) × Unit), Wr (lenA x.fst = Bool.true) → bcase (Decidable.decide ((↑(List.length x.fst) : Int) > (16 : Int))) ((ByteArray.mk
  (List.toArray (nilL UInt8)), (20 : Int), ()) = (Go.Ad.row1 x.fst, Go.Ad.row2 x.fst, ())) ((Wr (RowI x.fst (nilL ByteArray) (0 : Int)) ∧ Wr ((0 : Int) = (0 : Int)) ∧ Wr (x.fst = x.fst) ∧ Wr (x.fst = x.fst) ∧ Wr
  ((↑(List.length x.fst) : Int) = (↑(List.length x.fst) : Int)) ∧ Wr (nilL ByteArray = nilL ByteArray)) ∧ ∀ (x_1 : List ByteArray × Int), Wr (RowI x.fst x_1.fst x_1.snd) → bcase (Decidable.decide (x_1.snd < (↑(List.length
  x.fst) : Int))) (Wr ((0 : Int) ≤ x_1.snd) ∧ Wr (x_1.snd < (↑(List.length x.fst) : Int)) ∧ Wr (Bool.true = Bool.true) ∧ Wr (Bool.true = Bool.true) ∧ bcase (!Decidable.decide (Go.Ad.text2 (List.getD x.fst (Int.toNat
  x_1.snd) (Ty.zero AdT)) = (0 : Int))) ((ByteArray.mk (List.toArray (nilL UInt8)), Go.Ad.text2 (List.getD x.fst (Int.toNat x_1.snd) (Ty.zero AdT)), ()) = (Go.Ad.row1 x.fst, Go.Ad.row2 x.fst, ())) (Wr ((List.length
  x_1.fst + List.length (Go.Ad.text1 (List.getD x.fst (Int.toNat x_1.snd) (Ty.zero AdT)) :: nilL ByteArray)) * (16 : Nat) ≤ (140737488355328 : Nat)) ∧ Wr (RowI x.fst (x_1.fst ++ Go.Ad.text1 (List.getD x.fst (Int.toNat
  x_1.snd) (Ty.zero AdT)) :: nilL ByteArray) (IntKind.wrap IntKind.i64 (x_1.snd + (1 : Int)))) ∧ Wr (List.length x.fst - Int.toNat (IntKind.wrap IntKind.i64 (x_1.snd + (1 : Int))) < List.length x.fst - Int.toNat x_1.snd)
  ∧ Wr (IntKind.wrap IntKind.i64 (x_1.snd + (1 : Int)) = IntKind.wrap IntKind.i64 (x_1.snd + (1 : Int))) ∧ Wr (x.fst = x.fst) ∧ Wr (x.fst = x.fst) ∧ Wr ((↑(List.length x.fst) : Int) = (↑(List.length x.fst) : Int)) ∧ Wr
  (x_1.fst ++ Go.Ad.text1 (List.getD x.fst (Int.toNat x_1.snd) (Ty.zero AdT)) :: nilL ByteArray = x_1.fst ++ Go.Ad.text1 (List.getD x.fst (Int.toNat x_1.snd) (Ty.zero AdT)) :: nilL ByteArray))) (Wr ((Decidable.decide
  (List.length x_1.fst ≤ (100000 : Nat)) && Decidable.decide (List.length (joinL x_1.fst (ByteArray.mk (List.toArray ((32 : UInt8) :: nilL UInt8)))) ≤ (4000000000 : Nat))) = Bool.true) ∧ (joinS x_1.fst (ByteArray.mk
  (List.toArray ((32 : UInt8) :: nilL UInt8))), (0 : Int), ()) = (Go.Ad.row1 x.fst, Go.Ad.row2 x.fst, ())))) := by kernel_rfl
theorem v112_eq : vcFn g112 300 Tryz.f112 cMay1 = ( ∀ (x : (Int × (Int × Int × Int × Int × Int × Int × Int × Int × Unit) × Int × Unit) × Unit), Wr (Bool.true = Bool.true) → bcase (Decidable.decide (x.fst.snd.snd.fst < (1 : Int)) || Decidable.decide (x.fst.snd.snd.fst >
  (65535 : Int)) || !Decidable.decide (x.fst.fst = (4 : Int)) && !Decidable.decide (x.fst.fst = (6 : Int))) ((Bool.false, ()) = (Go.Ad.may1 x.fst, ())) ((Wr (May2I x.fst (2 : Int)) ∧ Wr ((2 : Int) = (2 : Int)) ∧ Wr
  (x.fst.fst = x.fst.fst) ∧ Wr (x.fst.snd.fst.fst = x.fst.snd.fst.fst) ∧ Wr (x.fst.snd.fst.snd.fst = x.fst.snd.fst.snd.fst) ∧ Wr (x.fst.snd.fst.snd.snd.fst = x.fst.snd.fst.snd.snd.fst) ∧ Wr (x.fst.snd.fst.snd.snd.snd.fst
  = x.fst.snd.fst.snd.snd.snd.fst) ∧ Wr (x.fst.snd.fst.snd.snd.snd.snd.fst = x.fst.snd.fst.snd.snd.snd.snd.fst) ∧ Wr (x.fst.snd.fst.snd.snd.snd.snd.snd.fst = x.fst.snd.fst.snd.snd.snd.snd.snd.fst) ∧ Wr
  (x.fst.snd.fst.snd.snd.snd.snd.snd.snd.fst = x.fst.snd.fst.snd.snd.snd.snd.snd.snd.fst) ∧ Wr (x.fst.snd.fst.snd.snd.snd.snd.snd.snd.snd.fst = x.fst.snd.fst.snd.snd.snd.snd.snd.snd.snd.fst) ∧ Wr (x.fst.snd.snd.fst =
  x.fst.snd.snd.fst)) ∧ ∀ (x_1 : Int), Wr (May2I x.fst x_1) → bcase (Decidable.decide (x_1 < (8 : Int)) && Decidable.decide (x.fst.fst = (4 : Int))) (Wr ((0 : Int) ≤ x_1) ∧ Wr (x_1 < (↑(8 : Nat) : Int)) ∧ bcase
  (!Decidable.decide (List.getD (x.fst.snd.fst.fst :: x.fst.snd.fst.snd.fst :: x.fst.snd.fst.snd.snd.fst :: x.fst.snd.fst.snd.snd.snd.fst :: x.fst.snd.fst.snd.snd.snd.snd.fst :: x.fst.snd.fst.snd.snd.snd.snd.snd.fst ::
  x.fst.snd.fst.snd.snd.snd.snd.snd.snd.fst :: x.fst.snd.fst.snd.snd.snd.snd.snd.snd.snd.fst :: nilL Int) (Int.toNat x_1) (0 : Int) = (0 : Int))) ((Bool.false, ()) = (Go.Ad.may1 x.fst, ())) (Wr (May2I x.fst (IntKind.wrap
  IntKind.i64 (x_1 + (1 : Int)))) ∧ Wr ((8 : Nat) - Int.toNat (IntKind.wrap IntKind.i64 (x_1 + (1 : Int))) < (8 : Nat) - Int.toNat x_1) ∧ Wr (IntKind.wrap IntKind.i64 (x_1 + (1 : Int)) = IntKind.wrap IntKind.i64 (x_1 + (1
  : Int))) ∧ Wr (x.fst.fst = x.fst.fst) ∧ Wr (x.fst.snd.fst.fst = x.fst.snd.fst.fst) ∧ Wr (x.fst.snd.fst.snd.fst = x.fst.snd.fst.snd.fst) ∧ Wr (x.fst.snd.fst.snd.snd.fst = x.fst.snd.fst.snd.snd.fst) ∧ Wr
  (x.fst.snd.fst.snd.snd.snd.fst = x.fst.snd.fst.snd.snd.snd.fst) ∧ Wr (x.fst.snd.fst.snd.snd.snd.snd.fst = x.fst.snd.fst.snd.snd.snd.snd.fst) ∧ Wr (x.fst.snd.fst.snd.snd.snd.snd.snd.fst =
  x.fst.snd.fst.snd.snd.snd.snd.snd.fst) ∧ Wr (x.fst.snd.fst.snd.snd.snd.snd.snd.snd.fst = x.fst.snd.fst.snd.snd.snd.snd.snd.snd.fst) ∧ Wr (x.fst.snd.fst.snd.snd.snd.snd.snd.snd.snd.fst =
  x.fst.snd.fst.snd.snd.snd.snd.snd.snd.snd.fst) ∧ Wr (x.fst.snd.snd.fst = x.fst.snd.snd.fst))) ((Bool.true, ()) = (Go.Ad.may1 x.fst, ())))) := by kernel_rfl
theorem v77_eq : vcFn g77 300 Tryz.f77 cMay = ( ∀ (x : List (Int × (Int × Int × Int × Int × Int × Int × Int × Int × Unit) × Int × Unit) × Unit), Wr (lenA x.fst = Bool.true) → (Wr (MayI x.fst (0 : Int)) ∧ Wr ((0 : Int) = (0 : Int)) ∧ Wr (x.fst = x.fst)) ∧ ∀ (x_1 :
  Int), Wr (MayI x.fst x_1) → bcase (Decidable.decide (x_1 < (↑(List.length x.fst) : Int))) (Wr ((0 : Int) ≤ x_1) ∧ Wr (x_1 < (↑(List.length x.fst) : Int)) ∧ Wr (Bool.true = Bool.true) ∧ Wr (Bool.true = Bool.true) ∧ bcase
  (!Go.Ad.may1 (List.getD x.fst (Int.toNat x_1) (Ty.zero AdT))) ((Bool.false, ()) = (Go.Ad.mayA x.fst, ())) (Wr (MayI x.fst (IntKind.wrap IntKind.i64 (x_1 + (1 : Int)))) ∧ Wr (List.length x.fst - Int.toNat (IntKind.wrap
  IntKind.i64 (x_1 + (1 : Int))) < List.length x.fst - Int.toNat x_1) ∧ Wr (IntKind.wrap IntKind.i64 (x_1 + (1 : Int)) = IntKind.wrap IntKind.i64 (x_1 + (1 : Int))) ∧ Wr (x.fst = x.fst))) ((Bool.true, ()) = (Go.Ad.mayA
  x.fst, ()))) := by kernel_rfl
theorem v113_eq : vcFn g113 300 Tryz.f113 cDigs = ( ∀ (x : Int × Int × Unit), Wr ((Decidable.decide ((0 : Int) ≤ x.fst) && Decidable.decide (x.fst ≤ (65535 : Ty.El I64)) && (Decidable.decide (x.snd.fst = (10 : Ty.El I64)) || Decidable.decide (x.snd.fst = (16 : Ty.El
  I64)))) = Bool.true) → bcase (Decidable.decide (x.fst = (0 : Int))) ((ByteArray.mk (List.toArray ((48 : UInt8) :: nilL UInt8)), ()) = (dgS x.fst x.snd.fst, ())) ((Wr (DgRI x.snd.fst x.fst x.fst (ByteArray.mk
  (List.toArray (nilL UInt8)))) ∧ Wr (x.fst = x.fst) ∧ Wr (ByteArray.mk (List.toArray (nilL UInt8)) = ByteArray.mk (List.toArray (nilL UInt8))) ∧ Wr (x.snd.fst = x.snd.fst)) ∧ ∀ (x_1 : Int × ByteArray), Wr (DgRI x.snd.fst
  x.fst x_1.fst x_1.snd) → bcase (Decidable.decide (x_1.fst > (0 : Int))) (Wr (x.snd.fst ≠ (0 : Int)) ∧ Wr (x.snd.fst ≠ (0 : Int)) ∧ Wr ((0 : Int) ≤ Int.tmod x_1.fst x.snd.fst) ∧ Wr (Int.tmod x_1.fst x.snd.fst ≤
  IntKind.wrap IntKind.i64 (Int.tmod x_1.fst x.snd.fst + (1 : Int))) ∧ Wr (IntKind.wrap IntKind.i64 (Int.tmod x_1.fst x.snd.fst + (1 : Int)) ≤ (↑(ByteArray.size (ByteArray.mk (List.toArray ((48 : UInt8) :: (49 : UInt8) ::
  (50 : UInt8) :: (51 : UInt8) :: (52 : UInt8) :: (53 : UInt8) :: (54 : UInt8) :: (55 : UInt8) :: (56 : UInt8) :: (57 : UInt8) :: (97 : UInt8) :: (98 : UInt8) :: (99 : UInt8) :: (100 : UInt8) :: (101 : UInt8) :: (102 :
  UInt8) :: nilL UInt8)))) : Int)) ∧ Wr (ByteArray.size (subS (ByteArray.mk (List.toArray ((48 : UInt8) :: (49 : UInt8) :: (50 : UInt8) :: (51 : UInt8) :: (52 : UInt8) :: (53 : UInt8) :: (54 : UInt8) :: (55 : UInt8) ::
  (56 : UInt8) :: (57 : UInt8) :: (97 : UInt8) :: (98 : UInt8) :: (99 : UInt8) :: (100 : UInt8) :: (101 : UInt8) :: (102 : UInt8) :: nilL UInt8))) (Int.toNat (Int.tmod x_1.fst x.snd.fst)) (Int.toNat (IntKind.wrap
  IntKind.i64 (Int.tmod x_1.fst x.snd.fst + (1 : Int))))) + ByteArray.size x_1.snd ≤ Go.maxLen) ∧ Wr (x.snd.fst ≠ (0 : Int)) ∧ Wr (DgRI x.snd.fst x.fst (IntKind.wrap IntKind.i64 (Int.tdiv x_1.fst x.snd.fst)) (subS
  (ByteArray.mk (List.toArray ((48 : UInt8) :: (49 : UInt8) :: (50 : UInt8) :: (51 : UInt8) :: (52 : UInt8) :: (53 : UInt8) :: (54 : UInt8) :: (55 : UInt8) :: (56 : UInt8) :: (57 : UInt8) :: (97 : UInt8) :: (98 : UInt8)
  :: (99 : UInt8) :: (100 : UInt8) :: (101 : UInt8) :: (102 : UInt8) :: nilL UInt8))) (Int.toNat (Int.tmod x_1.fst x.snd.fst)) (Int.toNat (IntKind.wrap IntKind.i64 (Int.tmod x_1.fst x.snd.fst + (1 : Int)))) ++ x_1.snd)) ∧
  Wr (Int.toNat (IntKind.wrap IntKind.i64 (Int.tdiv x_1.fst x.snd.fst)) < Int.toNat x_1.fst) ∧ Wr (IntKind.wrap IntKind.i64 (Int.tdiv x_1.fst x.snd.fst) = IntKind.wrap IntKind.i64 (Int.tdiv x_1.fst x.snd.fst)) ∧ Wr (subS
  (ByteArray.mk (List.toArray ((48 : UInt8) :: (49 : UInt8) :: (50 : UInt8) :: (51 : UInt8) :: (52 : UInt8) :: (53 : UInt8) :: (54 : UInt8) :: (55 : UInt8) :: (56 : UInt8) :: (57 : UInt8) :: (97 : UInt8) :: (98 : UInt8)
  :: (99 : UInt8) :: (100 : UInt8) :: (101 : UInt8) :: (102 : UInt8) :: nilL UInt8))) (Int.toNat (Int.tmod x_1.fst x.snd.fst)) (Int.toNat (IntKind.wrap IntKind.i64 (Int.tmod x_1.fst x.snd.fst + (1 : Int)))) ++ x_1.snd =
  subS (ByteArray.mk (List.toArray ((48 : UInt8) :: (49 : UInt8) :: (50 : UInt8) :: (51 : UInt8) :: (52 : UInt8) :: (53 : UInt8) :: (54 : UInt8) :: (55 : UInt8) :: (56 : UInt8) :: (57 : UInt8) :: (97 : UInt8) :: (98 :
  UInt8) :: (99 : UInt8) :: (100 : UInt8) :: (101 : UInt8) :: (102 : UInt8) :: nilL UInt8))) (Int.toNat (Int.tmod x_1.fst x.snd.fst)) (Int.toNat (IntKind.wrap IntKind.i64 (Int.tmod x_1.fst x.snd.fst + (1 : Int)))) ++
  x_1.snd) ∧ Wr (x.snd.fst = x.snd.fst)) ((x_1.snd, ()) = (dgS x.fst x.snd.fst, ())))) := by kernel_rfl
theorem v142_eq : vcFn g142 300 Tryz.f142 cRun = ( ∀ (x : (Int × Int × Int × Int × Int × Int × Int × Int × Unit) × Unit), Wr (Bool.true = Bool.true) → (Wr (RunRI x.fst (-1 : Int) (1 : Int) (0 : Int)) ∧ Wr ((-1 : Int) = (-1 : Int)) ∧ Wr ((1 : Int) = (1 : Int)) ∧ Wr ((0 :
  Int) = (0 : Int)) ∧ Wr (x.fst.fst = x.fst.fst) ∧ Wr (x.fst.snd.fst = x.fst.snd.fst) ∧ Wr (x.fst.snd.snd.fst = x.fst.snd.snd.fst) ∧ Wr (x.fst.snd.snd.snd.fst = x.fst.snd.snd.snd.fst) ∧ Wr (x.fst.snd.snd.snd.snd.fst =
  x.fst.snd.snd.snd.snd.fst) ∧ Wr (x.fst.snd.snd.snd.snd.snd.fst = x.fst.snd.snd.snd.snd.snd.fst) ∧ Wr (x.fst.snd.snd.snd.snd.snd.snd.fst = x.fst.snd.snd.snd.snd.snd.snd.fst) ∧ Wr (x.fst.snd.snd.snd.snd.snd.snd.snd.fst =
  x.fst.snd.snd.snd.snd.snd.snd.snd.fst)) ∧ ∀ (x_1 : Int × Int × Int), Wr (RunRI x.fst x_1.fst x_1.snd.fst x_1.snd.snd) → bcase (Decidable.decide (x_1.snd.snd < (8 : Int))) ((Wr (ZcI x.fst x_1.snd.snd (0 : Int)) ∧ Wr ((0
  : Int) = (0 : Int)) ∧ Wr (x_1.fst = x_1.fst) ∧ Wr (x_1.snd.fst = x_1.snd.fst) ∧ Wr (x_1.snd.snd = x_1.snd.snd) ∧ Wr (x.fst.fst = x.fst.fst) ∧ Wr (x.fst.snd.fst = x.fst.snd.fst) ∧ Wr (x.fst.snd.snd.fst =
  x.fst.snd.snd.fst) ∧ Wr (x.fst.snd.snd.snd.fst = x.fst.snd.snd.snd.fst) ∧ Wr (x.fst.snd.snd.snd.snd.fst = x.fst.snd.snd.snd.snd.fst) ∧ Wr (x.fst.snd.snd.snd.snd.snd.fst = x.fst.snd.snd.snd.snd.snd.fst) ∧ Wr
  (x.fst.snd.snd.snd.snd.snd.snd.fst = x.fst.snd.snd.snd.snd.snd.snd.fst) ∧ Wr (x.fst.snd.snd.snd.snd.snd.snd.snd.fst = x.fst.snd.snd.snd.snd.snd.snd.snd.fst)) ∧ ∀ (x_2 : Int), Wr (ZcI x.fst x_1.snd.snd x_2) → Wr
  (Decidable.decide (IntKind.wrap IntKind.i64 (x_1.snd.snd + x_2) < (8 : Int)) = Bool.true → (0 : Int) ≤ IntKind.wrap IntKind.i64 (x_1.snd.snd + x_2)) ∧ Wr (Decidable.decide (IntKind.wrap IntKind.i64 (x_1.snd.snd + x_2) <
  (8 : Int)) = Bool.true → IntKind.wrap IntKind.i64 (x_1.snd.snd + x_2) < (↑(8 : Nat) : Int)) ∧ bcase (Decidable.decide (IntKind.wrap IntKind.i64 (x_1.snd.snd + x_2) < (8 : Int)) && Decidable.decide (List.getD (x.fst.fst
  :: x.fst.snd.fst :: x.fst.snd.snd.fst :: x.fst.snd.snd.snd.fst :: x.fst.snd.snd.snd.snd.fst :: x.fst.snd.snd.snd.snd.snd.fst :: x.fst.snd.snd.snd.snd.snd.snd.fst :: x.fst.snd.snd.snd.snd.snd.snd.snd.fst :: nilL Int)
  (Int.toNat (IntKind.wrap IntKind.i64 (x_1.snd.snd + x_2))) (0 : Int) = (0 : Int))) (Wr (ZcI x.fst x_1.snd.snd (IntKind.wrap IntKind.i64 (x_2 + (1 : Int)))) ∧ Wr ((8 : Nat) - Int.toNat (IntKind.wrap IntKind.i64 (x_2 + (1
  : Int))) < (8 : Nat) - Int.toNat x_2) ∧ Wr (IntKind.wrap IntKind.i64 (x_2 + (1 : Int)) = IntKind.wrap IntKind.i64 (x_2 + (1 : Int))) ∧ Wr (x_1.fst = x_1.fst) ∧ Wr (x_1.snd.fst = x_1.snd.fst) ∧ Wr (x_1.snd.snd =
  x_1.snd.snd) ∧ Wr (x.fst.fst = x.fst.fst) ∧ Wr (x.fst.snd.fst = x.fst.snd.fst) ∧ Wr (x.fst.snd.snd.fst = x.fst.snd.snd.fst) ∧ Wr (x.fst.snd.snd.snd.fst = x.fst.snd.snd.snd.fst) ∧ Wr (x.fst.snd.snd.snd.snd.fst =
  x.fst.snd.snd.snd.snd.fst) ∧ Wr (x.fst.snd.snd.snd.snd.snd.fst = x.fst.snd.snd.snd.snd.snd.fst) ∧ Wr (x.fst.snd.snd.snd.snd.snd.snd.fst = x.fst.snd.snd.snd.snd.snd.snd.fst) ∧ Wr (x.fst.snd.snd.snd.snd.snd.snd.snd.fst =
  x.fst.snd.snd.snd.snd.snd.snd.snd.fst)) (bcase (Decidable.decide (x_2 > x_1.snd.fst)) (Wr (RunRI x.fst x_1.snd.snd x_2 (IntKind.wrap IntKind.i64 (x_1.snd.snd + (1 : Int)))) ∧ Wr ((8 : Nat) - Int.toNat (IntKind.wrap
  IntKind.i64 (x_1.snd.snd + (1 : Int))) < (8 : Nat) - Int.toNat x_1.snd.snd) ∧ Wr (x_1.snd.snd = x_1.snd.snd) ∧ Wr (x_2 = x_2) ∧ Wr (IntKind.wrap IntKind.i64 (x_1.snd.snd + (1 : Int)) = IntKind.wrap IntKind.i64
  (x_1.snd.snd + (1 : Int))) ∧ Wr (x.fst.fst = x.fst.fst) ∧ Wr (x.fst.snd.fst = x.fst.snd.fst) ∧ Wr (x.fst.snd.snd.fst = x.fst.snd.snd.fst) ∧ Wr (x.fst.snd.snd.snd.fst = x.fst.snd.snd.snd.fst) ∧ Wr
  (x.fst.snd.snd.snd.snd.fst = x.fst.snd.snd.snd.snd.fst) ∧ Wr (x.fst.snd.snd.snd.snd.snd.fst = x.fst.snd.snd.snd.snd.snd.fst) ∧ Wr (x.fst.snd.snd.snd.snd.snd.snd.fst = x.fst.snd.snd.snd.snd.snd.snd.fst) ∧ Wr
  (x.fst.snd.snd.snd.snd.snd.snd.snd.fst = x.fst.snd.snd.snd.snd.snd.snd.snd.fst)) (Wr (RunRI x.fst x_1.fst x_1.snd.fst (IntKind.wrap IntKind.i64 (x_1.snd.snd + (1 : Int)))) ∧ Wr ((8 : Nat) - Int.toNat (IntKind.wrap
  IntKind.i64 (x_1.snd.snd + (1 : Int))) < (8 : Nat) - Int.toNat x_1.snd.snd) ∧ Wr (x_1.fst = x_1.fst) ∧ Wr (x_1.snd.fst = x_1.snd.fst) ∧ Wr (IntKind.wrap IntKind.i64 (x_1.snd.snd + (1 : Int)) = IntKind.wrap IntKind.i64
  (x_1.snd.snd + (1 : Int))) ∧ Wr (x.fst.fst = x.fst.fst) ∧ Wr (x.fst.snd.fst = x.fst.snd.fst) ∧ Wr (x.fst.snd.snd.fst = x.fst.snd.snd.fst) ∧ Wr (x.fst.snd.snd.snd.fst = x.fst.snd.snd.snd.fst) ∧ Wr
  (x.fst.snd.snd.snd.snd.fst = x.fst.snd.snd.snd.snd.fst) ∧ Wr (x.fst.snd.snd.snd.snd.snd.fst = x.fst.snd.snd.snd.snd.snd.fst) ∧ Wr (x.fst.snd.snd.snd.snd.snd.snd.fst = x.fst.snd.snd.snd.snd.snd.snd.fst) ∧ Wr
  (x.fst.snd.snd.snd.snd.snd.snd.snd.fst = x.fst.snd.snd.snd.snd.snd.snd.snd.fst)))) ((x_1.fst, x_1.snd.fst, ()) = (run1 x.fst, run2 x.fst, ()))) := by kernel_rfl
theorem v114_eq : vcFn g114 300 Tryz.f114 cSixS.T = ( ∀ (x : (Int × Int × Int × Int × Int × Int × Int × Int × Unit) × Unit), Wr (typedB (Ty.cons G8T Ty.unit) x = Bool.true ∧ Bool.true = Bool.true) → Wr (Bool.true = Bool.true) ∧ (Wr (SixRI x.fst (ByteArray.mk (List.toArray
  (nilL UInt8))) (0 : Int)) ∧ Wr (ByteArray.mk (List.toArray (nilL UInt8)) = ByteArray.mk (List.toArray (nilL UInt8))) ∧ Wr ((0 : Int) = (0 : Int)) ∧ Wr (run1 x.fst = run1 x.fst) ∧ Wr (run2 x.fst = run2 x.fst) ∧ Wr
  (x.fst.fst = x.fst.fst) ∧ Wr (x.fst.snd.fst = x.fst.snd.fst) ∧ Wr (x.fst.snd.snd.fst = x.fst.snd.snd.fst) ∧ Wr (x.fst.snd.snd.snd.fst = x.fst.snd.snd.snd.fst) ∧ Wr (x.fst.snd.snd.snd.snd.fst = x.fst.snd.snd.snd.snd.fst)
  ∧ Wr (x.fst.snd.snd.snd.snd.snd.fst = x.fst.snd.snd.snd.snd.snd.fst) ∧ Wr (x.fst.snd.snd.snd.snd.snd.snd.fst = x.fst.snd.snd.snd.snd.snd.snd.fst) ∧ Wr (x.fst.snd.snd.snd.snd.snd.snd.snd.fst =
  x.fst.snd.snd.snd.snd.snd.snd.snd.fst)) ∧ ∀ (x_1 : ByteArray × Int), Wr (SixRI x.fst x_1.fst x_1.snd) → bcase (Decidable.decide (x_1.snd < (8 : Int))) (bcase (Decidable.decide (x_1.snd = run1 x.fst)) (Wr (ByteArray.size
  x_1.fst + ByteArray.size (ByteArray.mk (List.toArray ((58 : UInt8) :: (58 : UInt8) :: nilL UInt8))) ≤ Go.maxLen) ∧ Wr (SixRI x.fst (x_1.fst ++ ByteArray.mk (List.toArray ((58 : UInt8) :: (58 : UInt8) :: nilL UInt8)))
  (IntKind.wrap IntKind.i64 (IntKind.wrap IntKind.i64 (IntKind.wrap IntKind.i64 (x_1.snd + run2 x.fst) - (1 : Int)) + (1 : Int)))) ∧ Wr ((8 : Nat) - Int.toNat (IntKind.wrap IntKind.i64 (IntKind.wrap IntKind.i64
  (IntKind.wrap IntKind.i64 (x_1.snd + run2 x.fst) - (1 : Int)) + (1 : Int))) < (8 : Nat) - Int.toNat x_1.snd) ∧ Wr (x_1.fst ++ ByteArray.mk (List.toArray ((58 : UInt8) :: (58 : UInt8) :: nilL UInt8)) = x_1.fst ++
  ByteArray.mk (List.toArray ((58 : UInt8) :: (58 : UInt8) :: nilL UInt8))) ∧ Wr (IntKind.wrap IntKind.i64 (IntKind.wrap IntKind.i64 (IntKind.wrap IntKind.i64 (x_1.snd + run2 x.fst) - (1 : Int)) + (1 : Int)) =
  IntKind.wrap IntKind.i64 (IntKind.wrap IntKind.i64 (IntKind.wrap IntKind.i64 (x_1.snd + run2 x.fst) - (1 : Int)) + (1 : Int))) ∧ Wr (run1 x.fst = run1 x.fst) ∧ Wr (run2 x.fst = run2 x.fst) ∧ Wr (x.fst.fst = x.fst.fst) ∧
  Wr (x.fst.snd.fst = x.fst.snd.fst) ∧ Wr (x.fst.snd.snd.fst = x.fst.snd.snd.fst) ∧ Wr (x.fst.snd.snd.snd.fst = x.fst.snd.snd.snd.fst) ∧ Wr (x.fst.snd.snd.snd.snd.fst = x.fst.snd.snd.snd.snd.fst) ∧ Wr
  (x.fst.snd.snd.snd.snd.snd.fst = x.fst.snd.snd.snd.snd.snd.fst) ∧ Wr (x.fst.snd.snd.snd.snd.snd.snd.fst = x.fst.snd.snd.snd.snd.snd.snd.fst) ∧ Wr (x.fst.snd.snd.snd.snd.snd.snd.snd.fst =
  x.fst.snd.snd.snd.snd.snd.snd.snd.fst)) (Wr ((!Decidable.decide (x_1.fst = ByteArray.mk (List.toArray (nilL UInt8)))) = Bool.true → (0 : Int) ≤ IntKind.wrap IntKind.i64 ((↑(ByteArray.size x_1.fst) : Int) - (1 : Int))) ∧
  Wr ((!Decidable.decide (x_1.fst = ByteArray.mk (List.toArray (nilL UInt8)))) = Bool.true → IntKind.wrap IntKind.i64 ((↑(ByteArray.size x_1.fst) : Int) - (1 : Int)) < (↑(ByteArray.size x_1.fst) : Int)) ∧ bcase
  (!Decidable.decide (x_1.fst = ByteArray.mk (List.toArray (nilL UInt8))) && !Decidable.decide (byteAt x_1.fst (Int.toNat (IntKind.wrap IntKind.i64 ((↑(ByteArray.size x_1.fst) : Int) - (1 : Int)))) = (58 : Int))) (Wr
  (ByteArray.size x_1.fst + ByteArray.size (ByteArray.mk (List.toArray ((58 : UInt8) :: nilL UInt8))) ≤ Go.maxLen) ∧ Wr ((0 : Int) ≤ x_1.snd) ∧ Wr (x_1.snd < (↑(8 : Nat) : Int)) ∧ Wr ((Decidable.decide ((0 : Int) ≤
  IntKind.wrap IntKind.i64 (List.getD (x.fst.fst :: x.fst.snd.fst :: x.fst.snd.snd.fst :: x.fst.snd.snd.snd.fst :: x.fst.snd.snd.snd.snd.fst :: x.fst.snd.snd.snd.snd.snd.fst :: x.fst.snd.snd.snd.snd.snd.snd.fst ::
  x.fst.snd.snd.snd.snd.snd.snd.snd.fst :: nilL Int) (Int.toNat x_1.snd) (0 : Int))) && Decidable.decide (IntKind.wrap IntKind.i64 (List.getD (x.fst.fst :: x.fst.snd.fst :: x.fst.snd.snd.fst :: x.fst.snd.snd.snd.fst ::
  x.fst.snd.snd.snd.snd.fst :: x.fst.snd.snd.snd.snd.snd.fst :: x.fst.snd.snd.snd.snd.snd.snd.fst :: x.fst.snd.snd.snd.snd.snd.snd.snd.fst :: nilL Int) (Int.toNat x_1.snd) (0 : Int)) ≤ (65535 : Ty.El I64)) &&
  (Decidable.decide ((16 : Int) = (10 : Ty.El I64)) || Decidable.decide ((16 : Int) = (16 : Ty.El I64)))) = Bool.true) ∧ Wr (ByteArray.size (x_1.fst ++ ByteArray.mk (List.toArray ((58 : UInt8) :: nilL UInt8))) +
  ByteArray.size (dgS (IntKind.wrap IntKind.i64 (List.getD (x.fst.fst :: x.fst.snd.fst :: x.fst.snd.snd.fst :: x.fst.snd.snd.snd.fst :: x.fst.snd.snd.snd.snd.fst :: x.fst.snd.snd.snd.snd.snd.fst ::
  x.fst.snd.snd.snd.snd.snd.snd.fst :: x.fst.snd.snd.snd.snd.snd.snd.snd.fst :: nilL Int) (Int.toNat x_1.snd) (0 : Int))) (16 : Int)) ≤ Go.maxLen) ∧ Wr (SixRI x.fst (x_1.fst ++ ByteArray.mk (List.toArray ((58 : UInt8) ::
  nilL UInt8)) ++ dgS (IntKind.wrap IntKind.i64 (List.getD (x.fst.fst :: x.fst.snd.fst :: x.fst.snd.snd.fst :: x.fst.snd.snd.snd.fst :: x.fst.snd.snd.snd.snd.fst :: x.fst.snd.snd.snd.snd.snd.fst ::
  x.fst.snd.snd.snd.snd.snd.snd.fst :: x.fst.snd.snd.snd.snd.snd.snd.snd.fst :: nilL Int) (Int.toNat x_1.snd) (0 : Int))) (16 : Int)) (IntKind.wrap IntKind.i64 (x_1.snd + (1 : Int)))) ∧ Wr ((8 : Nat) - Int.toNat
  (IntKind.wrap IntKind.i64 (x_1.snd + (1 : Int))) < (8 : Nat) - Int.toNat x_1.snd) ∧ Wr (x_1.fst ++ ByteArray.mk (List.toArray ((58 : UInt8) :: nilL UInt8)) ++ dgS (IntKind.wrap IntKind.i64 (List.getD (x.fst.fst ::
  x.fst.snd.fst :: x.fst.snd.snd.fst :: x.fst.snd.snd.snd.fst :: x.fst.snd.snd.snd.snd.fst :: x.fst.snd.snd.snd.snd.snd.fst :: x.fst.snd.snd.snd.snd.snd.snd.fst :: x.fst.snd.snd.snd.snd.snd.snd.snd.fst :: nilL Int)
  (Int.toNat x_1.snd) (0 : Int))) (16 : Int) = x_1.fst ++ ByteArray.mk (List.toArray ((58 : UInt8) :: nilL UInt8)) ++ dgS (IntKind.wrap IntKind.i64 (List.getD (x.fst.fst :: x.fst.snd.fst :: x.fst.snd.snd.fst ::
  x.fst.snd.snd.snd.fst :: x.fst.snd.snd.snd.snd.fst :: x.fst.snd.snd.snd.snd.snd.fst :: x.fst.snd.snd.snd.snd.snd.snd.fst :: x.fst.snd.snd.snd.snd.snd.snd.snd.fst :: nilL Int) (Int.toNat x_1.snd) (0 : Int))) (16 : Int))
  ∧ Wr (IntKind.wrap IntKind.i64 (x_1.snd + (1 : Int)) = IntKind.wrap IntKind.i64 (x_1.snd + (1 : Int))) ∧ Wr (run1 x.fst = run1 x.fst) ∧ Wr (run2 x.fst = run2 x.fst) ∧ Wr (x.fst.fst = x.fst.fst) ∧ Wr (x.fst.snd.fst =
  x.fst.snd.fst) ∧ Wr (x.fst.snd.snd.fst = x.fst.snd.snd.fst) ∧ Wr (x.fst.snd.snd.snd.fst = x.fst.snd.snd.snd.fst) ∧ Wr (x.fst.snd.snd.snd.snd.fst = x.fst.snd.snd.snd.snd.fst) ∧ Wr (x.fst.snd.snd.snd.snd.snd.fst =
  x.fst.snd.snd.snd.snd.snd.fst) ∧ Wr (x.fst.snd.snd.snd.snd.snd.snd.fst = x.fst.snd.snd.snd.snd.snd.snd.fst) ∧ Wr (x.fst.snd.snd.snd.snd.snd.snd.snd.fst = x.fst.snd.snd.snd.snd.snd.snd.snd.fst)) (Wr ((0 : Int) ≤ x_1.snd)
  ∧ Wr (x_1.snd < (↑(8 : Nat) : Int)) ∧ Wr ((Decidable.decide ((0 : Int) ≤ IntKind.wrap IntKind.i64 (List.getD (x.fst.fst :: x.fst.snd.fst :: x.fst.snd.snd.fst :: x.fst.snd.snd.snd.fst :: x.fst.snd.snd.snd.snd.fst ::
  x.fst.snd.snd.snd.snd.snd.fst :: x.fst.snd.snd.snd.snd.snd.snd.fst :: x.fst.snd.snd.snd.snd.snd.snd.snd.fst :: nilL Int) (Int.toNat x_1.snd) (0 : Int))) && Decidable.decide (IntKind.wrap IntKind.i64 (List.getD
  (x.fst.fst :: x.fst.snd.fst :: x.fst.snd.snd.fst :: x.fst.snd.snd.snd.fst :: x.fst.snd.snd.snd.snd.fst :: x.fst.snd.snd.snd.snd.snd.fst :: x.fst.snd.snd.snd.snd.snd.snd.fst :: x.fst.snd.snd.snd.snd.snd.snd.snd.fst ::
  nilL Int) (Int.toNat x_1.snd) (0 : Int)) ≤ (65535 : Ty.El I64)) && (Decidable.decide ((16 : Int) = (10 : Ty.El I64)) || Decidable.decide ((16 : Int) = (16 : Ty.El I64)))) = Bool.true) ∧ Wr (ByteArray.size x_1.fst +
  ByteArray.size (dgS (IntKind.wrap IntKind.i64 (List.getD (x.fst.fst :: x.fst.snd.fst :: x.fst.snd.snd.fst :: x.fst.snd.snd.snd.fst :: x.fst.snd.snd.snd.snd.fst :: x.fst.snd.snd.snd.snd.snd.fst ::
  x.fst.snd.snd.snd.snd.snd.snd.fst :: x.fst.snd.snd.snd.snd.snd.snd.snd.fst :: nilL Int) (Int.toNat x_1.snd) (0 : Int))) (16 : Int)) ≤ Go.maxLen) ∧ Wr (SixRI x.fst (x_1.fst ++ dgS (IntKind.wrap IntKind.i64 (List.getD
  (x.fst.fst :: x.fst.snd.fst :: x.fst.snd.snd.fst :: x.fst.snd.snd.snd.fst :: x.fst.snd.snd.snd.snd.fst :: x.fst.snd.snd.snd.snd.snd.fst :: x.fst.snd.snd.snd.snd.snd.snd.fst :: x.fst.snd.snd.snd.snd.snd.snd.snd.fst ::
  nilL Int) (Int.toNat x_1.snd) (0 : Int))) (16 : Int)) (IntKind.wrap IntKind.i64 (x_1.snd + (1 : Int)))) ∧ Wr ((8 : Nat) - Int.toNat (IntKind.wrap IntKind.i64 (x_1.snd + (1 : Int))) < (8 : Nat) - Int.toNat x_1.snd) ∧ Wr
  (x_1.fst ++ dgS (IntKind.wrap IntKind.i64 (List.getD (x.fst.fst :: x.fst.snd.fst :: x.fst.snd.snd.fst :: x.fst.snd.snd.snd.fst :: x.fst.snd.snd.snd.snd.fst :: x.fst.snd.snd.snd.snd.snd.fst ::
  x.fst.snd.snd.snd.snd.snd.snd.fst :: x.fst.snd.snd.snd.snd.snd.snd.snd.fst :: nilL Int) (Int.toNat x_1.snd) (0 : Int))) (16 : Int) = x_1.fst ++ dgS (IntKind.wrap IntKind.i64 (List.getD (x.fst.fst :: x.fst.snd.fst ::
  x.fst.snd.snd.fst :: x.fst.snd.snd.snd.fst :: x.fst.snd.snd.snd.snd.fst :: x.fst.snd.snd.snd.snd.snd.fst :: x.fst.snd.snd.snd.snd.snd.snd.fst :: x.fst.snd.snd.snd.snd.snd.snd.snd.fst :: nilL Int) (Int.toNat x_1.snd) (0
  : Int))) (16 : Int)) ∧ Wr (IntKind.wrap IntKind.i64 (x_1.snd + (1 : Int)) = IntKind.wrap IntKind.i64 (x_1.snd + (1 : Int))) ∧ Wr (run1 x.fst = run1 x.fst) ∧ Wr (run2 x.fst = run2 x.fst) ∧ Wr (x.fst.fst = x.fst.fst) ∧ Wr
  (x.fst.snd.fst = x.fst.snd.fst) ∧ Wr (x.fst.snd.snd.fst = x.fst.snd.snd.fst) ∧ Wr (x.fst.snd.snd.snd.fst = x.fst.snd.snd.snd.fst) ∧ Wr (x.fst.snd.snd.snd.snd.fst = x.fst.snd.snd.snd.snd.fst) ∧ Wr
  (x.fst.snd.snd.snd.snd.snd.fst = x.fst.snd.snd.snd.snd.snd.fst) ∧ Wr (x.fst.snd.snd.snd.snd.snd.snd.fst = x.fst.snd.snd.snd.snd.snd.snd.fst) ∧ Wr (x.fst.snd.snd.snd.snd.snd.snd.snd.fst =
  x.fst.snd.snd.snd.snd.snd.snd.snd.fst)))) ((x_1.fst, ()) = (sixS x.fst, ()))) := by kernel_rfl
theorem v78_eq : vcFn g78 300 Tryz.f78 cText.T = ( ∀ (x : (Int × (Int × Int × Int × Int × Int × Int × Int × Int × Unit) × Int × Unit) × Unit), Wr (typedB (Ty.cons AdT Ty.unit) x = Bool.true ∧ Bool.true = Bool.true) → Wr (Bool.true = Bool.true) ∧ bcase (!Go.Ad.may1 x.fst)
  ((ByteArray.mk (List.toArray (nilL UInt8)), (20 : Int), ()) = (Go.Ad.text1 x.fst, Go.Ad.text2 x.fst, ())) (Wr ((Decidable.decide ((0 : Int) ≤ x.fst.snd.snd.fst) && Decidable.decide (x.fst.snd.snd.fst ≤ (65535 : Ty.El
  I64)) && (Decidable.decide ((10 : Int) = (10 : Ty.El I64)) || Decidable.decide ((10 : Int) = (16 : Ty.El I64)))) = Bool.true) ∧ Wr (ByteArray.size (ByteArray.mk (List.toArray ((58 : UInt8) :: nilL UInt8))) +
  ByteArray.size (dgS x.fst.snd.snd.fst (10 : Int)) ≤ Go.maxLen) ∧ bcase (Decidable.decide (x.fst.fst = (6 : Int))) (Wr (Bool.true = Bool.true) ∧ Wr (ByteArray.size (ByteArray.mk (List.toArray ((91 : UInt8) :: nilL
  UInt8))) + ByteArray.size (sixS x.fst.snd.fst) ≤ Go.maxLen) ∧ Wr (ByteArray.size (ByteArray.mk (List.toArray ((91 : UInt8) :: nilL UInt8)) ++ sixS x.fst.snd.fst) + ByteArray.size (ByteArray.mk (List.toArray ((93 :
  UInt8) :: nilL UInt8))) ≤ Go.maxLen) ∧ Wr (ByteArray.size (ByteArray.mk (List.toArray ((91 : UInt8) :: nilL UInt8)) ++ sixS x.fst.snd.fst ++ ByteArray.mk (List.toArray ((93 : UInt8) :: nilL UInt8))) + ByteArray.size
  (ByteArray.mk (List.toArray ((58 : UInt8) :: nilL UInt8)) ++ dgS x.fst.snd.snd.fst (10 : Int)) ≤ Go.maxLen) ∧ (ByteArray.mk (List.toArray ((91 : UInt8) :: nilL UInt8)) ++ sixS x.fst.snd.fst ++ ByteArray.mk (List.toArray
  ((93 : UInt8) :: nilL UInt8)) ++ (ByteArray.mk (List.toArray ((58 : UInt8) :: nilL UInt8)) ++ dgS x.fst.snd.snd.fst (10 : Int)), (0 : Int), ()) = (Go.Ad.text1 x.fst, Go.Ad.text2 x.fst, ())) (Wr ((256 : Int) ≠ (0 : Int))
  ∧ Wr ((Decidable.decide ((0 : Int) ≤ IntKind.wrap IntKind.i64 (Int.tdiv (IntKind.wrap IntKind.i64 x.fst.snd.fst.fst) (256 : Int))) && Decidable.decide (IntKind.wrap IntKind.i64 (Int.tdiv (IntKind.wrap IntKind.i64
  x.fst.snd.fst.fst) (256 : Int)) ≤ (65535 : Ty.El I64)) && (Decidable.decide ((10 : Int) = (10 : Ty.El I64)) || Decidable.decide ((10 : Int) = (16 : Ty.El I64)))) = Bool.true) ∧ Wr (ByteArray.size (dgS (IntKind.wrap
  IntKind.i64 (Int.tdiv (IntKind.wrap IntKind.i64 x.fst.snd.fst.fst) (256 : Int))) (10 : Int)) + ByteArray.size (ByteArray.mk (List.toArray ((46 : UInt8) :: nilL UInt8))) ≤ Go.maxLen) ∧ Wr ((256 : Int) ≠ (0 : Int)) ∧ Wr
  ((Decidable.decide ((0 : Int) ≤ Int.tmod (IntKind.wrap IntKind.i64 x.fst.snd.fst.fst) (256 : Int)) && Decidable.decide (Int.tmod (IntKind.wrap IntKind.i64 x.fst.snd.fst.fst) (256 : Int) ≤ (65535 : Ty.El I64)) &&
  (Decidable.decide ((10 : Int) = (10 : Ty.El I64)) || Decidable.decide ((10 : Int) = (16 : Ty.El I64)))) = Bool.true) ∧ Wr (ByteArray.size (dgS (IntKind.wrap IntKind.i64 (Int.tdiv (IntKind.wrap IntKind.i64
  x.fst.snd.fst.fst) (256 : Int))) (10 : Int) ++ ByteArray.mk (List.toArray ((46 : UInt8) :: nilL UInt8))) + ByteArray.size (dgS (Int.tmod (IntKind.wrap IntKind.i64 x.fst.snd.fst.fst) (256 : Int)) (10 : Int)) ≤ Go.maxLen)
  ∧ Wr (ByteArray.size (dgS (IntKind.wrap IntKind.i64 (Int.tdiv (IntKind.wrap IntKind.i64 x.fst.snd.fst.fst) (256 : Int))) (10 : Int) ++ ByteArray.mk (List.toArray ((46 : UInt8) :: nilL UInt8)) ++ dgS (Int.tmod
  (IntKind.wrap IntKind.i64 x.fst.snd.fst.fst) (256 : Int)) (10 : Int)) + ByteArray.size (ByteArray.mk (List.toArray ((46 : UInt8) :: nilL UInt8))) ≤ Go.maxLen) ∧ Wr ((256 : Int) ≠ (0 : Int)) ∧ Wr ((Decidable.decide ((0 :
  Int) ≤ IntKind.wrap IntKind.i64 (Int.tdiv (IntKind.wrap IntKind.i64 x.fst.snd.fst.snd.fst) (256 : Int))) && Decidable.decide (IntKind.wrap IntKind.i64 (Int.tdiv (IntKind.wrap IntKind.i64 x.fst.snd.fst.snd.fst) (256 :
  Int)) ≤ (65535 : Ty.El I64)) && (Decidable.decide ((10 : Int) = (10 : Ty.El I64)) || Decidable.decide ((10 : Int) = (16 : Ty.El I64)))) = Bool.true) ∧ Wr (ByteArray.size (dgS (IntKind.wrap IntKind.i64 (Int.tdiv
  (IntKind.wrap IntKind.i64 x.fst.snd.fst.fst) (256 : Int))) (10 : Int) ++ ByteArray.mk (List.toArray ((46 : UInt8) :: nilL UInt8)) ++ dgS (Int.tmod (IntKind.wrap IntKind.i64 x.fst.snd.fst.fst) (256 : Int)) (10 : Int) ++
  ByteArray.mk (List.toArray ((46 : UInt8) :: nilL UInt8))) + ByteArray.size (dgS (IntKind.wrap IntKind.i64 (Int.tdiv (IntKind.wrap IntKind.i64 x.fst.snd.fst.snd.fst) (256 : Int))) (10 : Int)) ≤ Go.maxLen) ∧ Wr
  (ByteArray.size (dgS (IntKind.wrap IntKind.i64 (Int.tdiv (IntKind.wrap IntKind.i64 x.fst.snd.fst.fst) (256 : Int))) (10 : Int) ++ ByteArray.mk (List.toArray ((46 : UInt8) :: nilL UInt8)) ++ dgS (Int.tmod (IntKind.wrap
  IntKind.i64 x.fst.snd.fst.fst) (256 : Int)) (10 : Int) ++ ByteArray.mk (List.toArray ((46 : UInt8) :: nilL UInt8)) ++ dgS (IntKind.wrap IntKind.i64 (Int.tdiv (IntKind.wrap IntKind.i64 x.fst.snd.fst.snd.fst) (256 :
  Int))) (10 : Int)) + ByteArray.size (ByteArray.mk (List.toArray ((46 : UInt8) :: nilL UInt8))) ≤ Go.maxLen) ∧ Wr ((256 : Int) ≠ (0 : Int)) ∧ Wr ((Decidable.decide ((0 : Int) ≤ Int.tmod (IntKind.wrap IntKind.i64
  x.fst.snd.fst.snd.fst) (256 : Int)) && Decidable.decide (Int.tmod (IntKind.wrap IntKind.i64 x.fst.snd.fst.snd.fst) (256 : Int) ≤ (65535 : Ty.El I64)) && (Decidable.decide ((10 : Int) = (10 : Ty.El I64)) ||
  Decidable.decide ((10 : Int) = (16 : Ty.El I64)))) = Bool.true) ∧ Wr (ByteArray.size (dgS (IntKind.wrap IntKind.i64 (Int.tdiv (IntKind.wrap IntKind.i64 x.fst.snd.fst.fst) (256 : Int))) (10 : Int) ++ ByteArray.mk
  (List.toArray ((46 : UInt8) :: nilL UInt8)) ++ dgS (Int.tmod (IntKind.wrap IntKind.i64 x.fst.snd.fst.fst) (256 : Int)) (10 : Int) ++ ByteArray.mk (List.toArray ((46 : UInt8) :: nilL UInt8)) ++ dgS (IntKind.wrap
  IntKind.i64 (Int.tdiv (IntKind.wrap IntKind.i64 x.fst.snd.fst.snd.fst) (256 : Int))) (10 : Int) ++ ByteArray.mk (List.toArray ((46 : UInt8) :: nilL UInt8))) + ByteArray.size (dgS (Int.tmod (IntKind.wrap IntKind.i64
  x.fst.snd.fst.snd.fst) (256 : Int)) (10 : Int)) ≤ Go.maxLen) ∧ Wr (ByteArray.size (dgS (IntKind.wrap IntKind.i64 (Int.tdiv (IntKind.wrap IntKind.i64 x.fst.snd.fst.fst) (256 : Int))) (10 : Int) ++ ByteArray.mk
  (List.toArray ((46 : UInt8) :: nilL UInt8)) ++ dgS (Int.tmod (IntKind.wrap IntKind.i64 x.fst.snd.fst.fst) (256 : Int)) (10 : Int) ++ ByteArray.mk (List.toArray ((46 : UInt8) :: nilL UInt8)) ++ dgS (IntKind.wrap
  IntKind.i64 (Int.tdiv (IntKind.wrap IntKind.i64 x.fst.snd.fst.snd.fst) (256 : Int))) (10 : Int) ++ ByteArray.mk (List.toArray ((46 : UInt8) :: nilL UInt8)) ++ dgS (Int.tmod (IntKind.wrap IntKind.i64
  x.fst.snd.fst.snd.fst) (256 : Int)) (10 : Int)) + ByteArray.size (ByteArray.mk (List.toArray ((58 : UInt8) :: nilL UInt8)) ++ dgS x.fst.snd.snd.fst (10 : Int)) ≤ Go.maxLen) ∧ (dgS (IntKind.wrap IntKind.i64 (Int.tdiv
  (IntKind.wrap IntKind.i64 x.fst.snd.fst.fst) (256 : Int))) (10 : Int) ++ ByteArray.mk (List.toArray ((46 : UInt8) :: nilL UInt8)) ++ dgS (Int.tmod (IntKind.wrap IntKind.i64 x.fst.snd.fst.fst) (256 : Int)) (10 : Int) ++
  ByteArray.mk (List.toArray ((46 : UInt8) :: nilL UInt8)) ++ dgS (IntKind.wrap IntKind.i64 (Int.tdiv (IntKind.wrap IntKind.i64 x.fst.snd.fst.snd.fst) (256 : Int))) (10 : Int) ++ ByteArray.mk (List.toArray ((46 : UInt8)
  :: nilL UInt8)) ++ dgS (Int.tmod (IntKind.wrap IntKind.i64 x.fst.snd.fst.snd.fst) (256 : Int)) (10 : Int) ++ (ByteArray.mk (List.toArray ((58 : UInt8) :: nilL UInt8)) ++ dgS x.fst.snd.snd.fst (10 : Int)), (0 : Int), ())
  = (Go.Ad.text1 x.fst, Go.Ad.text2 x.fst, ())))) := by kernel_rfl
theorem v33_eq : vcFn g33 300 Tryz.f33 cRow = ( ∀ (x : List (Int × (Int × Int × Int × Int × Int × Int × Int × Int × Unit) × Int × Unit) × Unit), Wr (lenA x.fst = Bool.true) → Wr ((!Decidable.decide ((↑(List.length x.fst) : Int) > (16 : Int))) = Bool.true → lenA x.fst
  = Bool.true) ∧ bcase (Decidable.decide ((↑(List.length x.fst) : Int) > (16 : Int)) || !Go.Ad.mayA x.fst) ((ByteArray.mk (List.toArray (nilL UInt8)), (20 : Int), ()) = (Go.Ad.row1 x.fst, Go.Ad.row2 x.fst, ())) ((Wr
  (RowRI x.fst (ByteArray.mk (List.toArray (nilL UInt8))) (0 : Int)) ∧ Wr (ByteArray.mk (List.toArray (nilL UInt8)) = ByteArray.mk (List.toArray (nilL UInt8))) ∧ Wr ((0 : Int) = (0 : Int)) ∧ Wr (x.fst = x.fst)) ∧ ∀ (x_1 :
  ByteArray × Int), Wr (RowRI x.fst x_1.fst x_1.snd) → bcase (Decidable.decide (x_1.snd < (↑(List.length x.fst) : Int))) (Wr ((0 : Int) ≤ x_1.snd) ∧ Wr (x_1.snd < (↑(List.length x.fst) : Int)) ∧ Wr (Bool.true = Bool.true)
  ∧ Wr (Bool.true = Bool.true) ∧ bcase (Decidable.decide (x_1.snd > (0 : Int))) (Wr (ByteArray.size x_1.fst + ByteArray.size (ByteArray.mk (List.toArray ((32 : UInt8) :: nilL UInt8))) ≤ Go.maxLen) ∧ Wr (ByteArray.size
  (x_1.fst ++ ByteArray.mk (List.toArray ((32 : UInt8) :: nilL UInt8))) + ByteArray.size (Go.Ad.text1 (List.getD x.fst (Int.toNat x_1.snd) (Ty.zero AdT))) ≤ Go.maxLen) ∧ Wr (RowRI x.fst (x_1.fst ++ ByteArray.mk
  (List.toArray ((32 : UInt8) :: nilL UInt8)) ++ Go.Ad.text1 (List.getD x.fst (Int.toNat x_1.snd) (Ty.zero AdT))) (IntKind.wrap IntKind.i64 (x_1.snd + (1 : Int)))) ∧ Wr (List.length x.fst - Int.toNat (IntKind.wrap
  IntKind.i64 (x_1.snd + (1 : Int))) < List.length x.fst - Int.toNat x_1.snd) ∧ Wr (x_1.fst ++ ByteArray.mk (List.toArray ((32 : UInt8) :: nilL UInt8)) ++ Go.Ad.text1 (List.getD x.fst (Int.toNat x_1.snd) (Ty.zero AdT)) =
  x_1.fst ++ ByteArray.mk (List.toArray ((32 : UInt8) :: nilL UInt8)) ++ Go.Ad.text1 (List.getD x.fst (Int.toNat x_1.snd) (Ty.zero AdT))) ∧ Wr (IntKind.wrap IntKind.i64 (x_1.snd + (1 : Int)) = IntKind.wrap IntKind.i64
  (x_1.snd + (1 : Int))) ∧ Wr (x.fst = x.fst)) (Wr (ByteArray.size x_1.fst + ByteArray.size (Go.Ad.text1 (List.getD x.fst (Int.toNat x_1.snd) (Ty.zero AdT))) ≤ Go.maxLen) ∧ Wr (RowRI x.fst (x_1.fst ++ Go.Ad.text1
  (List.getD x.fst (Int.toNat x_1.snd) (Ty.zero AdT))) (IntKind.wrap IntKind.i64 (x_1.snd + (1 : Int)))) ∧ Wr (List.length x.fst - Int.toNat (IntKind.wrap IntKind.i64 (x_1.snd + (1 : Int))) < List.length x.fst - Int.toNat
  x_1.snd) ∧ Wr (x_1.fst ++ Go.Ad.text1 (List.getD x.fst (Int.toNat x_1.snd) (Ty.zero AdT)) = x_1.fst ++ Go.Ad.text1 (List.getD x.fst (Int.toNat x_1.snd) (Ty.zero AdT))) ∧ Wr (IntKind.wrap IntKind.i64 (x_1.snd + (1 :
  Int)) = IntKind.wrap IntKind.i64 (x_1.snd + (1 : Int))) ∧ Wr (x.fst = x.fst))) ((x_1.fst, (0 : Int), ()) = (Go.Ad.row1 x.fst, Go.Ad.row2 x.fst, ())))) := by kernel_rfl
end Go.Proofs.YtfhlceooobabcaaGreatDoor.Wd
set_option linter.all false
namespace Go.Proofs.YtfhlceooobabcaaGreatDoor.Wd
open Go Go.Eng Go.Lb Go.Ad
set_option maxRecDepth 100000
set_option maxHeartbeats 8000000
def inR (x : Int) : Prop := 0 ≤ x ∧ x < 65536
structure AdR (a : Ad) : Prop where
  g : ∀ x ∈ gl a.2.1, inR x
def RunOk (l : List Int) (p : Int × Int) : Prop := p.2 = 0 ∨ (2 ≤ p.2 ∧ 0 ≤ p.1 ∧ p.1 + p.2 ≤ l.length ∧ ∀ k : Nat, p.1 ≤ k → (k : Int) < p.1 + p.2 → l.getD k 0 = 0)
theorem getD_app {l r : List Int} {k : Nat} (h : k < l.length) : (l ++ r).getD k 0 = l.getD k 0 := by
  rw [List.getD_eq_getElem?_getD, List.getD_eq_getElem?_getD, List.getElem?_append_left h]
theorem RunOk.app {l : List Int} {p : Int × Int} (h : RunOk l p) (r : List Int) : RunOk (l ++ r) p := by
  rcases h with h | ⟨h1, h2, h3, h4⟩
  · exact .inl h
  · refine .inr ⟨h1, h2, by rw [List.length_append]; omega, fun k k1 k2 => ?_⟩
    rw [getD_app (by omega)]
    exact h4 k k1 k2
theorem long_ok : ∀ (r pre : List Int) (n at_ many : Int), 0 ≤ n → n ≤ pre.length → (∀ k : Nat, (pre.length : Int) - n ≤ k → k < pre.length → pre.getD k 0 = 0) → RunOk pre (at_, many) → RunOk (pre ++ r) (longGo pre.length n at_ many r)
  | [], pre, n, a, m, h0, h1, h2, h3 => by rw [List.append_nil]; exact h3
  | x :: r, pre, n, a, m, h0, h1, h2, h3 => by
    rw [longGo]
    have e : pre ++ x :: r = (pre ++ [x]) ++ r := by simp
    have el : (pre.length : Int) + 1 = ((pre ++ [x]).length : Nat) := by simp
    have hz : x = 0 → ∀ k : Nat, ((pre ++ [x]).length : Int) - (n + 1) ≤ k → k < (pre ++ [x]).length → (pre ++ [x]).getD k 0 = 0 := by
      intro hx k k1 k2
      simp only [List.length_append, List.length_singleton] at k1 k2
      rcases Nat.lt_or_ge k pre.length with h | h
      · rw [getD_app h]
        exact h2 k (by omega) h
      · obtain rfl : k = pre.length := by omega
        rw [List.getD_eq_getElem?_getD, List.getElem?_append_right (Nat.le_refl _)]
        simp [hx]
    rw [e]
    by_cases hx : x = 0
    · rw [show decide (x = 0) = true from by simpa using hx, cond_true]
      by_cases hm : max m 1 < n + 1
      · rw [show decide (max m 1 < n + 1) = true from by simpa using hm, cond_true]
        rw [el]
        refine long_ok r (pre ++ [x]) (n + 1) _ _ (by omega) (by simp; omega) (hz hx) (.inr ⟨by simp only; omega, by simp only [List.length_append, List.length_singleton]; omega, by simp only [List.length_append, List.length_singleton]; omega, fun k k1 k2 => ?_⟩)
        exact hz hx k (by simpa using k1) (by simp only at k2; omega)
      · rw [show decide (max m 1 < n + 1) = false from by simpa using hm, cond_false, el]
        exact long_ok r (pre ++ [x]) (n + 1) a m (by omega) (by simp; omega) (hz hx) (h3.app _)
    · rw [show decide (x = 0) = false from by simpa using hx, cond_false, el]
      exact long_ok r (pre ++ [x]) 0 a m (by omega) (by omega) (fun k k1 k2 => by omega) (h3.app _)
theorem longL_ok (l : List Int) : RunOk l (longL l) := by
  have := long_ok l [] 0 0 0 (by omega) (by simp) (fun k _ k2 => by simp at k2) (.inl rfl)
  rw [List.nil_append] at this
  exact this
theorem run_fill {l : List Int} {a m : Nat} (h : a + m ≤ l.length) (hz : ∀ k : Nat, a ≤ k → k < a + m → l.getD k 0 = 0) : l.take a ++ List.replicate m 0 ++ l.drop (a + m) = l := by
  have e : (l.drop a).take m = List.replicate m 0 := by
    apply List.ext_getElem?
    intro i
    rw [List.getElem?_take, List.getElem?_drop, List.getElem?_replicate]
    split
    · rename_i hi
      have := hz (a + i) (by omega) (by omega)
      rw [List.getD_eq_getElem?_getD, List.getElem?_eq_getElem (by omega)] at this
      rw [List.getElem?_eq_getElem (by omega)]
      simpa using this
    · rfl
  rw [← e]
  have := List.take_append_drop m (l.drop a)
  rw [List.drop_drop] at this
  rw [List.append_assoc, this, List.take_append_drop]
theorem len_gl (g : G8) : (gl g).length = 8 := rfl
theorem lg_gl (g : G8) : lg (gl g) = g := rfl
theorem text1_may {a : Ad} (h : may1 a = true) : text1 a = ofL (text0 a) := by unfold text1; rw [h]; rfl
theorem MapI.zero {α β : Type} (f : α → β) (l : List α) : MapI f l [] 0 := ⟨by omega, by omega, rfl⟩
theorem MapI.on {α β : Type} {f : α → β} {l : List α} {out : List β} {i : Int} {z : α} (h : MapI f l out i) (hl : l.length ≤ 5000000000) (hi : i < l.length) :
    MapI f l (out ++ [f (l.getD i.toNat z)]) (IntKind.wrap .i64 (i + 1)) ∧ l.length - (IntKind.wrap .i64 (i + 1)).toNat < l.length - i.toNat := by
  have h0 := h.i0
  rw [step h0 hl hi]
  refine ⟨⟨by omega, by omega, ?_⟩, wcut h0 hi⟩
  rw [take_succ l i z h0 hi, h.a, List.map_append]
  rfl
theorem MapI.fin {α β : Type} {f : α → β} {l : List α} {out : List β} {i : Int} (h : MapI f l out i) (hi : ¬ i < l.length) : out = l.map f := by
  have := h.a
  rwa [take_all h.i1 hi] at this
theorem lens_le {n : Nat} : ∀ {ps : List (List UInt8)}, (∀ p ∈ ps, p.length ≤ n) → Go.Lib.lens ps ≤ n * ps.length
  | [], _ => by simp [Go.Lib.lens]
  | p :: r, h => by
    have := lens_le fun x hx => h x (List.mem_cons_of_mem _ hx)
    have h1 := h p List.mem_cons_self
    simp only [Go.Lib.lens, List.map_cons, List.sum_cons, List.length_cons] at this ⊢
    rw [Nat.mul_succ]
    omega
theorem join_le {n : Nat} {d : List UInt8} {ps : List (List UInt8)} (h : ∀ p ∈ ps, p.length ≤ n) : (Go.Lib.join ps d).length ≤ (n + d.length) * ps.length := by
  cases ps with
  | nil => simp [Go.Lib.join_nil]
  | cons p r =>
    rw [Go.Lib.join_cons, List.length_append, Go.Lib.joinTail_length]
    have h1 := h p List.mem_cons_self
    have h2 := lens_le fun x hx => h x (List.mem_cons_of_mem _ hx)
    rw [List.length_cons, Nat.mul_succ, Nat.add_mul]
    omega
theorem hexF_len : ∀ (f n : Nat), (hexF f n).length ≤ f
  | 0, _ => by simp [hexF]
  | f + 1, n => by
    unfold hexF
    rw [cond_eq_ite]
    split
    · simp
    · rw [List.length_append, List.length_singleton]
      have := hexF_len f (n / 16)
      omega
theorem hexesL_len {l : List Int} (h : l.length ≤ 8) : (hexesL l).length ≤ 40 := by
  unfold hexesL
  have := join_le (n := 4) (d := [58]) (ps := l.map fun n => hexL n.toNat) (by
    intro p hp
    obtain ⟨x, _, rfl⟩ := List.mem_map.1 hp
    exact hexF_len 4 _)
  rw [List.length_map] at this
  simp only [List.length_singleton] at this
  omega
theorem text0_len (a : Ad) : (text0 a).length ≤ 200 := by
  have hd : ∀ n, (digL n).length ≤ 5 := fun n => digF_len 5 n
  unfold text0 hostL
  rw [List.length_append, List.length_cons]
  have h1 := hd a.2.2.1.toNat
  rw [cond_eq_ite]
  split
  · unfold fourL
    have := join_le (n := 5) (d := [46]) (ps := [digL (a.2.1.1.toNat / 256), digL (a.2.1.1.toNat % 256), digL (a.2.1.2.1.toNat / 256), digL (a.2.1.2.1.toNat % 256)]) (by
      intro p hp
      simp only [List.mem_cons, List.not_mem_nil, or_false] at hp
      rcases hp with rfl | rfl | rfl | rfl <;> exact hd _)
    simp only [List.length_cons, List.length_nil] at this
    omega
  · unfold inL
    rw [cond_eq_ite]
    split
    · have := hexesL_len (l := gl a.2.1) (by rw [len_gl]; omega)
      simp only [List.length_append, List.length_cons, List.length_nil]
      omega
    · have h2 := hexesL_len (l := (gl a.2.1).take (long1 a.2.1).toNat) (by rw [List.length_take, len_gl]; omega)
      have h3 := hexesL_len (l := (gl a.2.1).drop (long1 a.2.1 + long2 a.2.1).toNat) (by rw [List.length_drop, len_gl]; omega)
      simp only [List.length_append, List.length_cons, List.length_nil]
      omega
theorem text1_len (a : Ad) : (text1 a).size ≤ 200 := by
  unfold text1
  rw [cond_eq_ite]
  split
  · rw [ofL_size]; exact text0_len a
  · rw [ofL_size]; simp
theorem text2_iff (a : Ad) : text2 a = 0 ↔ may1 a = true := by
  unfold text2
  cases may1 a <;> simp
theorem v75 : Vc g75 300 Tryz.f75 cRow := by
  constructor
  rw [v75_eq]
  simp only [Wr_iff, bcase_iff, true_and, and_true, decide_eq_true_eq, decide_eq_false_iff_not, Bool.and_eq_true, Bool.and_eq_false_iff, Bool.or_eq_true, Bool.or_eq_false_iff, Bool.not_eq_true', Bool.not_eq_false', Option.map_some, Option.getD_some, Option.isSome_some, Option.isSome_map, imp_self, nilL, noneO]
  intro x
  generalize x.fst = l
  intro hl
  have hl := (lenA_iff l).1 hl
  have no : Go.Ad.rowOk l = false → row1 l = ofL [] ∧ row2 l = 20 := by
    intro h
    unfold row1 row2
    rw [h]
    exact ⟨rfl, rfl⟩
  refine ⟨fun h => ?_, fun h16 => ⟨⟨by omega, by omega, by omega, rfl, rfl⟩, fun y hi => ⟨fun h => ?_, fun h => ?_⟩⟩⟩
  · have : Go.Ad.rowOk l = false := by unfold Go.Ad.rowOk; rw [show decide (List.length l ≤ 16) = false from decide_eq_false (by omega)]; rfl
    obtain ⟨h1, h2⟩ := no this
    rw [h1, h2]
    rfl
  · have h0 := hi.i0
    refine ⟨h0, h, fun he => ?_, fun he => ⟨?_, ?_⟩⟩
    · have hm : may1 (l.getD y.2.toNat (Ty.zero AdT)) = false := by
        cases hm : may1 (l.getD y.2.toNat (Ty.zero AdT)) with
        | false => rfl
        | true => exact absurd ((text2_iff _).2 hm) he
      have : Go.Ad.rowOk l = false := by
        unfold Go.Ad.rowOk
        have : mayA l = false := by
          cases hx : mayA l with
          | false => rfl
          | true =>
            have := List.all_eq_true.1 hx _ (getD_memA (z := Ty.zero AdT) h0 h)
            exact absurd (this.symm.trans hm) (by decide)
        rw [this, Bool.and_false]
      obtain ⟨h1, h2⟩ := no this
      have h3 : text2 (l.getD y.2.toNat (Ty.zero AdT)) = 20 := by unfold text2; rw [hm]; rfl
      rw [h1, h2, h3]
      rfl
    · have e : y.1.length ≤ 16 := by
        rw [hi.a, List.length_map, List.length_take]; have := hi.l16; omega
      have e1 : List.length [text1 (l.getD y.2.toNat (Ty.zero AdT))] = 1 := rfl
      have : (y.1.length + 1) * 16 ≤ 140737488355328 := by omega
      exact this
    · have hm := (text2_iff _).1 he
      rw [step h0 (by omega) h]
      have e := take_succ l y.2 (Ty.zero AdT) h0 h
      refine ⟨⟨by omega, by omega, hi.l16, ?_, ?_⟩, wcut h0 h⟩
      · rw [e, List.all_append, hi.m, List.all_cons, List.all_nil, Bool.and_true, Bool.true_and]
        exact hm
      · rw [e, List.map_append, ← hi.a]
        rfl
  · have e := hi.a
    have em := hi.m
    rw [take_all hi.i1 h] at e em
    have hr : Go.Ad.rowOk l = true := by
      unfold Go.Ad.rowOk
      rw [show decide (List.length l ≤ 16) = true from decide_eq_true hi.l16, Bool.true_and]
      exact em
    have hj : joinL (l.map text1) { data := #[32] } = rowL l := by
      unfold joinL rowL
      rw [bL0, bytesL_ofL, List.map_map]
      congr 1
      refine List.map_congr_left fun a ha => ?_
      have := text1_may (List.all_eq_true.1 em a ha)
      rw [Function.comp, this, bytesL_ofL]
    have hb := join_le (n := 200) (d := [32]) (ps := l.map text0) (by
      intro p hp
      obtain ⟨a, _, rfl⟩ := List.mem_map.1 hp
      exact text0_len a)
    rw [List.length_map] at hb
    simp only [List.length_singleton] at hb
    have hb2 : (rowL l).length ≤ 201 * l.length := hb
    rw [e]
    refine ⟨⟨by rw [List.length_map]; omega, ?_⟩, ?_⟩
    · have : (joinL (l.map text1) { data := #[32] }).length ≤ 4000000000 := by rw [hj]; omega
      exact this
    · have h1 : row1 l = joinS (l.map text1) { data := #[32] } := by
        unfold row1 joinS
        rw [hr, hj]
        try rfl
      have h2 : row2 l = 0 := by unfold row2; rw [hr]; rfl
      rw [h1, h2]
theorem long_cases {g : G8} {i n a m : Int} {z : Int} (h : LongI g i n a m) (hi : i < 8) : (¬ (gl g).getD i.toNat z = 0 → LongI g (i + 1) 0 a m) ∧
    ((gl g).getD i.toNat z = 0 → (max m 1 < n + 1 → LongI g (i + 1) (n + 1) (i + 1 - (n + 1)) (n + 1)) ∧ (¬ max m 1 < n + 1 → LongI g (i + 1) (n + 1) a m)) := by
  obtain ⟨i0, i1, n0, n1, m0, m1, a0, a1, e⟩ := h
  have hd := drop_cons (gl g) i z i0 (by rw [len_gl]; omega)
  rw [hd, longGo] at e
  refine ⟨fun hz => ?_, fun hz => ⟨fun hm => ?_, fun hm => ?_⟩⟩
  · rw [show decide ((gl g).getD i.toNat z = 0) = false from decide_eq_false hz, cond_false] at e
    exact ⟨by omega, by omega, by omega, by omega, m0, m1, a0, a1, e⟩
  · rw [show decide ((gl g).getD i.toNat z = 0) = true from decide_eq_true hz, cond_true, show decide (max m 1 < n + 1) = true from decide_eq_true hm, cond_true] at e
    exact ⟨by omega, by omega, by omega, by omega, by omega, by omega, by omega, by omega, e⟩
  · rw [show decide ((gl g).getD i.toNat z = 0) = true from decide_eq_true hz, cond_true, show decide (max m 1 < n + 1) = false from decide_eq_false hm, cond_false] at e
    exact ⟨by omega, by omega, by omega, by omega, m0, m1, a0, a1, e⟩
theorem v137 : Vc g137 300 Tryz.f137 cLong := by
  constructor
  rw [v137_eq]
  simp only [Wr_iff, bcase_iff, true_and, and_true, decide_eq_true_eq, decide_eq_false_iff_not, Bool.and_eq_true, Bool.and_eq_false_iff, Bool.or_eq_true, Bool.or_eq_false_iff, Bool.not_eq_true', Bool.not_eq_false', Option.map_some, Option.getD_some, Option.isSome_some, Option.isSome_map, imp_self, nilL, noneO]
  intro x
  generalize x.fst = g
  intro _
  refine ⟨⟨by omega, by omega, by omega, by omega, by omega, by omega, by omega, by omega, rfl⟩, fun y hy => ⟨fun h => ?_, fun h => ?_⟩⟩
  · have hc := long_cases (z := 0) hy h
    have i0 := hy.i0
    have n0 := hy.n0
    have n1 := hy.n1
    have m0 := hy.m0
    have w1 : IntKind.wrap .i64 (y.1 + 1) = y.1 + 1 := w64 (by omega) (by omega)
    have w2 : IntKind.wrap .i64 (y.2.1 + 1) = y.2.1 + 1 := w64 (by omega) (by omega)
    have w3 : IntKind.wrap .i64 (y.1 + 1 - (y.2.1 + 1)) = y.1 + 1 - (y.2.1 + 1) := w64 (by omega) (by omega)
    rw [w1, w2, w3]
    have hmu : 8 - (y.1 + 1).toNat < 8 - y.1.toNat := by omega
    refine ⟨i0, h, fun hz => ⟨fun hm => ?_, fun hm => ?_⟩, fun hz => ⟨fun hm => ?_, fun hm => ?_⟩⟩
    · omega
    · exact ⟨hc.1 hz, hmu⟩
    · exact ⟨(hc.2 hz).1 hm, hmu⟩
    · exact ⟨(hc.2 hz).2 (by omega), hmu⟩
  · have e := hy.a
    rw [List.drop_eq_nil_iff.2 (by rw [len_gl]; have := hy.i1; omega)] at e
    have e1 : y.2.2.1 = long1 g := congrArg Prod.fst e
    have e2 : y.2.2.2 = long2 g := congrArg Prod.snd e
    rw [e1, e2]
/-! numbers -/
theorem wu16 {n : Int} (h0 : 0 ≤ n) (h1 : n < 65536) : IntKind.wrap .u16 n = n := by
  simp [IntKind.wrap, IntKind.signed, IntKind.bits]; omega
theorem ofL_app (a b : List UInt8) : ofL a ++ ofL b = ofL (a ++ b) := by
  apply bytesL_inj
  rw [bytesL_ofL]
  simp [bytesL, ofL]
theorem typU16 {n : Int} (h : IntKind.wrap .u16 n = n) : inR n := by
  unfold inR
  rw [← h]
  simp [IntKind.wrap, IntKind.signed, IntKind.bits]
  omega
theorem typed_R {a : Ad} (h : typedB AdT a = true) : AdR a := by
  obtain ⟨f, ⟨a0, a1, a2, a3, a4, a5, a6, a7, ⟨⟩⟩, p, ⟨⟩⟩ := a
  have h' : (decide (IntKind.wrap .i8 f = f) && ((decide (IntKind.wrap .u16 a0 = a0) && (decide (IntKind.wrap .u16 a1 = a1) && (decide (IntKind.wrap .u16 a2 = a2) && (decide (IntKind.wrap .u16 a3 = a3) && (decide (IntKind.wrap .u16 a4 = a4) && (decide (IntKind.wrap .u16 a5 = a5) && (decide (IntKind.wrap .u16 a6 = a6) && (decide (IntKind.wrap .u16 a7 = a7) && true)))))))) && (decide (IntKind.wrap .i64 p = p) && true))) = true := h
  simp only [Bool.and_eq_true, decide_eq_true_eq, Bool.and_true] at h'
  obtain ⟨_, ⟨h0, h1, h2, h3, h4, h5, h6, h7⟩, _⟩ := h'
  constructor
  intro x hx
  have hx : x ∈ [a0, a1, a2, a3, a4, a5, a6, a7] := hx
  simp only [List.mem_cons, List.not_mem_nil, or_false] at hx
  rcases hx with rfl | rfl | rfl | rfl | rfl | rfl | rfl | rfl <;> exact typU16 (by assumption)
theorem hi_byte {n : Int} (h : inR n) : IntKind.wrap .i64 (Int.fdiv n (2 ^ min (Int.toNat 8) (IntKind.bits .u16))) = ((n.toNat / 256 : Nat) : Int) := by
  unfold inR at h
  have e : (2 : Int) ^ min (Int.toNat 8) (IntKind.bits .u16) = 256 := rfl
  rw [e, Int.fdiv_eq_ediv_of_nonneg _ (by omega), w64 (by omega) (by omega)]
  omega
theorem lo_byte {n : Int} (h : inR n) : IntKind.wrap .i64 (andI .u16 n 255) = ((n.toNat % 256 : Nat) : Int) := by
  unfold inR at h
  obtain ⟨a, rfl⟩ : ∃ a : Nat, n = a := ⟨n.toNat, by omega⟩
  have e1 : (BitVec.ofInt (IntKind.bits .u16) (a : Int)).toNat = a := by
    rw [BitVec.toNat_ofInt]
    show ((a : Int) % 65536).toNat = a
    omega
  have e2 : (BitVec.ofInt (IntKind.bits .u16) 255).toNat = 255 := rfl
  have e3 : a &&& 255 = a % 256 := Nat.and_two_pow_sub_one_eq_mod (n := 8) a
  unfold andI
  rw [BitVec.toNat_and, e1, e2, e3, wu16 (by omega) (by omega), w64 (by omega) (by omega), Int.toNat_natCast]
theorem digS_len (n : Int) : (digS n).size ≤ 5 := digS_size n
theorem join4 {x y z w : Nat} : joinS [digS x, digS y, digS z, digS w] (ofL [46]) = ofL (Go.Lib.join [digL x, digL y, digL z, digL w] [46]) ∧ (joinL [digS x, digS y, digS z, digS w] (ofL [46])).length ≤ 24 := by
  have e : joinL [digS x, digS y, digS z, digS w] (ofL [46]) = Go.Lib.join [digL x, digL y, digL z, digL w] [46] := by
    unfold joinL
    rw [bytesL_ofL]
    simp only [List.map_cons, List.map_nil, digS, bytesL_ofL, Int.toNat_natCast]
  unfold joinS
  rw [e]
  refine ⟨rfl, ?_⟩
  have := join_le (n := 5) (d := [46]) (ps := [digL x, digL y, digL z, digL w]) (by
    intro p hp
    simp only [List.mem_cons, List.not_mem_nil, or_false] at hp
    rcases hp with rfl | rfl | rfl | rfl <;> exact digF_len 5 _)
  exact this
theorem hexes_size {l : List Int} (h : l.length ≤ 8) : (hexes l).size ≤ 40 := by
  unfold hexes
  rw [ofL_size]
  exact hexesL_len h
theorem text_no' {a : Ad} (h : may1 a = false) : (({ data := #[] } : ByteArray), (20 : Int), ()) = (text1 a, text2 a, ()) := by
  unfold text1 text2
  rw [h]
  rfl
theorem text_yes {a : Ad} {t : ByteArray} (h : may1 a = true) (ht : t = ofL (text0 a)) : (t, (0 : Int), ()) = (text1 a, text2 a, ()) := by
  unfold text1 text2
  rw [h, ht]
  rfl
theorem mayA_one (a : Ad) : mayA (a :: nilL Ad) = may1 a := Bool.and_true _
theorem v110 : Vc g110 300 Tryz.f110 cText.T := by
  constructor
  rw [v110_eq]
  rintro ⟨a, ⟨⟩⟩ hx
  have hr : AdR a := by
    have h1 : (typedB AdT a && true) = true := hx.out.1
    rw [Bool.and_true] at h1
    exact typed_R h1
  have i0 : inR a.2.1.1 := hr.g _ (by simp [gl])
  have i1 : inR a.2.1.2.1 := hr.g _ (by simp [gl])
  have e0 : Int.toNat 0 + Int.toNat 0 = 0 := rfl
  have e1 : Int.toNat 0 + Int.toNat (IntKind.wrap .i64 (0 + 1)) = 1 := rfl
  have b91 : (ByteArray.mk (List.toArray ((91 : UInt8) :: nilL UInt8)) : ByteArray) = ofL [91] := rfl
  have b93 : (ByteArray.mk (List.toArray ((93 : UInt8) :: nilL UInt8)) : ByteArray) = ofL [93] := rfl
  have b58 : (ByteArray.mk (List.toArray ((58 : UInt8) :: nilL UInt8)) : ByteArray) = ofL [58] := rfl
  have b46 : (ByteArray.mk (List.toArray ((46 : UInt8) :: nilL UInt8)) : ByteArray) = ofL [46] := rfl
  have b5858 : (ByteArray.mk (List.toArray ((58 : UInt8) :: (58 : UInt8) :: nilL UInt8)) : ByteArray) = ofL [58, 58] := rfl
  have mx : maxLen = 9223372036854775807 := rfl
  have s1 : ∀ b : UInt8, (ofL [b]).size = 1 := fun b => ofL_size [b]
  have s2 : (ofL [58, 58]).size = 2 := ofL_size _
  have hp := digS_len a.2.2.1
  have hg : (a.2.1.1 :: a.2.1.2.1 :: a.2.1.2.2.1 :: a.2.1.2.2.2.1 :: a.2.1.2.2.2.2.1 :: a.2.1.2.2.2.2.2.1 :: a.2.1.2.2.2.2.2.2.1 :: a.2.1.2.2.2.2.2.2.2.1 :: nilL Int) = gl a.2.1 := rfl
  have lg8 := len_gl a.2.1
  have n8 : Int.toNat ((8 : Nat) : Int) = 8 := rfl
  have n0 : Int.toNat 0 = 0 := rfl
  simp only [e0, e1, List.getD_cons_zero, List.getD_cons_succ, hi_byte i0, lo_byte i0, hi_byte i1, lo_byte i1, mayA_one]
  simp only [b91, b93, b58, b46, b5858, hg, n8, n0, List.drop_zero]
  refine ⟨⟨(lenA_iff _).2 (by show 1 ≤ 100000; omega)⟩, (bcase_iff _ _ _).2 ⟨fun h => text_no' (by simpa using h), fun h => ?_⟩⟩
  have hm : may1 a = true := by simpa using h
  have hm' := (may1_iff a).1 hm
  have hport : digS a.2.2.1 = ofL (digL a.2.2.1.toNat) := rfl
  refine ⟨⟨by simp; omega⟩, ⟨by rw [s1, mx]; omega⟩, (bcase_iff _ _ _).2 ⟨fun h4 => ?_, fun h4 => ⟨⟨trivial⟩, (bcase_iff _ _ _).2 ⟨fun h0 => ?_, fun h0 => ?_⟩⟩⟩⟩
  · obtain ⟨j1, j2⟩ := join4 (x := a.2.1.1.toNat / 256) (y := a.2.1.1.toNat % 256) (z := a.2.1.2.1.toNat / 256) (w := a.2.1.2.1.toNat % 256)
    have e : ∀ p q r t : ByteArray, (p :: q :: nilL ByteArray) ++ (r :: t :: nilL ByteArray) = [p, q, r, t] := fun _ _ _ _ => rfl
    have el : ∀ p q : ByteArray, (p :: q :: nilL ByteArray).length = 2 := fun _ _ => rfl
    have e4 : ∀ p q r t : ByteArray, [p, q, r, t].length = 4 := fun _ _ _ _ => rfl
    unfold inR at i0 i1
    have k4 : a.1 = 4 := by simpa using h4
    rw [e, el, e4, j1, el]
    refine ⟨⟨by omega⟩, ⟨by omega⟩, ⟨by omega⟩, ⟨by omega⟩, ⟨by decide⟩, ⟨by omega⟩, ⟨by simp; omega⟩, ⟨by simp; omega⟩, ⟨by omega⟩, ⟨by decide⟩, ⟨by decide⟩, ⟨by omega⟩, ⟨by simp; omega⟩, ⟨by simp; omega⟩, ⟨by omega⟩, ⟨?_⟩, ⟨?_⟩, text_yes hm ?_⟩
    · rw [Bool.and_eq_true, decide_eq_true_eq, decide_eq_true_eq]
      omega
    · have : (ofL (Go.Lib.join [digL (a.2.1.1.toNat / 256), digL (a.2.1.1.toNat % 256), digL (a.2.1.2.1.toNat / 256), digL (a.2.1.2.1.toNat % 256)] [46])).size ≤ 24 := by
        rw [← j1]; unfold joinS; rw [ofL_size]; exact j2
      rw [ByteArray.size_append, s1, mx]
      omega
    · rw [hport, ofL_app, ofL_app]
      unfold text0 hostL
      rw [decide_eq_true k4, cond_true]
      rfl
  · have hh := hexes_size (l := gl a.2.1) (by omega)
    have k0 : long2 a.2.1 = 0 := by simpa using h0
    rw [List.take_of_length_le (Nat.le_of_eq lg8)]
    refine ⟨⟨by omega⟩, ⟨by omega⟩, ⟨by omega⟩, ⟨decide_eq_true (Nat.le_of_eq lg8)⟩, ⟨by rw [s1, mx]; omega⟩, ⟨by rw [ByteArray.size_append, s1, s1, mx]; omega⟩, ⟨by rw [ByteArray.size_append, ByteArray.size_append, ByteArray.size_append, s1, s1, s1, mx]; omega⟩, text_yes hm ?_⟩
    rw [hport, show hexes (gl a.2.1) = ofL (hexesL (gl a.2.1)) from rfl, ofL_app, ofL_app, ofL_app, ofL_app]
    unfold text0 hostL inL
    rw [show decide (a.1 = 4) = false from h4, cond_false, decide_eq_true k0, cond_true]
    rfl
  · have k0 : ¬ long2 a.2.1 = 0 := by simpa using h0
    have hl := longL_ok (gl a.2.1)
    have hl : 2 ≤ long2 a.2.1 ∧ 0 ≤ long1 a.2.1 ∧ long1 a.2.1 + long2 a.2.1 ≤ 8 := by
      rcases hl with h | ⟨h1, h2, h3, _⟩
      · exact absurd h k0
      · exact ⟨h1, h2, h3⟩
    have w : IntKind.wrap .i64 (long1 a.2.1 + long2 a.2.1) = long1 a.2.1 + long2 a.2.1 := w64 (by omega) (by omega)
    rw [List.take_of_length_le (Nat.le_of_eq lg8), w]
    have l1 : ((gl a.2.1).take (long1 a.2.1).toNat).length ≤ 8 := by rw [List.length_take]; omega
    have l2 : ((gl a.2.1).drop (long1 a.2.1 + long2 a.2.1).toNat).length ≤ 8 := by rw [List.length_drop]; omega
    have h1 := hexes_size l1
    have h2 := hexes_size l2
    refine ⟨⟨by omega⟩, ⟨by omega⟩, ⟨by omega⟩, ⟨decide_eq_true l1⟩, ⟨by rw [s1, mx]; omega⟩, ⟨by rw [ByteArray.size_append, s1, s2, mx]; omega⟩, ⟨by omega⟩, ⟨by omega⟩, ⟨by omega⟩, ⟨decide_eq_true l2⟩, ⟨by simp only [ByteArray.size_append, s1, s2, mx]; omega⟩, ⟨by simp only [ByteArray.size_append, s1, s2, mx]; omega⟩, ⟨by simp only [ByteArray.size_append, s1, s2, mx]; omega⟩, text_yes hm ?_⟩
    rw [hport, show ∀ l, hexes l = ofL (hexesL l) from fun _ => rfl, show ∀ l, hexes l = ofL (hexesL l) from fun _ => rfl, ofL_app, ofL_app, ofL_app, ofL_app, ofL_app, ofL_app]
    unfold text0 hostL inL
    rw [show decide (a.1 = 4) = false from h4, cond_false, decide_eq_false k0, cond_false]
    simp
def digs : ByteArray := ByteArray.mk (List.toArray ((48 : UInt8) :: (49 : UInt8) :: (50 : UInt8) :: (51 : UInt8) :: (52 : UInt8) :: (53 : UInt8) :: (54 : UInt8) :: (55 : UInt8) :: (56 : UInt8) :: (57 : UInt8) :: (97 : UInt8) :: (98 : UInt8) :: (99 : UInt8) :: (100 : UInt8) :: (101 : UInt8) :: (102 : UInt8) :: (103 : UInt8) :: (104 : UInt8) :: (105 : UInt8) :: (106 : UInt8) :: (107 : UInt8) :: (108 : UInt8) :: (109 : UInt8) :: (110 : UInt8) :: (111 : UInt8) :: (112 : UInt8) :: (113 : UInt8) :: (114 : UInt8) :: (115 : UInt8) :: (116 : UInt8) :: (117 : UInt8) :: (118 : UInt8) :: (119 : UInt8) :: (120 : UInt8) :: (121 : UInt8) :: (122 : UInt8) :: nilL UInt8))
theorem digs_size : digs.size = 36 := rfl
theorem digs_all : ((List.range 16).all fun k => decide (byteAt digs k = ((hexD k).toNat : Int))) = true := by decide +kernel
theorem digs_at {k : Nat} (h : k < 16) : byteAt digs k = ((hexD k).toNat : Int) := by
  have := List.all_eq_true.1 digs_all k (List.mem_range.2 h)
  exact of_decide_eq_true this
theorem digs_I {u : Int} (h0 : 0 ≤ u) (h : u < 16) : byteAt digs u.toNat = ((hexD u.toNat).toNat : Int) := digs_at (by omega)
theorem and15 {u : Int} (h0 : 0 ≤ u) (h : u < 65536) : andI .u64 u (IntKind.wrap .u64 (IntKind.wrap .u64 16 - 1)) = u % 16 := by
  obtain ⟨a, rfl⟩ : ∃ a : Nat, u = a := ⟨u.toNat, by omega⟩
  have e : IntKind.wrap .u64 (IntKind.wrap .u64 16 - 1) = 15 := by decide
  have e1 : (BitVec.ofInt (IntKind.bits .u64) (a : Int)).toNat = a := by
    rw [BitVec.toNat_ofInt]
    show ((a : Int) % 18446744073709551616).toNat = a
    omega
  have e2 : (BitVec.ofInt (IntKind.bits .u64) 15).toNat = 15 := rfl
  have e3 : a &&& 15 = a % 16 := Nat.and_two_pow_sub_one_eq_mod (n := 4) a
  rw [e]
  unfold andI
  rw [BitVec.toNat_and, e1, e2, e3]
  have : IntKind.wrap .u64 ((a % 16 : Nat) : Int) = ((a % 16 : Nat) : Int) := by
    simp [IntKind.wrap, IntKind.signed, IntKind.bits]; omega
  rw [this]
  omega
theorem wu64 {n : Int} (h0 : 0 ≤ n) (h1 : n < 65536) : IntKind.wrap .u64 n = n := by
  simp [IntKind.wrap, IntKind.signed, IntKind.bits]; omega
theorem ctz16 : IntKind.wrap .u64 (ctzZ (IntKind.wrap .u64 16)) = 4 := by decide +kernel
theorem shr4 {u : Int} (h0 : 0 ≤ u) : Int.fdiv u (2 ^ min (Int.toNat (IntKind.wrap .u64 (ctzZ (IntKind.wrap .u64 16)))) (IntKind.bits .u64)) = u / 16 := by
  rw [ctz16]
  have e : (2 : Int) ^ min (Int.toNat 4) (IntKind.bits .u64) = 16 := rfl
  rw [e, Int.fdiv_eq_ediv_of_nonneg _ (by omega)]
theorem byteL_set {xs : List Int} {i : Int} {b : UInt8} (i0 : 1 ≤ i) (i1 : i ≤ xs.length) : byteL (xs.set (i - 1).toNat (b.toNat : Int)) (i - 1) = b :: byteL xs i := by
  unfold byteL
  have e : i.toNat = (i - 1).toNat + 1 := by omega
  rw [List.drop_eq_getElem_cons (by rw [List.length_set]; omega), List.getElem_set_self, List.drop_set_of_lt (by omega), List.map_cons, e, Int.toNat_natCast, UInt8.ofNat_toNat]
theorem hexF_big {k : Nat} {u : Nat} (h : 16 ≤ u) : hexF (k + 1) u = hexF k (u / 16) ++ [hexD (u % 16)] := by
  rw [hexF, show decide (u < 16) = false from decide_eq_false (by omega), cond_false]
theorem hexF_small {k : Nat} {u : Nat} (h : u < 16) : hexF (k + 1) u = [hexD u] := by
  rw [hexF, show decide (u < 16) = true from decide_eq_true h, cond_true]
theorem bits_zero {u : Int} (h0 : 0 ≤ u) (h1 : u < 65536) : BitsI u u 65 (List.replicate 65 0) := by
  refine ⟨h0, by omega, by omega, List.length_replicate .., h1, ?_⟩
  show hexF 4 u.toNat ++ [] = _
  rw [List.append_nil]
theorem bits_lo {u0 u i : Int} {xs : List Int} (h : BitsI u0 u i xs) (hu : u ≥ 16) : 63 ≤ i := by
  have i0 := h.i0
  have u1 := h.u1
  rcases Int.lt_or_le i 63 with c | c
  · have e : i = 62 := by omega
    rw [e] at u1
    have : (16 : Int) ^ (62 - 61 : Int).toNat = 16 := rfl
    omega
  · exact c
theorem bits_lt {u0 u i : Int} {xs : List Int} (h : BitsI u0 u i xs) : u < 65536 := by
  have i0 := h.i0
  have i1 := h.i1
  have u1 := h.u1
  have : ∀ q : Fin 5, (16 : Int) ^ q.val ≤ 65536 := by decide
  have := this ⟨(i - 61).toNat, by omega⟩
  simp only at this
  omega
theorem bits_on {u0 u i : Int} {xs : List Int} (h : BitsI u0 u i xs) (hu : u ≥ 16) : BitsI u0 (u / 16) (i - 1) (xs.set (i - 1).toNat ((hexD (u % 16).toNat).toNat : Int)) := by
  have i0 := bits_lo h hu
  obtain ⟨v0, _, i1, l, u1, a⟩ := h
  obtain ⟨k, hk⟩ : ∃ k, (i - 61).toNat = k + 1 := ⟨(i - 62).toNat, by omega⟩
  have hk' : (i - 1 - 61).toNat = k := by omega
  rw [hk] at u1 a
  refine ⟨by omega, by omega, by omega, by rw [List.length_set]; exact l, ?_, ?_⟩
  · rw [hk']
    rw [Int.pow_succ] at u1
    omega
  · rw [hk', byteL_set (by omega) (by omega), ← a, hexF_big (by omega), List.append_assoc]
    have e1 : (u / 16).toNat = u.toNat / 16 := by omega
    have e2 : (u % 16).toNat = u.toNat % 16 := by omega
    rw [e1, e2]
    rfl
theorem bits_fin {u0 u i : Int} {xs : List Int} (h : BitsI u0 u i xs) (hu : ¬ u ≥ 16) : byteL (xs.set (i - 1).toNat ((hexD u.toNat).toNat : Int)) (i - 1) = hexF 4 u0.toNat := by
  obtain ⟨v0, i0, i1, l, u1, a⟩ := h
  obtain ⟨k, hk⟩ : ∃ k, (i - 61).toNat = k + 1 := ⟨(i - 62).toNat, by omega⟩
  rw [hk, hexF_small (by omega)] at a
  rw [byteL_set (by omega) (by omega), ← a]
  rfl
theorem str_byteL (xs : List Int) (i : Int) (h : xs.length = 65) : strI (List.drop i.toNat (List.take (Int.toNat ((65 : Nat) : Int)) xs)) = ofL (byteL xs i) := by
  rw [List.take_of_length_le (by show xs.length ≤ 65; omega)]
  rfl
theorem v138 : Vc g138 300 Tryz.f138 cHexes.T := by
  constructor
  rw [v138_eq]
  rw [show (ByteArray.mk (List.toArray ((48 : UInt8) :: (49 : UInt8) :: (50 : UInt8) :: (51 : UInt8) :: (52 : UInt8) :: (53 : UInt8) :: (54 : UInt8) :: (55 : UInt8) :: (56 : UInt8) :: (57 : UInt8) :: (97 : UInt8) :: (98 : UInt8) :: (99 : UInt8) :: (100 : UInt8) :: (101 : UInt8) :: (102 : UInt8) :: (103 : UInt8) :: (104 : UInt8) :: (105 : UInt8) :: (106 : UInt8) :: (107 : UInt8) :: (108 : UInt8) :: (109 : UInt8) :: (110 : UInt8) :: (111 : UInt8) :: (112 : UInt8) :: (113 : UInt8) :: (114 : UInt8) :: (115 : UInt8) :: (116 : UInt8) :: (117 : UInt8) :: (118 : UInt8) :: (119 : UInt8) :: (120 : UInt8) :: (121 : UInt8) :: (122 : UInt8) :: nilL UInt8)) : ByteArray) = digs from rfl]
  intro x hx
  have hl : x.1.length ≤ 8 := of_decide_eq_true hx.out.2
  have hr : ∀ n ∈ x.1, inR n := by
    have h1 : (decide (x.1.length ≤ maxLen) && x.1.all (typedB U16) && true) = true := hx.out.1
    rw [Bool.and_true, Bool.and_eq_true] at h1
    intro n hn
    have h2 := List.all_eq_true.1 h1.2 n hn
    exact typU16 (of_decide_eq_true h2)
  clear hx
  generalize x.fst = l at *
  have mx : maxLen = 9223372036854775807 := rfl
  have e65 : ((65 : Nat) : Int) = 65 := rfl
  refine ⟨⟨⟨MapI.zero _ _⟩, by repeat' (first | exact ⟨rfl⟩ | apply And.intro)⟩, fun y hy => (bcase_iff _ _ _).2 ⟨fun h => ?_, fun h => ?_⟩⟩
  · have hy := hy.out
    have hlt : y.2 < l.length := of_decide_eq_true h
    have hy0 := hy.i0
    refine ⟨⟨hy0⟩, ⟨hlt⟩, ?_⟩
    have hn : inR (l.getD y.2.toNat 0) := hr _ (getD_memA hy0 hlt)
    have hon := hy.on (z := 0) (by omega) hlt
    generalize l.getD y.2.toNat 0 = n at hn hon ⊢
    obtain ⟨n0, n1⟩ := hn
    have w1 : IntKind.wrap .i64 n = n := w64 n0 (by omega)
    have w2 : IntKind.wrap .u64 n = n := wu64 n0 n1
    rw [w1, w2]
    refine ⟨⟨rfl⟩, (bcase_iff _ _ _).2 ⟨fun hneg => absurd (of_decide_eq_true hneg) (by omega), fun hneg => ?_⟩⟩
    refine ⟨⟨by decide⟩, ⟨⟨bits_zero n0 n1⟩, by repeat' (first | exact ⟨rfl⟩ | exact ⟨by decide⟩ | apply And.intro)⟩, fun z hz => ?_⟩
    have hz := hz.out
    have v0 := hz.v0
    have vt := bits_lt hz
    have q0 := hz.i0
    have q1 := hz.i1
    have ql := hz.l
    have wz : IntKind.wrap .i64 (z.2.1 - 1) = z.2.1 - 1 := w64 (by omega) (by omega)
    rw [and15 v0 vt, shr4 v0, wz, digs_I (u := z.1 % 16) (by omega) (by omega), digs_size, ctz16]
    refine (bcase_iff _ _ _).2 ⟨fun hb => ?_, fun hb => ?_⟩
    · have hb : z.1 ≥ 16 := of_decide_eq_true hb
      have i63 := bits_lo hz hb
      refine ⟨⟨by omega⟩, ⟨by omega⟩, ⟨ql⟩, ⟨by omega⟩, ⟨by omega⟩, ⟨by omega⟩, ⟨bits_on hz hb⟩, ⟨by omega⟩, by repeat' (first | exact ⟨rfl⟩ | exact ⟨by rw [List.length_set]; omega⟩ | apply And.intro)⟩
    · have hb : ¬ z.1 ≥ 16 := of_decide_eq_false hb
      have hf := bits_fin hz hb
      rw [digs_I v0 (by omega)]
      refine ⟨⟨v0⟩, ⟨by omega⟩, ⟨ql⟩, ⟨by omega⟩, ⟨by omega⟩, ?_⟩
      refine (bcase_iff _ _ _).2 ⟨fun hneg => absurd (of_decide_eq_true hneg) (by omega), fun hneg => ?_⟩
      rw [str_byteL _ _ (by rw [List.length_set]; exact ql), hf]
      have hle : y.1.length ≤ 8 := by rw [hy.a, List.length_map, List.length_take]; omega
      have e1 : ∀ b : ByteArray, (b :: nilL ByteArray).length = 1 := fun _ => rfl
      refine ⟨⟨by omega⟩, ⟨by omega⟩, ⟨by omega⟩, ⟨by rw [List.length_set]; exact ql⟩, ⟨by rw [List.length_drop, List.length_take, List.length_set, mx]; omega⟩, ⟨by rw [e1]; omega⟩, ⟨hon.1⟩, ⟨hon.2⟩, by repeat' (first | exact ⟨rfl⟩ | apply And.intro)⟩
  · have hf := hy.out.fin (of_decide_eq_false h)
    have e58 : (ByteArray.mk (List.toArray ((58 : UInt8) :: nilL UInt8)) : ByteArray) = ofL [58] := rfl
    have ej : joinL y.1 (ofL [58]) = hexesL l := by
      unfold joinL hexesL
      rw [hf, bytesL_ofL, List.map_map]
      congr 1
    have hh := hexesL_len hl
    rw [e58]
    refine ⟨⟨?_⟩, ?_⟩
    · rw [ej, Bool.and_eq_true, decide_eq_true_eq, decide_eq_true_eq, hf, List.length_map]
      omega
    · unfold joinS
      rw [ej]
      rfl
end Go.Proofs.YtfhlceooobabcaaGreatDoor.Wd
set_option linter.all false
namespace Go.Proofs.YtfhlceooobabcaaGreatDoor.Wd
open Go Go.Eng Go.Lb Go.Ad
set_option maxRecDepth 100000
set_option maxHeartbeats 8000000
def hexU (n : Nat) : UInt8 := bif decide (n < 10) then UInt8.ofNat (48 + n) else UInt8.ofNat (55 + n)
def hexChar (b : UInt8) : Bool := (hexV b).isSome
theorem hex_all : ((List.range 16).all fun d => decide (hexV (hexD d) = some d) && decide (hexV (hexU d) = some d)) = true := by decide +kernel
theorem hexV_D {d : Nat} (h : d < 16) : hexV (hexD d) = some d ∧ hexV (hexU d) = some d := by
  have := List.all_eq_true.1 hex_all d (List.mem_range.2 h)
  simpa using this
theorem grp_cons {acc d : Nat} {b : UInt8} (r : List UInt8) (hb : hexV b = some d) (h : acc * 16 + d ≤ 65535) : grpL acc (b :: r) = grpL (acc * 16 + d) r := by
  rw [grpL, hb]
  simp [h]
theorem grpL_hex {n : Nat} (h : n < 65536) : grpL 0 (hexL n) = some n ∧ 1 ≤ (hexL n).length ∧ (hexL n).length ≤ 4 ∧ ∀ b ∈ hexL n, hexChar b = true := by
  have c : ∀ d, d < 16 → hexChar (hexD d) = true := fun d hd => by unfold hexChar; rw [(hexV_D hd).1]; rfl
  have v : ∀ d, d < 16 → hexV (hexD d) = some d := fun d hd => (hexV_D hd).1
  unfold hexL
  by_cases h1 : n < 16
  · have e : hexF 4 n = [hexD n] := by simp [hexF, h1]
    rw [e, grp_cons _ (v n h1) (by omega)]
    simp [grpL, c n h1]
  by_cases h2 : n < 256
  · have e : hexF 4 n = [hexD (n / 16), hexD (n % 16)] := by simp [hexF, h1, show n / 16 < 16 by omega]
    rw [e, grp_cons _ (v (n / 16) (by omega)) (by omega), grp_cons _ (v (n % 16) (by omega)) (by omega)]
    refine ⟨?_, by simp, by simp, ?_⟩
    · rw [grpL]; congr 1; omega
    · simp [c (n / 16) (by omega), c (n % 16) (by omega)]
  by_cases h3 : n < 4096
  · have e : hexF 4 n = [hexD (n / 16 / 16), hexD (n / 16 % 16), hexD (n % 16)] := by simp [hexF, h1, show ¬ n / 16 < 16 by omega, show n / 16 / 16 < 16 by omega]
    rw [e, grp_cons _ (v (n / 16 / 16) (by omega)) (by omega), grp_cons _ (v (n / 16 % 16) (by omega)) (by omega), grp_cons _ (v (n % 16) (by omega)) (by omega)]
    refine ⟨?_, by simp, by simp, ?_⟩
    · rw [grpL]; congr 1; omega
    · simp [c (n / 16 / 16) (by omega), c (n / 16 % 16) (by omega), c (n % 16) (by omega)]
  · have e : hexF 4 n = [hexD (n / 16 / 16 / 16), hexD (n / 16 / 16 % 16), hexD (n / 16 % 16), hexD (n % 16)] := by
      simp [hexF, h1, show ¬ n / 16 < 16 by omega, show ¬ n / 16 / 16 < 16 by omega, show n / 16 / 16 / 16 < 16 by omega]
    rw [e, grp_cons _ (v (n / 16 / 16 / 16) (by omega)) (by omega), grp_cons _ (v (n / 16 / 16 % 16) (by omega)) (by omega), grp_cons _ (v (n / 16 % 16) (by omega)) (by omega), grp_cons _ (v (n % 16) (by omega)) (by omega)]
    refine ⟨?_, by simp, by simp, ?_⟩
    · rw [grpL]; congr 1; omega
    · simp [c (n / 16 / 16 / 16) (by omega), c (n / 16 / 16 % 16) (by omega), c (n / 16 % 16) (by omega), c (n % 16) (by omega)]
theorem join_cc (a b : List UInt8) (r : List (List UInt8)) (d : List UInt8) : Go.Lib.join (a :: b :: r) d = a ++ d ++ Go.Lib.join (b :: r) d := by
  rw [Go.Lib.join_cons, Go.Lib.join_cons]
  simp [Go.Lib.joinTail]
theorem join_snoc (q : List UInt8) (d : List UInt8) : ∀ (ps : List (List UInt8)), ps ≠ [] → Go.Lib.join (ps ++ [q]) d = Go.Lib.join ps d ++ (d ++ q)
  | [], h => absurd rfl h
  | [p], _ => by
    show Go.Lib.join (p :: q :: []) d = _
    rw [join_cc]
    simp [Go.Lib.join_one]
  | p :: r :: ps, _ => by
    show Go.Lib.join (p :: r :: (ps ++ [q])) d = _
    rw [join_cc, join_cc]
    have := join_snoc q d (r :: ps) (by simp)
    rw [List.cons_append] at this
    rw [this]
    simp
theorem hexF_fuel : ∀ (f m : Nat), 1 ≤ f → m < 16 ^ f → hexF (f + 1) m = hexF f m
  | f + 1, m, _, h => by
    rcases Nat.lt_or_ge m 16 with c | c
    · rw [hexF_small c, hexF_small c]
    · rw [hexF_big c, hexF_big (k := f) c]
      cases f with
      | zero => simp at h; omega
      | succ f => rw [hexF_fuel (f + 1) (m / 16) (by omega) (by rw [Nat.pow_succ] at h; omega)]
theorem digF_big {k n : Nat} (h : 10 ≤ n) : digF (k + 1) n = digF k (n / 10) ++ [UInt8.ofNat (48 + n % 10)] := by
  rw [digF, show decide (n < 10) = false from decide_eq_false (by omega), cond_false]
theorem digF_small {k n : Nat} (h : n < 10) : digF (k + 1) n = [UInt8.ofNat (48 + n)] := by
  rw [digF, show decide (n < 10) = true from decide_eq_true h, cond_true]
theorem digF_fuel : ∀ (f m : Nat), 1 ≤ f → m < 10 ^ f → digF (f + 1) m = digF f m
  | f + 1, m, _, h => by
    rcases Nat.lt_or_ge m 10 with c | c
    · rw [digF_small c, digF_small c]
    · rw [digF_big c, digF_big (k := f) c]
      cases f with
      | zero => simp at h; omega
      | succ f => rw [digF_fuel (f + 1) (m / 10) (by omega) (by rw [Nat.pow_succ] at h; omega)]
theorem hexD_lo {n : Nat} (h : n < 10) : hexD n = UInt8.ofNat (48 + n) := by
  unfold hexD
  rw [decide_eq_true h]
  rfl
theorem dgL_step {b n : Int} (hb : b = 10 ∨ b = 16) (h0 : 0 < n) (h1 : n ≤ 65535) :
    (n / b = 0 ∧ dgL b n = [hexD (n % b).toNat]) ∨ (0 < n / b ∧ dgL b n = dgL b (n / b) ++ [hexD (n % b).toNat]) := by
  obtain ⟨m, rfl⟩ : ∃ m : Nat, n = m := ⟨n.toNat, by omega⟩
  rcases hb with rfl | rfl
  · have e : ∀ k : Int, dgL 10 k = digF 5 k.toNat := fun _ => rfl
    have e1 : ((m : Int) / 10).toNat = m / 10 := by omega
    have e2 : ((m : Int) % 10).toNat = m % 10 := by omega
    rw [e, e, e1, e2, hexD_lo (by omega), Int.toNat_natCast]
    rcases Nat.lt_or_ge m 10 with c | c
    · refine .inl ⟨by omega, ?_⟩
      rw [digF_small c, show m % 10 = m from Nat.mod_eq_of_lt c]
    · refine .inr ⟨by omega, ?_⟩
      rw [digF_big c, digF_fuel 4 (m / 10) (by omega) (by show m / 10 < 10000; omega)]
  · have e : ∀ k : Int, dgL 16 k = hexF 4 k.toNat := fun _ => rfl
    have e1 : ((m : Int) / 16).toNat = m / 16 := by omega
    have e2 : ((m : Int) % 16).toNat = m % 16 := by omega
    rw [e, e, e1, e2, Int.toNat_natCast]
    rcases Nat.lt_or_ge m 16 with c | c
    · refine .inl ⟨by omega, ?_⟩
      rw [hexF_small c, show m % 16 = m from Nat.mod_eq_of_lt c]
    · refine .inr ⟨by omega, ?_⟩
      rw [hexF_big c, hexF_fuel 3 (m / 16) (by omega) (by show m / 16 < 4096; omega)]
def LOWS : ByteArray := ByteArray.mk (List.toArray ((48 : UInt8) :: (49 : UInt8) :: (50 : UInt8) :: (51 : UInt8) :: (52 : UInt8) :: (53 : UInt8) :: (54 : UInt8) :: (55 : UInt8) :: (56 : UInt8) :: (57 : UInt8) :: (97 : UInt8) :: (98 : UInt8) :: (99 : UInt8) :: (100 : UInt8) :: (101 : UInt8) :: (102 : UInt8) :: nilL UInt8))
theorem lows_all : ((List.range 16).all fun d => decide (subS LOWS d (d + 1) = ofL [hexD d])) = true := by decide +kernel
theorem lows_at {d : Int} (h0 : 0 ≤ d) (h : d < 16) : subS LOWS d.toNat (d + 1).toNat = ofL [hexD d.toNat] := by
  rw [show (d + 1).toNat = d.toNat + 1 by omega]
  exact of_decide_eq_true (List.all_eq_true.1 lows_all d.toNat (List.mem_range.2 (by omega)))
theorem dgL_len (b n : Int) : (dgL b n).length ≤ 5 := by
  unfold dgL
  cases decide (b = 16) with
  | true => have := hexF_len 4 n.toNat; rw [cond_true]; exact Nat.le_succ_of_le this
  | false => exact digF_len 5 n.toNat
theorem dgR_sz {b m n : Int} {s : ByteArray} (h : DgRI b m n s) : s.size ≤ 5 := by
  have hm := dgL_len b m
  rcases h.e with ⟨_, e⟩ | ⟨_, e⟩
  · rw [e, ofL_size]; exact hm
  · rw [← e, List.length_append, ← size_bytesL] at hm; omega
theorem v113 : Vc g113 300 Tryz.f113 cDigs := by
  constructor
  rw [v113_eq]
  rw [show (ByteArray.mk (List.toArray ((48 : UInt8) :: (49 : UInt8) :: (50 : UInt8) :: (51 : UInt8) :: (52 : UInt8) :: (53 : UInt8) :: (54 : UInt8) :: (55 : UInt8) :: (56 : UInt8) :: (57 : UInt8) :: (97 : UInt8) :: (98 : UInt8) :: (99 : UInt8) :: (100 : UInt8) :: (101 : UInt8) :: (102 : UInt8) :: nilL UInt8)) : ByteArray) = LOWS from rfl]
  intro x hx
  have hx := hx.out
  generalize x.fst = n at *
  generalize x.snd.fst = b at *
  have hx : ((0 : Int) ≤ n ∧ n ≤ 65535) ∧ (b = 10 ∨ b = 16) := by
    rw [Bool.and_eq_true, Bool.and_eq_true, Bool.or_eq_true, decide_eq_true_eq, decide_eq_true_eq, decide_eq_true_eq, decide_eq_true_eq] at hx
    exact hx
  obtain ⟨⟨n0, n1⟩, hb⟩ := hx
  have mx : maxLen = 9223372036854775807 := rfl
  have ls : LOWS.size = 16 := rfl
  refine (bcase_iff _ _ _).2 ⟨fun h => ?_, fun h => ?_⟩
  · have h : n = 0 := of_decide_eq_true h
    subst h
    rcases hb with rfl | rfl <;> rfl
  · have h : ¬ n = 0 := of_decide_eq_false h
    refine ⟨⟨⟨⟨n0, n1, .inr ⟨by omega, List.append_nil _⟩⟩⟩, by repeat' (first | exact ⟨rfl⟩ | apply And.intro)⟩, fun y hy => (bcase_iff _ _ _).2 ⟨fun h => ?_, fun h => ?_⟩⟩
    · have hy := hy.out
      have hs := dgR_sz hy
      obtain ⟨y0, y1, e⟩ := hy
      have h : y.1 > 0 := of_decide_eq_true h
      rcases e with ⟨e, _⟩ | ⟨_, e⟩
      · omega
      have hst := dgL_step hb h y1
      have t1 : Int.tmod y.1 b = y.1 % b := Int.tmod_eq_emod_of_nonneg y0
      have t2 : Int.tdiv y.1 b = y.1 / b := Int.tdiv_eq_ediv_of_nonneg y0
      have m0 : 0 ≤ y.1 % b ∧ y.1 % b < 16 ∧ 0 ≤ y.1 / b ∧ y.1 / b < y.1 := by rcases hb with rfl | rfl <;> omega
      obtain ⟨m0, m1, m2, m3⟩ := m0
      have b0 : b ≠ 0 := by omega
      rw [t1, t2, w64 (n := y.1 % b + 1) (by omega) (by omega), w64 (n := y.1 / b) (by omega) (by omega), lows_at m0 m1]
      refine ⟨⟨b0⟩, ⟨b0⟩, ⟨m0⟩, ⟨by omega⟩, ⟨by rw [ls]; omega⟩, ⟨by rw [ofL_size, mx]; show 1 + _ ≤ _; omega⟩, ⟨b0⟩, ⟨⟨by omega, by omega, ?_⟩⟩, ⟨by omega⟩, by repeat' (first | exact ⟨rfl⟩ | apply And.intro)⟩
      rcases hst with ⟨q, hst⟩ | ⟨q, hst⟩
      · refine .inl ⟨q, ?_⟩
        rw [← e, hst]
        apply bytesL_inj
        rw [bytesL_ofL]
        simp [bytesL, ofL]
      · refine .inr ⟨q, ?_⟩
        rw [← e, hst]
        simp [bytesL, ofL]
    · have h : ¬ y.1 > 0 := of_decide_eq_false h
      obtain ⟨y0, y1, e⟩ := hy.out
      rcases e with ⟨_, e⟩ | ⟨e, _⟩
      · rw [e]; rfl
      · omega
/-! the longest run -/
def pat (l : List Int) : List Int := l.map fun x => bif decide (x = 0) then 0 else 1
theorem pat_zero (x : Int) : decide ((bif decide (x = 0) then (0 : Int) else 1) = 0) = decide (x = 0) := by
  by_cases h : x = 0 <;> simp [h]
theorem long_pat : ∀ (l : List Int) (i n a m : Int), longGo i n a m (pat l) = longGo i n a m l
  | [], _, _, _, _ => rfl
  | x :: r, i, n, a, m => by
    show longGo i n a m ((bif decide (x = 0) then 0 else 1) :: pat r) = _
    rw [longGo, longGo, pat_zero, long_pat r, long_pat r, long_pat r]
theorem zc_pat : ∀ (l : List Int), zc (pat l) = zc l
  | [] => rfl
  | x :: r => by
    show zc ((bif decide (x = 0) then 0 else 1) :: pat r) = _
    rw [zc, zc, pat_zero, zc_pat r]
theorem runG_pat (l : List Int) : ∀ i, runG (pat l) i = runG l i
  | 0 => rfl
  | i + 1 => by
    have : (pat l).drop i = pat (l.drop i) := List.map_drop.symm
    rw [runG, runG, runG_pat l i, this, zc_pat]
def rr (p : Int × Int) : Int × Int := bif decide (p.2 = 0) then (-1, 1) else p
def b8 (b : Bool) : Int := bif b then 0 else 1
theorem run_all : ∀ a b c d e f g h : Bool, runG [b8 a, b8 b, b8 c, b8 d, b8 e, b8 f, b8 g, b8 h] 8 = rr (longL [b8 a, b8 b, b8 c, b8 d, b8 e, b8 f, b8 g, b8 h]) := by decide +kernel
theorem run_eq (g : G8) : runG (gl g) 8 = (run1 g, run2 g) := by
  have h : runG (gl g) 8 = rr (longL (gl g)) := by
    rw [← runG_pat]
    unfold longL
    rw [← long_pat]
    exact run_all (decide (g.1 = 0)) (decide (g.2.1 = 0)) (decide (g.2.2.1 = 0)) (decide (g.2.2.2.1 = 0)) (decide (g.2.2.2.2.1 = 0)) (decide (g.2.2.2.2.2.1 = 0)) (decide (g.2.2.2.2.2.2.1 = 0)) (decide (g.2.2.2.2.2.2.2.1 = 0))
  rw [h]
  unfold run1 run2 rr long1 long2
  cases decide ((longL (gl g)).2 = 0) <;> rfl
theorem zc_step {l : List Int} {k : Int} (h0 : 0 ≤ k) (h : k < l.length) : zc (l.drop k.toNat) = if l.getD k.toNat 0 = 0 then zc (l.drop (k + 1).toNat) + 1 else 0 := by
  rw [drop_cons l k 0 h0 h, zc]
  by_cases hz : l.getD k.toNat 0 = 0
  · rw [decide_eq_true hz, cond_true, if_pos hz]
  · rw [decide_eq_false hz, cond_false, if_neg hz]
theorem v142 : Vc g142 300 Tryz.f142 cRun := by
  constructor
  rw [v142_eq]
  intro x _
  generalize x.fst = g
  have hg : (g.1 :: g.2.1 :: g.2.2.1 :: g.2.2.2.1 :: g.2.2.2.2.1 :: g.2.2.2.2.2.1 :: g.2.2.2.2.2.2.1 :: g.2.2.2.2.2.2.2.1 :: nilL Int) = gl g := rfl
  have hl := len_gl g
  rw [hg]
  refine ⟨⟨⟨⟨by omega, by omega, rfl⟩⟩, by repeat' (first | exact ⟨rfl⟩ | apply And.intro)⟩, fun y hy => (bcase_iff _ _ _).2 ⟨fun h => ?_, fun h => ?_⟩⟩
  · obtain ⟨i0, i1, e⟩ := hy.out
    have h : y.2.2 < 8 := of_decide_eq_true h
    have en : (y.2.2 + 1).toNat = y.2.2.toNat + 1 := by omega
    refine ⟨⟨⟨⟨by omega, by omega, by simp⟩⟩, by repeat' (first | exact ⟨rfl⟩ | apply And.intro)⟩, fun z hz => ?_⟩
    obtain ⟨n0, n1, ez⟩ := hz.out
    have w1 : IntKind.wrap .i64 (y.2.2 + z) = y.2.2 + z := w64 (by omega) (by omega)
    rw [w1]
    refine ⟨⟨fun _ => by omega⟩, ⟨fun h => of_decide_eq_true h⟩, (bcase_iff _ _ _).2 ⟨fun hb => ?_, fun hb => ?_⟩⟩
    · rw [Bool.and_eq_true, decide_eq_true_eq, decide_eq_true_eq] at hb
      rw [w64 (by omega) (by omega)]
      refine ⟨⟨⟨by omega, by omega, ?_⟩⟩, ⟨by omega⟩, by repeat' (first | exact ⟨rfl⟩ | apply And.intro)⟩
      rw [ez, zc_step (k := y.2.2 + z) (by omega) (by omega), if_pos hb.2, Int.add_assoc]
      omega
    · rw [Bool.and_eq_false_iff, decide_eq_false_iff_not, decide_eq_false_iff_not] at hb
      have hz0 : zc ((gl g).drop (y.2.2 + z).toNat) = 0 := by
        by_cases h8 : y.2.2 + z < 8
        · rw [zc_step (k := y.2.2 + z) (by omega) (by omega), if_neg (by rcases hb with hb | hb; exact absurd h8 hb; exact hb)]
        · rw [List.drop_eq_nil_iff.2 (by omega)]
          rfl
      have hzc : ((zc ((gl g).drop y.2.2.toNat) : Nat) : Int) = z := by rw [ez, hz0]; omega
      have ha : y.1 = (runG (gl g) y.2.2.toNat).1 := congrArg Prod.fst e
      have hm : y.2.1 = (runG (gl g) y.2.2.toNat).2 := congrArg Prod.snd e
      have hmu : 8 - (IntKind.wrap .i64 (y.2.2 + 1)).toNat < 8 - y.2.2.toNat := by rw [w64 (by omega) (by omega)]; omega
      have w2 : IntKind.wrap .i64 (y.2.2 + 1) = y.2.2 + 1 := w64 (by omega) (by omega)
      refine (bcase_iff _ _ _).2 ⟨fun hb => ⟨⟨?_⟩, ⟨hmu⟩, by repeat' (first | exact ⟨rfl⟩ | apply And.intro)⟩, fun hb => ⟨⟨?_⟩, ⟨hmu⟩, by repeat' (first | exact ⟨rfl⟩ | apply And.intro)⟩⟩
      · rw [w2]
        refine ⟨by omega, by omega, ?_⟩
        rw [en, runG, hzc, ← hm, hb, cond_true]
        congr 1
        omega
      · rw [w2]
        refine ⟨by omega, by omega, ?_⟩
        rw [en, runG, hzc, ← hm, hb, cond_false]
        exact e
  · obtain ⟨i0, i1, e⟩ := hy.out
    have h : ¬ y.2.2 < 8 := of_decide_eq_false h
    have e8 : y.2.2.toNat = 8 := by omega
    rw [e8, run_eq] at e
    have ha : y.1 = run1 g := congrArg Prod.fst e
    have hm : y.2.1 = run2 g := congrArg Prod.snd e
    rw [ha, hm]
theorem hexesL_snoc {l : List Int} (x : Int) (h : l ≠ []) : hexesL (l ++ [x]) = hexesL l ++ ([58] ++ hexL x.toNat) := by
  unfold hexesL
  rw [List.map_append, List.map_cons, List.map_nil, join_snoc _ _ _ (by simpa using h)]
theorem hexesL_one (x : Int) : hexesL [x] = hexL x.toNat := Go.Lib.join_one _ _
theorem hexL_last {x : Int} (h : inR x) : ∃ b, (hexL x.toNat).getLast? = some b ∧ b ≠ 58 := by
  obtain ⟨_, h1, _, h2⟩ := grpL_hex (n := x.toNat) (by have := h.1; have := h.2; omega)
  cases hl : (hexL x.toNat).getLast? with
  | none => rw [List.getLast?_eq_none_iff] at hl; rw [hl] at h1; simp at h1
  | some b =>
    refine ⟨b, rfl, fun e => ?_⟩
    have := h2 b (List.mem_of_getLast? hl)
    rw [e] at this
    exact absurd this (by decide)
theorem hexesL_last {m : List Int} (h : m ≠ []) (hr : ∀ x ∈ m, inR x) : ∃ b, (hexesL m).getLast? = some b ∧ b ≠ 58 := by
  obtain ⟨r, x, rfl⟩ : ∃ r x, m = r ++ [x] := ⟨m.dropLast, m.getLast h, (List.dropLast_concat_getLast h).symm⟩
  obtain ⟨b, hb, hn⟩ := hexL_last (hr x (by simp))
  refine ⟨b, ?_, hn⟩
  by_cases hr : r = []
  · subst hr
    rw [List.nil_append, hexesL_one]
    exact hb
  · rw [hexesL_snoc x hr, List.getLast?_append, List.getLast?_append, hb]; rfl
def endC (t : List UInt8) : Bool := match t.getLast? with
  | none => false
  | some b => decide (b ≠ 58)
theorem endC_eq (t : List UInt8) (ht : t.length ≤ 1000) : (!decide (ofL t = ofL []) && !decide (byteAt (ofL t) (IntKind.wrap .i64 ((((ofL t).size : Nat) : Int) - 1)).toNat = 58)) = endC t := by
  unfold endC
  cases hl : t.getLast? with
  | none =>
    rw [List.getLast?_eq_none_iff] at hl
    subst hl
    rw [decide_eq_true (rfl : ofL [] = ofL [])]
    rfl
  | some b =>
    have hne : t ≠ [] := by intro e; rw [e] at hl; cases hl
    have h1 : 1 ≤ t.length := by cases t with | nil => exact absurd rfl hne | cons _ _ => simp
    have n0 : ¬ ofL t = ofL [] := fun e => hne (by have := congrArg bytesL e; rwa [bytesL_ofL, bytesL_ofL] at this)
    have w : IntKind.wrap .i64 ((((ofL t).size : Nat) : Int) - 1) = (t.length : Int) - 1 := by rw [ofL_size, w64 (by omega) (by omega)]
    rw [w, decide_eq_false n0, byteAt_eq, bytesL_ofL, show ((t.length : Int) - 1).toNat = t.length - 1 from by omega]
    rw [List.getLast?_eq_getElem?] at hl
    rw [List.getD_eq_getElem?_getD, hl, Option.getD_some, Bool.not_false, Bool.true_and]
    show (!decide ((b.toNat : Int) = 58)) = decide (b ≠ 58)
    by_cases hb : b = 58
    · subst hb; rfl
    · rw [decide_eq_true (show b ≠ 58 from hb), decide_eq_false (fun e => hb (UInt8.toNat_inj.1 (by show b.toNat = 58; omega)))]; rfl
theorem tail_step {pre : List UInt8} {m : List Int} (n : Int) (hp : pre = [] ∨ pre.getLast? = some 58) (hr : ∀ x ∈ m, inR x) :
    pre ++ hexesL (m ++ [n]) = (bif endC (pre ++ hexesL m) then pre ++ hexesL m ++ [58] else pre ++ hexesL m) ++ hexL n.toNat := by
  by_cases hm : m = []
  · subst hm
    have e : endC (pre ++ hexesL []) = false := by
      rw [show hexesL [] = [] from rfl, List.append_nil]
      unfold endC
      rcases hp with rfl | hp
      · rfl
      · rw [hp]; rfl
    rw [e, cond_false, show hexesL [] = [] from rfl, List.append_nil, List.nil_append, hexesL_one]
  · obtain ⟨b, hb, hn⟩ := hexesL_last hm hr
    have e : endC (pre ++ hexesL m) = true := by
      unfold endC
      rw [List.getLast?_append, hb]
      exact decide_eq_true hn
    rw [e, cond_true, hexesL_snoc n hm]
    simp
theorem long_facts {g : G8} (h : ¬ long2 g = 0) : 2 ≤ long2 g ∧ 0 ≤ long1 g ∧ long1 g + long2 g ≤ 8 := by
  have hl := longL_ok (gl g)
  rcases hl with h' | ⟨h1, h2, h3, _⟩
  · exact absurd h' h
  · exact ⟨h1, h2, h3⟩
theorem sixP_lo {g : G8} {i : Int} (h : long2 g = 0 ∨ i ≤ long1 g) : sixP g i = hexesL ((gl g).take i.toNat) := by
  unfold sixP
  rw [show (decide (long2 g = 0) || decide (i ≤ long1 g)) = true by simpa using h, cond_true]
theorem sixP_hi {g : G8} {i : Int} (h0 : ¬ long2 g = 0) (h : ¬ i ≤ long1 g) : sixP g i = hexesL ((gl g).take (long1 g).toNat) ++ [58, 58] ++ hexesL (((gl g).take i.toNat).drop (long1 g + long2 g).toNat) := by
  unfold sixP
  rw [decide_eq_false h0, decide_eq_false h]
  rfl
theorem sixP_len (g : G8) (i : Int) : (sixP g i).length ≤ 100 := by
  have h1 := hexesL_len (l := (gl g).take i.toNat) (by rw [List.length_take, len_gl]; omega)
  have h2 := hexesL_len (l := (gl g).take (long1 g).toNat) (by rw [List.length_take, len_gl]; omega)
  have h3 := hexesL_len (l := ((gl g).take i.toNat).drop (long1 g + long2 g).toNat) (by rw [List.length_drop, List.length_take, len_gl]; omega)
  unfold sixP
  cases (decide (long2 g = 0) || decide (i ≤ long1 g)) with
  | true => rw [cond_true]; omega
  | false => rw [cond_false, List.length_append, List.length_append]; show _ + 2 + _ ≤ _; omega
theorem six_run {g : G8} {s : ByteArray} {i : Int} (h : SixRI g s i) (hi : i < 8) (hr : i = run1 g) : ¬ long2 g = 0 ∧ i = long1 g ∧ run2 g = long2 g ∧ SixRI g (s ++ ofL [58, 58]) (i + run2 g) := by
  have i0 := h.i0
  have h0 : ¬ long2 g = 0 := by
    intro h0
    unfold run1 at hr
    rw [decide_eq_true h0, cond_true] at hr
    omega
  have h1 : i = long1 g := by unfold run1 at hr; rw [decide_eq_false h0, cond_false] at hr; exact hr
  have h2 : run2 g = long2 g := by unfold run2; rw [decide_eq_false h0, cond_false]
  obtain ⟨f1, f2, f3⟩ := long_facts h0
  refine ⟨h0, h1, h2, ⟨by omega, by omega, .inr (.inr (by omega)), ?_⟩⟩
  rw [h.e, ofL_app, sixP_lo (.inr (by omega)), sixP_hi h0 (by omega), h2, ← h1]
  congr 1
  have : ((gl g).take (i + long2 g).toNat).drop (i + long2 g).toNat = [] := by
    rw [List.drop_eq_nil_iff, List.length_take]; omega
  rw [this]
  simp [hexesL, Go.Lib.join_nil]
theorem six_on {g : G8} {s : ByteArray} {i : Int} (h : SixRI g s i) (hi : i < 8) (hr : ¬ i = run1 g) (hR : ∀ x ∈ gl g, inR x) :
    ∃ t, s = ofL t ∧ t.length ≤ 100 ∧ SixRI g (ofL ((bif endC t then t ++ [58] else t) ++ hexL ((gl g).getD i.toNat 0).toNat)) (i + 1) := by
  obtain ⟨i0, i1, ho, e⟩ := h
  refine ⟨sixP g i, e, sixP_len g i, ?_⟩
  have ht := take_succ (gl g) i 0 i0 (by rw [len_gl]; omega)
  have hRt : ∀ x ∈ (gl g).take i.toNat, inR x := fun x hx => hR x (List.mem_of_mem_take hx)
  by_cases h0 : long2 g = 0
  · refine ⟨by omega, by omega, .inl h0, ?_⟩
    rw [sixP_lo (.inl h0), sixP_lo (.inl h0), ht]
    have := tail_step (pre := []) ((gl g).getD i.toNat 0) (.inl rfl) hRt
    simp only [List.nil_append] at this
    rw [this]
  · have hr1 : ¬ i = long1 g := by
      intro e1
      apply hr
      unfold run1
      rw [decide_eq_false h0, cond_false]
      exact e1
    obtain ⟨f1, f2, f3⟩ := long_facts h0
    rcases ho with ho | ho | ho
    · exact absurd ho h0
    · refine ⟨by omega, by omega, .inr (.inl (by omega)), ?_⟩
      rw [sixP_lo (.inr ho), sixP_lo (.inr (by omega)), ht]
      have := tail_step (pre := []) ((gl g).getD i.toNat 0) (.inl rfl) hRt
      simp only [List.nil_append] at this
      rw [this]
    · refine ⟨by omega, by omega, .inr (.inr (by omega)), ?_⟩
      rw [sixP_hi h0 (by omega), sixP_hi h0 (by omega), ht]
      have hd : ((gl g).take i.toNat ++ [(gl g).getD i.toNat 0]).drop (long1 g + long2 g).toNat = ((gl g).take i.toNat).drop (long1 g + long2 g).toNat ++ [(gl g).getD i.toNat 0] := by
        rw [List.drop_append_of_le_length]
        rw [List.length_take, len_gl]
        omega
      rw [hd, tail_step (pre := hexesL ((gl g).take (long1 g).toNat) ++ [58, 58]) ((gl g).getD i.toNat 0) (.inr (by rw [List.getLast?_append]; rfl)) (fun x hx => hRt x (List.mem_of_mem_drop hx))]
theorem six_end {g : G8} {s : ByteArray} {i : Int} (h : SixRI g s i) (hi : ¬ i < 8) : s = sixS g := by
  obtain ⟨i0, i1, ho, e⟩ := h
  have e8 : i = 8 := by omega
  subst e8
  have ht : (gl g).take (8 : Int).toNat = gl g := List.take_of_length_le (Nat.le_of_eq (len_gl g))
  rw [e]
  unfold sixS inL
  by_cases h0 : long2 g = 0
  · rw [sixP_lo (.inl h0), decide_eq_true h0, cond_true, ht]
  · obtain ⟨f1, f2, f3⟩ := long_facts h0
    rw [sixP_hi h0 (by omega), decide_eq_false h0, cond_false, ht]
theorem v114 : Vc g114 300 Tryz.f114 cSixS.T := by
  constructor
  rw [v114_eq]
  rw [show (ByteArray.mk (List.toArray ((58 : UInt8) :: nilL UInt8)) : ByteArray) = ofL [58] from rfl, show (ByteArray.mk (List.toArray ((58 : UInt8) :: (58 : UInt8) :: nilL UInt8)) : ByteArray) = ofL [58, 58] from rfl, show (ByteArray.mk (List.toArray (nilL UInt8)) : ByteArray) = ofL [] from rfl]
  intro x hx
  have hR : ∀ z ∈ gl x.1, inR z := by
    have h1 : (typedB G8T x.1 && true) = true := hx.out.1
    have h2 : typedB AdT (0, x.1, 0, ()) = true := by
      have : (typedB G8T x.1 && true) = true := h1
      show (decide (IntKind.wrap .i8 0 = 0) && (typedB G8T x.1 && (decide (IntKind.wrap .i64 0 = 0) && true))) = true
      rw [Bool.and_true] at this
      rw [this]
      decide
    exact (typed_R h2).g
  clear hx
  generalize x.fst = g at *
  have hg : (g.1 :: g.2.1 :: g.2.2.1 :: g.2.2.2.1 :: g.2.2.2.2.1 :: g.2.2.2.2.2.1 :: g.2.2.2.2.2.2.1 :: g.2.2.2.2.2.2.2.1 :: nilL Int) = gl g := rfl
  rw [hg]
  have mx : maxLen = 9223372036854775807 := rfl
  have s1 : (ofL [58]).size = 1 := ofL_size _
  have s2 : (ofL [58, 58]).size = 2 := ofL_size _
  refine ⟨⟨rfl⟩, ⟨⟨⟨by omega, by omega, ?_, ?_⟩⟩, by repeat' (first | exact ⟨rfl⟩ | apply And.intro)⟩, fun y hy => (bcase_iff _ _ _).2 ⟨fun h => ?_, fun h => ?_⟩⟩
  · by_cases h0 : long2 g = 0
    · exact .inl h0
    · exact .inr (.inl (long_facts h0).2.1)
  · have : long2 g = 0 ∨ (0 : Int) ≤ long1 g := by
      by_cases h0 : long2 g = 0
      · exact .inl h0
      · exact .inr (long_facts h0).2.1
    rw [sixP_lo this]
    rfl
  · have hy := hy.out
    have h : y.2 < 8 := of_decide_eq_true h
    have y0 := hy.i0
    have hsz : y.1.size ≤ 100 := by rw [hy.e, ofL_size]; exact sixP_len g y.2
    refine (bcase_iff _ _ _).2 ⟨fun hr => ?_, fun hr => ?_⟩
    · have hr : y.2 = run1 g := of_decide_eq_true hr
      obtain ⟨q0, q1, q2, q3⟩ := six_run hy h hr
      obtain ⟨f1, f2, f3⟩ := long_facts q0
      have e1 : IntKind.wrap .i64 (y.2 + run2 g) = y.2 + run2 g := w64 (by omega) (by omega)
      have e2 : IntKind.wrap .i64 (y.2 + run2 g - 1) = y.2 + run2 g - 1 := w64 (by omega) (by omega)
      have e3 : IntKind.wrap .i64 (y.2 + run2 g - 1 + 1) = y.2 + run2 g := by rw [w64 (by omega) (by omega)]; omega
      rw [e1, e2, e3]
      exact ⟨⟨by rw [s2, mx]; omega⟩, ⟨q3⟩, ⟨by omega⟩, by repeat' (first | exact ⟨rfl⟩ | apply And.intro)⟩
    · have hr : ¬ y.2 = run1 g := of_decide_eq_false hr
      obtain ⟨t, ht, htl, hst⟩ := six_on hy h hr hR
      have hn : inR ((gl g).getD y.2.toNat 0) := hR _ (getD_memA y0 (by rw [len_gl]; omega))
      have wn : IntKind.wrap .i64 ((gl g).getD y.2.toNat 0) = (gl g).getD y.2.toNat 0 := w64 hn.1 (by have := hn.2; omega)
      have w1 : IntKind.wrap .i64 (y.2 + 1) = y.2 + 1 := w64 (by omega) (by omega)
      have hd : dgS ((gl g).getD y.2.toNat 0) 16 = ofL (hexL ((gl g).getD y.2.toNat 0).toNat) := rfl
      have hdl : (dgS ((gl g).getD y.2.toNat 0) 16).size ≤ 5 := by unfold dgS; rw [ofL_size]; exact dgL_len _ _
      have hpre : (decide ((0 : Int) ≤ (gl g).getD y.2.toNat 0) && decide ((gl g).getD y.2.toNat 0 ≤ (65535 : Int)) && (decide ((16 : Int) = (10 : Int)) || decide ((16 : Int) = (16 : Int)))) = true := by
        have := hn.1; have := hn.2
        rw [decide_eq_true (show (0 : Int) ≤ (gl g).getD y.2.toNat 0 by omega), decide_eq_true (show (gl g).getD y.2.toNat 0 ≤ 65535 by omega)]
        rfl
      have hc := endC_eq t (by omega)
      rw [← ht] at hc
      rw [wn, w1, hc]
      have hwz : y.1 = ofL [] ∨ 1 ≤ y.1.size := by
        rw [ht, ofL_size]
        cases t with
        | nil => exact .inl rfl
        | cons _ _ => exact .inr (by simp)
      have hwz' : (!decide (y.1 = ofL [])) = true → 1 ≤ y.1.size := by
        intro h
        rcases hwz with e | e
        · rw [decide_eq_true e] at h; cases h
        · exact e
      have wsz : (!decide (y.1 = ofL [])) = true → IntKind.wrap .i64 ((y.1.size : Int) - 1) = (y.1.size : Int) - 1 := fun h => by
        have := hwz' h
        exact w64 (by omega) (by omega)
      refine ⟨⟨fun h => by have := hwz' h; rw [wsz h]; omega⟩, ⟨fun h => by have := hwz' h; rw [wsz h]; omega⟩, (bcase_iff _ _ _).2 ⟨fun he => ?_, fun he => ?_⟩⟩
      · rw [he, cond_true, ← ofL_app, ← ofL_app, ← ht, ← hd] at hst
        exact ⟨⟨by rw [s1, mx]; omega⟩, ⟨y0⟩, ⟨by omega⟩, ⟨hpre⟩, ⟨by rw [ByteArray.size_append, s1, mx]; omega⟩, ⟨hst⟩, ⟨by omega⟩, by repeat' (first | exact ⟨rfl⟩ | apply And.intro)⟩
      · rw [he, cond_false, ← ofL_app, ← ht, ← hd] at hst
        exact ⟨⟨y0⟩, ⟨by omega⟩, ⟨hpre⟩, ⟨by rw [mx]; omega⟩, ⟨hst⟩, ⟨by omega⟩, by repeat' (first | exact ⟨rfl⟩ | apply And.intro)⟩
  · rw [six_end hy.out (of_decide_eq_false h)]
theorem byte_parts {n : Int} (h : inR n) : IntKind.wrap .i64 (Int.tdiv (IntKind.wrap .i64 n) 256) = ((n.toNat / 256 : Nat) : Int) ∧ Int.tmod (IntKind.wrap .i64 n) 256 = ((n.toNat % 256 : Nat) : Int) := by
  have h0 := h.1
  have h1 := h.2
  rw [w64 (n := n) h0 (by omega), Int.tdiv_eq_ediv_of_nonneg h0, Int.tmod_eq_emod_of_nonneg h0, w64 (by omega) (by omega)]
  omega
theorem dg_pre {n : Int} (h0 : 0 ≤ n) (h1 : n ≤ 65535) : (decide ((0 : Int) ≤ n) && decide (n ≤ (65535 : Int)) && (decide ((10 : Int) = (10 : Int)) || decide ((10 : Int) = (16 : Int)))) = true := by
  rw [decide_eq_true h0, decide_eq_true h1]
  rfl
theorem v78 : Vc g78 300 Tryz.f78 cText.T := by
  constructor
  rw [v78_eq]
  rw [show (ByteArray.mk (List.toArray ((58 : UInt8) :: nilL UInt8)) : ByteArray) = ofL [58] from rfl, show (ByteArray.mk (List.toArray ((91 : UInt8) :: nilL UInt8)) : ByteArray) = ofL [91] from rfl, show (ByteArray.mk (List.toArray ((93 : UInt8) :: nilL UInt8)) : ByteArray) = ofL [93] from rfl, show (ByteArray.mk (List.toArray ((46 : UInt8) :: nilL UInt8)) : ByteArray) = ofL [46] from rfl]
  intro x hx
  have hr : AdR x.1 := by
    have h1 : (typedB AdT x.1 && true) = true := hx.out.1
    rw [Bool.and_true] at h1
    exact typed_R h1
  clear hx
  generalize x.fst = a at *
  have i0 : inR a.2.1.1 := hr.g _ (by simp [gl])
  have i1 : inR a.2.1.2.1 := hr.g _ (by simp [gl])
  have mx : maxLen = 9223372036854775807 := rfl
  have s1 : ∀ b : UInt8, (ofL [b]).size = 1 := fun b => ofL_size [b]
  have hd : ∀ n, (dgS n 10).size ≤ 5 := fun n => by unfold dgS; rw [ofL_size]; exact dgL_len _ _
  refine ⟨⟨rfl⟩, (bcase_iff _ _ _).2 ⟨fun h => text_no' (by simpa using h), fun h => ?_⟩⟩
  have hm : may1 a = true := by simpa using h
  have hm' := (may1_iff a).1 hm
  have hport : dgS a.2.2.1 10 = ofL (digL a.2.2.1.toNat) := rfl
  have hpp := hd a.2.2.1
  have six40 : (sixS a.2.1).size ≤ 100 := by
    unfold sixS
    rw [ofL_size]
    have := six_end (g := a.2.1) (s := ofL (sixP a.2.1 8)) (i := 8) ⟨by omega, by omega, by
      by_cases h0 : long2 a.2.1 = 0
      · exact .inl h0
      · exact .inr (.inr (long_facts h0).2.2), rfl⟩ (by omega)
    have h2 := sixP_len a.2.1 8
    rw [← ofL_size, this] at h2
    unfold sixS at h2
    rwa [ofL_size] at h2
  refine ⟨⟨dg_pre (by omega) (by omega)⟩, ⟨by rw [s1, mx]; omega⟩, (bcase_iff _ _ _).2 ⟨fun h6 => ?_, fun h6 => ?_⟩⟩
  · have k6 : a.1 = 6 := of_decide_eq_true h6
    refine ⟨⟨rfl⟩, ⟨by rw [s1, mx]; omega⟩, ⟨by simp only [ByteArray.size_append, s1, mx]; omega⟩, ⟨by simp only [ByteArray.size_append, s1, mx]; omega⟩, text_yes hm ?_⟩
    rw [hport, show sixS a.2.1 = ofL (inL a.2.1) from rfl, ofL_app, ofL_app, ofL_app, ofL_app]
    unfold text0 hostL
    rw [decide_eq_false (show ¬ a.1 = 4 by omega), cond_false]
    rfl
  · have k4 : a.1 = 4 := by
      have : ¬ a.1 = 6 := of_decide_eq_false h6
      rcases hm'.2 with h | h
      · exact absurd h this
      · exact h.1
    obtain ⟨p1, p2⟩ := byte_parts i0
    obtain ⟨p3, p4⟩ := byte_parts i1
    unfold inR at i0 i1
    rw [p1, p2, p3, p4]
    have d1 := hd ((a.2.1.1.toNat / 256 : Nat) : Int)
    have d2 := hd ((a.2.1.1.toNat % 256 : Nat) : Int)
    have d3 := hd ((a.2.1.2.1.toNat / 256 : Nat) : Int)
    have d4 := hd ((a.2.1.2.1.toNat % 256 : Nat) : Int)
    have fin : dgS ((a.2.1.1.toNat / 256 : Nat) : Int) 10 ++ ofL [46] ++ dgS ((a.2.1.1.toNat % 256 : Nat) : Int) 10 ++ ofL [46] ++ dgS ((a.2.1.2.1.toNat / 256 : Nat) : Int) 10 ++ ofL [46] ++ dgS ((a.2.1.2.1.toNat % 256 : Nat) : Int) 10 ++ (ofL [58] ++ dgS a.2.2.1 10) = ofL (text0 a) := by
      have e : ∀ n : Nat, dgS (n : Int) 10 = ofL (digL n) := fun n => rfl
      rw [hport, e, e, e, e, ofL_app, ofL_app, ofL_app, ofL_app, ofL_app, ofL_app, ofL_app, ofL_app]
      unfold text0 hostL
      rw [decide_eq_true k4, cond_true]
      unfold fourL
      rw [join_cc, join_cc, join_cc, Go.Lib.join_one]
      simp
    have hq := text_yes hm fin
    generalize dgS ((a.2.1.1.toNat / 256 : Nat) : Int) 10 = A at *
    generalize dgS ((a.2.1.1.toNat % 256 : Nat) : Int) 10 = B at *
    generalize dgS ((a.2.1.2.1.toNat / 256 : Nat) : Int) 10 = C at *
    generalize dgS ((a.2.1.2.1.toNat % 256 : Nat) : Int) 10 = D at *
    generalize dgS a.2.2.1 10 = E at *
    repeat' (first | exact hq | with_reducible apply And.intro | exact ⟨dg_pre (by omega) (by omega)⟩ | exact ⟨by decide⟩ | exact ⟨by simp only [ByteArray.size_append, s1, mx]; omega⟩)
theorem rowR_on {l : List Ad} {s : ByteArray} {i : Int} {z : Ad} (h : RowRI l s i) (hl : l.length ≤ 16) (hm : mayA l = true) (hi : i < l.length) :
    (i > 0 → RowRI l (s ++ ofL [32] ++ text1 (l.getD i.toNat z)) (IntKind.wrap .i64 (i + 1))) ∧ (¬ i > 0 → RowRI l (s ++ text1 (l.getD i.toNat z)) (IntKind.wrap .i64 (i + 1))) := by
  obtain ⟨i0, i1, e⟩ := h
  rw [w64 (by omega) (by omega)]
  have hm1 : may1 (l.getD i.toNat z) = true := List.all_eq_true.1 hm _ (getD_memA i0 hi)
  have ht := take_succ l i z i0 hi
  rw [text1_may hm1]
  constructor
  · intro hp
    refine ⟨by omega, by omega, ?_⟩
    rw [ht, List.map_append, List.map_cons, List.map_nil, join_snoc _ _ _ (by
      intro h0
      have := congrArg List.length h0
      rw [List.length_map, List.length_take, List.length_nil] at this
      omega), e, ofL_app, ofL_app]
    simp
  · intro hp
    have : i = 0 := by omega
    subst this
    refine ⟨by omega, by omega, ?_⟩
    rw [ht, e, ofL_app]
    show ofL (Go.Lib.join [] [32] ++ _) = ofL (Go.Lib.join [text0 _] [32])
    rw [Go.Lib.join_nil, Go.Lib.join_one, List.nil_append]
theorem rowR_sz {l : List Ad} {s : ByteArray} {i : Int} (h : RowRI l s i) (hl : l.length ≤ 16) : s.size ≤ 4000 := by
  rw [h.e, ofL_size]
  have := join_le (n := 200) (d := [32]) (ps := (l.take i.toNat).map text0) (by
    intro p hp
    obtain ⟨a, _, rfl⟩ := List.mem_map.1 hp
    exact text0_len a)
  rw [List.length_map, List.length_take] at this
  have h2 : (200 + [(32 : UInt8)].length) * min i.toNat l.length ≤ 201 * 16 := Nat.mul_le_mul (Nat.le_refl _) (by omega)
  omega
theorem v33 : Vc g33 300 Tryz.f33 cRow := by
  constructor
  rw [v33_eq]
  rw [show (ByteArray.mk (List.toArray ((32 : UInt8) :: nilL UInt8)) : ByteArray) = ofL [32] from rfl, show (ByteArray.mk (List.toArray (nilL UInt8)) : ByteArray) = ofL [] from rfl]
  intro x hl
  generalize x.fst = l at *
  have hA := hl.out
  have hl := (lenA_iff l).1 hA
  have mx : maxLen = 9223372036854775807 := rfl
  have s1 : (ofL [32]).size = 1 := ofL_size _
  have no : Go.Ad.rowOk l = false → (ofL [], (20 : Int), ()) = (row1 l, row2 l, ()) := by
    intro h
    unfold row1 row2
    rw [h]
    rfl
  refine ⟨⟨fun _ => hA⟩, (bcase_iff _ _ _).2 ⟨fun h => no ?_, fun h => ?_⟩⟩
  · unfold Go.Ad.rowOk
    simp only [Bool.or_eq_true, Bool.not_eq_true', decide_eq_true_eq] at h
    rcases h with h | h
    · rw [decide_eq_false (show ¬ List.length l ≤ 16 by omega), Bool.false_and]
    · rw [h, Bool.and_false]
  · simp only [Bool.or_eq_false_iff, Bool.not_eq_false', decide_eq_false_iff_not] at h
    obtain ⟨h16, hm⟩ := h
    have h16 : l.length ≤ 16 := by omega
    refine ⟨⟨⟨⟨by omega, by omega, rfl⟩⟩, by repeat' (first | exact ⟨rfl⟩ | apply And.intro)⟩, fun y hy => (bcase_iff _ _ _).2 ⟨fun h => ?_, fun h => ?_⟩⟩
    · have hy := hy.out
      have y0 := hy.i0
      have h : y.2 < l.length := of_decide_eq_true h
      have hon := rowR_on (z := Ty.zero AdT) hy h16 hm h
      have hsz := rowR_sz hy h16
      have htl := text1_len (l.getD y.2.toNat (Ty.zero AdT))
      have hmu : l.length - (IntKind.wrap .i64 (y.2 + 1)).toNat < l.length - y.2.toNat := by
        rw [step y0 (by omega) h]
        exact wcut y0 h
      refine ⟨⟨y0⟩, ⟨h⟩, ?_⟩
      (repeat with_reducible refine ⟨⟨rfl⟩, ?_⟩)
      refine (bcase_iff _ _ _).2 ⟨fun hp => ?_, fun hp => ?_⟩
      · exact ⟨⟨by rw [s1, mx]; omega⟩, ⟨by rw [ByteArray.size_append, s1, mx]; omega⟩, ⟨hon.1 (of_decide_eq_true hp)⟩, ⟨hmu⟩, by repeat' (first | exact ⟨rfl⟩ | apply And.intro)⟩
      · exact ⟨⟨by rw [mx]; omega⟩, ⟨hon.2 (of_decide_eq_false hp)⟩, ⟨hmu⟩, by repeat' (first | exact ⟨rfl⟩ | apply And.intro)⟩
    · have e := hy.out.e
      rw [take_all hy.out.i1 (of_decide_eq_false h)] at e
      have ok : Go.Ad.rowOk l = true := by
        unfold Go.Ad.rowOk
        rw [decide_eq_true (show List.length l ≤ 16 from h16), hm]
        rfl
      unfold row1 row2
      rw [ok, e]
      rfl
end Go.Proofs.YtfhlceooobabcaaGreatDoor.Wd
set_option linter.all false
namespace Go.Proofs.YtfhlceooobabcaaGreatDoor.Wd
open Go Go.Eng Go.Lb Go.Ad
set_option maxRecDepth 100000
set_option maxHeartbeats 8000000
theorem may2_fin {a : Ad} {i : Int} (hp : ¬ a.2.2.1 < 1 ∧ ¬ a.2.2.1 > 65535) (hf : a.1 = 4 ∨ a.1 = 6) (h : May2I a i) (hi : ¬ i < 8 ∨ ¬ a.1 = 4) : may1 a = true := by
  rw [may1_iff]
  refine ⟨⟨by omega, by omega⟩, ?_⟩
  rcases hf with h4 | h6
  · refine .inr ⟨h4, fun x hx => ?_⟩
    obtain ⟨k, hk, e⟩ := List.mem_iff_getElem.1 hx
    rw [List.getElem_drop] at e
    rw [List.length_drop, len_gl] at hk
    have i1 := h.i1
    have i8 : i = 8 := by omega
    have := h.z h4 (2 + k) (by omega) (by omega)
    rw [List.getD_eq_getElem?_getD, List.getElem?_eq_getElem (by rw [len_gl]; omega)] at this
    rw [← e]
    exact this
  · exact .inl h6
theorem v112 : Vc g112 300 Tryz.f112 cMay1 := by
  constructor
  rw [v112_eq]
  intro x _
  generalize x.fst = a
  have hg : (a.2.1.1 :: a.2.1.2.1 :: a.2.1.2.2.1 :: a.2.1.2.2.2.1 :: a.2.1.2.2.2.2.1 :: a.2.1.2.2.2.2.2.1 :: a.2.1.2.2.2.2.2.2.1 :: a.2.1.2.2.2.2.2.2.2.1 :: nilL Int) = gl a.2.1 := rfl
  rw [hg]
  refine (bcase_iff _ _ _).2 ⟨fun h => ?_, fun h => ?_⟩
  · have : may1 a = false := by
      cases hm : may1 a with
      | false => rfl
      | true =>
        exfalso
        have hm := (may1_iff a).1 hm
        simp only [Bool.or_eq_true, Bool.and_eq_true, Bool.not_eq_true', decide_eq_true_eq, decide_eq_false_iff_not] at h
        rcases h with (h | h) | h
        · omega
        · omega
        · rcases hm.2 with h6 | h4
          · exact h.2 h6
          · exact h.1 h4.1
    rw [this]
  · simp only [Bool.or_eq_false_iff, Bool.and_eq_false_iff, Bool.not_eq_false', decide_eq_true_eq, decide_eq_false_iff_not] at h
    obtain ⟨hp, hf⟩ := h
    refine ⟨⟨⟨⟨by omega, by omega, fun _ k h1 h2 => by omega⟩⟩, by repeat' (first | exact ⟨rfl⟩ | apply And.intro)⟩, fun y hy => (bcase_iff _ _ _).2 ⟨fun h => ?_, fun h => ?_⟩⟩
    · have hy := hy.out
      simp only [Bool.and_eq_true, decide_eq_true_eq] at h
      obtain ⟨h8, h4⟩ := h
      have y0 := hy.i0
      refine ⟨⟨by omega⟩, ⟨by omega⟩, (bcase_iff _ _ _).2 ⟨fun h => ?_, fun h => ?_⟩⟩
      · have h : ¬ (gl a.2.1).getD y.toNat 0 = 0 := by simpa using h
        have : may1 a = false := by
          cases hm : may1 a with
          | false => rfl
          | true =>
            exfalso
            have hm := ((may1_iff a).1 hm).2
            rcases hm with h6 | ⟨_, hz⟩
            · omega
            · apply h
              apply hz
              have hl : y.toNat < (gl a.2.1).length := by rw [len_gl]; omega
              rw [List.getD_eq_getElem?_getD, List.getElem?_eq_getElem hl]
              refine List.mem_iff_getElem.2 ⟨y.toNat - 2, by rw [List.length_drop, len_gl]; omega, ?_⟩
              rw [List.getElem_drop]
              simp only [Option.getD_some]
              congr 1
              omega
        rw [this]
      · have h : (gl a.2.1).getD y.toNat 0 = 0 := by simpa using h
        rw [w64 (by omega) (by omega)]
        refine ⟨⟨⟨by omega, by omega, fun h4 k k1 k2 => ?_⟩⟩, ⟨by omega⟩, by repeat' (first | exact ⟨rfl⟩ | apply And.intro)⟩
        rcases Int.lt_or_le (k : Int) y with c | c
        · exact hy.z h4 k k1 c
        · have : k = y.toNat := by omega
          rw [this]; exact h
    · rw [may2_fin hp hf hy.out (by
        simp only [Bool.and_eq_false_iff, decide_eq_false_iff_not] at h
        exact h)]
theorem v77 : Vc g77 300 Tryz.f77 cMay := by
  constructor
  rw [v77_eq]
  intro x hl
  generalize x.fst = l at *
  have hl := (lenA_iff l).1 hl.out
  refine ⟨⟨⟨⟨by omega, by omega, rfl⟩⟩, by repeat' (first | exact ⟨rfl⟩ | apply And.intro)⟩, fun y hy => (bcase_iff _ _ _).2 ⟨fun h => ?_, fun h => ?_⟩⟩
  · have hy := hy.out
    have h := of_decide_eq_true h
    have y0 := hy.i0
    refine ⟨⟨y0⟩, ⟨h⟩, ⟨rfl⟩, ⟨rfl⟩, (bcase_iff _ _ _).2 ⟨fun hm => ?_, fun hm => ?_⟩⟩
    · have : mayA l = false := by
        cases hx : mayA l with
        | false => rfl
        | true =>
          have h1 : may1 (l.getD y.toNat (Ty.zero AdT)) = true := List.all_eq_true.1 hx _ (getD_memA (z := Ty.zero AdT) y0 h)
          have h2 : may1 (l.getD y.toNat (Ty.zero AdT)) = false := by
            rw [Bool.not_eq_true'] at hm
            exact hm
          exact absurd (h1.symm.trans h2) (by decide)
      rw [this]
    · have hm : may1 (l.getD y.toNat (Ty.zero AdT)) = true := by simpa using hm
      rw [step y0 (by omega) h]
      refine ⟨⟨⟨by omega, by omega, ?_⟩⟩, ⟨wcut y0 h⟩, by repeat' (first | exact ⟨rfl⟩ | apply And.intro)⟩
      rw [take_succ l y (Ty.zero AdT) y0 h, List.all_append, hy.a]
      simpa using hm
  · have := hy.out.a
    rw [take_all hy.out.i1 (of_decide_eq_false h)] at this
    rw [show mayA l = true from this]
/-! digits -/
end Go.Proofs.YtfhlceooobabcaaGreatDoor.Wd
set_option linter.all false
namespace Go.Proofs.YtfhlceooobabcaaGreatDoor.Wd
open Go Go.Eng Go.Lb Go.Ad
theorem up {n : FuncId} {c : Contract} (h : Valid Tryz.prog GW n c) : Valid Tryz.prog GA n c := ⟨h.1, fun w hG => h.2 w ⟨hG.max⟩⟩
end Go.Proofs.YtfhlceooobabcaaGreatDoor.Wd
namespace Go.Proofs.YtfhlceooobabcaaGreatDoor.Wd
open Go Go.Eng Go.Lb Go.Ad
set_option maxRecDepth 100000
theorem val137 : Valid Tryz.prog GA 137 cLong := mkValid gas Tb.mix Tb.tab_ok Tb.eqs_ok g137 rfl allV_nil allI_nil Tryz.func137 (by kernel_rfl) v137
theorem val138 : Valid Tryz.prog GA 138 cHexes := Valid.T (mkValid gas Tb.mix Tb.tab_ok Tb.eqs_ok g138 rfl (allV_cons valJoin (allV_cons valTZ allV_nil)) (allI_cons Tryz.func164 (by kernel_rfl) (allI_cons Tryz.func179 (by kernel_rfl) (allI_cons Tryz.func189 (by kernel_rfl) (allI_cons Tryz.func196 (by kernel_rfl) allI_nil)))) Tryz.func138 (by kernel_rfl) v138)
theorem val110 : Valid Tryz.prog GA 110 cText := Valid.T (mkValid gas Tb.mix Tb.tab_ok Tb.eqs_ok g110 rfl (allV_cons (up val45) (allV_cons valJoin (allV_cons valItoa (allV_cons val137 (allV_cons val138 allV_nil))))) allI_nil Tryz.func110 (by kernel_rfl) v110)
theorem val75 : Valid Tryz.prog GA 75 cRow := mkValid gas Tb.mix Tb.tab_ok Tb.eqs_ok g75 rfl (allV_cons val110 (allV_cons valJoin allV_nil)) allI_nil Tryz.func75 (by kernel_rfl) v75
theorem val112 : Valid Tryz.prog GA 112 cMay1 := mkValid gas Tb.mix Tb.tab_ok Tb.eqs_ok g112 rfl allV_nil allI_nil Tryz.func112 (by kernel_rfl) v112
theorem val77 : Valid Tryz.prog GA 77 cMay := mkValid gas Tb.mix Tb.tab_ok Tb.eqs_ok g77 rfl (allV_cons val112 allV_nil) allI_nil Tryz.func77 (by kernel_rfl) v77
theorem val113 : Valid Tryz.prog GA 113 cDigs := mkValid gas Tb.mix Tb.tab_ok Tb.eqs_ok g113 rfl allV_nil allI_nil Tryz.func113 (by kernel_rfl) v113
theorem val142 : Valid Tryz.prog GA 142 cRun := mkValid gas Tb.mix Tb.tab_ok Tb.eqs_ok g142 rfl allV_nil allI_nil Tryz.func142 (by kernel_rfl) v142
theorem val114 : Valid Tryz.prog GA 114 cSixS := Valid.T (mkValid gas Tb.mix Tb.tab_ok Tb.eqs_ok g114 rfl (allV_cons val113 (allV_cons val142 allV_nil)) allI_nil Tryz.func114 (by kernel_rfl) v114)
theorem val78 : Valid Tryz.prog GA 78 cText := Valid.T (mkValid gas Tb.mix Tb.tab_ok Tb.eqs_ok g78 rfl (allV_cons val112 (allV_cons val113 (allV_cons val114 allV_nil))) allI_nil Tryz.func78 (by kernel_rfl) v78)
theorem val33 : Valid Tryz.prog GA 33 cRow := mkValid gas Tb.mix Tb.tab_ok Tb.eqs_ok g33 rfl (allV_cons val77 (allV_cons val78 allV_nil)) allI_nil Tryz.func33 (by kernel_rfl) v33
end Go.Proofs.YtfhlceooobabcaaGreatDoor.Wd
set_option maxRecDepth 100000
namespace Go.Proofs.YtfhlceooobabcaaGreatDoor.Wd
open Go Go.Eng Go.Lb Go.Ad
/-! lookups -/
def zLk : Lk := (0, ByteArray.empty, 0, false, ())
def lkIs (b : Int) (l : Lk) : Bool := decide (l.1 = b)
def nmIs (s : ByteArray) (l : Lk) : Bool := decide (l.2.1 = s)
def ixL (l : List Lk) (b : Int) : Int := idxZ (lkIs b) l
def nthL (l : List Lk) (s : ByteArray) : Int := (List.length (l.filter (nmIs s)) : Nat)
def putLk (w : Wd) (l : List Lk) : Wd := (w.1, w.2.1, w.2.2.1, w.2.2.2.1, l, w.2.2.2.2.2.1, w.2.2.2.2.2.2.1, ())
def getLk (l : List Lk) (i : Int) : Lk := l.getD i.toNat zLk
def doneL (l : Lk) : Lk := (l.1, l.2.1, l.2.2.1, true, ())
def askE (w : Wd) (b : Int) : Int := bif decide (0 ≤ ixL w.2.2.2.2.1 b) then 101 else 0
def askW (w : Wd) (b : Int) (s : ByteArray) : Wd := bif decide (0 ≤ ixL w.2.2.2.2.1 b) then w else putLk w (w.2.2.2.2.1 ++ [(b, s, nthL w.2.2.2.2.1 s, false, ())])
def askedW (w : Wd) (b : Int) : Bool := decide (0 ≤ ixL w.2.2.2.2.1 b) && !(getLk w.2.2.2.2.1 (ixL w.2.2.2.2.1 b)).2.2.2.1
/-! what a plan answers -/
def zIs (s : ByteArray) (z : Zn) : Bool := decide (z.1 = s)
def ansL (p : Pl) (s : ByteArray) : List (List Ad) := match p.1.find? (zIs s) with
  | some z => z.2.1
  | none => []
def rowAt (l : List (List Ad)) (n : Int) : List Ad := bif decide (l.length = 0) then [] else l.getD (min (max n 0) ((l.length : Int) - 1)).toNat []
def ansR (p : Pl) (s : ByteArray) (n : Int) : List Ad := rowAt (ansL p s) n
def ansE (p : Pl) (s : ByteArray) (n : Int) : Int := bif decide ((ansR p s n).length = 0) then 110 else 0
def ansW (w : Wd) (b : Int) : Wd := bif askedW w b then putLk w (w.2.2.2.2.1.set (ixL w.2.2.2.2.1 b).toNat (doneL (getLk w.2.2.2.2.1 (ixL w.2.2.2.2.1 b)))) else w
def ansA (w : Wd) (b : Int) : List Ad := ansR w.1 (getLk w.2.2.2.2.1 (ixL w.2.2.2.2.1 b)).2.1 (getLk w.2.2.2.2.1 (ixL w.2.2.2.2.1 b)).2.2.1
def ansF (w : Wd) (b : Int) : Int := ansE w.1 (getLk w.2.2.2.2.1 (ixL w.2.2.2.2.1 b)).2.1 (getLk w.2.2.2.2.1 (ixL w.2.2.2.2.1 b)).2.2.1
def ansM (w : Wd) (b : Int) : Lt := bif askedW w b then (bif decide (ansF w b = 0) && decide (row2 (ansA w b) = 0) then (7, 0, 0, 0, row1 (ansA w b), 0, ()) else (7, 0, 0, 0, ByteArray.empty, 110, ())) else zL
def ansErr (w : Wd) (b : Int) : Int := bif askedW w b then 0 else 101
/-! contracts -/
def okK (w : Wd) : Bool := decide (w.2.2.2.2.1.length ≤ 1000000)
def okKG (o : Option (Wd × Unit)) : Bool := o.isSome && okK (glW o)
def cLookP : Contract := conD (.cons (.ptr GlobeT) (.cons I64 .unit)) (.cons I64 .unit) (fun x => okKG x.1) fun x => (ixL (glW x.1).2.2.2.2.1 x.2.1, ())
def cAsk : Contract := conD (.cons WorldT (.cons I64 (.cons .str .unit))) (.cons WorldT (.cons I64 .unit)) (fun x => okK x.1) fun x => (askW x.1 x.2.1 x.2.2.1, (askE x.1 x.2.1, ()))
def cAsked : Contract := conD (.cons WorldT (.cons I64 .unit)) (.cons .bool .unit) (fun x => okK x.1) fun x => (askedW x.1 x.2.1, ())
def cAnsP : Contract := conD (.cons PlanT (.cons .str (.cons I64 .unit))) (.cons AdL (.cons I64 .unit)) (fun x => checkB x.1) fun x => (ansR x.1 x.2.1 x.2.2.1, (ansE x.1 x.2.1 x.2.2.1, ()))
def cAnsW : Contract := conD (.cons WorldT (.cons I64 .unit)) (.cons WorldT (.cons LetT (.cons I64 .unit))) (fun x => okK x.1 && checkB x.1.1) fun x => (ansW x.1 x.2.1, (ansM x.1 x.2.1, (ansErr x.1 x.2.1, ())))
def cNth : Contract := conD (.cons I64 (.cons I64 .unit)) (.cons I64 .unit) (fun x => decide ((0 : Int) ≤ x.1) && decide (x.1 ≤ (1000000 : Int))) fun x => (min (max x.2.1 0) (x.1 - 1), ())
/-! loops -/
def manyK (nx : Nat) (p : St → Lk → Bool) : LoopAnn where
  α := Int × Int
  keep := [0, 1, 7, 8]
  okeep := []
  nxt := nx
  env := fun _ x => [(9, .dat I64 x.1), (4, .dat I64 x.2)]
  own := fun _ _ => []
  inv := fun s x => CntI (p s) (bDat (.sl LookT) s 0).out x.1 x.2
  mu := fun s x => List.length (α := Lk) (bDat (.sl LookT) s 0).out - x.1.toNat
  pick := some fun _ s => ((bDat I64 s 9).out, (bDat I64 s 4).out)
def ansQ : LoopAnn where
  α := Int
  keep := [1, 2, 3, 6, 7]
  okeep := [0]
  nxt := 500
  env := fun _ x => [(8, .dat I64 x)]
  own := fun _ _ => []
  inv := fun s x => IdxI (zIs (bDat .str s 1).out) (cDat (.sl ZoneT) s 3 0).out x
  mu := fun s x => List.length (α := Zn) (cDat (.sl ZoneT) s 3 0).out - x.toNat
  pick := some fun _ s => (bDat I64 s 8).out
/-! the law -/
def cWk : Contract := { a := .unit, r := .cons .bool .unit, pre := fun _ => True, F := fun _ => (true, ()) }
def cLw (a : Ty) : Contract := { a := a, r := .cons .bool .unit, pre := fun _ => True, F := fun _ => (true, ()), preB := fun _ => true, preOk := fun _ _ => trivial }
abbrev aAns : Ty := .cons PlanT (.cons .str (.cons (.sl I64) .unit))
def gr1 : LoopAnn where
  α := Int × Int
  keep := [1]
  okeep := []
  nxt := 2000
  env := fun _ x => [(3, .dat I64 x.1), (4, .dat I64 x.2)]
  own := fun s _ => boxO s 1
  inv := fun _ x => 0 ≤ x.2
  mu := fun s x => List.length (α := Zn) (cDat (.sl ZoneT) s 1 0).out - x.2.toNat
  pick := some fun _ s => ((bDat I64 s 3).out, (bDat I64 s 4).out)
structure Gr2I (zs : List Zn) (i k : Int) : Prop where
  i0 : 0 ≤ i
  i1 : i < zs.length
  i2 : i ≤ 40
  k0 : 0 ≤ k
  m : (zs.getD i.toNat ZoneT.zero).2.1.length ≤ 60
def gr2 : LoopAnn where
  α := Int × Int
  keep := [1, 4]
  okeep := []
  nxt := 2500
  env := fun _ x => [(3, .dat I64 x.1), (5, .dat I64 x.2)]
  own := fun s _ => boxO s 1
  inv := fun s x => Gr2I (cDat (.sl ZoneT) s 1 0).out (bDat I64 s 4).out x.2
  mu := fun s x => 100 - x.2.toNat
  pick := some fun _ s => ((bDat I64 s 3).out, (bDat I64 s 5).out)
def gr3 : LoopAnn where
  α := Int × Int
  keep := [1]
  okeep := []
  nxt := 3000
  env := fun _ x => [(3, .dat I64 x.1), (6, .dat I64 x.2)]
  own := fun s _ => boxO s 1
  inv := fun _ x => 0 ≤ x.2
  mu := fun s x => List.length (α := Ft) (cDat (.sl FatT) s 1 1).out - x.2.toNat
  pick := some fun _ s => ((bDat I64 s 3).out, (bDat I64 s 6).out)
/-- the lookups of n who ask for one name, some of them answered -/
def lksN (s : ByteArray) (f : Nat → Bool) (n : Nat) : List Lk := (List.range n).map fun k : Nat => (((100 : Int) + (k : Int), s, (k : Int), f k, ()) : Lk)
def wdN (p : Pl) (l : List Lk) : Wd := (p, 0, [], [], l, 0, [], ())
structure AsI (p : Pl) (s : ByteArray) (l : List Int) (i : Int) (w : Wd) : Prop where
  c : checkB p = true
  n : l.length ≤ 40
  i0 : 0 ≤ i
  i1 : i ≤ l.length
  w : w = wdN p (lksN s (fun _ => false) i.toNat)
structure AnI (p : Pl) (s : ByteArray) (l : List Int) (i : Int) (w : Wd) : Prop where
  c : checkB p = true
  n : l.length ≤ 40
  i0 : 0 ≤ i
  i1 : i ≤ l.length
  w : ∃ f : Nat → Bool, w = wdN p (lksN s f l.length)
def askL : LoopAnn where
  α := Int × Wd
  keep := [1, 2, 3, 6]
  okeep := [0]
  nxt := 5000
  env := fun _ x => [(7, .pt 4000 0), (9, .dat I64 x.1)]
  own := fun _ x => [(4000, .cells 32 (leaves WorldT x.2))]
  inv := fun s x => AsI (cDat PlanT s 3 0).out (bDat .str s 1).out (bDat (.sl I64) s 2).out x.1 x.2
  mu := fun s x => List.length (α := Int) (bDat (.sl I64) s 2).out - x.1.toNat
  pick := some fun _ s => ((bDat I64 s 9).out, (cDat WorldT s 7 0).out)
def answL : LoopAnn where
  α := Int × Wd
  keep := [1, 2, 3, 6]
  okeep := [0]
  nxt := 7000
  env := fun _ x => [(7, .pt 6000 0), (12, .dat I64 x.1)]
  own := fun _ x => [(6000, .cells 32 (leaves WorldT x.2))]
  inv := fun s x => AnI (cDat PlanT s 3 0).out (bDat .str s 1).out (bDat (.sl I64) s 2).out x.1 x.2
  mu := fun s x => List.length (α := Int) (bDat (.sl I64) s 2).out - x.1.toNat
  pick := some fun _ s => ((bDat I64 s 12).out, (cDat WorldT s 7 0).out)
end Go.Proofs.YtfhlceooobabcaaGreatDoor.Wd
namespace Go.Proofs.YtfhlceooobabcaaGreatDoor.Wd
open Go Go.Eng Go.Lb Go.Ad
set_option maxRecDepth 100000
noncomputable def g63 : Cfg := { tab := Tb.tab, cons := [], inls := [], loops := [], cuts := [], unroll := false, arrs := [], keys := [] }
noncomputable def g73 : Cfg := { tab := Tb.tab, cons := [], inls := [], loops := [], cuts := [], unroll := false, arrs := [], keys := [] }
noncomputable def g74 : Cfg := { tab := Tb.tab, cons := [], inls := [], loops := [], cuts := [], unroll := false, arrs := [], keys := [] }
noncomputable def g76 : Cfg := { tab := Tb.tab, cons := [], inls := [], loops := [], cuts := [], unroll := false, arrs := [], keys := [] }
noncomputable def g25 : Cfg := { tab := Tb.tab, cons := [(63, (cClone 47 32 AdT))], inls := [(60, Tryz.f60), (61, Tryz.f61), (62, Tryz.f62)], loops := [(610002, idxL 3000 ZoneT fun s => zIs (capDat .str s 1).out)], cuts := [], unroll := false, arrs := [], keys := [] }
noncomputable def g32 : Cfg := { tab := Tb.tab, cons := [(76, cNth)], inls := [], loops := [(2, ansQ)], cuts := [], unroll := false, arrs := [], keys := [] }
noncomputable def g70 : Cfg := { tab := Tb.tab, cons := [], inls := [(108, Tryz.f108), (109, Tryz.f109), (135, Tryz.f135)], loops := [(1360002, idxL 3000 LookT fun s => lkIs (capDat I64 s 1).out)], cuts := [], unroll := false, arrs := [], keys := [] }
noncomputable def g29 : Cfg := { tab := Tb.tab, cons := [(70, cLookP), (73, (cClip LookT))], inls := [(71, Tryz.f71), (72, Tryz.f72)], loops := [(720002, manyK 4000 fun s => nmIs (capDat .str s 1).out)], cuts := [], unroll := false, arrs := [], keys := [] }
noncomputable def g30 : Cfg := { tab := Tb.tab, cons := [(70, cLookP)], inls := [], loops := [], cuts := [], unroll := false, arrs := [], keys := [] }
noncomputable def g31 : Cfg := { tab := Tb.tab, cons := [(25, cAnsP), (30, cAsked), (70, cLookP), (74, (cClone 129 40 LookT)), (75, cRow)], inls := [], loops := [], cuts := [], unroll := false, arrs := [], keys := [] }
noncomputable def g9 : Cfg := { tab := Tb.tab, cons := [(10, cNew), (17, cDial), (18, cCut), (19, cUnder), (20, cReady), (21, cEnd)], inls := [(35, Tryz.f35)], loops := [], cuts := [], unroll := true, arrs := [], keys := [] }
noncomputable def g6 : Cfg := { tab := Tb.tab, cons := [(9, cWk), (10, cNew), (29, cAsk), (30, cAsked), (31, cAnsW), (32, cAnsP), (33, cRow)], inls := [(7, Tryz.f7)], loops := [(80003, gr1), (80008, gr2), (80012, gr3), (5, askL), (12, answL)], cuts := [], unroll := false, arrs := [], keys := [] }
end Go.Proofs.YtfhlceooobabcaaGreatDoor.Wd

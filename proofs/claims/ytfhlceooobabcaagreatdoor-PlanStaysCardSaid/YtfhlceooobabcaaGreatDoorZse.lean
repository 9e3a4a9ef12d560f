/-
  A text of mine, of several parts: ZnP8, ZnP9, Zn5V.
-/
import Derived.Test.YtfhlceooobabcaaGreatDoorZsa
import Derived.Test.YtfhlceooobabcaaGreatDoorZsb
import Derived.Test.YtfhlceooobabcaaGreatDoorZsc
import Derived.Test.YtfhlceooobabcaaGreatDoorZsd
set_option linter.all false
set_option linter.all false
namespace Go.Proofs.YtfhlceooobabcaaGreatDoor.Wn
open Go Go.Eng Go.Lb Go.Ad Wd
set_option maxRecDepth 100000
set_option maxHeartbeats 8000000
theorem v58 : Vc g58 300 Tryz.f58 cAdr := by
  constructor
  rw [v58_eq]
  simp only [Wr_iff, bcase_iff, true_and, and_true, decide_eq_true_eq, decide_eq_false_iff_not, Bool.and_eq_true, Bool.and_eq_false_iff, Bool.or_eq_true, Bool.or_eq_false_iff, Bool.not_eq_true', Bool.not_eq_false', Option.map_some, Option.getD_some, Option.isSome_some, Option.isSome_map, imp_self, nilL, noneO]
  rintro ⟨n, ⟨⟩⟩
  first | exact trivial | rfl | exact fun _ => rfl
theorem IdxI.onL {α : Type} {p : α → Bool} {l : List α} {i : Int} (z : α) (h : IdxI p l i) (hl : l.length ≤ 9223372036854775807) (hi : i < l.length) (hq : p (l.getD i.toNat z) = false) :
    IdxI p l (IntKind.wrap .i64 (i + 1)) ∧ l.length - (IntKind.wrap .i64 (i + 1)).toNat < l.length - i.toNat := by
  have h0 := h.i0
  have e : IntKind.wrap .i64 (i + 1) = i + 1 := wrap_id (by omega) (by omega)
  rw [e]
  refine ⟨⟨by omega, by omega, ?_⟩, by omega⟩
  rw [take_succ l i z h0 hi, List.any_append, h.a, List.any_cons, List.any_nil, hq]
  rfl
theorem typ_p {p : Pl} (h : typedB PlanT p = true) : p.2.1.length ≤ 9223372036854775807 ∧ ∀ f ∈ p.2.1, f.2.1.length ≤ 9223372036854775807 := by
  simp only [PlanT, typedB, Bool.and_eq_true, decide_eq_true_eq, List.all_eq_true] at h
  obtain ⟨_, ⟨h1, h2⟩, _⟩ := h
  exact ⟨h1, fun f hf => (h2 f hf).2.1.1⟩
theorem fr_some {p : Pl} {a : Ad} {f : Ft} (h : p.2.1.find? (adIs a) = some f) : fateRow p a = f.2.1 := by unfold fateRow; rw [h]
theorem fr_none {p : Pl} {a : Ad} (h : p.2.1.find? (adIs a) = none) : fateRow p a = [] := by unfold fateRow; rw [h]
theorem typ_row {p : Pl} (h : typedB PlanT p = true) (a : Ad) : (fateRow p a).length ≤ 9223372036854775807 := by
  cases hf : p.2.1.find? (adIs a) with
  | none => rw [fr_none hf]; exact Nat.zero_le _
  | some f => rw [fr_some hf]; exact (typ_p h).2 f (List.mem_of_find?_eq_some hf)
theorem v65 : Vc g65 300 Tryz.f65 cFates.T := by
  constructor
  rw [v65_eq]
  simp only [Wr_iff, bcase_iff, true_and, and_true, decide_eq_true_eq, decide_eq_false_iff_not, Bool.and_eq_true, Bool.and_eq_false_iff, Bool.or_eq_true, Bool.or_eq_false_iff, Bool.not_eq_true', Bool.not_eq_false', Option.map_some, Option.getD_some, Option.isSome_some, Option.isSome_map, imp_self, nilL, noneO]
  rintro ⟨p, a, ⟨⟩⟩ ht
  have hp : typedB PlanT p = true := by
    have h1 := ht
    simp only [typedB, Bool.and_eq_true] at h1
    simpa only [PlanT, typedB, Bool.and_eq_true] using h1.1
  dsimp only
  refine ⟨IdxI.zero _ _, fun i hu => ⟨fun hi => ⟨hu.i0, hi, fun hg => ⟨fun h => absurd hu.i0 (by omega), fun _ => ⟨hu.i0, hi, ?_⟩⟩, fun hg => IdxI.onL FatT.zero hu (typ_p hp).1 hi ?_⟩, fun hi => ?_⟩⟩
  · rw [fr_some (hu.find FatT.zero hi (decide_eq_true ((eqb_iff AdT kAd _ _).1 hg)))]
    rfl
  · refine decide_eq_false fun e => ?_
    have := (eqb_iff AdT kAd _ _).2 e
    exact absurd (hg.symm.trans this) (by decide)
  · rw [fr_none (hu.none hi)]
theorem v27 : Vc g27 300 Tryz.f27 cFate2.T := by
  constructor
  rw [v27_eq]
  simp only [Wr_iff, bcase_iff, true_and, and_true, decide_eq_true_eq, decide_eq_false_iff_not, Bool.and_eq_true, Bool.and_eq_false_iff, Bool.or_eq_true, Bool.or_eq_false_iff, Bool.not_eq_true', Bool.not_eq_false', Option.map_some, Option.getD_some, Option.isSome_some, Option.isSome_map, imp_self, nilL, noneO]
  rintro ⟨p, a, n, ⟨⟩⟩ ht
  have hp : typedB PlanT p = true := by
    have h1 := ht
    simp only [typedB, Bool.and_eq_true] at h1
    simpa only [PlanT, typedB, Bool.and_eq_true] using h1.1
  have hl := typ_row hp a
  dsimp only
  rw [fateF]
  generalize fateRow p a = l at hl ⊢
  refine ⟨fun h => ?_, fun h => ?_⟩
  · rw [fateAt, decide_eq_true (show l.length = 0 by omega)]; rfl
  · have e : IntKind.wrap .i64 ((l.length : Int) - 1) = (l.length : Int) - 1 := wrap_id (by omega) (by omega)
    rw [e, fateAt, decide_eq_false (show ¬ l.length = 0 by omega)]
    exact ⟨by omega, by omega, rfl⟩
theorem any_at {α : Type} {p : α → Bool} {l : List α} {i : Int} (z : α) (h0 : 0 ≤ i) (h : i < l.length) (hq : p (l.getD i.toNat z) = true) : l.any p = true := List.any_eq_true.2 ⟨_, getD_memA (z := z) h0 h, hq⟩
theorem v28 : Vc g28 300 Tryz.f28 cGood.T := by
  constructor
  rw [v28_eq]
  simp only [Wr_iff, bcase_iff, true_and, and_true, decide_eq_true_eq, decide_eq_false_iff_not, Bool.and_eq_true, Bool.and_eq_false_iff, Bool.or_eq_true, Bool.or_eq_false_iff, Bool.not_eq_true', Bool.not_eq_false', Option.map_some, Option.getD_some, Option.isSome_some, Option.isSome_map, imp_self, nilL, noneO]
  rintro ⟨p, l, ⟨⟩⟩ ht
  have hp : typedB PlanT p = true ∧ l.length ≤ 9223372036854775807 := by
    have h1 := ht
    simp only [typedB, Bool.and_eq_true, decide_eq_true_eq] at h1
    refine ⟨?_, h1.2.1.1⟩
    simpa only [PlanT, typedB, Bool.and_eq_true, decide_eq_true_eq] using h1.1
  dsimp only
  refine ⟨IdxI.zero _ _, fun i hu => ⟨fun hi => ⟨hu.i0, hi, fun hne => ⟨IdxI.zero _ _, fun j hv => ⟨fun hj => ⟨hv.i0, hj, fun hb => ⟨fun _ => ?_, fun h => absurd hv.i0 h⟩, fun hb => IdxI.onL 0 hv (typ_row hp.1 _) hj ?_⟩, fun hj => IdxI.onL AdT.zero hu hp.2 hi ?_⟩⟩, fun he => ?_⟩, fun hi => ?_⟩⟩
  · have h1 : (fateRow p (l.getD i.toNat AdT.zero)).any badF = true := any_at (0 : Int) hv.i0 hj (by rw [badF, decide_eq_false hb]; rfl)
    have h2 : l.any (badA p) = true := any_at AdT.zero hu.i0 hi (by rw [badA, h1, Bool.or_true])
    rw [h2, decide_eq_true hu.i0]
  · show badF _ = false
    rw [badF, decide_eq_true hb]; rfl
  · show badA p _ = false
    have h1 : (fateRow p (l.getD i.toNat AdT.zero)).any badF = false := by
      have := hv.a
      have h2 := hv.i1
      rwa [List.take_of_length_le (by omega)] at this
    rw [badA, h1, decide_eq_false (show ¬ (fateRow p (l.getD i.toNat AdT.zero)).length = 0 by omega)]; rfl
  · have h2 : l.any (badA p) = true := any_at AdT.zero hu.i0 hi (by rw [badA, decide_eq_true (show (fateRow p (l.getD i.toNat AdT.zero)).length = 0 by omega)]; rfl)
    rw [h2, decide_eq_true hu.i0]
  · have h2 : l.any (badA p) = false := by
      have := hu.a
      have h2 := hu.i1
      rwa [List.take_of_length_le (by omega)] at this
    rw [h2]; rfl
end Go.Proofs.YtfhlceooobabcaaGreatDoor.Wn
set_option linter.all false
namespace Go.Proofs.YtfhlceooobabcaaGreatDoor.Wn
open Go Go.Eng Go.Lb Go.Ad Wd
set_option maxRecDepth 100000
set_option maxHeartbeats 8000000
theorem Gr1I.zero (zs : List Zn) : Gr1I zs 0 := ⟨Int.le_refl _, Int.natCast_nonneg _, fun z hz => by cases hz⟩
theorem Gr1I.on {zs : List Zn} {i : Int} (h : Gr1I zs i) (hi : i < zs.length) (h40 : i ≤ 40) (hm : (zs.getD i.toNat ZoneT.zero).2.1.length ≤ 60) : Gr1I zs (IntKind.wrap .i64 (i + 1)) ∧ zs.length - (IntKind.wrap .i64 (i + 1)).toNat < zs.length - i.toNat := by
  have h0 := h.i0
  have e : IntKind.wrap .i64 (i + 1) = i + 1 := wrap_id (by omega) (by omega)
  rw [e]
  refine ⟨⟨by omega, by omega, fun z hz => ?_⟩, by omega⟩
  rw [take_succ zs i ZoneT.zero h0 hi] at hz
  rcases List.mem_append.1 hz with hz | hz
  · exact h.m z hz
  · rw [List.mem_singleton] at hz; rw [hz]; exact hm
theorem MxI.zero {α : Type} (g : α → Nat) (l : List α) (b : Int) : MxI g l b 0 b := ⟨Int.le_refl _, Int.natCast_nonneg _, Int.le_refl _, fun z hz => by cases hz⟩
theorem MxI.on {α : Type} {g : α → Nat} {l : List α} {b i m : Int} (z : α) (h : MxI g l b i m) (hi : i < l.length) (hl : l.length ≤ 9223372036854775807) :
    MxI g l b (IntKind.wrap .i64 (i + 1)) (max m (g (l.getD i.toNat z) : Int)) ∧ l.length - (IntKind.wrap .i64 (i + 1)).toNat < l.length - i.toNat := by
  have h0 := h.i0
  have hb := h.b
  have e : IntKind.wrap .i64 (i + 1) = i + 1 := wrap_id (by omega) (by omega)
  rw [e]
  refine ⟨⟨by omega, by omega, by omega, fun y hy => ?_⟩, by omega⟩
  rw [take_succ l i z h0 hi] at hy
  rcases List.mem_append.1 hy with hy | hy
  · have := h.m y hy; omega
  · rw [List.mem_singleton] at hy; rw [hy]; omega
theorem MxI.fin {α : Type} {g : α → Nat} {l : List α} {b i m : Int} (h : MxI g l b i m) (hi : ¬ i < l.length) : ∀ z ∈ l, (g z : Int) ≤ m := by
  have h1 := h.i1
  have := h.m
  rwa [List.take_of_length_le (by omega)] at this
/-- from some n on answers do not change -/
theorem ans_late {p : Pl} {s : ByteArray} {m n k : Int} (h : ∀ z ∈ p.1, (zLen z : Int) ≤ m) (hn : m ≤ n) (hk : m ≤ k) : ansR p s n = ansR p s k := by
  unfold ansR ansL
  cases hf : p.1.find? (zIs s) with
  | none => rfl
  | some z =>
    have hz := h z (List.mem_of_find?_eq_some hf)
    simp only [zLen] at hz
    show rowAt z.2.1 n = rowAt z.2.1 k
    by_cases h0 : (z.2.1.length : Int) = 0
    · rw [rowAt, rowAt, decide_eq_true (show z.2.1.length = 0 by omega)]; rfl
    · rw [rowAt_eq h0, rowAt_eq h0]
      have e : min (max n 0) ((z.2.1.length : Int) - 1) = min (max k 0) ((z.2.1.length : Int) - 1) := by omega
      rw [e]
theorem ans_neg {p : Pl} {s : ByteArray} {n : Int} (hn : n ≤ 0) : ansR p s n = ansR p s 0 := by
  unfold ansR
  by_cases h0 : ((ansL p s).length : Int) = 0
  · rw [rowAt, rowAt, decide_eq_true (show (ansL p s).length = 0 by omega)]; rfl
  · rw [rowAt_eq h0, rowAt_eq h0]
    have e : max n 0 = max (0 : Int) 0 := by omega
    rw [e]
theorem ansE_of {p : Pl} {s : ByteArray} {n k : Int} (h : ansR p s n = ansR p s k) : ansE p s n = ansE p s k := by unfold ansE; rw [h]
theorem fate_late {p : Pl} {a : Ad} {m n k : Int} (h : ∀ f ∈ p.2.1, (fLen f : Int) ≤ m) (h0 : 0 ≤ m) (hn : m ≤ n) (hk : m ≤ k) : fateF p a n = fateF p a k := by
  unfold fateF
  cases hf : p.2.1.find? (adIs a) with
  | none => rw [fr_none hf]; rfl
  | some f =>
    have hz := h f (List.mem_of_find?_eq_some hf)
    simp only [fLen] at hz
    rw [fr_some hf]
    by_cases h0 : f.2.1.length = 0
    · rw [fateAt, fateAt, decide_eq_true h0]; rfl
    · rw [fateAt, fateAt, decide_eq_false h0]
      have e : min (max n 0) ((f.2.1.length : Int) - 1) = min (max k 0) ((f.2.1.length : Int) - 1) := by omega
      rw [e]
theorem fate_neg {p : Pl} {a : Ad} {n : Int} (hn : n ≤ 0) : fateF p a n = fateF p a 0 := by
  unfold fateF fateAt
  have e : max n 0 = max (0 : Int) 0 := by omega
  rw [e]
/-- what is good is there whenever it is dialled -/
theorem good_fate {p : Pl} {a : Ad} (h : badA p a = false) (n : Int) : fateF p a n = 0 := by
  simp only [badA, Bool.or_eq_false_iff, decide_eq_false_iff_not] at h
  obtain ⟨h1, h2⟩ := h
  unfold fateF
  generalize fateRow p a = l at h1 h2 ⊢
  rw [fateAt, decide_eq_false h1]
  have hm : l.getD (min (max n 0) ((l.length : Int) - 1)).toNat 0 ∈ l := getD_memA (by omega) (by omega)
  rw [List.any_eq_false] at h2
  have := h2 _ hm
  simpa [badF] using this
theorem ansE_len (p : Pl) (s : ByteArray) (n : Int) : (decide (ansE p s n = 0) == decide (((ansR p s n).length : Int) > 0)) = true := by
  unfold ansE
  by_cases h : (ansR p s n).length = 0
  · rw [decide_eq_true h, h]; rfl
  · rw [decide_eq_false h, decide_eq_true (show ((ansR p s n).length : Int) > 0 by omega)]; rfl
theorem v5 : Vc g5 300 Tryz.f5 (cLs aSt) := by
  constructor
  rw [v5_eq]
  simp only [Wr_iff, bcase_iff, true_and, and_true, decide_eq_true_eq, decide_eq_false_iff_not, Bool.and_eq_true, Bool.and_eq_false_iff, Bool.or_eq_true, Bool.or_eq_false_iff, Bool.not_eq_true', Bool.not_eq_false', Option.map_some, Option.getD_some, Option.isSome_some, Option.isSome_map, imp_self, nilL, noneO]
  rintro ⟨p, s, a, n, ⟨⟩⟩ hb
  have hbp : Sz.Bnd szL PlanT p := hb.1
  dsimp only
  refine ⟨Gr1I.zero _, fun ⟨n1, i⟩ I => ⟨fun hi => ?_, fun hno => ⟨by omega, fun ⟨n2, i2⟩ hi2 => ⟨fun hi => ?_, fun _ => ?_⟩⟩⟩⟩
  · have hi0 := I.i0
    dsimp only at hi0 hi ⊢
    refine ⟨hi0, hi.1, fun _ => hi0, fun _ => hi.1, fun _ => trivial, fun _ => trivial, fun _ => trivial, fun hk => ⟨⟨hi0, hi.1, hi.2, by omega, ?_⟩, fun ⟨n3, k⟩ hu => ⟨hi0, hi.1, fun hk2 => ⟨hi0, hi.1, hu.k0, hk2, ?_⟩, fun _ => ?_⟩⟩⟩
    · have := hk.1
      show (p.1.getD i.toNat ZoneT.zero).2.1.length ≤ 60
      omega
    · have h0 := hu.k0
      have hm : (p.1.getD i.toNat ZoneT.zero).2.1.length ≤ 60 := hu.m
      dsimp only at h0 hk2 ⊢
      have e : IntKind.wrap .i64 (k + 1) = k + 1 := w64 (by omega) (by omega)
      rw [e]
      exact ⟨⟨hi0, hi.1, hi.2, by omega, hm⟩, by omega⟩
    · exact Gr1I.on I hi.1 hi.2 hu.m
  · dsimp only at hi2 hi ⊢
    have e : IntKind.wrap .i64 (i2 + 1) = i2 + 1 := w64 (by omega) (by omega)
    rw [e]
    have := hi.1
    omega
  · refine ⟨fun _ => trivial, fun h => ?_⟩
    have hl1 : p.1.length ≤ 9223372036854775807 := Nat.le_trans (show p.1.length ≤ 40 by omega) (by decide)
    have hl2 : p.2.1.length ≤ 9223372036854775807 := Nat.le_trans (show p.2.1.length ≤ 100 by omega) (by decide)
    refine ⟨MxI.zero _ _ _, fun ⟨j, m1⟩ J => ⟨fun hj => ⟨J.i0, hj, MxI.on ZoneT.zero J hj hl1⟩, fun hj => ⟨MxI.zero _ _ _, fun ⟨k, m⟩ K => ⟨fun hk => ⟨K.i0, hk, MxI.on FatT.zero K hk hl2⟩, fun hk => ?_⟩⟩⟩⟩
    have hi1 : i ≤ p.1.length := I.i1
    have h60 : ∀ z ∈ p.1, z.2.1.length ≤ 60 := by
      have hm := I.m
      dsimp only at hno hm
      rwa [List.take_of_length_le (by omega)] at hm
    have hok : ansOk p = true := by
      rw [ansOk_iff]
      refine ⟨by omega, fun z hz => ⟨Nat.le_trans (h60 z hz) (by decide), fun r hr => ?_⟩⟩
      have h1 := (hbp.1.2 z hz).2.1.2 r hr
      have h2 : r.length * Sz.bz szL AdT ≤ reachBytes := h1.1
      have e : Sz.bz szL AdT = 32 := by decide
      rw [e] at h2
      exact Nat.le_trans h2 (by decide)
    have hn0 : 0 ≤ n := by omega
    have hz := J.fin hj
    have hf := K.fin hk
    have hm1 : (0 : Int) ≤ m1 := J.b
    have hm : m1 ≤ m := K.b
    dsimp only at hz hf hm ⊢
    have hz' : ∀ z ∈ p.1, (zLen z : Int) ≤ m := fun z h => Int.le_trans (hz z h) hm
    have hr0 := Int.tmod_nonneg 1000 hn0
    have hr1 := Int.tmod_lt_of_pos n (show (0 : Int) < 1000 by decide)
    have e : IntKind.wrap .i64 (-1 - n.tmod 1000) = -1 - n.tmod 1000 := wrap_id (by omega) (by omega)
    rw [e]
    have a1 : ansR p s (max n m) = ansR p s m := ans_late hz' (by omega) (Int.le_refl _)
    have a2 : ansR p s (-1 - n.tmod 1000) = ansR p s 0 := ans_neg (by omega)
    have a3 : fateF p a (max n m) = fateF p a m := fate_late hf (by omega) (by omega) (Int.le_refl _)
    have a4 : fateF p a (-1 - n.tmod 1000) = fateF p a 0 := fate_neg (by omega)
    refine ⟨hok, hok, by decide, hok, hok, fun _ => trivial, fun _ => trivial, fun _ => trivial, fun _ => by decide, fun _ => trivial, fun _ => trivial, fun h => ?_, fun _ => ⟨fun _ => trivial, fun _ => trivial, ?_⟩⟩
    · rcases h with ((((h | h) | h) | h) | h) | h
      · exact absurd a1 h
      · exact absurd (ansE_of a1) h
      · exact absurd a2 h
      · exact absurd (ansE_of a2) h
      · exact absurd a3 h
      · exact absurd a4 h
    · rw [ansE_len]
      cases hg : badA p a with
      | true => simp [hg]
      | false => rw [good_fate hg]; simp [hg]
end Go.Proofs.YtfhlceooobabcaaGreatDoor.Wn
namespace Go.Proofs.YtfhlceooobabcaaGreatDoor.Wn
open Go Go.Eng Go.Lb Go.Ad Wd
set_option maxRecDepth 100000
theorem val58 : Valid Tryz.prog GW 58 cAdr := mkValid gws Tb.mix Tb.tab_ok Tb.eqs_ok g58 rfl allV_nil allI_nil Tryz.func58 (by kernel_rfl) v58
theorem val65 : Valid Tryz.prog GW 65 cFates := Valid.T (mkValid gws Tb.mix Tb.tab_ok Tb.eqs_ok g65 rfl allV_nil (allI_cons Tryz.func104 (by kernel_rfl) (allI_cons Tryz.func105 (by kernel_rfl) allI_nil)) Tryz.func65 (by kernel_rfl) v65)
theorem val27 : Valid Tryz.prog GW 27 cFate2 := Valid.T (mkValid gws Tb.mix Tb.tab_ok Tb.eqs_ok g27 rfl (allV_cons val65 allV_nil) (allI_cons Tryz.func64 (by kernel_rfl) allI_nil) Tryz.func27 (by kernel_rfl) v27)
theorem val28 : Valid Tryz.prog GW 28 cGood := Valid.T (mkValid gws Tb.mix Tb.tab_ok Tb.eqs_ok g28 rfl (allV_cons val65 allV_nil) (allI_cons Tryz.func66 (by kernel_rfl) (allI_cons Tryz.func67 (by kernel_rfl) (allI_cons Tryz.func68 (by kernel_rfl) (allI_cons Tryz.func69 (by kernel_rfl) (allI_cons Tryz.func106 (by kernel_rfl) (allI_cons Tryz.func107 (by kernel_rfl) allI_nil)))))) Tryz.func28 (by kernel_rfl) v28)
theorem v24B : vcB g24 300 Tryz.f24 cWk.r (cWk.F ()) = true := by kernel_rfl
theorem v24 : Vc g24 300 Tryz.f24 cWk := Vc.ofB (r := cWk.r) (y := cWk.F ()) v24B
theorem val24 : Valid Tryz.prog GW 24 cWk := mkValid gws Tb.mix Tb.tab_ok Tb.eqs_ok g24 rfl (allV_cons val25 (allV_cons val27 (allV_cons Wd.val36 (allV_cons val58 (allV_cons val59 allV_nil))))) allI_nil Tryz.func24 (by kernel_rfl) v24
theorem val5 : Valid Tryz.prog GW 5 ((cLs aSt)) := mkValid gws Tb.mix Tb.tab_ok Tb.eqs_ok g5 rfl (allV_cons val24 (allV_cons val25 (allV_cons val26 (allV_cons val27 (allV_cons val28 allV_nil))))) (allI_cons Tryz.func7 (by kernel_rfl) allI_nil) Tryz.func5 (by kernel_rfl) v5
end Go.Proofs.YtfhlceooobabcaaGreatDoor.Wn

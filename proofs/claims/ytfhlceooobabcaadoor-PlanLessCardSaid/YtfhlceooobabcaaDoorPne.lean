/-
  A text of mine, of several parts: WdP9, Wd5V.
-/
import Derived.Test.YtfhlceooobabcaaDoorPna
import Derived.Test.YtfhlceooobabcaaDoorPnb
import Derived.Test.YtfhlceooobabcaaDoorPnc
import Derived.Test.YtfhlceooobabcaaDoorPnd
set_option linter.all false
set_option linter.all false
namespace Go.Proofs.YtfhlceooobabcaaDoor.Wd
open Go Go.Eng Go.Lb Go.Ad
set_option maxRecDepth 100000
set_option maxHeartbeats 8000000
theorem AnyI.zero {α : Type} (p : α → Bool) (l : List α) : AnyI p l 0 false := ⟨Int.le_refl _, Int.natCast_nonneg _, rfl⟩
theorem AnyI.on {α : Type} {p : α → Bool} {l : List α} {i : Int} {b b' : Bool} (z : α) (h : AnyI p l i b) (hl : l.length ≤ 1000000) (hi : i < l.length) (hb : b' = (b || p (l.getD i.toNat z))) :
    AnyI p l (IntKind.wrap .i64 (i + 1)) b' ∧ l.length - (IntKind.wrap .i64 (i + 1)).toNat < l.length - i.toNat := by
  have h0 := h.i0
  have e : IntKind.wrap .i64 (i + 1) = i + 1 := wrap_id (by omega) (by omega)
  rw [e]
  refine ⟨⟨by omega, by omega, ?_⟩, by omega⟩
  rw [take_succ l i z h0 hi, List.any_append, ← h.a, hb]
  simp
theorem AnyI.fin {α : Type} {p : α → Bool} {l : List α} {i : Int} {b : Bool} (h : AnyI p l i b) (hi : ¬ i < l.length) : b = l.any p := by
  have h1 := h.i1
  have := h.a
  rwa [List.take_of_length_le (by omega)] at this
theorem bytesLess_iff : ∀ (x y : List UInt8), Op.bytesLess x y = true ↔ x < y
  | [], [] => by simp [Op.bytesLess]
  | _ :: _, [] => by simp [Op.bytesLess]
  | [], _ :: _ => by simp [Op.bytesLess]
  | a :: x, b :: y => by
    rw [Op.bytesLess, List.cons_lt_cons_iff]
    simp only [Bool.or_eq_true, Bool.and_eq_true, decide_eq_true_eq, beq_iff_eq, bytesLess_iff x y]
theorem leN_of_not {x y : ByteArray} (h : ¬ bytesL x < bytesL y) : leN y x = true := by
  simp only [leN, leB, decide_eq_true_eq]
  exact List.not_lt.1 h
/-- the names rise -/
theorem names_lt (p : Pl) {i : Nat} (h : i + 1 < (namesL p).length) (z : ByteArray) : Op.bytesLess (bytesL ((namesL p).getD i z)) (bytesL ((namesL p).getD (i + 1) z)) = true := by
  have hs : (namesL p).Pairwise (fun a b => leN a b = true) := sortN_sorted _
  have hnd : (namesL p).Pairwise (· ≠ ·) := names_nodup p
  have h1 : (namesL p).getD i z = (namesL p)[i] := by rw [List.getD_eq_getElem?_getD, List.getElem?_eq_getElem (by omega)]; rfl
  have h2 : (namesL p).getD (i + 1) z = (namesL p)[i + 1] := by rw [List.getD_eq_getElem?_getD, List.getElem?_eq_getElem h]; rfl
  rw [h1, h2]
  have a1 := List.pairwise_iff_getElem.1 hs i (i + 1) (by omega) h (by omega)
  have a2 := List.pairwise_iff_getElem.1 hnd i (i + 1) (by omega) h (by omega)
  rw [bytesLess_iff]
  rcases Classical.em (bytesL (namesL p)[i] < bytesL (namesL p)[i + 1]) with h3 | h3
  · exact h3
  · have a3 := leN_of_not h3
    simp only [leN, leB, decide_eq_true_eq] at a1 a3
    exact absurd (bytes_inj (List.le_antisymm a1 a3)) a2
theorem namesAny {p : Pl} {s : ByteArray} (h : s ∈ namesL p) : p.1.any (zIs s) = true := by
  obtain ⟨z, hz, e⟩ := List.mem_map.1 (names_mem.1 h)
  exact List.any_eq_true.2 ⟨z, hz, decide_eq_true e⟩
theorem anyNames {p : Pl} {z : Zn} (h : z ∈ p.1) : (namesL p).any (sIs z.1) = true :=
  List.any_eq_true.2 ⟨z.1, names_mem.2 (List.mem_map.2 ⟨z, h, rfl⟩), decide_eq_true rfl⟩
theorem nub_len : ∀ l : List ByteArray, (nubN l).length ≤ l.length
  | [] => Nat.le_refl _
  | x :: r => by
    unfold nubN
    have := nub_len r
    cases memN x r with
    | true => exact Nat.le_succ_of_le this
    | false => exact Nat.succ_le_succ this
theorem names_len {p : Pl} : (namesL p).length ≤ p.1.length := by
  have h1 : (namesL p).length = (nubN (p.1.map nameOf)).length := sortN_length _
  rw [h1, ← List.length_map (f := nameOf)]
  exact nub_len _
theorem ck_len {p : Pl} (C : Ck p) : (namesL p).length = p.1.length := by
  have h1 : (namesL p).length = (nubN (p.1.map nameOf)).length := sortN_length _
  rw [h1, nubN_of_nodup C.u, List.length_map]
theorem ck_ansOk {p : Pl} (C : Ck p) : ansOk p = true := by
  rw [ansOk_iff]
  have hn := C.n
  refine ⟨by omega, fun z hz => ?_⟩
  have h1 := (zone_iff z).1 (C.z z hz)
  refine ⟨by have := h1.2.1.2; omega, fun r hr => ?_⟩
  have h2 := List.all_eq_true.1 h1.2.2 r hr
  simp only [rowOk, Bool.and_eq_true, decide_eq_true_eq] at h2
  have := h2.1
  omega
/-- of a plan that may be each name has as many answers as its zone says -/
theorem ans_zone {p : Pl} (C : Ck p) {k n : Int} (hk : 0 ≤ k) (hk2 : k < p.1.length) (hn : 0 ≤ n) (hn2 : n < ((p.1.getD k.toNat ZoneT.zero).2.1.length : Int)) :
    ansR p (p.1.getD k.toNat ZoneT.zero).1 n = (p.1.getD k.toNat ZoneT.zero).2.1.getD n.toNat AdL.zero := by
  have hf : p.1.find? (zIs (p.1.getD k.toNat ZoneT.zero).1) = some (p.1.getD k.toNat ZoneT.zero) := by
    have hI : IdxI (zIs (p.1.getD k.toNat ZoneT.zero).1) p.1 k := by
      refine ⟨hk, by omega, ?_⟩
      rw [List.any_eq_false]
      intro z hz
      have hu := C.u
      have hs : p.1 = p.1.take k.toNat ++ p.1.getD k.toNat ZoneT.zero :: p.1.drop (k + 1).toNat := by rw [← drop_cons p.1 k ZoneT.zero hk hk2, List.take_append_drop]
      rw [hs, List.map_append, List.map_cons, List.nodup_append] at hu
      intro e
      have e' : z.1 = (p.1.getD k.toNat ZoneT.zero).1 := of_decide_eq_true e
      exact hu.2.2 (nameOf z) (List.mem_map_of_mem hz) (nameOf (p.1.getD k.toNat ZoneT.zero)) List.mem_cons_self e'
    exact hI.find ZoneT.zero hk2 (decide_eq_true rfl)
  generalize p.1.getD k.toNat ZoneT.zero = z at hf hn2 ⊢
  rw [ansR, ans_some hf, rowAt_eq (by omega)]
  have : min (max n 0) ((z.2.1.length : Int) - 1) = n := by omega
  rw [this]; rfl
theorem ansE_len (p : Pl) (s : ByteArray) (n : Int) : (decide (ansE p s n = 0) == decide (((ansR p s n).length : Int) > 0)) = true := by
  unfold ansE
  by_cases h : (ansR p s n).length = 0
  · rw [decide_eq_true h, h]; rfl
  · rw [decide_eq_false h, decide_eq_true (show ((ansR p s n).length : Int) > 0 by omega)]; rfl
theorem ans_step {z : Zn} {n : Int} (h : n < (z.2.1.length : Int)) (h0 : 0 ≤ n) (hm : z.2.1.length ≤ 32) :
    (0 ≤ IntKind.wrap .i64 (n + 1) ∧ IntKind.wrap .i64 (n + 1) ≤ (z.2.1.length : Int)) ∧ z.2.1.length - (IntKind.wrap .i64 (n + 1)).toNat < z.2.1.length - n.toNat := by
  have e2 : IntKind.wrap .i64 (n + 1) = n + 1 := wrap_id (by omega) (by omega)
  rw [e2]
  omega
theorem v37 : Vc g37 300 Tryd.f37 cAdr := by
  constructor
  rw [v37_eq]
  simp only [Wr_iff, bcase_iff, true_and, and_true, decide_eq_true_eq, decide_eq_false_iff_not, Bool.and_eq_true, Bool.and_eq_false_iff, Bool.or_eq_true, Bool.or_eq_false_iff, Bool.not_eq_true', Bool.not_eq_false', Option.map_some, Option.getD_some, Option.isSome_some, Option.isSome_map, imp_self, nilL, noneO]
  rintro ⟨n, ⟨⟩⟩
  first | exact trivial | rfl | exact fun _ => rfl
theorem v4 : Vc g4 300 Tryd.f4 (cLw aNam) := by
  constructor
  rw [v4_eq]
  simp only [Wr_iff, bcase_iff, true_and, and_true, decide_eq_true_eq, decide_eq_false_iff_not, Bool.and_eq_true, Bool.and_eq_false_iff, Bool.or_eq_true, Bool.or_eq_false_iff, Bool.not_eq_true', Bool.not_eq_false', Option.map_some, Option.getD_some, Option.isSome_some, Option.isSome_map, imp_self, nilL, noneO]
  rintro ⟨p, ⟨⟩⟩ _
  dsimp only
  refine ⟨by omega, fun ⟨n1, i⟩ hi0 => ⟨fun hi => ?_, fun _ => ⟨by omega, fun ⟨n2, i2⟩ hi2 => ⟨fun hi => ?_, fun _ => ?_⟩⟩⟩⟩
  · dsimp only at hi0 hi ⊢
    refine ⟨hi0, hi.1, fun _ => hi0, fun _ => hi.1, fun _ => trivial, fun _ => trivial, fun _ => trivial, fun hk => ⟨⟨hi0, hi.1, hi.2, by omega, ?_⟩, fun ⟨n3, k⟩ hu => ⟨hi0, hi.1, fun hk2 => ⟨hi0, hi.1, hu.k0, hk2, ?_⟩, fun _ => ?_⟩⟩⟩
    · have := hk.1
      show (p.1.getD i.toNat ZoneT.zero).2.1.length ≤ 60
      omega
    · have h0 := hu.k0
      have hm : (p.1.getD i.toNat ZoneT.zero).2.1.length ≤ 60 := hu.m
      dsimp only at h0 hk2 ⊢
      have e : IntKind.wrap .i64 (k + 1) = k + 1 := w64 (by omega) (by omega)
      rw [e]
      exact ⟨⟨hi0, hi.1, hi.2, by omega, hm⟩, by omega⟩
    · have e : IntKind.wrap .i64 (i + 1) = i + 1 := w64 (by omega) (by omega)
      rw [e]
      have := hi.1
      omega
  · dsimp only at hi2 hi ⊢
    have e : IntKind.wrap .i64 (i2 + 1) = i2 + 1 := w64 (by omega) (by omega)
    rw [e]
    have := hi.1
    omega
  · refine ⟨fun _ => trivial, fun h => ?_⟩
    have hn : p.1.length ≤ 40 := by have := h.1.1; omega
    have hl := names_len (p := p)
    have hl3 : (namesL p).length ≤ 1000000 := Nat.le_trans hl (by omega)
    have hl4 : p.1.length ≤ 1000000 := Nat.le_trans hn (by omega)
    refine ⟨decide_eq_true (by omega), ⟨Int.le_refl _, Int.natCast_nonneg _⟩, fun i I => ⟨fun hi => ⟨AnyI.zero _ _, fun ⟨k, b⟩ J => ⟨fun hk => ?_, fun hk => ?_⟩⟩, fun hi => ⟨⟨Int.le_refl _, Int.natCast_nonneg _⟩, fun i2 I2 => ⟨fun hi2 => ⟨AnyI.zero _ _, fun ⟨k, b⟩ J => ⟨fun hk => ?_, fun hk => ?_⟩⟩, fun hi2 => ⟨fun _ => trivial, fun hc => ?_⟩⟩⟩⟩⟩
    · have hJ := J.i0
      dsimp only at hJ hk ⊢
      obtain ⟨r1, r2⟩ := J.on ZoneT.zero (b' := b || decide ((p.1.getD k.toNat ZoneT.zero).1 = (namesL p).getD i.toNat ByteArray.empty)) hl4 hk rfl
      exact ⟨fun _ => hJ, fun _ => hk, fun _ => trivial, fun _ => trivial, fun _ => I.1, fun _ => hi, fun _ => trivial, r1, r2⟩
    · have hb := J.fin hk
      dsimp only at hb ⊢
      have hmem : (namesL p).getD i.toNat ByteArray.empty ∈ namesL p := getD_memA I.1 hi
      have ht : b = true := by rw [hb]; exact namesAny hmem
      subst ht
      have e1 : IntKind.wrap .i64 (i - 1) = i - 1 := wrap_id (by omega) (by omega)
      have e2 : IntKind.wrap .i64 (i + 1) = i + 1 := wrap_id (by omega) (by omega)
      rw [e1, e2]
      refine ⟨fun h => by omega, fun h => by omega, fun _ => trivial, fun _ => I.1, fun _ => hi, fun _ => trivial, fun h => ?_, fun _ => by omega⟩
      rcases h with h | ⟨h1, h2⟩
      · cases h
      · have hlt := names_lt p (i := (i - 1).toNat) (by omega) Ty.str.zero
        have e3 : (i - 1).toNat + 1 = i.toNat := by omega
        rw [e3] at hlt
        rw [hlt] at h2
        cases h2
    · have hJ := J.i0
      dsimp only at hJ hk ⊢
      obtain ⟨r1, r2⟩ := J.on ByteArray.empty (b' := b || decide ((namesL p).getD k.toNat ByteArray.empty = (p.1.getD i2.toNat ZoneT.zero).1)) hl3 hk rfl
      exact ⟨fun _ => hJ, fun _ => hk, fun _ => trivial, fun _ => I2.1, fun _ => hi2, fun _ => trivial, fun _ => trivial, r1, r2⟩
    · have hb := J.fin hk
      dsimp only at hb ⊢
      have ht : b = true := by rw [hb]; exact anyNames (getD_memA I2.1 hi2)
      subst ht
      have e2 : IntKind.wrap .i64 (i2 + 1) = i2 + 1 := wrap_id (by omega) (by omega)
      rw [e2]
      exact ⟨fun h => (by cases h), fun _ => by omega⟩
    · have C := (ck_iff p).1 (ck_0 hc)
      refine ⟨⟨Int.le_refl _, Int.natCast_nonneg _⟩, fun i3 I3 => ⟨fun hi3 => ⟨⟨Int.le_refl _, Int.natCast_nonneg _⟩, fun n N => ⟨I3.1, hi3, fun hn2 => ⟨I3.1, hi3, ck_ansOk C, I3.1, hi3, N.1, hn2, fun h => ?_, fun _ => ?_⟩, fun hn2 => ?_⟩⟩, fun hi3 => ⟨fun _ => trivial, ?_⟩⟩⟩
      · rcases h with h | h
        · exact absurd (ans_zone C I3.1 hi3 N.1 hn2) h
        · rw [ansE_len] at h; cases h
      · have h32 := ((zone_iff _).1 (C.z _ (getD_memA (z := ZoneT.zero) I3.1 hi3))).2.1.2
        exact ans_step hn2 N.1 h32
      · have e2 : IntKind.wrap .i64 (i3 + 1) = i3 + 1 := wrap_id (by omega) (by omega)
        rw [e2]
        omega
      · rw [decide_eq_true (show ((namesL p).length : Int) = p.1.length by rw [ck_len C])]
        rfl
end Go.Proofs.YtfhlceooobabcaaDoor.Wd
namespace Go.Proofs.YtfhlceooobabcaaDoor.Wd
open Go Go.Eng Go.Lb Go.Ad
set_option maxRecDepth 100000
theorem val37 : Valid Tryd.prog GW 37 cAdr := mkValid gws Tb.mix Tb.tab_ok Tb.eqs_ok g37 rfl allV_nil allI_nil Tryd.func37 (by kernel_rfl) v37
theorem v16B : vcB g16 300 Tryd.f16 cWk.r (cWk.F ()) = true := by kernel_rfl
theorem v16 : Vc g16 300 Tryd.f16 cWk := Vc.ofB (r := cWk.r) (y := cWk.F ()) v16B
theorem val16 : Valid Tryd.prog GW 16 cWk := mkValid gws Tb.mix Tb.tab_ok Tb.eqs_ok g16 rfl (allV_cons val17 (allV_cons val18 (allV_cons val19 (allV_cons val31 (allV_cons val37 allV_nil))))) allI_nil Tryd.func16 (by kernel_rfl) v16
theorem val4 : Valid Tryd.prog GW 4 ((cLw aNam)) := mkValid gws Tb.mix Tb.tab_ok Tb.eqs_ok g4 rfl (allV_cons val16 (allV_cons val17 (allV_cons val18 (allV_cons val19 (allV_cons val20 allV_nil))))) (allI_cons Tryd.func7 (by kernel_rfl) allI_nil) Tryd.func4 (by kernel_rfl) v4
theorem val5 : Valid Tryd.prog GW 5 ((cLw aLess)) := mkValid gws Tb.mix Tb.tab_ok Tb.eqs_ok g5 rfl (allV_cons val16 (allV_cons val18 allV_nil)) (allI_cons Tryd.func7 (by kernel_rfl) allI_nil) Tryd.func5 (by kernel_rfl) v5
end Go.Proofs.YtfhlceooobabcaaDoor.Wd

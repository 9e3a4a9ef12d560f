/-
  A text of mine, of several parts: AdP2, AdP3, AdP4, AdP5, AdP6, AdP7, AdV, AdDef2, AlCfg, AlVc, AlP, AlQ, AlR, AlV, AdDef3, ArCfg.
-/
import Derived.Test.YtkimpfoimblhjaaDoorAea
import Derived.Test.YtkimpfoimblhjaaDoorAeb
import Derived.Test.YtkimpfoimblhjaaDoorAec
import Derived.Test.YtkimpfoimblhjaaDoorAed
set_option linter.all false
set_option linter.all false
namespace Go.Proofs.YtkimpfoimblhjaaDoor.Ad
open Go Go.Eng Go.Lb Go.Ad Lb
set_option maxRecDepth 100000
set_option maxHeartbeats 1000000

theorem rest_cons {s : ByteArray} {p : Nat} (h : p < s.size) : restL s p = (bytesL s).getD p 0 :: restL s (p + 1) := by
  unfold restL
  rw [size_bytesL] at h
  rw [List.drop_eq_getElem_cons h, List.getD_eq_getElem?_getD, List.getElem?_eq_getElem h]
  rfl
theorem rune_byte {s : ByteArray} {p : Nat} (h : p < s.size) : ∃ b, restL s p = b :: restL s (p + 1) ∧ ((b.toNat < 128 ∧ runeAt s p = b.toNat ∧ nextP s p = p + 1) ∨ (128 ≤ b.toNat ∧ 128 ≤ runeAt s p)) := by
  refine ⟨_, rest_cons h, ?_⟩
  have h1 := runeAt_eq h
  have h2 := nextP_eq h
  rw [rest_cons h] at h1 h2
  rcases hd1_cases (b := (bytesL s).getD p 0) (r := restL s (p + 1)) with ⟨c1, c2, c3⟩ | ⟨c1, c2, _⟩
  · rw [c2] at h1
    rw [c3] at h2
    exact .inl ⟨c1, h1, h2⟩
  · refine .inr ⟨c1, ?_⟩
    cases hc : (hd1 ((bytesL s).getD p 0 :: restL s (p + 1))).1 with
    | none => rw [hc] at h1; rw [h1]; decide
    | some c =>
      rw [hc] at h1
      have := c2 c hc
      rw [h1, Option.getD_some]
      omega
/-! long -/
theorem long_cases {g : G8} {i n a m : Int} {z : Int} (h : LongI g i n a m) (hi : i < 8) : (¬ (gl g).getD i.toNat z = 0 → LongI g (i + 1) 0 a m) ∧
    ((gl g).getD i.toNat z = 0 → (max m 1 < n + 1 → LongI g (i + 1) (n + 1) (i + 1 - (n + 1)) (n + 1)) ∧ (¬ max m 1 < n + 1 → LongI g (i + 1) (n + 1) a m)) := by
  obtain ⟨i0, i1, n0, n1, m0, m1, a0, a1, e⟩ := h
  have hd := drop_cons (gl g) i z i0 (by rw [len_gl]; omega)
  rw [hd, longGo] at e
  refine ⟨fun hz => ?_, fun hz => ⟨fun hm => ?_, fun hm => ?_⟩⟩
  · rw [show decide ((gl g).getD i.toNat z = 0) = false from decide_eq_false hz, cond_false] at e
    exact ⟨by omega, by omega, by omega, by omega, m0, m1, a0, a1, e⟩
  · rw [show decide ((gl g).getD i.toNat z = 0) = true from decide_eq_true hz, cond_true, show decide (max m 1 < n + 1) = true from decide_eq_true hm, cond_true] at e
    exact ⟨by omega, by omega, by omega, by omega, by omega, by omega, by omega, by omega, e⟩
  · rw [show decide ((gl g).getD i.toNat z = 0) = true from decide_eq_true hz, cond_true, show decide (max m 1 < n + 1) = false from decide_eq_false hm, cond_false] at e
    exact ⟨by omega, by omega, by omega, by omega, m0, m1, a0, a1, e⟩
theorem v53 : Vc g53 300 Tryd.f53 cLong := by
  constructor
  rw [v53_eq]
  simp only [Wr_iff, bcase_iff, true_and, and_true, decide_eq_true_eq, decide_eq_false_iff_not, Bool.and_eq_true, Bool.and_eq_false_iff, Bool.or_eq_true, Bool.or_eq_false_iff, Bool.not_eq_true', Bool.not_eq_false', Option.map_some, Option.getD_some, Option.isSome_some, Option.isSome_map, imp_self, nilL, noneO]
  intro x
  generalize x.fst = g
  intro _
  refine ⟨⟨by omega, by omega, by omega, by omega, by omega, by omega, by omega, by omega, rfl⟩, fun y hy => ⟨fun h => ?_, fun h => ?_⟩⟩
  · have hc := long_cases (z := 0) hy h
    have i0 := hy.i0
    have n0 := hy.n0
    have n1 := hy.n1
    have m0 := hy.m0
    have w1 : IntKind.wrap .i64 (y.1 + 1) = y.1 + 1 := w64 (by omega) (by omega)
    have w2 : IntKind.wrap .i64 (y.2.1 + 1) = y.2.1 + 1 := w64 (by omega) (by omega)
    have w3 : IntKind.wrap .i64 (y.1 + 1 - (y.2.1 + 1)) = y.1 + 1 - (y.2.1 + 1) := w64 (by omega) (by omega)
    rw [w1, w2, w3]
    have hmu : 8 - (y.1 + 1).toNat < 8 - y.1.toNat := by omega
    refine ⟨i0, h, fun hz => ⟨fun hm => ?_, fun hm => ?_⟩, fun hz => ⟨fun hm => ?_, fun hm => ?_⟩⟩
    · omega
    · exact ⟨hc.1 hz, hmu⟩
    · exact ⟨(hc.2 hz).1 hm, hmu⟩
    · exact ⟨(hc.2 hz).2 (by omega), hmu⟩
  · have e := hy.a
    rw [List.drop_eq_nil_iff.2 (by rw [len_gl]; have := hy.i1; omega)] at e
    have e1 : y.2.2.1 = long1 g := congrArg Prod.fst e
    have e2 : y.2.2.2 = long2 g := congrArg Prod.snd e
    rw [e1, e2]
/-! numbers -/
theorem num_bad {s : ByteArray} (h : (s = ofL [] ∨ (s.size : Int) > 5) ∨ byteAt s 0 = 48 ∧ ¬ s = ofL [48]) : numOk (bytesL s) = false := by
  have hs := size_bytesL s
  have e1 : s = ofL [] ↔ bytesL s = [] := ⟨fun h => by rw [h, bytesL_ofL], fun h => bytesL_inj (by rw [h, bytesL_ofL])⟩
  have e2 : s = ofL [48] ↔ bytesL s = [48] := ⟨fun h => by rw [h, bytesL_ofL], fun h => bytesL_inj (by rw [h, bytesL_ofL])⟩
  rw [e1, e2, byteAt_eq, hs] at h
  cases hn : numOk (bytesL s) with
  | false => rfl
  | true =>
    exfalso
    unfold numOk at hn
    simp only [Bool.and_eq_true, decide_eq_true_eq, Bool.or_eq_true] at hn
    generalize bytesL s = l at h hn
    match l with
    | [] => simp at hn
    | [b] =>
      simp at h hn
      obtain ⟨h1, h2⟩ := h
      exact h2 (UInt8.toNat_inj.1 (by show b.toNat = 48; omega))
    | b :: c :: r =>
      simp at h hn
      rcases h with h | h
      · omega
      · exact hn.1.2 (UInt8.toNat_inj.1 (by show b.toNat = 48; omega))
theorem num_good {s : ByteArray} (h : (¬ s = ofL [] ∧ ¬ (s.size : Int) > 5) ∧ (¬ byteAt s 0 = 48 ∨ s = ofL [48])) : numOk (bytesL s) = (bytesL s).all isDigit := by
  have hs := size_bytesL s
  have e1 : s = ofL [] ↔ bytesL s = [] := ⟨fun h => by rw [h, bytesL_ofL], fun h => bytesL_inj (by rw [h, bytesL_ofL])⟩
  have e2 : s = ofL [48] ↔ bytesL s = [48] := ⟨fun h => by rw [h, bytesL_ofL], fun h => bytesL_inj (by rw [h, bytesL_ofL])⟩
  rw [e1, e2, byteAt_eq, hs] at h
  unfold numOk
  generalize bytesL s = l at h
  match l with
  | [] => simp at h
  | b :: r =>
    have k1 : decide (1 ≤ (b :: r).length) = true := by simp
    have k2 : decide ((b :: r).length ≤ 5) = true := by have := h.1.2; rw [decide_eq_true_eq]; omega
    have k3 : (decide ((b :: r).head? ≠ some 48) || decide ((b :: r).length = 1)) = true := by
      rcases h.2 with h | h
      · rw [Bool.or_eq_true]
        left
        rw [decide_eq_true_eq]
        intro e
        simp at e
        apply h
        rw [e]
        rfl
      · rw [h]; rfl
    rw [k1, k2, k3]
    rfl
theorem isDigit_iff (b : UInt8) : isDigit b = true ↔ 48 ≤ b.toNat ∧ b.toNat ≤ 57 := by unfold isDigit; simp
theorem pw_le {p : Nat} (h : p ≤ 5) : (10 : Int) ^ p ≤ 100000 := by
  have : ∀ q : Fin 6, (10 : Int) ^ q.val ≤ 100000 := by decide
  exact this ⟨p, by omega⟩
theorem num_on {s : ByteArray} {n : Int} {p : Nat} (h : NumI s n p) (hp : p < s.size) : ((runeAt s p < 48 ∨ runeAt s p > 57) → (bytesL s).all isDigit = false) ∧
    ((¬ runeAt s p < 48 ∧ ¬ runeAt s p > 57) → NumI s (IntKind.wrap .i64 (IntKind.wrap .i64 (10 * n) + IntKind.wrap .i64 (IntKind.wrap .i32 (runeAt s p - 48)))) (nextP s p)) := by
  obtain ⟨p1, z, n0, n1, d, a⟩ := h
  obtain ⟨b, e, hb⟩ := rune_byte hp
  have hpw := pw_le (p := p) (by omega)
  rw [e] at d a
  constructor
  · intro hr
    rw [← d, List.all_cons]
    have : isDigit b = false := by
      rw [← Bool.not_eq_true, isDigit_iff]
      omega
    rw [this, Bool.false_and]
  · intro hr
    rcases hb with ⟨b1, b2, b3⟩ | ⟨b1, b2⟩
    · have w0 : IntKind.wrap .i32 (runeAt s p - 48) = runeAt s p - 48 := by simp [IntKind.wrap, IntKind.signed, IntKind.bits]; omega
      have hd : isDigit b = true := by rw [isDigit_iff]; omega
      rw [w0, w64 (n := 10 * n) (by omega) (by omega), w64 (n := runeAt s p - 48) (by omega) (by omega), w64 (by omega) (by omega), b3, b2]
      refine ⟨by omega, z, by omega, ?_, ?_, ?_⟩
      · rw [Int.pow_succ]; omega
      · rw [← d, List.all_cons, hd, Bool.true_and]
      · have a : numL (n.toNat * 10 + (b.toNat - 48)) (restL s (p + 1)) = numL 0 (bytesL s) := a
        rw [← a]
        congr 1
        omega
    · omega
theorem v56 : Vc g56 300 Tryd.f56 cNum := by
  constructor
  rw [v56_eq]
  simp only [Wr_iff, bcase_iff, true_and, and_true, decide_eq_true_eq, decide_eq_false_iff_not, Bool.and_eq_true, Bool.and_eq_false_iff, Bool.or_eq_true, Bool.or_eq_false_iff, Bool.not_eq_true', Bool.not_eq_false', Option.map_some, Option.getD_some, Option.isSome_some, Option.isSome_map, imp_self, nilL, noneO]
  intro x
  generalize x.fst = s
  generalize x.snd.fst = m
  intro hs
  have e48 : ({ data := #[48] } : ByteArray) = ofL [48] := rfl
  have e0 : ({ data := #[] } : ByteArray) = ofL [] := rfl
  have no : numOk (bytesL s) = false → ((0 : Int), false, ()) = (num1 s m, num2 s m, ()) := by
    intro h
    unfold num1 num2
    rw [h]
    rfl
  have hz : ¬ s = ofL [] → 0 < s.size := by
    intro h
    rw [size_bytesL]
    rcases Nat.eq_zero_or_pos (bytesL s).length with h0 | h0
    · exact absurd (bytesL_inj (by rw [List.length_eq_zero_iff.1 h0, bytesL_ofL])) h
    · exact h0
  refine ⟨fun _ => by omega, fun h => by have := hz h.1; omega, fun h => no (num_bad h), fun h => ⟨⟨by omega, by have := h.1.2; omega, by omega, by decide, rfl, rfl⟩, fun y hy => ⟨fun hp => ⟨fun hr => ?_, fun hr => ?_⟩, fun hp => ?_⟩⟩⟩
  · have := (num_on hy hp).1 hr
    exact no (by rw [num_good h, this])
  · refine ⟨(num_on hy hp).2 hr, ?_⟩
    have := nextP_le hp
    omega
  · have hd := hy.d
    have ha := hy.a
    have hp1 := hy.p1
    have hn0 := hy.n0
    rw [restL_end (by omega)] at hd ha
    have hok : numOk (bytesL s) = true := by rw [num_good h, ← hd]; rfl
    have ha : y.1.toNat = numL 0 (bytesL s) := ha
    have hn : y.1 = ((numL 0 (bytesL s) : Nat) : Int) := by
      rw [← ha]; omega
    unfold num1 num2
    rw [hok, ← hn]
    rfl
/-! groups -/
theorem orI_nat (k : IntKind) (x y : Nat) (hx : x < 2 ^ k.bits) (hy : y < 2 ^ k.bits) : orI k x y = k.wrap ((x ||| y : Nat) : Int) := by
  have e : ∀ z : Nat, z < 2 ^ k.bits → ((z : Int) % ((2 ^ k.bits : Nat) : Int)).toNat = z := by
    intro z hz
    rw [Int.emod_eq_of_lt (by omega) (by exact_mod_cast hz)]
    simp
  unfold orI
  rw [BitVec.toNat_or, BitVec.toNat_ofInt, BitVec.toNat_ofInt, e x hx, e y hy]
theorem or_add {i a d : Nat} (hd : d < 2 ^ i) : (a * 2 ^ i ||| d) = a * 2 ^ i + d := by rw [Nat.mul_comm]; exact (Nat.two_pow_add_eq_or_of_lt hd a).symm
theorem or16 {n d : Int} (n0 : 0 ≤ n) (n1 : n ≤ 65535) (d0 : 0 ≤ d) (d1 : d < 16) : orI .i32 (IntKind.wrap .i32 (n * 2 ^ min (Int.toNat 4) (IntKind.bits .i32))) d = n * 16 + d := by
  obtain ⟨a, rfl⟩ : ∃ a : Nat, n = a := ⟨n.toNat, by omega⟩
  obtain ⟨b, rfl⟩ : ∃ b : Nat, d = b := ⟨d.toNat, by omega⟩
  have e : IntKind.wrap .i32 ((a : Int) * 2 ^ min (Int.toNat 4) (IntKind.bits .i32)) = ((a * 2 ^ 4 : Nat) : Int) := by
    have : (2 : Int) ^ min (Int.toNat 4) (IntKind.bits .i32) = 16 := rfl
    rw [this]
    simp [IntKind.wrap, IntKind.signed, IntKind.bits]; omega
  rw [e, orI_nat _ _ _ (by show _ < 2 ^ 32; omega) (by show _ < 2 ^ 32; omega), or_add (by omega)]
  simp [IntKind.wrap, IntKind.signed, IntKind.bits]; omega
theorem grp_no {s : ByteArray} (h : grpL 0 (bytesL s) = none) : ((0 : Int), false, ()) = (grp1 s, grp2 s, ()) := by
  unfold grp1 grp2
  rw [h]
  rfl
theorem grp_on {s : ByteArray} {n : Int} {p : Nat} {d : Int} (h : GrpI s n p) (hp : p < s.size) (d0 : 0 ≤ d) (d1 : d < 16) (hv : runeAt s p < 128 → ∀ b : UInt8, runeAt s p = b.toNat → hexV b = some d.toNat) (hr : runeAt s p < 128) :
    (n * 16 + d > 65535 → grpL 0 (bytesL s) = none) ∧ (¬ n * 16 + d > 65535 → GrpI s (n * 16 + d) (nextP s p)) := by
  obtain ⟨p1, n0, n1, a⟩ := h
  obtain ⟨b, e, hb⟩ := rune_byte hp
  rcases hb with ⟨b1, b2, b3⟩ | ⟨b1, b2⟩
  · rw [e, grpL, hv hr b b2] at a
    simp only at a
    refine ⟨fun h => ?_, fun h => ?_⟩
    · rw [← a, show decide (n.toNat * 16 + d.toNat ≤ 65535) = false from decide_eq_false (by omega)]
      rfl
    · rw [show decide (n.toNat * 16 + d.toNat ≤ 65535) = true from decide_eq_true (by omega), cond_true] at a
      rw [b3]
      refine ⟨by omega, by omega, by omega, ?_⟩
      rw [← a]
      congr 1
      omega
  · omega
theorem hexV_0 {b : UInt8} (h : 48 ≤ b.toNat ∧ b.toNat ≤ 57) : hexV b = some (b.toNat - 48) := by
  unfold hexV
  rw [show (decide (48 ≤ b.toNat) && decide (b.toNat ≤ 57)) = true from by simpa using h]
  rfl
theorem hexV_a {b : UInt8} (h : 97 ≤ b.toNat ∧ b.toNat ≤ 102) : hexV b = some (b.toNat - 87) := by
  unfold hexV
  rw [show (decide (48 ≤ b.toNat) && decide (b.toNat ≤ 57)) = false from by simp; omega, show (decide (97 ≤ b.toNat) && decide (b.toNat ≤ 102)) = true from by simpa using h]
  rfl
theorem hexV_A {b : UInt8} (h : 65 ≤ b.toNat ∧ b.toNat ≤ 70) : hexV b = some (b.toNat - 55) := by
  unfold hexV
  rw [show (decide (48 ≤ b.toNat) && decide (b.toNat ≤ 57)) = false from by simp; omega, show (decide (97 ≤ b.toNat) && decide (b.toNat ≤ 102)) = false from by simp; omega, show (decide (65 ≤ b.toNat) && decide (b.toNat ≤ 70)) = true from by simpa using h]
  rfl
theorem hexV_no {b : UInt8} (h : ¬ (48 ≤ b.toNat ∧ b.toNat ≤ 57) ∧ ¬ (97 ≤ b.toNat ∧ b.toNat ≤ 102) ∧ ¬ (65 ≤ b.toNat ∧ b.toNat ≤ 70)) : hexV b = none := by
  unfold hexV
  rw [show (decide (48 ≤ b.toNat) && decide (b.toNat ≤ 57)) = false from by simp; omega, show (decide (97 ≤ b.toNat) && decide (b.toNat ≤ 102)) = false from by simp; omega, show (decide (65 ≤ b.toNat) && decide (b.toNat ≤ 70)) = false from by simp; omega]
  rfl
theorem wi32 {n : Int} (h0 : -1000 ≤ n) (h1 : n ≤ 2000000000) : IntKind.wrap .i32 n = n := by
  simp [IntKind.wrap, IntKind.signed, IntKind.bits]; omega
theorem v105 : Vc g105 300 Tryd.f105 cGrp := by
  constructor
  rw [v105_eq]
  simp only [Wr_iff, bcase_iff, true_and, and_true, decide_eq_true_eq, decide_eq_false_iff_not, Bool.and_eq_true, Bool.and_eq_false_iff, Bool.or_eq_true, Bool.or_eq_false_iff, Bool.not_eq_true', Bool.not_eq_false', Option.map_some, Option.getD_some, Option.isSome_some, Option.isSome_map, imp_self, nilL, noneO]
  intro x
  generalize x.fst = s
  intro hs
  have e0 : ({ data := #[] } : ByteArray) = ofL [] := rfl
  refine ⟨⟨by omega, by omega, by omega, rfl⟩, fun y hy => ⟨fun hp => ?_, fun hp => ?_⟩⟩
  · have hmu : s.size - nextP s y.2 < s.size - y.2 := by have := nextP_le hp; omega
    have n0 := hy.n0
    have n1 := hy.n1
    refine ⟨fun hr => ?_, fun hr1 => ⟨fun hr => ?_, fun hr2 => ⟨fun hr => ?_, fun hr3 => ?_⟩⟩⟩
    · rw [wi32 (n := runeAt s y.2 - 48) (by omega) (by omega), or16 n0 n1 (by omega) (by omega)]
      have hg := grp_on (d := runeAt s y.2 - 48) hy hp (by omega) (by omega) (fun _ b hb => by rw [hexV_0 (by omega)]; congr 1; omega) (by omega)
      exact ⟨by omega, fun h => grp_no (hg.1 h), fun h => ⟨hg.2 h, hmu⟩⟩
    · rw [wi32 (n := runeAt s y.2 - 97) (by omega) (by omega), wi32 (n := runeAt s y.2 - 97 + 10) (by omega) (by omega), or16 n0 n1 (by omega) (by omega)]
      have hg := grp_on (d := runeAt s y.2 - 97 + 10) hy hp (by omega) (by omega) (fun _ b hb => by rw [hexV_a (by omega)]; congr 1; omega) (by omega)
      exact ⟨by omega, fun h => grp_no (hg.1 h), fun h => ⟨hg.2 h, hmu⟩⟩
    · rw [wi32 (n := runeAt s y.2 - 65) (by omega) (by omega), wi32 (n := runeAt s y.2 - 65 + 10) (by omega) (by omega), or16 n0 n1 (by omega) (by omega)]
      have hg := grp_on (d := runeAt s y.2 - 65 + 10) hy hp (by omega) (by omega) (fun _ b hb => by rw [hexV_A (by omega)]; congr 1; omega) (by omega)
      exact ⟨by omega, fun h => grp_no (hg.1 h), fun h => ⟨hg.2 h, hmu⟩⟩
    · refine grp_no ?_
      obtain ⟨b, e, hb⟩ := rune_byte hp
      rw [← hy.a, e, grpL, hexV_no (by omega)]
  · have ha := hy.a
    have hp1 := hy.p1
    have hn0 := hy.n0
    have hn1 := hy.n1
    rw [restL_end (by omega), grpL] at ha
    have e1 : IntKind.wrap .u16 y.1 = grp1 s := by
      unfold grp1
      rw [← ha, Option.getD_some]
      simp [IntKind.wrap, IntKind.signed, IntKind.bits]; omega
    have e2 : (!decide (s = { data := #[] }) && decide ((s.size : Int) ≤ 4)) = grp2 s := by
      unfold grp2
      rw [← ha, Option.isSome_some, Bool.true_and, e0]
      have := empty_iff s
      have hsz := size_bytesL s
      rw [Bool.eq_iff_iff]
      simp only [Bool.and_eq_true, Bool.not_eq_true', decide_eq_false_iff_not, decide_eq_true_eq, this]
      omega
    rw [e1, e2]
end Go.Proofs.YtkimpfoimblhjaaDoor.Ad
set_option linter.all false
namespace Go.Proofs.YtkimpfoimblhjaaDoor.Ad
open Go Go.Eng Go.Lb Go.Ad Lb
set_option maxRecDepth 100000
set_option maxHeartbeats 1000000
theorem numO_cases (s : ByteArray) (m : Int) : (num2 s m = true → numO m s = some (num1 s m)) ∧ (num2 s m = false → numO m s = none) := by
  unfold numO
  exact ⟨fun h => by rw [h]; rfl, fun h => by rw [h]; rfl⟩
theorem four_cases (s : ByteArray) : (four2 s = true → (fourO s).map (fun l => ((4 : Int), l)) = some (4, (fourO s).getD [])) ∧ (four2 s = false → fourO s = none) := by
  unfold four2
  cases fourO s with
  | none => exact ⟨fun h => Bool.noConfusion h, fun _ => rfl⟩
  | some l => exact ⟨fun _ => rfl, fun h => Bool.noConfusion h⟩
theorem six_cases (s : ByteArray) : (six2 s = true → (sixO s).map (fun l => ((6 : Int), l)) = some (6, (sixO s).getD [])) ∧ (six2 s = false → sixO s = none) := by
  unfold six2
  cases sixO s with
  | none => exact ⟨fun h => Bool.noConfusion h, fun _ => rfl⟩
  | some l => exact ⟨fun _ => rfl, fun h => Bool.noConfusion h⟩
theorem sub_ofL (s : ByteArray) (i k : Nat) : subS s i k = ofL (((bytesL s).take k).drop i) := by
  apply bytesL_inj
  rw [bytesL_ofL, bytesL_sub]
theorem sub_take (s : ByteArray) (i : Nat) : subS s 0 i = ofL ((bytesL s).take i) := by rw [sub_ofL]; rfl
theorem sub_drop (s : ByteArray) (i : Nat) : subS s i s.size = ofL ((bytesL s).drop i) := by
  rw [sub_ofL, List.take_of_length_le (Nat.le_of_eq (size_bytesL s).symm)]
theorem sub_mid (l : List UInt8) : subS (ofL l) 1 (l.length - 1) = ofL (l.drop 1).dropLast := by
  rw [sub_ofL, bytesL_ofL, List.dropLast_eq_take, List.drop_take, List.length_drop]
theorem sub_at {s : ByteArray} {a b : Int} {k : Nat} (ha : a = k) (hb : b = s.size) : subS s a.toNat b.toNat = ofL ((bytesL s).drop k) := by
  rw [ha, hb]
  exact sub_drop s k
theorem sub_to {s : ByteArray} {b : Int} {k : Nat} (hb : b = k) : subS s (Int.toNat 0) b.toNat = ofL ((bytesL s).take k) := by
  rw [hb]
  exact sub_take s k
theorem sub_in {l : List UInt8} {b : Int} (hl : 1 ≤ l.length) (hb : b = (l.length : Int) - 1) : subS (ofL l) (Int.toNat 1) b.toNat = ofL (l.drop 1).dropLast := by
  rw [hb, show ((l.length : Int) - 1).toNat = l.length - 1 from by omega]
  exact sub_mid l
theorem head91 : ∀ {l : List UInt8}, byteAt (ofL l) (Int.toNat 0) = 91 ↔ l.head? = some 91
  | [] => by rw [byteAt_eq, bytesL_ofL]; decide
  | b :: r => by
    rw [byteAt_eq, bytesL_ofL]
    simp
    exact ⟨fun h => UInt8.toNat_inj.1 (by show b.toNat = 91; omega), fun h => by rw [h]; decide⟩
theorem last93 {l : List UInt8} {b : Int} (hl : 1 ≤ l.length) (hb : b = (l.length : Int) - 1) : byteAt (ofL l) b.toNat = 93 ↔ l.getLast? = some 93 := by
  rw [byteAt_eq, bytesL_ofL, hb, show ((l.length : Int) - 1).toNat = l.length - 1 from by omega, List.getLast?_eq_getElem?]
  have : l.length - 1 < l.length := by omega
  rw [List.getD_eq_getElem?_getD, List.getElem?_eq_getElem this]
  simp
  exact ⟨fun h => UInt8.toNat_inj.1 (by show (l[l.length - 1]).toNat = 93; omega), fun h => by rw [h]; decide⟩
theorem parse_none {s : ByteArray} (h : parseO s = none) : (((0 : Int), ((0 : Int), (0 : Int), (0 : Int), (0 : Int), (0 : Int), (0 : Int), (0 : Int), (0 : Int), ()), (0 : Int), ()), (20 : Int), ()) = (parse1 s, parse2 s, ()) := by
  unfold parse1 parse2
  rw [h]
  rfl
theorem parse_some {s : ByteArray} {a : Ad} (h : parseO s = some a) : (a, (0 : Int), ()) = (parse1 s, parse2 s, ()) := by
  unfold parse1 parse2
  rw [h]
  rfl
theorem parse_at {s : ByteArray} {k : Nat} (h : lastN 58 (bytesL s) = some k) (h1 : 1 ≤ k) : parseO s = match hostO ((bytesL s).take k), numO 65535 (ofL ((bytesL s).drop (k + 1))) with
    | some h, some p => bif decide (p = 0) then none else some (h.1, lg h.2, p, ())
    | _, _ => none := by
  unfold parseO
  rw [h]
  show (bif decide (k < 1) then none else _) = _
  rw [show decide (k < 1) = false from decide_eq_false (by omega), cond_false]
  rfl
theorem parse_bad {s : ByteArray} {k : Nat} (h : lastN 58 (bytesL s) = some k) (h1 : 1 ≤ k) (hb : num2 (ofL ((bytesL s).drop (k + 1))) 65535 = false ∨ hostO ((bytesL s).take k) = none ∨ num1 (ofL ((bytesL s).drop (k + 1))) 65535 = 0) : parseO s = none := by
  rw [parse_at h h1]
  cases hn : num2 (ofL ((bytesL s).drop (k + 1))) 65535 with
  | false =>
    rw [(numO_cases _ _).2 hn]
    cases hostO ((bytesL s).take k) <;> rfl
  | true =>
    rw [(numO_cases _ _).1 hn]
    cases hh : hostO ((bytesL s).take k) with
    | none => rfl
    | some h =>
      show (bif decide (num1 (ofL ((bytesL s).drop (k + 1))) 65535 = 0) then none else _) = _
      rw [hn, hh] at hb
      rw [decide_eq_true (by simpa using hb), cond_true]
theorem parse_good {s : ByteArray} {k : Nat} {f : Int} {l : List Int} (h : lastN 58 (bytesL s) = some k) (h1 : 1 ≤ k) (hn : num2 (ofL ((bytesL s).drop (k + 1))) 65535 = true) (hh : hostO ((bytesL s).take k) = some (f, l)) (h0 : ¬ num1 (ofL ((bytesL s).drop (k + 1))) 65535 = 0) :
    parseO s = some (f, lg l, num1 (ofL ((bytesL s).drop (k + 1))) 65535, ()) := by
  rw [parse_at h h1, (numO_cases _ _).1 hn, hh]
  show (bif decide (num1 (ofL ((bytesL s).drop (k + 1))) 65535 = 0) then none else _) = _
  rw [decide_eq_false h0, cond_false]
theorem host4 {l : List UInt8} (h : ¬ l.head? = some 91) : hostO l = (fourO (ofL l)).map (fun l => ((4 : Int), l)) := by
  unfold hostO
  rw [show decide (l.head? ≠ some 91) = true from decide_eq_true h, cond_true]
theorem host6 {l : List UInt8} (h : l.head? = some 91) (h1 : 1 < l.length) (h2 : l.getLast? = some 93) : hostO l = (sixO (ofL (l.drop 1).dropLast)).map (fun l => ((6 : Int), l)) := by
  unfold hostO
  rw [show decide (l.head? ≠ some 91) = false from decide_eq_false (fun k => k h), cond_false, decide_eq_true h1, decide_eq_true h2]
  rfl
theorem host0 {l : List UInt8} (h : l.head? = some 91) (h1 : ¬ 1 < l.length ∨ ¬ l.getLast? = some 93) : hostO l = none := by
  unfold hostO
  rw [show decide (l.head? ≠ some 91) = false from decide_eq_false (fun k => k h), cond_false]
  rcases h1 with h1 | h1
  · rw [decide_eq_false h1]; rfl
  · rw [decide_eq_false h1, Bool.and_false]; rfl
theorem v18 : Vc g18 300 Tryd.f18 cParse := by
  constructor
  rw [v18_eq]
  simp only [Wr_iff, bcase_iff, true_and, and_true, decide_eq_true_eq, decide_eq_false_iff_not, Bool.and_eq_true, Bool.and_eq_false_iff, Bool.or_eq_true, Bool.or_eq_false_iff, Bool.not_eq_true', Bool.not_eq_false', Option.map_some, Option.getD_some, Option.isSome_some, Option.isSome_map, imp_self, nilL, noneO]
  intro x
  generalize x.fst = s
  intro hs
  refine ⟨⟨⟨hs, by omega⟩, by omega⟩, ?_⟩
  have hs' := (szOk_iff s).1 hs
  have sz := size_bytesL s
  cases hk : lastN 58 (bytesL s) with
  | none =>
    have hz : lastZ s 58 = -1 := by unfold lastZ; rw [show UInt8.ofNat (Int.toNat 58) = 58 from rfl, hk]
    rw [hz]
    refine ⟨fun _ => parse_none ?_, fun h => absurd (show (-1 : Int) < 1 by omega) h⟩
    unfold parseO
    rw [hk]
  | some k =>
    have hz : lastZ s 58 = k := by unfold lastZ; rw [show UInt8.ofNat (Int.toNat 58) = 58 from rfl, hk]
    have hlt := lastN_lt hk
    rw [hz]
    have wz : IntKind.wrap .i64 ((k : Int) + 1) = ((k + 1 : Nat) : Int) := by rw [w64 (by omega) (by omega)]; omega
    refine ⟨fun h => parse_none ?_, fun h => ?_⟩
    · unfold parseO
      rw [hk]
      show (bif decide (k < 1) then none else _) = _
      rw [show decide (k < 1) = true from decide_eq_true (by omega), cond_true]
    · have h1 : 1 ≤ k := by omega
      rw [sub_at wz rfl, sub_to (b := (k : Int)) rfl, wz]
      have hH : ((bytesL s).take k).length = k := by rw [List.length_take]; omega
      have zH : (ofL ((bytesL s).take k)).size = k := by rw [ofL_size, hH]
      have bad := fun b => parse_none (parse_bad hk h1 b)
      have good := fun (f : Int) (l : List Int) a b c => parse_some (parse_good (f := f) (l := l) hk h1 a b c)
      have szP : (ofL ((bytesL s).drop (k + 1))).size ≤ 4000000000 := by rw [ofL_size, List.length_drop]; omega
      have w1 : IntKind.wrap .i64 ((((ofL ((bytesL s).take k)).size : Nat) : Int) - 1) = (((bytesL s).take k).length : Int) - 1 := by rw [w64 (by omega) (by omega)]; omega
      generalize (bytesL s).take k = H at *
      generalize ofL ((bytesL s).drop (k + 1)) = P at *
      rw [sub_in (by omega) w1, last93 (by omega) w1, head91, w1, zH, hH]
      have dH : (ofL (H.drop 1).dropLast).size ≤ 4000000000 := by rw [ofL_size, List.length_dropLast, List.length_drop]; omega
      refine ⟨by omega, by omega, by omega, by omega, by omega, by omega, (szOk_iff _).2 szP, by omega, by omega, fun hd => ?_, fun hd => ⟨by omega, by omega, fun hm => ?_, fun hm => ?_⟩⟩
      · refine ⟨(szOk_iff _).2 (by omega), fun b => bad ?_, fun g => good _ _ g.1.1 ?_ g.2⟩
        · rcases b with (b | b) | b
          · exact .inl b
          · rw [host4 hd, (four_cases _).2 b]; exact .inr (.inl rfl)
          · exact .inr (.inr b)
        · rw [host4 hd, (four_cases _).1 g.1.2]
      · have hh := host6 hd (by omega) hm.2
        refine ⟨by omega, by omega, by omega, (szOk_iff _).2 dH, fun b => bad ?_, fun g => good _ _ g.1.1 ?_ g.2⟩
        · rcases b with (b | b) | b
          · exact .inl b
          · rw [hh, (six_cases _).2 b]; exact .inr (.inl rfl)
          · exact .inr (.inr b)
        · rw [hh, (six_cases _).1 g.1.2]
      · have hh := host0 hd (by rcases hm with hm | hm; exact .inl (by omega); exact .inr hm)
        refine ⟨fun _ => bad (.inr (.inl hh)), fun g => ?_⟩
        exact absurd g.1.2 (by decide)
end Go.Proofs.YtkimpfoimblhjaaDoor.Ad
set_option linter.all false
namespace Go.Proofs.YtkimpfoimblhjaaDoor.Ad
open Go Go.Eng Go.Lb Go.Ad Lb
set_option maxRecDepth 100000
set_option maxHeartbeats 2000000
theorem wu16 {n : Int} (h0 : 0 ≤ n) (h1 : n < 65536) : IntKind.wrap .u16 n = n := by
  simp [IntKind.wrap, IntKind.signed, IntKind.bits]; omega
theorem or8 {n d : Int} (n0 : 0 ≤ n) (n1 : n ≤ 255) (d0 : 0 ≤ d) (d1 : d ≤ 255) : orI .u16 (IntKind.wrap .u16 (n * 2 ^ min (Int.toNat 8) (IntKind.bits .u16))) (IntKind.wrap .u16 d) = n * 256 + d := by
  obtain ⟨a, rfl⟩ : ∃ a : Nat, n = a := ⟨n.toNat, by omega⟩
  obtain ⟨b, rfl⟩ : ∃ b : Nat, d = b := ⟨d.toNat, by omega⟩
  have e : IntKind.wrap .u16 ((a : Int) * 2 ^ min (Int.toNat 8) (IntKind.bits .u16)) = ((a * 2 ^ 8 : Nat) : Int) := by
    have : (2 : Int) ^ min (Int.toNat 8) (IntKind.bits .u16) = 256 := rfl
    rw [this, wu16 (by omega) (by omega)]
    omega
  rw [e, wu16 d0 (by omega), orI_nat .u16 _ _ (by show a * 2 ^ 8 < 65536; omega) (by show b < 65536; omega), or_add (by omega), wu16 (by omega) (by omega)]
  omega
abbrev four8 (g : G8) (i : Int) (n : Int) : G8 := lg ((gl g).set (IntKind.wrap .i64 (Int.tdiv i 2)).toNat (orI .u16 (IntKind.wrap .u16 ((gl g).getD (IntKind.wrap .i64 (Int.tdiv i 2)).toNat 0 * 2 ^ min (Int.toNat 8) (IntKind.bits .u16))) (IntKind.wrap .u16 n)))
theorem four_on {ps : List ByteArray} {g : G8} {i : Int} {z : ByteArray} (h : FourI ps g i) (hi : i < ps.length) (hn : num2 (ps.getD i.toNat z) 255 = true) : FourI ps (four8 g i (num1 (ps.getD i.toNat z) 255)) (IntKind.wrap .i64 (i + 1)) := by
  obtain ⟨i0, i1, l, ns, e, rfl⟩ := h
  have hg : GoI (numO 255) ps ns i := ⟨i0, by omega, e⟩
  have hno := (numO_cases _ _).1 hn
  obtain ⟨hon, _⟩ := hg.on (z := z) (by omega) hi hno
  have len := hg.len
  have R : ∀ n ∈ ns, 0 ≤ n ∧ n ≤ 255 := goO_mem (fun a b => numO_R) e
  have Rn := numO_R hno
  refine ⟨hon.i0, by have := hon.i1; omega, l, ns ++ [num1 (ps.getD i.toNat z) 255], hon.a, ?_⟩
  generalize num1 (ps.getD i.toNat z) 255 = n at *
  have hc : i = 0 ∨ i = 1 ∨ i = 2 ∨ i = 3 := by omega
  rcases hc with rfl | rfl | rfl | rfl
  · match ns, len with
    | [], _ =>
      have e1 := or8 (n := 0) (by omega) (by omega) Rn.1 Rn.2
      rw [Int.zero_mul, Int.zero_mul, Int.zero_add] at e1
      show lg [orI .u16 (IntKind.wrap .u16 (0 * 2 ^ min (Int.toNat 8) (IntKind.bits .u16))) (IntKind.wrap .u16 n), 0, 0, 0, 0, 0, 0, 0] = lg [n]
      rw [Int.zero_mul, e1]
      rfl
  · match ns, len with
    | [a], _ =>
      have Ra := R a (by simp)
      have e1 := or8 Ra.1 Ra.2 Rn.1 Rn.2
      show lg [orI .u16 (IntKind.wrap .u16 (a * 2 ^ min (Int.toNat 8) (IntKind.bits .u16))) (IntKind.wrap .u16 n), 0, 0, 0, 0, 0, 0, 0] = lg [a * 256 + n]
      rw [e1]
      rfl
  · match ns, len with
    | [a, b], _ =>
      have e1 := or8 (n := 0) (by omega) (by omega) Rn.1 Rn.2
      rw [Int.zero_mul, Int.zero_mul, Int.zero_add] at e1
      show lg [a * 256 + b, orI .u16 (IntKind.wrap .u16 (0 * 2 ^ min (Int.toNat 8) (IntKind.bits .u16))) (IntKind.wrap .u16 n), 0, 0, 0, 0, 0, 0] = lg [a * 256 + b, n]
      rw [Int.zero_mul, e1]
      rfl
  · match ns, len with
    | [a, b, c], _ =>
      have Ra := R c (by simp)
      have e1 := or8 Ra.1 Ra.2 Rn.1 Rn.2
      show lg [a * 256 + b, orI .u16 (IntKind.wrap .u16 (c * 2 ^ min (Int.toNat 8) (IntKind.bits .u16))) (IntKind.wrap .u16 n), 0, 0, 0, 0, 0, 0] = lg [a * 256 + b, c * 256 + n]
      rw [e1]
      rfl
theorem four_no {s : ByteArray} (h : fourO s = none) : (((0 : Int), (0 : Int), (0 : Int), (0 : Int), (0 : Int), (0 : Int), (0 : Int), (0 : Int), ()), false, ()) = (four1 s, four2 s, ()) := by
  unfold four1 four2
  rw [h]
  rfl
theorem four_fin {s : ByteArray} {g : G8} {i : Int} (h : FourI (splitS s (ofL [46])) g i) (hi : ¬ i < (splitS s (ofL [46])).length) : (g, true, ()) = (four1 s, four2 s, ()) := by
  obtain ⟨i0, i1, l, ns, e, rfl⟩ := h
  have hg : GoI (numO 255) (splitS s (ofL [46])) ns i := ⟨i0, by omega, e⟩
  have hf := hg.fin hi
  have hl := goO_len hf
  unfold four1 four2 fourO
  rw [l, hf]
  match ns, hl.trans l with
  | [a, b, c, d], _ => rfl
theorem v57 : Vc g57 300 Tryd.f57 cFour := by
  constructor
  rw [v57_eq]
  simp only [Wr_iff, bcase_iff, true_and, and_true, decide_eq_true_eq, decide_eq_false_iff_not, Bool.and_eq_true, Bool.and_eq_false_iff, Bool.or_eq_true, Bool.or_eq_false_iff, Bool.not_eq_true', Bool.not_eq_false', Option.map_some, Option.getD_some, Option.isSome_some, Option.isSome_map, imp_self, nilL, noneO]
  intro x
  generalize x.fst = s
  rw [show ({ data := #[46] } : ByteArray) = ofL [46] from rfl]
  intro hs
  refine ⟨⟨hs, rfl⟩, ?_⟩
  refine ⟨fun h => four_no ?_, fun h => ⟨?_, fun y hy => ⟨fun hi => ?_, fun hi => four_fin hy hi⟩⟩⟩
  · unfold fourO
    rw [show decide ((splitS s (ofL [46])).length = 4) = false from decide_eq_false (by omega)]
    rfl
  · exact ⟨by omega, by omega, by omega, [], rfl, rfl⟩
  · have i0 := hy.i0
    have w : IntKind.wrap .i64 (Int.tdiv y.2 2) = Int.tdiv y.2 2 ∧ 0 ≤ Int.tdiv y.2 2 ∧ Int.tdiv y.2 2 < 8 := by
      rw [Int.tdiv_eq_ediv_of_nonneg i0]
      exact ⟨w64 (by omega) (by omega), by omega, by omega⟩
    have szp := splitS_sz hs (getD_mem (z := Ty.zero .str) i0 hi)
    refine ⟨i0, hi, szp, fun hn => four_no ?_, fun hn => ?_⟩
    · have hg := hy.a
      obtain ⟨ns, e, _⟩ := hg
      unfold fourO
      rw [goO_none (getD_mem (z := Ty.zero .str) i0 hi) ((numO_cases _ _).2 hn)]
      cases decide ((splitS s (ofL [46])).length = 4) <;> rfl
    · have e8 : ((8 : Nat) : Int) = 8 := rfl
      refine ⟨by omega, by omega, by rw [w.1]; exact w.2.1, by rw [w.1, e8]; exact w.2.2, by omega, by rw [w.1]; exact w.2.1, by rw [w.1, e8]; exact w.2.2, four_on hy hi hn, ?_⟩
      have hl := hy.l
      rw [step i0 (by omega) hi]
      exact wcut (n := 4) i0 (by omega)
end Go.Proofs.YtkimpfoimblhjaaDoor.Ad
set_option linter.all false
namespace Go.Proofs.YtkimpfoimblhjaaDoor.Ad
open Go Go.Eng Go.Lb Go.Ad Lb
set_option maxRecDepth 100000
set_option maxHeartbeats 4000000
theorem cut_no {l d : List UInt8} (h : (Go.Lib.cut l d).2.2 = false) : (Go.Lib.cut l d).2.1 = [] := by
  unfold Go.Lib.cut at *
  by_cases hc : 0 ≤ Go.Lib.index l d
  · rw [if_pos hc] at h; exact Bool.noConfusion (show true = false from h)
  · rw [if_neg hc]
theorem gl_lg {l : List Int} (h : l.length = 8) : gl (lg l) = l := by
  match l, h with
  | [a, b, c, d, e, f, g, i], _ => rfl
abbrev z8 : List Int := [0, 0, 0, 0, 0, 0, 0, 0]
theorem z8_eq : z8 = List.replicate 8 0 := rfl
theorem cp1 {l : List Int} (h : l.length ≤ 8) : cpL z8 (Int.toNat 0) (Int.toNat (8 : Nat) - Int.toNat 0) l = l ++ List.replicate (8 - l.length) 0 := by
  show z8.take 0 ++ (l.take 8 ++ z8.drop (0 + min 8 l.length)) = _
  rw [List.take_zero, List.nil_append, List.take_of_length_le h, z8_eq, List.drop_replicate, Nat.zero_add, Nat.min_eq_right h]
theorem cp2 {l m : List Int} {w : Int} (h : l.length + m.length ≤ 8) (hw : w = 8 - (m.length : Int)) : cpL (l ++ List.replicate (8 - l.length) 0) w.toNat (Int.toNat (8 : Nat) - w.toNat) m = l ++ List.replicate (8 - l.length - m.length) 0 ++ m := by
  have e : w.toNat = 8 - m.length := by omega
  have e8 : Int.toNat ((8 : Nat) : Int) = 8 := rfl
  unfold cpL
  rw [e, e8, show 8 - (8 - m.length) = m.length from by omega, List.take_of_length_le (Nat.le_refl _), Nat.min_self, List.take_append, List.drop_of_length_le (by simp; omega), List.append_nil, List.take_of_length_le (by omega), List.take_replicate, show min (8 - m.length - l.length) (8 - l.length) = 8 - l.length - m.length from by omega]
theorem six_cp {l m : List Int} {w : Int} (h : l.length + m.length ≤ 8) (hw : w = 8 - (m.length : Int)) :
    lg (cpL (gl (lg (cpL z8 (Int.toNat 0) (Int.toNat (8 : Nat) - Int.toNat 0) l))) w.toNat (Int.toNat (8 : Nat) - w.toNat) m) = lg (l ++ List.replicate (8 - l.length - m.length) 0 ++ m) := by
  rw [cp1 (by omega), gl_lg (by rw [List.length_append, List.length_replicate]; omega), cp2 h hw]
theorem side_len {s : ByteArray} (h : szOk s = true) : (side1 s).length ≤ 4000000001 := by
  unfold side1 sideO
  cases decide ((bytesL s).length = 0) with
  | true => exact Nat.zero_le _
  | false =>
    rw [cond_false]
    cases hg : goO grpO (splitS s (ofL [58])) with
    | none => exact Nat.zero_le _
    | some l => rw [Option.getD_some, goO_len hg]; exact splitS_n h
theorem six_eq (s : ByteArray) : sixO s = bif side2 (cut1 s (ofL [58, 58])) && side2 (cut2 s (ofL [58, 58])) then
    (bif cutOk s (ofL [58, 58]) then (bif decide ((side1 (cut1 s (ofL [58, 58]))).length + (side1 (cut2 s (ofL [58, 58]))).length ≤ 7) then some (side1 (cut1 s (ofL [58, 58])) ++ List.replicate (8 - (side1 (cut1 s (ofL [58, 58]))).length - (side1 (cut2 s (ofL [58, 58]))).length) 0 ++ side1 (cut2 s (ofL [58, 58]))) else none) else
      (bif decide ((side1 (cut1 s (ofL [58, 58]))).length = 8) then some (side1 (cut1 s (ofL [58, 58]))) else none)) else none := by
  unfold sixO cut1 cut2 cutOk side1 side2
  rw [bytesL_ofL]
  generalize sideO (ofL (Go.Lib.cut (bytesL s) [58, 58]).1) = a
  generalize sideO (ofL (Go.Lib.cut (bytesL s) [58, 58]).2.1) = b
  cases a <;> cases b <;> rfl
theorem cut_side (s : ByteArray) (h : cutOk s (ofL [58, 58]) = false) : side1 (cut2 s (ofL [58, 58])) = [] := by
  unfold cutOk at h
  unfold cut2
  rw [cut_no h]
  rfl
theorem six_no {s : ByteArray} (h : sixO s = none) : (((0 : Int), (0 : Int), (0 : Int), (0 : Int), (0 : Int), (0 : Int), (0 : Int), (0 : Int), ()), false, ()) = (six1 s, six2 s, ()) := by
  unfold six1 six2
  rw [h]
  rfl
theorem six_yes {s : ByteArray} {l : List Int} {g : G8} (h : sixO s = some l) (hg : g = lg l) : (g, true, ()) = (six1 s, six2 s, ()) := by
  unfold six1 six2
  rw [h, hg]
  rfl
theorem cut_le (s : ByteArray) : (cut1 s (ofL [58, 58])).size ≤ s.size ∧ (cut2 s (ofL [58, 58])).size ≤ s.size := by
  unfold cut1 cut2
  rw [ofL_size, ofL_size, size_bytesL s]
  unfold Go.Lib.cut
  by_cases hc : 0 ≤ Go.Lib.index (bytesL s) (bytesL (ofL [58, 58]))
  · rw [if_pos hc]
    show (List.take _ _).length ≤ _ ∧ (List.drop _ _).length ≤ _
    rw [List.length_take, List.length_drop]
    omega
  · rw [if_neg hc]
    exact ⟨Nat.le_refl _, Nat.zero_le _⟩
theorem v58 : Vc g58 300 Tryd.f58 cSix := by
  constructor
  rw [v58_eq]
  intro x
  generalize x.fst = s
  have hf := six_eq s
  have hk := cut_side s
  have hc := cut_le s
  rw [show (ByteArray.mk (List.toArray ((58 : UInt8) :: (58 : UInt8) :: nilL UInt8)) : ByteArray) = ofL [58, 58] from rfl]
  generalize ha : cut1 s (ofL [58, 58]) = a at *
  generalize hb : cut2 s (ofL [58, 58]) = b at *
  have l1 : szOk a = true → (side1 a).length ≤ 4000000001 := side_len
  have l2 : szOk b = true → (side1 b).length ≤ 4000000001 := side_len
  generalize side1 a = l at *
  generalize side1 b = m at *
  generalize side2 a = p at *
  generalize side2 b = q at *
  generalize cutOk s (ofL [58, 58]) = k at *
  intro hs
  have hs := (szOk_iff s).1 ((Wr_iff _).1 hs)
  have za := (szOk_iff a).2 (by omega)
  have zb := (szOk_iff b).2 (by omega)
  have l1 := l1 za
  have l2 := l2 zb
  refine ⟨⟨(szOk_iff s).2 hs⟩, ⟨za⟩, ⟨zb⟩, ?_⟩
  have w : IntKind.wrap .i64 ((l.length : Int) + m.length) = (l.length : Int) + m.length := w64 (by omega) (by omega)
  have e8 : ((8 : Nat) : Int) = 8 := rfl
  refine (bcase_iff _ _ _).2 ⟨fun h => (bcase_iff _ _ _).2 ⟨fun _ => six_no ?_, fun h' => absurd (h.symm.trans h') (by decide)⟩, fun h => (bcase_iff _ _ _).2 ⟨fun h2 => (bcase_iff _ _ _).2 ⟨fun _ => six_no ?_, fun h' => absurd (h2.symm.trans h') (by decide)⟩, fun h2 => (bcase_iff _ _ _).2 ⟨fun h3 => six_no ?_, fun h3 => ?_⟩⟩⟩
  · rw [hf]
    have : (p && q) = false := by cases p <;> cases q <;> simp_all
    rw [this]; rfl
  · have hp : (p && q) = true := by cases p <;> cases q <;> simp_all
    rw [Bool.and_eq_true, decide_eq_true_eq, w] at h2
    rw [hf, hp, h2.1, decide_eq_false (show ¬ l.length + m.length ≤ 7 by omega)]; rfl
  · have hp : (p && q) = true := by cases p <;> cases q <;> simp_all
    rw [Bool.and_eq_true, Bool.not_eq_true', Bool.not_eq_true', decide_eq_false_iff_not] at h3
    rw [hf, hp, h3.1, decide_eq_false (show ¬ l.length = 8 by omega)]; rfl
  · have hp : (p && q) = true := by cases p <;> cases q <;> simp_all
    have hlm : ∃ r, sixO s = some r ∧ r = l ++ List.replicate (8 - l.length - m.length) 0 ++ m ∧ l.length + m.length ≤ 8 := by
      cases k with
      | true =>
        have : ¬ ((l.length : Int) + m.length > 7) := by rw [Bool.true_and, decide_eq_false_iff_not, w] at h2; exact h2
        rw [hf, hp, decide_eq_true (show l.length + m.length ≤ 7 by omega)]
        exact ⟨_, rfl, rfl, by omega⟩
      | false =>
        have : (l.length : Int) = 8 := by rw [Bool.not_false, Bool.true_and, Bool.not_eq_false', decide_eq_true_eq] at h3; exact h3
        have hm := hk rfl
        subst hm
        rw [hf, hp, decide_eq_true (show l.length = 8 by omega)]
        refine ⟨_, rfl, ?_, by rw [List.length_nil]; omega⟩
        rw [show 8 - l.length - ([] : List Int).length = 0 from by rw [List.length_nil]; omega]
        simp
    obtain ⟨r, h1, h2, h3⟩ := hlm
    have w8 : IntKind.wrap .i64 (8 - (m.length : Int)) = 8 - (m.length : Int) := w64 (by omega) (by omega)
    have hcp := six_cp (w := IntKind.wrap .i64 (8 - (m.length : Int))) h3 w8
    refine ⟨⟨by omega⟩, ⟨by omega⟩, ⟨by omega⟩, ⟨by rw [w8]; omega⟩, ⟨by rw [w8]; omega⟩, ⟨by omega⟩, six_yes h1 ?_⟩
    rw [h2, ← hcp]
    rfl
end Go.Proofs.YtkimpfoimblhjaaDoor.Ad
set_option linter.all false
namespace Go.Proofs.YtkimpfoimblhjaaDoor.Ad
open Go Go.Eng Go.Lb Go.Ad Lb
set_option maxRecDepth 100000
set_option maxHeartbeats 4000000
theorem ofL_app (a b : List UInt8) : ofL a ++ ofL b = ofL (a ++ b) := by
  apply bytesL_inj
  rw [bytesL_ofL]
  simp [bytesL, ofL]
theorem typU16 {n : Int} (h : IntKind.wrap .u16 n = n) : inR n := by
  unfold inR
  rw [← h]
  simp [IntKind.wrap, IntKind.signed, IntKind.bits]
  omega
theorem typed_R {a : Ad} (h : typedB AdT a = true) : AdR a := by
  obtain ⟨f, ⟨a0, a1, a2, a3, a4, a5, a6, a7, ⟨⟩⟩, p, ⟨⟩⟩ := a
  have h' : (decide (IntKind.wrap .i8 f = f) && ((decide (IntKind.wrap .u16 a0 = a0) && (decide (IntKind.wrap .u16 a1 = a1) && (decide (IntKind.wrap .u16 a2 = a2) && (decide (IntKind.wrap .u16 a3 = a3) && (decide (IntKind.wrap .u16 a4 = a4) && (decide (IntKind.wrap .u16 a5 = a5) && (decide (IntKind.wrap .u16 a6 = a6) && (decide (IntKind.wrap .u16 a7 = a7) && true)))))))) && (decide (IntKind.wrap .i64 p = p) && true))) = true := h
  simp only [Bool.and_eq_true, decide_eq_true_eq, Bool.and_true] at h'
  obtain ⟨_, ⟨h0, h1, h2, h3, h4, h5, h6, h7⟩, _⟩ := h'
  constructor
  intro x hx
  have hx : x ∈ [a0, a1, a2, a3, a4, a5, a6, a7] := hx
  simp only [List.mem_cons, List.not_mem_nil, or_false] at hx
  rcases hx with rfl | rfl | rfl | rfl | rfl | rfl | rfl | rfl <;> exact typU16 (by assumption)
theorem hi_byte {n : Int} (h : inR n) : IntKind.wrap .i64 (Int.fdiv n (2 ^ min (Int.toNat 8) (IntKind.bits .u16))) = ((n.toNat / 256 : Nat) : Int) := by
  unfold inR at h
  have e : (2 : Int) ^ min (Int.toNat 8) (IntKind.bits .u16) = 256 := rfl
  rw [e, Int.fdiv_eq_ediv_of_nonneg _ (by omega), w64 (by omega) (by omega)]
  omega
theorem lo_byte {n : Int} (h : inR n) : IntKind.wrap .i64 (andI .u16 n 255) = ((n.toNat % 256 : Nat) : Int) := by
  unfold inR at h
  obtain ⟨a, rfl⟩ : ∃ a : Nat, n = a := ⟨n.toNat, by omega⟩
  have e1 : (BitVec.ofInt (IntKind.bits .u16) (a : Int)).toNat = a := by
    rw [BitVec.toNat_ofInt]
    show ((a : Int) % 65536).toNat = a
    omega
  have e2 : (BitVec.ofInt (IntKind.bits .u16) 255).toNat = 255 := rfl
  have e3 : a &&& 255 = a % 256 := Nat.and_two_pow_sub_one_eq_mod (n := 8) a
  unfold andI
  rw [BitVec.toNat_and, e1, e2, e3, wu16 (by omega) (by omega), w64 (by omega) (by omega), Int.toNat_natCast]
theorem digS_len (n : Int) : (digS n).size ≤ 5 := digS_size n
theorem join4 {x y z w : Nat} : joinS [digS x, digS y, digS z, digS w] (ofL [46]) = ofL (Go.Lib.join [digL x, digL y, digL z, digL w] [46]) ∧ (joinL [digS x, digS y, digS z, digS w] (ofL [46])).length ≤ 24 := by
  have e : joinL [digS x, digS y, digS z, digS w] (ofL [46]) = Go.Lib.join [digL x, digL y, digL z, digL w] [46] := by
    unfold joinL
    rw [bytesL_ofL]
    simp only [List.map_cons, List.map_nil, digS, bytesL_ofL, Int.toNat_natCast]
  unfold joinS
  rw [e]
  refine ⟨rfl, ?_⟩
  have := join_le (n := 5) (d := [46]) (ps := [digL x, digL y, digL z, digL w]) (by
    intro p hp
    simp only [List.mem_cons, List.not_mem_nil, or_false] at hp
    rcases hp with rfl | rfl | rfl | rfl <;> exact digF_len 5 _)
  exact this
theorem hexes_size {l : List Int} (h : l.length ≤ 8) : (hexes l).size ≤ 40 := by
  unfold hexes
  rw [ofL_size]
  exact hexesL_len h
theorem text_no' {a : Ad} (h : may1 a = false) : (({ data := #[] } : ByteArray), (20 : Int), ()) = (text1 a, text2 a, ()) := by
  unfold text1 text2
  rw [h]
  rfl
theorem text_yes {a : Ad} {t : ByteArray} (h : may1 a = true) (ht : t = ofL (text0 a)) : (t, (0 : Int), ()) = (text1 a, text2 a, ()) := by
  unfold text1 text2
  rw [h, ht]
  rfl
theorem mayA_one (a : Ad) : mayA (a :: nilL Ad) = may1 a := Bool.and_true _
theorem v17 : Vc g17 300 Tryd.f17 cText.T := by
  constructor
  rw [v17_eq]
  rintro ⟨a, ⟨⟩⟩ hx
  have hr : AdR a := by
    have h1 : (typedB AdT a && true) = true := hx.out.1
    rw [Bool.and_true] at h1
    exact typed_R h1
  have i0 : inR a.2.1.1 := hr.g _ (by simp [gl])
  have i1 : inR a.2.1.2.1 := hr.g _ (by simp [gl])
  have e0 : Int.toNat 0 + Int.toNat 0 = 0 := rfl
  have e1 : Int.toNat 0 + Int.toNat (IntKind.wrap .i64 (0 + 1)) = 1 := rfl
  have b91 : (ByteArray.mk (List.toArray ((91 : UInt8) :: nilL UInt8)) : ByteArray) = ofL [91] := rfl
  have b93 : (ByteArray.mk (List.toArray ((93 : UInt8) :: nilL UInt8)) : ByteArray) = ofL [93] := rfl
  have b58 : (ByteArray.mk (List.toArray ((58 : UInt8) :: nilL UInt8)) : ByteArray) = ofL [58] := rfl
  have b46 : (ByteArray.mk (List.toArray ((46 : UInt8) :: nilL UInt8)) : ByteArray) = ofL [46] := rfl
  have b5858 : (ByteArray.mk (List.toArray ((58 : UInt8) :: (58 : UInt8) :: nilL UInt8)) : ByteArray) = ofL [58, 58] := rfl
  have mx : maxLen = 9223372036854775807 := rfl
  have s1 : ∀ b : UInt8, (ofL [b]).size = 1 := fun b => ofL_size [b]
  have s2 : (ofL [58, 58]).size = 2 := ofL_size _
  have hp := digS_len a.2.2.1
  have hg : (a.2.1.1 :: a.2.1.2.1 :: a.2.1.2.2.1 :: a.2.1.2.2.2.1 :: a.2.1.2.2.2.2.1 :: a.2.1.2.2.2.2.2.1 :: a.2.1.2.2.2.2.2.2.1 :: a.2.1.2.2.2.2.2.2.2.1 :: nilL Int) = gl a.2.1 := rfl
  have lg8 := len_gl a.2.1
  have n8 : Int.toNat ((8 : Nat) : Int) = 8 := rfl
  have n0 : Int.toNat 0 = 0 := rfl
  simp only [e0, e1, List.getD_cons_zero, List.getD_cons_succ, hi_byte i0, lo_byte i0, hi_byte i1, lo_byte i1, mayA_one]
  simp only [b91, b93, b58, b46, b5858, hg, n8, n0, List.drop_zero]
  refine ⟨⟨(lenA_iff _).2 (by show 1 ≤ 100000; omega)⟩, (bcase_iff _ _ _).2 ⟨fun h => text_no' (by simpa using h), fun h => ?_⟩⟩
  have hm : may1 a = true := by simpa using h
  have hm' := (may1_iff a).1 hm
  have hport : digS a.2.2.1 = ofL (digL a.2.2.1.toNat) := rfl
  refine ⟨⟨by simp; omega⟩, ⟨by rw [s1, mx]; omega⟩, (bcase_iff _ _ _).2 ⟨fun h4 => ?_, fun h4 => ⟨⟨trivial⟩, (bcase_iff _ _ _).2 ⟨fun h0 => ?_, fun h0 => ?_⟩⟩⟩⟩
  · obtain ⟨j1, j2⟩ := join4 (x := a.2.1.1.toNat / 256) (y := a.2.1.1.toNat % 256) (z := a.2.1.2.1.toNat / 256) (w := a.2.1.2.1.toNat % 256)
    have e : ∀ p q r t : ByteArray, (p :: q :: nilL ByteArray) ++ (r :: t :: nilL ByteArray) = [p, q, r, t] := fun _ _ _ _ => rfl
    have el : ∀ p q : ByteArray, (p :: q :: nilL ByteArray).length = 2 := fun _ _ => rfl
    have e4 : ∀ p q r t : ByteArray, [p, q, r, t].length = 4 := fun _ _ _ _ => rfl
    unfold inR at i0 i1
    have k4 : a.1 = 4 := by simpa using h4
    rw [e, el, e4, j1, el]
    refine ⟨⟨by omega⟩, ⟨by omega⟩, ⟨by omega⟩, ⟨by omega⟩, ⟨by decide⟩, ⟨by omega⟩, ⟨by simp; omega⟩, ⟨by simp; omega⟩, ⟨by omega⟩, ⟨by decide⟩, ⟨by decide⟩, ⟨by omega⟩, ⟨by simp; omega⟩, ⟨by simp; omega⟩, ⟨by omega⟩, ⟨?_⟩, ⟨?_⟩, text_yes hm ?_⟩
    · rw [Bool.and_eq_true, decide_eq_true_eq, decide_eq_true_eq]
      omega
    · have : (ofL (Go.Lib.join [digL (a.2.1.1.toNat / 256), digL (a.2.1.1.toNat % 256), digL (a.2.1.2.1.toNat / 256), digL (a.2.1.2.1.toNat % 256)] [46])).size ≤ 24 := by
        rw [← j1]; unfold joinS; rw [ofL_size]; exact j2
      rw [ByteArray.size_append, s1, mx]
      omega
    · rw [hport, ofL_app, ofL_app]
      unfold text0 hostL
      rw [decide_eq_true k4, cond_true]
      rfl
  · have hh := hexes_size (l := gl a.2.1) (by omega)
    have k0 : long2 a.2.1 = 0 := by simpa using h0
    rw [List.take_of_length_le (Nat.le_of_eq lg8)]
    refine ⟨⟨by omega⟩, ⟨by omega⟩, ⟨by omega⟩, ⟨decide_eq_true (Nat.le_of_eq lg8)⟩, ⟨by rw [s1, mx]; omega⟩, ⟨by rw [ByteArray.size_append, s1, s1, mx]; omega⟩, ⟨by rw [ByteArray.size_append, ByteArray.size_append, ByteArray.size_append, s1, s1, s1, mx]; omega⟩, text_yes hm ?_⟩
    rw [hport, show hexes (gl a.2.1) = ofL (hexesL (gl a.2.1)) from rfl, ofL_app, ofL_app, ofL_app, ofL_app]
    unfold text0 hostL inL
    rw [show decide (a.1 = 4) = false from h4, cond_false, decide_eq_true k0, cond_true]
    rfl
  · have k0 : ¬ long2 a.2.1 = 0 := by simpa using h0
    have hl := longL_ok (gl a.2.1)
    have hl : 2 ≤ long2 a.2.1 ∧ 0 ≤ long1 a.2.1 ∧ long1 a.2.1 + long2 a.2.1 ≤ 8 := by
      rcases hl with h | ⟨h1, h2, h3, _⟩
      · exact absurd h k0
      · exact ⟨h1, h2, h3⟩
    have w : IntKind.wrap .i64 (long1 a.2.1 + long2 a.2.1) = long1 a.2.1 + long2 a.2.1 := w64 (by omega) (by omega)
    rw [List.take_of_length_le (Nat.le_of_eq lg8), w]
    have l1 : ((gl a.2.1).take (long1 a.2.1).toNat).length ≤ 8 := by rw [List.length_take]; omega
    have l2 : ((gl a.2.1).drop (long1 a.2.1 + long2 a.2.1).toNat).length ≤ 8 := by rw [List.length_drop]; omega
    have h1 := hexes_size l1
    have h2 := hexes_size l2
    refine ⟨⟨by omega⟩, ⟨by omega⟩, ⟨by omega⟩, ⟨decide_eq_true l1⟩, ⟨by rw [s1, mx]; omega⟩, ⟨by rw [ByteArray.size_append, s1, s2, mx]; omega⟩, ⟨by omega⟩, ⟨by omega⟩, ⟨by omega⟩, ⟨decide_eq_true l2⟩, ⟨by simp only [ByteArray.size_append, s1, s2, mx]; omega⟩, ⟨by simp only [ByteArray.size_append, s1, s2, mx]; omega⟩, ⟨by simp only [ByteArray.size_append, s1, s2, mx]; omega⟩, text_yes hm ?_⟩
    rw [hport, show ∀ l, hexes l = ofL (hexesL l) from fun _ => rfl, show ∀ l, hexes l = ofL (hexesL l) from fun _ => rfl, ofL_app, ofL_app, ofL_app, ofL_app, ofL_app, ofL_app]
    unfold text0 hostL inL
    rw [show decide (a.1 = 4) = false from h4, cond_false, decide_eq_false k0, cond_false]
    simp
end Go.Proofs.YtkimpfoimblhjaaDoor.Ad
set_option linter.all false
namespace Go.Proofs.YtkimpfoimblhjaaDoor.Ad
open Go Go.Eng Go.Lb Go.Ad Lb
set_option maxRecDepth 100000
set_option maxHeartbeats 4000000
def digs : ByteArray := ByteArray.mk (List.toArray ((48 : UInt8) :: (49 : UInt8) :: (50 : UInt8) :: (51 : UInt8) :: (52 : UInt8) :: (53 : UInt8) :: (54 : UInt8) :: (55 : UInt8) :: (56 : UInt8) :: (57 : UInt8) :: (97 : UInt8) :: (98 : UInt8) :: (99 : UInt8) :: (100 : UInt8) :: (101 : UInt8) :: (102 : UInt8) :: (103 : UInt8) :: (104 : UInt8) :: (105 : UInt8) :: (106 : UInt8) :: (107 : UInt8) :: (108 : UInt8) :: (109 : UInt8) :: (110 : UInt8) :: (111 : UInt8) :: (112 : UInt8) :: (113 : UInt8) :: (114 : UInt8) :: (115 : UInt8) :: (116 : UInt8) :: (117 : UInt8) :: (118 : UInt8) :: (119 : UInt8) :: (120 : UInt8) :: (121 : UInt8) :: (122 : UInt8) :: nilL UInt8))
theorem digs_size : digs.size = 36 := rfl
theorem digs_all : ((List.range 16).all fun k => decide (byteAt digs k = ((hexD k).toNat : Int))) = true := by decide +kernel
theorem digs_at {k : Nat} (h : k < 16) : byteAt digs k = ((hexD k).toNat : Int) := by
  have := List.all_eq_true.1 digs_all k (List.mem_range.2 h)
  exact of_decide_eq_true this
theorem digs_I {u : Int} (h0 : 0 ≤ u) (h : u < 16) : byteAt digs u.toNat = ((hexD u.toNat).toNat : Int) := digs_at (by omega)
theorem and15 {u : Int} (h0 : 0 ≤ u) (h : u < 65536) : andI .u64 u (IntKind.wrap .u64 (IntKind.wrap .u64 16 - 1)) = u % 16 := by
  obtain ⟨a, rfl⟩ : ∃ a : Nat, u = a := ⟨u.toNat, by omega⟩
  have e : IntKind.wrap .u64 (IntKind.wrap .u64 16 - 1) = 15 := by decide
  have e1 : (BitVec.ofInt (IntKind.bits .u64) (a : Int)).toNat = a := by
    rw [BitVec.toNat_ofInt]
    show ((a : Int) % 18446744073709551616).toNat = a
    omega
  have e2 : (BitVec.ofInt (IntKind.bits .u64) 15).toNat = 15 := rfl
  have e3 : a &&& 15 = a % 16 := Nat.and_two_pow_sub_one_eq_mod (n := 4) a
  rw [e]
  unfold andI
  rw [BitVec.toNat_and, e1, e2, e3]
  have : IntKind.wrap .u64 ((a % 16 : Nat) : Int) = ((a % 16 : Nat) : Int) := by
    simp [IntKind.wrap, IntKind.signed, IntKind.bits]; omega
  rw [this]
  omega
theorem wu64 {n : Int} (h0 : 0 ≤ n) (h1 : n < 65536) : IntKind.wrap .u64 n = n := by
  simp [IntKind.wrap, IntKind.signed, IntKind.bits]; omega
theorem ctz16 : IntKind.wrap .u64 (ctzZ (IntKind.wrap .u64 16)) = 4 := by decide +kernel
theorem shr4 {u : Int} (h0 : 0 ≤ u) : Int.fdiv u (2 ^ min (Int.toNat (IntKind.wrap .u64 (ctzZ (IntKind.wrap .u64 16)))) (IntKind.bits .u64)) = u / 16 := by
  rw [ctz16]
  have e : (2 : Int) ^ min (Int.toNat 4) (IntKind.bits .u64) = 16 := rfl
  rw [e, Int.fdiv_eq_ediv_of_nonneg _ (by omega)]
theorem byteL_set {xs : List Int} {i : Int} {b : UInt8} (i0 : 1 ≤ i) (i1 : i ≤ xs.length) : byteL (xs.set (i - 1).toNat (b.toNat : Int)) (i - 1) = b :: byteL xs i := by
  unfold byteL
  have e : i.toNat = (i - 1).toNat + 1 := by omega
  rw [List.drop_eq_getElem_cons (by rw [List.length_set]; omega), List.getElem_set_self, List.drop_set_of_lt (by omega), List.map_cons, e, Int.toNat_natCast, UInt8.ofNat_toNat]
theorem hexF_big {k : Nat} {u : Nat} (h : 16 ≤ u) : hexF (k + 1) u = hexF k (u / 16) ++ [hexD (u % 16)] := by
  rw [hexF, show decide (u < 16) = false from decide_eq_false (by omega), cond_false]
theorem hexF_small {k : Nat} {u : Nat} (h : u < 16) : hexF (k + 1) u = [hexD u] := by
  rw [hexF, show decide (u < 16) = true from decide_eq_true h, cond_true]
theorem bits_zero {u : Int} (h0 : 0 ≤ u) (h1 : u < 65536) : BitsI u u 65 (List.replicate 65 0) := by
  refine ⟨h0, by omega, by omega, List.length_replicate .., h1, ?_⟩
  show hexF 4 u.toNat ++ [] = _
  rw [List.append_nil]
theorem bits_lo {u0 u i : Int} {xs : List Int} (h : BitsI u0 u i xs) (hu : u ≥ 16) : 63 ≤ i := by
  have i0 := h.i0
  have u1 := h.u1
  rcases Int.lt_or_le i 63 with c | c
  · have e : i = 62 := by omega
    rw [e] at u1
    have : (16 : Int) ^ (62 - 61 : Int).toNat = 16 := rfl
    omega
  · exact c
theorem bits_lt {u0 u i : Int} {xs : List Int} (h : BitsI u0 u i xs) : u < 65536 := by
  have i0 := h.i0
  have i1 := h.i1
  have u1 := h.u1
  have : ∀ q : Fin 5, (16 : Int) ^ q.val ≤ 65536 := by decide
  have := this ⟨(i - 61).toNat, by omega⟩
  simp only at this
  omega
theorem bits_on {u0 u i : Int} {xs : List Int} (h : BitsI u0 u i xs) (hu : u ≥ 16) : BitsI u0 (u / 16) (i - 1) (xs.set (i - 1).toNat ((hexD (u % 16).toNat).toNat : Int)) := by
  have i0 := bits_lo h hu
  obtain ⟨v0, _, i1, l, u1, a⟩ := h
  obtain ⟨k, hk⟩ : ∃ k, (i - 61).toNat = k + 1 := ⟨(i - 62).toNat, by omega⟩
  have hk' : (i - 1 - 61).toNat = k := by omega
  rw [hk] at u1 a
  refine ⟨by omega, by omega, by omega, by rw [List.length_set]; exact l, ?_, ?_⟩
  · rw [hk']
    rw [Int.pow_succ] at u1
    omega
  · rw [hk', byteL_set (by omega) (by omega), ← a, hexF_big (by omega), List.append_assoc]
    have e1 : (u / 16).toNat = u.toNat / 16 := by omega
    have e2 : (u % 16).toNat = u.toNat % 16 := by omega
    rw [e1, e2]
    rfl
theorem bits_fin {u0 u i : Int} {xs : List Int} (h : BitsI u0 u i xs) (hu : ¬ u ≥ 16) : byteL (xs.set (i - 1).toNat ((hexD u.toNat).toNat : Int)) (i - 1) = hexF 4 u0.toNat := by
  obtain ⟨v0, i0, i1, l, u1, a⟩ := h
  obtain ⟨k, hk⟩ : ∃ k, (i - 61).toNat = k + 1 := ⟨(i - 62).toNat, by omega⟩
  rw [hk, hexF_small (by omega)] at a
  rw [byteL_set (by omega) (by omega), ← a]
  rfl
theorem str_byteL (xs : List Int) (i : Int) (h : xs.length = 65) : strI (List.drop i.toNat (List.take (Int.toNat ((65 : Nat) : Int)) xs)) = ofL (byteL xs i) := by
  rw [List.take_of_length_le (by show xs.length ≤ 65; omega)]
  rfl
theorem v54 : Vc g54 300 Tryd.f54 cHexes.T := by
  constructor
  rw [v54_eq]
  rw [show (ByteArray.mk (List.toArray ((48 : UInt8) :: (49 : UInt8) :: (50 : UInt8) :: (51 : UInt8) :: (52 : UInt8) :: (53 : UInt8) :: (54 : UInt8) :: (55 : UInt8) :: (56 : UInt8) :: (57 : UInt8) :: (97 : UInt8) :: (98 : UInt8) :: (99 : UInt8) :: (100 : UInt8) :: (101 : UInt8) :: (102 : UInt8) :: (103 : UInt8) :: (104 : UInt8) :: (105 : UInt8) :: (106 : UInt8) :: (107 : UInt8) :: (108 : UInt8) :: (109 : UInt8) :: (110 : UInt8) :: (111 : UInt8) :: (112 : UInt8) :: (113 : UInt8) :: (114 : UInt8) :: (115 : UInt8) :: (116 : UInt8) :: (117 : UInt8) :: (118 : UInt8) :: (119 : UInt8) :: (120 : UInt8) :: (121 : UInt8) :: (122 : UInt8) :: nilL UInt8)) : ByteArray) = digs from rfl]
  intro x hx
  have hl : x.1.length ≤ 8 := of_decide_eq_true hx.out.2
  have hr : ∀ n ∈ x.1, inR n := by
    have h1 : (decide (x.1.length ≤ maxLen) && x.1.all (typedB U16) && true) = true := hx.out.1
    rw [Bool.and_true, Bool.and_eq_true] at h1
    intro n hn
    have h2 := List.all_eq_true.1 h1.2 n hn
    exact typU16 (of_decide_eq_true h2)
  clear hx
  generalize x.fst = l at *
  have mx : maxLen = 9223372036854775807 := rfl
  have e65 : ((65 : Nat) : Int) = 65 := rfl
  refine ⟨⟨⟨MapI.zero _ _⟩, by repeat' (first | exact ⟨rfl⟩ | apply And.intro)⟩, fun y hy => (bcase_iff _ _ _).2 ⟨fun h => ?_, fun h => ?_⟩⟩
  · have hy := hy.out
    have hlt : y.2 < l.length := of_decide_eq_true h
    have hy0 := hy.i0
    refine ⟨⟨hy0⟩, ⟨hlt⟩, ?_⟩
    have hn : inR (l.getD y.2.toNat 0) := hr _ (getD_mem hy0 hlt)
    have hon := hy.on (z := 0) (by omega) hlt
    generalize l.getD y.2.toNat 0 = n at hn hon ⊢
    obtain ⟨n0, n1⟩ := hn
    have w1 : IntKind.wrap .i64 n = n := w64 n0 (by omega)
    have w2 : IntKind.wrap .u64 n = n := wu64 n0 n1
    rw [w1, w2]
    refine ⟨⟨rfl⟩, (bcase_iff _ _ _).2 ⟨fun hneg => absurd (of_decide_eq_true hneg) (by omega), fun hneg => ?_⟩⟩
    refine ⟨⟨by decide⟩, ⟨⟨bits_zero n0 n1⟩, by repeat' (first | exact ⟨rfl⟩ | exact ⟨by decide⟩ | apply And.intro)⟩, fun z hz => ?_⟩
    have hz := hz.out
    have v0 := hz.v0
    have vt := bits_lt hz
    have q0 := hz.i0
    have q1 := hz.i1
    have ql := hz.l
    have wz : IntKind.wrap .i64 (z.2.1 - 1) = z.2.1 - 1 := w64 (by omega) (by omega)
    rw [and15 v0 vt, shr4 v0, wz, digs_I (u := z.1 % 16) (by omega) (by omega), digs_size, ctz16]
    refine (bcase_iff _ _ _).2 ⟨fun hb => ?_, fun hb => ?_⟩
    · have hb : z.1 ≥ 16 := of_decide_eq_true hb
      have i63 := bits_lo hz hb
      refine ⟨⟨by omega⟩, ⟨by omega⟩, ⟨ql⟩, ⟨by omega⟩, ⟨by omega⟩, ⟨by omega⟩, ⟨bits_on hz hb⟩, ⟨by omega⟩, by repeat' (first | exact ⟨rfl⟩ | exact ⟨by rw [List.length_set]; omega⟩ | apply And.intro)⟩
    · have hb : ¬ z.1 ≥ 16 := of_decide_eq_false hb
      have hf := bits_fin hz hb
      rw [digs_I v0 (by omega)]
      refine ⟨⟨v0⟩, ⟨by omega⟩, ⟨ql⟩, ⟨by omega⟩, ⟨by omega⟩, ?_⟩
      refine (bcase_iff _ _ _).2 ⟨fun hneg => absurd (of_decide_eq_true hneg) (by omega), fun hneg => ?_⟩
      rw [str_byteL _ _ (by rw [List.length_set]; exact ql), hf]
      have hle : y.1.length ≤ 8 := by rw [hy.a, List.length_map, List.length_take]; omega
      have e1 : ∀ b : ByteArray, (b :: nilL ByteArray).length = 1 := fun _ => rfl
      refine ⟨⟨by omega⟩, ⟨by omega⟩, ⟨by omega⟩, ⟨by rw [List.length_set]; exact ql⟩, ⟨by rw [List.length_drop, List.length_take, List.length_set, mx]; omega⟩, ⟨by rw [e1]; omega⟩, ⟨hon.1⟩, ⟨hon.2⟩, by repeat' (first | exact ⟨rfl⟩ | apply And.intro)⟩
  · have hf := hy.out.fin (of_decide_eq_false h)
    have e58 : (ByteArray.mk (List.toArray ((58 : UInt8) :: nilL UInt8)) : ByteArray) = ofL [58] := rfl
    have ej : joinL y.1 (ofL [58]) = hexesL l := by
      unfold joinL hexesL
      rw [hf, bytesL_ofL, List.map_map]
      congr 1
    have hh := hexesL_len hl
    rw [e58]
    refine ⟨⟨?_⟩, ?_⟩
    · rw [ej, Bool.and_eq_true, decide_eq_true_eq, decide_eq_true_eq, hf, List.length_map]
      omega
    · unfold joinS
      rw [ej]
      rfl
end Go.Proofs.YtkimpfoimblhjaaDoor.Ad
namespace Go.Proofs.YtkimpfoimblhjaaDoor.Ad
open Go Go.Eng Go.Lb Go.Ad Lb
set_option maxRecDepth 100000
theorem val15 : Valid Tryd.prog GA 15 cMay := mkValid gas Tb.mix Tb.tab_ok Tb.eqs_ok g15 rfl allV_nil allI_nil Tryd.func15 (by kernel_rfl) v15
theorem val53 : Valid Tryd.prog GA 53 cLong := mkValid gas Tb.mix Tb.tab_ok Tb.eqs_ok g53 rfl allV_nil allI_nil Tryd.func53 (by kernel_rfl) v53
theorem val54 : Valid Tryd.prog GA 54 cHexes := Valid.T (mkValid gas Tb.mix Tb.tab_ok Tb.eqs_ok g54 rfl (allV_cons valJoin (allV_cons valTZ allV_nil)) (allI_cons Tryd.func82 (by kernel_rfl) (allI_cons Tryd.func102 (by kernel_rfl) (allI_cons Tryd.func126 (by kernel_rfl) (allI_cons Tryd.func140 (by kernel_rfl) allI_nil)))) Tryd.func54 (by kernel_rfl) v54)
theorem val17 : Valid Tryd.prog GA 17 cText := Valid.T (mkValid gas Tb.mix Tb.tab_ok Tb.eqs_ok g17 rfl (allV_cons val15 (allV_cons valItoa (allV_cons valJoin (allV_cons val53 (allV_cons val54 allV_nil))))) allI_nil Tryd.func17 (by kernel_rfl) v17)
theorem val56 : Valid Tryd.prog GA 56 cNum := mkValid gas Tb.mix Tb.tab_ok Tb.eqs_ok g56 rfl allV_nil allI_nil Tryd.func56 (by kernel_rfl) v56
theorem val105 : Valid Tryd.prog GA 105 cGrp := mkValid gas Tb.mix Tb.tab_ok Tb.eqs_ok g105 rfl allV_nil allI_nil Tryd.func105 (by kernel_rfl) v105
theorem val85 : Valid Tryd.prog GA 85 cSide := mkValid gas Tb.mix Tb.tab_ok Tb.eqs_ok g85 rfl (allV_cons valSplitS (allV_cons val105 allV_nil)) allI_nil Tryd.func85 (by kernel_rfl) v85
theorem val57 : Valid Tryd.prog GA 57 cFour := mkValid gas Tb.mix Tb.tab_ok Tb.eqs_ok g57 rfl (allV_cons val56 (allV_cons valSplitS allV_nil)) allI_nil Tryd.func57 (by kernel_rfl) v57
theorem val58 : Valid Tryd.prog GA 58 cSix := mkValid gas Tb.mix Tb.tab_ok Tb.eqs_ok g58 rfl (allV_cons valCut (allV_cons val85 allV_nil)) allI_nil Tryd.func58 (by kernel_rfl) v58
theorem val18 : Valid Tryd.prog GA 18 cParse := mkValid gas Tb.mix Tb.tab_ok Tb.eqs_ok g18 rfl (allV_cons valLast (allV_cons val56 (allV_cons val57 (allV_cons val58 allV_nil)))) allI_nil Tryd.func18 (by kernel_rfl) v18
theorem val19 : Valid Tryd.prog GA 19 cGreat := mkValid gas Tb.mix Tb.tab_ok Tb.eqs_ok g19 rfl allV_nil allI_nil Tryd.func19 (by kernel_rfl) v19
theorem val20 : Valid Tryd.prog GA 20 cOf := mkValid gas Tb.mix Tb.tab_ok Tb.eqs_ok g20 rfl allV_nil allI_nil Tryd.func20 (by kernel_rfl) v20
theorem val21 : Valid Tryd.prog GA 21 cRow := mkValid gas Tb.mix Tb.tab_ok Tb.eqs_ok g21 rfl (allV_cons val17 (allV_cons valJoin allV_nil)) allI_nil Tryd.func21 (by kernel_rfl) v21
theorem val23 : Valid Tryd.prog GA 23 cRead := mkValid gas Tb.mix Tb.tab_ok Tb.eqs_ok g23 rfl (allV_cons val18 (allV_cons valSplitS allV_nil)) allI_nil Tryd.func23 (by kernel_rfl) v23
theorem val25 : Valid Tryd.prog GA 25 cSameA := mkValid gas Tb.mix Tb.tab_ok Tb.eqs_ok g25 rfl allV_nil allI_nil Tryd.func25 (by kernel_rfl) v25
end Go.Proofs.YtkimpfoimblhjaaDoor.Ad
set_option maxRecDepth 100000
namespace Go.Proofs.YtkimpfoimblhjaaDoor.Ad
open Go Go.Eng Go.Lb Go.Ad Lb
def cWk : Contract := { a := .unit, r := .cons .bool .unit, pre := fun _ => True, F := fun _ => (true, ()) }
def cLw (a : Ty) : Contract := { a := a, r := .cons .bool .unit, pre := fun _ => True, F := fun _ => (true, ()) }
abbrev aFam : Ty := .cons AdL .unit
abbrev aBack : Ty := .cons AdT (.cons .str (.cons AdL .unit))
abbrev aDigs : Ty := .cons AdT .unit
structure FamI (l : List Ad) (i k o n : Int) : Prop where
  n0 : 0 ≤ n
  n1 : n ≤ l.length
  o0 : 0 ≤ o
  o1 : o ≤ n
  fi : i = ((ofA 4 (l.take n.toNat)).length : Int)
  fk : k = ((ofA 6 (l.take n.toNat)).length : Int)
  fo : o = 0 ∨ mayA l = false
def famL : LoopAnn where
  α := Int × Int × Int × Int
  keep := [0, 3, 4]
  okeep := []
  nxt := 30
  env := fun _ x => [(5, .dat I64 x.1), (6, .dat I64 x.2.1), (7, .dat I64 x.2.2.1), (8, .dat I64 x.2.2.2)]
  own := fun _ _ => []
  inv := fun s x => FamI (bDat AdL s 0).out x.1 x.2.1 x.2.2.1 x.2.2.2
  mu := fun s x => List.length (α := Ad) (bDat AdL s 0).out - x.2.2.2.toNat
  pick := some fun _ s => ((bDat I64 s 5).out, (bDat I64 s 6).out, (bDat I64 s 7).out, (bDat I64 s 8).out)
def lastI (l : List UInt8) : Int := match lastN 58 l with
  | none => -1
  | some k => (k : Int)
structure Cl8I (t : ByteArray) (a i : Int) : Prop where
  i0 : 0 ≤ i
  i1 : i ≤ t.size
  fa : a = lastI ((bytesL t).take i.toNat)
def cl8L : LoopAnn where
  α := Int × Int
  keep := [1, 3]
  okeep := [0]
  nxt := 30
  env := fun _ x => [(5, .dat I64 x.1), (6, .dat I64 x.2)]
  own := fun _ _ => []
  inv := fun s x => Cl8I (bDat .str s 3).out x.1 x.2
  mu := fun s x => (bDat .str s 3).out.size - x.2.toNat
  pick := some fun _ s => ((bDat I64 s 5).out, (bDat I64 s 6).out)
structure Dg8I (g : G8) (s : ByteArray) (i : Int) : Prop where
  i0 : 0 ≤ i
  i1 : i ≤ 8
  e : s = ofL ([91] ++ Go.Lib.join (((gl g).take i.toNat).map fun n => hex4 n.toNat) [58])
def dg8L : LoopAnn where
  α := ByteArray × Int
  keep := [1, 3, 5]
  okeep := [0]
  nxt := 30
  env := fun _ x => [(7, .dat .str x.1), (8, .dat I64 x.2)]
  own := fun _ _ => []
  inv := fun s x => Dg8I (cDat AdT s 1 0).out.2.1 x.1 x.2
  mu := fun _ x => 8 - x.2.toNat
  pick := some fun _ s => ((bDat .str s 7).out, (bDat I64 s 8).out)
structure Dg4I (s0 s : ByteArray) (n k : Int) : Prop where
  fk : k = 12 ∨ k = 8 ∨ k = 4 ∨ k = 0 ∨ k = -4
  e : s = s0 ++ ofL ((hex4 n.toNat).take ((12 - k) / 4).toNat)
def dg4L : LoopAnn where
  α := ByteArray × Int
  keep := [1, 3, 5, 8]
  okeep := [0]
  nxt := 30
  env := fun _ x => [(7, .dat .str x.1), (9, .dat I64 x.2)]
  own := fun _ _ => []
  inv := fun s x => Dg4I (bDat .str s 7).out x.1 ((gl (cDat AdT s 1 0).out.2.1).getD (bDat I64 s 8).out.toNat 0) x.2
  mu := fun _ x => (x.2 + 4).toNat
  pick := some fun _ s => ((bDat .str s 7).out, (bDat I64 s 9).out)
end Go.Proofs.YtkimpfoimblhjaaDoor.Ad
namespace Go.Proofs.YtkimpfoimblhjaaDoor.Ad
open Go Go.Eng Go.Lb Go.Ad Lb
set_option maxRecDepth 100000
noncomputable def g16 : Cfg := { tab := Tb.tab, cons := [(17, cText), (18, cParse)], inls := [], loops := [], cuts := [], unroll := false, arrs := [] }
noncomputable def g4 : Cfg := { tab := Tb.tab, cons := [(15, cMay), (16, cWk), (19, cGreat), (20, cOf)], inls := [], loops := [(6, famL)], cuts := [], unroll := false, arrs := [] }
noncomputable def g6 : Cfg := { tab := Tb.tab, cons := [(15, cMay), (16, cWk), (17, cText), (18, cParse), (19, cGreat), (21, cRow), (23, cRead), (25, cSameA)], inls := [], loops := [], cuts := [], unroll := false, arrs := [] }
noncomputable def g3 : Cfg := { tab := Tb.tab, cons := [(15, cMay), (16, cWk), (17, cText), (18, cParse)], inls := [], loops := [(8, cl8L), (16, dg8L), (21, dg4L)], cuts := [], unroll := false, arrs := [] }
end Go.Proofs.YtkimpfoimblhjaaDoor.Ad
namespace Go.Proofs.YtkimpfoimblhjaaDoor.Ad
open Go Go.Eng Go.Lb Go.Ad Lb
set_option maxRecDepth 100000
theorem v16_eq : vcFn g16 300 Tryd.f16 cWk = ( ∀ (x : Unit), Wr True → Wr (Bool.true = Bool.true) ∧ Wr (Go.Proofs.YtkimpfoimblhjaaDoor.Lb.szOk (ByteArray.mk (List.toArray ((91 : UInt8) :: (48 : UInt8) :: (58 : UInt8) :: (48 : UInt8) :: (58 : UInt8) :: (58 : UInt8) ::
  (49 : UInt8) :: (93 : UInt8) :: (58 : UInt8) :: (57 : UInt8) :: nilL UInt8))) = Bool.true) ∧ Wr (Bool.true = Bool.true) ∧ Wr (Go.Proofs.YtkimpfoimblhjaaDoor.Lb.szOk (ByteArray.mk (List.toArray ((49 : UInt8) :: (46 :
  UInt8) :: (50 : UInt8) :: (46 : UInt8) :: (51 : UInt8) :: (46 : UInt8) :: (48 : UInt8) :: (52 : UInt8) :: (58 : UInt8) :: (56 : UInt8) :: (48 : UInt8) :: nilL UInt8))) = Bool.true) ∧ (Decidable.decide (Go.Ad.text2 ((4 :
  Int), ((258 : Int), (772 : Int), (0 : Int), (0 : Int), (0 : Int), (0 : Int), (0 : Int), (0 : Int), ()), (80 : Int), ()) = (0 : Int)) && Decidable.decide (Go.Ad.text1 ((4 : Int), ((258 : Int), (772 : Int), (0 : Int), (0
  : Int), (0 : Int), (0 : Int), (0 : Int), (0 : Int), ()), (80 : Int), ()) = ByteArray.mk (List.toArray ((49 : UInt8) :: (46 : UInt8) :: (50 : UInt8) :: (46 : UInt8) :: (51 : UInt8) :: (46 : UInt8) :: (52 : UInt8) :: (58
  : UInt8) :: (56 : UInt8) :: (48 : UInt8) :: nilL UInt8))) && Decidable.decide (Go.Ad.parse2 (ByteArray.mk (List.toArray ((91 : UInt8) :: (48 : UInt8) :: (58 : UInt8) :: (48 : UInt8) :: (58 : UInt8) :: (58 : UInt8) ::
  (49 : UInt8) :: (93 : UInt8) :: (58 : UInt8) :: (57 : UInt8) :: nilL UInt8))) = (0 : Int)) && Decidable.decide ((Go.Ad.parse1 (ByteArray.mk (List.toArray ((91 : UInt8) :: (48 : UInt8) :: (58 : UInt8) :: (48 : UInt8) ::
  (58 : UInt8) :: (58 : UInt8) :: (49 : UInt8) :: (93 : UInt8) :: (58 : UInt8) :: (57 : UInt8) :: nilL UInt8)))).fst = (6 : Int)) && Decidable.decide ((Go.Ad.parse1 (ByteArray.mk (List.toArray ((91 : UInt8) :: (48 :
  UInt8) :: (58 : UInt8) :: (48 : UInt8) :: (58 : UInt8) :: (58 : UInt8) :: (49 : UInt8) :: (93 : UInt8) :: (58 : UInt8) :: (57 : UInt8) :: nilL UInt8)))).snd.fst.snd.snd.snd.snd.snd.snd.snd.fst = (1 : Int)) &&
  Decidable.decide ((Go.Ad.parse1 (ByteArray.mk (List.toArray ((91 : UInt8) :: (48 : UInt8) :: (58 : UInt8) :: (48 : UInt8) :: (58 : UInt8) :: (58 : UInt8) :: (49 : UInt8) :: (93 : UInt8) :: (58 : UInt8) :: (57 : UInt8)
  :: nilL UInt8)))).snd.snd.fst = (9 : Int)) && Decidable.decide (Go.Ad.text2 (Go.Ad.parse1 (ByteArray.mk (List.toArray ((91 : UInt8) :: (48 : UInt8) :: (58 : UInt8) :: (48 : UInt8) :: (58 : UInt8) :: (58 : UInt8) :: (49
  : UInt8) :: (93 : UInt8) :: (58 : UInt8) :: (57 : UInt8) :: nilL UInt8)))) = (0 : Int)) && Decidable.decide (Go.Ad.text1 (Go.Ad.parse1 (ByteArray.mk (List.toArray ((91 : UInt8) :: (48 : UInt8) :: (58 : UInt8) :: (48 :
  UInt8) :: (58 : UInt8) :: (58 : UInt8) :: (49 : UInt8) :: (93 : UInt8) :: (58 : UInt8) :: (57 : UInt8) :: nilL UInt8)))) = ByteArray.mk (List.toArray ((91 : UInt8) :: (58 : UInt8) :: (58 : UInt8) :: (49 : UInt8) :: (93
  : UInt8) :: (58 : UInt8) :: (57 : UInt8) :: nilL UInt8))) && Decidable.decide (Go.Ad.parse2 (ByteArray.mk (List.toArray ((49 : UInt8) :: (46 : UInt8) :: (50 : UInt8) :: (46 : UInt8) :: (51 : UInt8) :: (46 : UInt8) ::
  (48 : UInt8) :: (52 : UInt8) :: (58 : UInt8) :: (56 : UInt8) :: (48 : UInt8) :: nilL UInt8))) = (20 : Int)), ()) = (Bool.true, ())) := by kernel_rfl
theorem v4_eq : vcFn g4 300 Tryd.f4 ((cLw aFam)) = ( ∀ (x : List (Int × (Int × Int × Int × Int × Int × Int × Int × Int × Unit) × Int × Unit) × Unit), Wr True → Wr (Bool.true = Bool.true) ∧ bcase (Decidable.decide ((60 : Nat) < List.length x.fst)) (Wr True ∧ (Bool.true, ())
  = (Bool.true, ())) (Wr (lenA x.fst = Bool.true) ∧ Wr (lenA x.fst = Bool.true) ∧ (Wr (FamI x.fst (0 : Int) (0 : Int) (0 : Int) (0 : Int)) ∧ Wr ((0 : Int) = (0 : Int)) ∧ Wr ((0 : Int) = (0 : Int)) ∧ Wr ((0 : Int) = (0 :
  Int)) ∧ Wr ((0 : Int) = (0 : Int)) ∧ Wr (x.fst = x.fst) ∧ Wr (Go.Ad.ofA (4 : Int) x.fst = Go.Ad.ofA (4 : Int) x.fst) ∧ Wr (Go.Ad.ofA (6 : Int) x.fst = Go.Ad.ofA (6 : Int) x.fst)) ∧ ∀ (x_1 : Int × Int × Int × Int), Wr
  (FamI x.fst x_1.fst x_1.snd.fst x_1.snd.snd.fst x_1.snd.snd.snd) → bcase (Decidable.decide (x_1.snd.snd.snd < (↑(List.length x.fst) : Int))) (Wr ((0 : Int) ≤ x_1.snd.snd.snd) ∧ Wr (x_1.snd.snd.snd < (↑(List.length
  x.fst) : Int)) ∧ Wr (Bool.true = Bool.true) ∧ Wr (Bool.true = Bool.true) ∧ bcase (Decidable.decide ((List.getD x.fst (Int.toNat x_1.snd.snd.snd) (Ty.zero AdT)).fst = (4 : Int))) (Wr ((!Decidable.decide (x_1.fst ≥
  (↑(List.length (Go.Ad.ofA (4 : Int) x.fst)) : Int))) = Bool.true → (0 : Int) ≤ x_1.fst) ∧ Wr ((!Decidable.decide (x_1.fst ≥ (↑(List.length (Go.Ad.ofA (4 : Int) x.fst)) : Int))) = Bool.true → x_1.fst < (↑(List.length
  (Go.Ad.ofA (4 : Int) x.fst)) : Int)) ∧ Wr ((!Decidable.decide (x_1.fst ≥ (↑(List.length (Go.Ad.ofA (4 : Int) x.fst)) : Int))) = Bool.true → Bool.true = Bool.true) ∧ Wr ((!Decidable.decide (x_1.fst ≥ (↑(List.length
  (Go.Ad.ofA (4 : Int) x.fst)) : Int))) = Bool.true → (0 : Int) ≤ x_1.snd.snd.snd) ∧ Wr ((!Decidable.decide (x_1.fst ≥ (↑(List.length (Go.Ad.ofA (4 : Int) x.fst)) : Int))) = Bool.true → x_1.snd.snd.snd < (↑(List.length
  x.fst) : Int)) ∧ Wr ((!Decidable.decide (x_1.fst ≥ (↑(List.length (Go.Ad.ofA (4 : Int) x.fst)) : Int))) = Bool.true → Bool.true = Bool.true) ∧ bcase (Decidable.decide (x_1.fst ≥ (↑(List.length (Go.Ad.ofA (4 : Int)
  x.fst)) : Int)) || !Ty.eqb (Ty.cons (Ty.int IntKind.i8) (Ty.cons (Ty.arr (8 : Nat) (Ty.int IntKind.u16)) (Ty.cons (Ty.int IntKind.i64) Ty.unit))) (List.getD (Go.Ad.ofA (4 : Int) x.fst) (Int.toNat x_1.fst) (Ty.zero AdT))
  (List.getD x.fst (Int.toNat x_1.snd.snd.snd) (Ty.zero AdT))) ((Bool.false, ()) = (Bool.true, ())) (Wr (FamI x.fst (IntKind.wrap IntKind.i64 (x_1.fst + (1 : Int))) x_1.snd.fst x_1.snd.snd.fst (IntKind.wrap IntKind.i64
  (x_1.snd.snd.snd + (1 : Int)))) ∧ Wr (List.length x.fst - Int.toNat (IntKind.wrap IntKind.i64 (x_1.snd.snd.snd + (1 : Int))) < List.length x.fst - Int.toNat x_1.snd.snd.snd) ∧ Wr (IntKind.wrap IntKind.i64 (x_1.fst + (1
  : Int)) = IntKind.wrap IntKind.i64 (x_1.fst + (1 : Int))) ∧ Wr (x_1.snd.fst = x_1.snd.fst) ∧ Wr (x_1.snd.snd.fst = x_1.snd.snd.fst) ∧ Wr (IntKind.wrap IntKind.i64 (x_1.snd.snd.snd + (1 : Int)) = IntKind.wrap IntKind.i64
  (x_1.snd.snd.snd + (1 : Int))) ∧ Wr (x.fst = x.fst) ∧ Wr (Go.Ad.ofA (4 : Int) x.fst = Go.Ad.ofA (4 : Int) x.fst) ∧ Wr (Go.Ad.ofA (6 : Int) x.fst = Go.Ad.ofA (6 : Int) x.fst))) (Wr ((0 : Int) ≤ x_1.snd.snd.snd) ∧ Wr
  (x_1.snd.snd.snd < (↑(List.length x.fst) : Int)) ∧ Wr (Bool.true = Bool.true) ∧ Wr (Bool.true = Bool.true) ∧ bcase (Decidable.decide ((List.getD x.fst (Int.toNat x_1.snd.snd.snd) (Ty.zero AdT)).fst = (6 : Int))) (Wr
  ((!Decidable.decide (x_1.snd.fst ≥ (↑(List.length (Go.Ad.ofA (6 : Int) x.fst)) : Int))) = Bool.true → (0 : Int) ≤ x_1.snd.fst) ∧ Wr ((!Decidable.decide (x_1.snd.fst ≥ (↑(List.length (Go.Ad.ofA (6 : Int) x.fst)) : Int)))
  = Bool.true → x_1.snd.fst < (↑(List.length (Go.Ad.ofA (6 : Int) x.fst)) : Int)) ∧ Wr ((!Decidable.decide (x_1.snd.fst ≥ (↑(List.length (Go.Ad.ofA (6 : Int) x.fst)) : Int))) = Bool.true → Bool.true = Bool.true) ∧ Wr
  ((!Decidable.decide (x_1.snd.fst ≥ (↑(List.length (Go.Ad.ofA (6 : Int) x.fst)) : Int))) = Bool.true → (0 : Int) ≤ x_1.snd.snd.snd) ∧ Wr ((!Decidable.decide (x_1.snd.fst ≥ (↑(List.length (Go.Ad.ofA (6 : Int) x.fst)) :
  Int))) = Bool.true → x_1.snd.snd.snd < (↑(List.length x.fst) : Int)) ∧ Wr ((!Decidable.decide (x_1.snd.fst ≥ (↑(List.length (Go.Ad.ofA (6 : Int) x.fst)) : Int))) = Bool.true → Bool.true = Bool.true) ∧ bcase
  (Decidable.decide (x_1.snd.fst ≥ (↑(List.length (Go.Ad.ofA (6 : Int) x.fst)) : Int)) || !Ty.eqb (Ty.cons (Ty.int IntKind.i8) (Ty.cons (Ty.arr (8 : Nat) (Ty.int IntKind.u16)) (Ty.cons (Ty.int IntKind.i64) Ty.unit)))
  (List.getD (Go.Ad.ofA (6 : Int) x.fst) (Int.toNat x_1.snd.fst) (Ty.zero AdT)) (List.getD x.fst (Int.toNat x_1.snd.snd.snd) (Ty.zero AdT))) ((Bool.false, ()) = (Bool.true, ())) (Wr (FamI x.fst x_1.fst (IntKind.wrap
  IntKind.i64 (x_1.snd.fst + (1 : Int))) x_1.snd.snd.fst (IntKind.wrap IntKind.i64 (x_1.snd.snd.snd + (1 : Int)))) ∧ Wr (List.length x.fst - Int.toNat (IntKind.wrap IntKind.i64 (x_1.snd.snd.snd + (1 : Int))) < List.length
  x.fst - Int.toNat x_1.snd.snd.snd) ∧ Wr (x_1.fst = x_1.fst) ∧ Wr (IntKind.wrap IntKind.i64 (x_1.snd.fst + (1 : Int)) = IntKind.wrap IntKind.i64 (x_1.snd.fst + (1 : Int))) ∧ Wr (x_1.snd.snd.fst = x_1.snd.snd.fst) ∧ Wr
  (IntKind.wrap IntKind.i64 (x_1.snd.snd.snd + (1 : Int)) = IntKind.wrap IntKind.i64 (x_1.snd.snd.snd + (1 : Int))) ∧ Wr (x.fst = x.fst) ∧ Wr (Go.Ad.ofA (4 : Int) x.fst = Go.Ad.ofA (4 : Int) x.fst) ∧ Wr (Go.Ad.ofA (6 :
  Int) x.fst = Go.Ad.ofA (6 : Int) x.fst))) (Wr (FamI x.fst x_1.fst x_1.snd.fst (IntKind.wrap IntKind.i64 (x_1.snd.snd.fst + (1 : Int))) (IntKind.wrap IntKind.i64 (x_1.snd.snd.snd + (1 : Int)))) ∧ Wr (List.length x.fst -
  Int.toNat (IntKind.wrap IntKind.i64 (x_1.snd.snd.snd + (1 : Int))) < List.length x.fst - Int.toNat x_1.snd.snd.snd) ∧ Wr (x_1.fst = x_1.fst) ∧ Wr (x_1.snd.fst = x_1.snd.fst) ∧ Wr (IntKind.wrap IntKind.i64
  (x_1.snd.snd.fst + (1 : Int)) = IntKind.wrap IntKind.i64 (x_1.snd.snd.fst + (1 : Int))) ∧ Wr (IntKind.wrap IntKind.i64 (x_1.snd.snd.snd + (1 : Int)) = IntKind.wrap IntKind.i64 (x_1.snd.snd.snd + (1 : Int))) ∧ Wr (x.fst
  = x.fst) ∧ Wr (Go.Ad.ofA (4 : Int) x.fst = Go.Ad.ofA (4 : Int) x.fst) ∧ Wr (Go.Ad.ofA (6 : Int) x.fst = Go.Ad.ofA (6 : Int) x.fst)))) (Wr ((Decidable.decide (x_1.fst = (↑(List.length (Go.Ad.ofA (4 : Int) x.fst)) : Int))
  && Decidable.decide (x_1.snd.fst = (↑(List.length (Go.Ad.ofA (6 : Int) x.fst)) : Int)) && !Decidable.decide (x_1.snd.snd.fst = (0 : Int))) = Bool.true → lenA x.fst = Bool.true) ∧ Wr ((Decidable.decide (x_1.fst =
  (↑(List.length (Go.Ad.ofA (4 : Int) x.fst)) : Int)) && Decidable.decide (x_1.snd.fst = (↑(List.length (Go.Ad.ofA (6 : Int) x.fst)) : Int)) && (Decidable.decide (x_1.snd.snd.fst = (0 : Int)) || !Go.Ad.mayA x.fst)) =
  Bool.true → True) ∧ (Decidable.decide (x_1.fst = (↑(List.length (Go.Ad.ofA (4 : Int) x.fst)) : Int)) && Decidable.decide (x_1.snd.fst = (↑(List.length (Go.Ad.ofA (6 : Int) x.fst)) : Int)) && (Decidable.decide
  (x_1.snd.snd.fst = (0 : Int)) || !Go.Ad.mayA x.fst) && Bool.true, ()) = (Bool.true, ())))) := by kernel_rfl
theorem v6_eq : vcFn g6 300 Tryd.f6 ((cLw aBack)).T = ( ∀ (x : (Int × (Int × Int × Int × Int × Int × Int × Int × Int × Unit) × Int × Unit) × ByteArray × List (Int × (Int × Int × Int × Int × Int × Int × Int × Int × Unit) × Int × Unit) × Unit), Wr (typedB aBack x = Bool.true ∧
  True) → Wr ((!Decidable.decide ((↑(ByteArray.size x.snd.fst) : Int) > (2000 : Int))) = Bool.true → Bool.true = Bool.true) ∧ bcase (Decidable.decide ((↑(ByteArray.size x.snd.fst) : Int) > (2000 : Int)) ||
  Decidable.decide ((60 : Nat) < List.length x.snd.snd.fst)) (Wr True ∧ (Bool.true, ()) = (Bool.true, ())) (Wr (Bool.true = Bool.true) ∧ bcase (Decidable.decide (Go.Ad.text2 x.fst = (0 : Int))) (Wr
  (Go.Proofs.YtkimpfoimblhjaaDoor.Lb.szOk (Go.Ad.text1 x.fst) = Bool.true) ∧ Wr ((!(!Decidable.decide (Go.Ad.parse2 (Go.Ad.text1 x.fst) = (0 : Int)) || !Ty.eqb (Ty.cons (Ty.int IntKind.i8) (Ty.cons (Ty.arr (8 : Nat)
  (Ty.int IntKind.u16)) (Ty.cons (Ty.int IntKind.i64) Ty.unit))) (Go.Ad.parse1 (Go.Ad.text1 x.fst)) x.fst)) = Bool.true → lenA (x.fst :: nilL (Int × (Int × Int × Int × Int × Int × Int × Int × Int × Unit) × Int × Unit)) =
  Bool.true) ∧ bcase (!Decidable.decide (Go.Ad.parse2 (Go.Ad.text1 x.fst) = (0 : Int)) || !Ty.eqb (Ty.cons (Ty.int IntKind.i8) (Ty.cons (Ty.arr (8 : Nat) (Ty.int IntKind.u16)) (Ty.cons (Ty.int IntKind.i64) Ty.unit)))
  (Go.Ad.parse1 (Go.Ad.text1 x.fst)) x.fst || !Go.Ad.mayA (x.fst :: nilL (Int × (Int × Int × Int × Int × Int × Int × Int × Int × Unit) × Int × Unit))) ((Bool.false, ()) = (Bool.true, ())) (Wr
  (Go.Proofs.YtkimpfoimblhjaaDoor.Lb.szOk x.snd.fst = Bool.true) ∧ bcase (Decidable.decide (Go.Ad.parse2 x.snd.fst = (0 : Int))) (Wr (Bool.true = Bool.true) ∧ Wr (Go.Proofs.YtkimpfoimblhjaaDoor.Lb.szOk (Go.Ad.text1
  (Go.Ad.parse1 x.snd.fst)) = Bool.true) ∧ bcase (!Decidable.decide (Go.Ad.text2 (Go.Ad.parse1 x.snd.fst) = (0 : Int)) || !Decidable.decide (Go.Ad.parse2 (Go.Ad.text1 (Go.Ad.parse1 x.snd.fst)) = (0 : Int)) || !Ty.eqb
  (Ty.cons (Ty.int IntKind.i8) (Ty.cons (Ty.arr (8 : Nat) (Ty.int IntKind.u16)) (Ty.cons (Ty.int IntKind.i64) Ty.unit))) (Go.Ad.parse1 (Go.Ad.text1 (Go.Ad.parse1 x.snd.fst))) (Go.Ad.parse1 x.snd.fst)) ((Bool.false, ()) =
  (Bool.true, ())) (Wr (lenA x.snd.snd.fst = Bool.true) ∧ bcase (!Decidable.decide (Go.Ad.row2 x.snd.snd.fst = (0 : Int))) (Wr ((!Decidable.decide ((↑(List.length x.snd.snd.fst) : Int) > (16 : Int))) = Bool.true → lenA
  x.snd.snd.fst = Bool.true) ∧ Wr ((Decidable.decide ((↑(List.length x.snd.snd.fst) : Int) > (16 : Int)) || !Go.Ad.mayA x.snd.snd.fst) = Bool.true → True) ∧ ((Decidable.decide ((↑(List.length x.snd.snd.fst) : Int) > (16 :
  Int)) || !Go.Ad.mayA x.snd.snd.fst) && Bool.true, ()) = (Bool.true, ())) (Wr (Go.Proofs.YtkimpfoimblhjaaDoor.Lb.szOk (Go.Ad.row1 x.snd.snd.fst) = Bool.true) ∧ Wr (Decidable.decide (Go.Ad.read2 (Go.Ad.row1 x.snd.snd.fst)
  = (0 : Int)) = Bool.true → lenA (Go.Ad.read1 (Go.Ad.row1 x.snd.snd.fst)) = Bool.true) ∧ Wr ((Decidable.decide (Go.Ad.read2 (Go.Ad.row1 x.snd.snd.fst) = (0 : Int)) && sameLs (Go.Ad.read1 (Go.Ad.row1 x.snd.snd.fst))
  x.snd.snd.fst) = Bool.true → True) ∧ (Decidable.decide (Go.Ad.read2 (Go.Ad.row1 x.snd.snd.fst) = (0 : Int)) && sameLs (Go.Ad.read1 (Go.Ad.row1 x.snd.snd.fst)) x.snd.snd.fst && Bool.true, ()) = (Bool.true, ())))) (Wr
  (lenA x.snd.snd.fst = Bool.true) ∧ bcase (!Decidable.decide (Go.Ad.row2 x.snd.snd.fst = (0 : Int))) (Wr ((!Decidable.decide ((↑(List.length x.snd.snd.fst) : Int) > (16 : Int))) = Bool.true → lenA x.snd.snd.fst =
  Bool.true) ∧ Wr ((Decidable.decide ((↑(List.length x.snd.snd.fst) : Int) > (16 : Int)) || !Go.Ad.mayA x.snd.snd.fst) = Bool.true → True) ∧ ((Decidable.decide ((↑(List.length x.snd.snd.fst) : Int) > (16 : Int)) ||
  !Go.Ad.mayA x.snd.snd.fst) && Bool.true, ()) = (Bool.true, ())) (Wr (Go.Proofs.YtkimpfoimblhjaaDoor.Lb.szOk (Go.Ad.row1 x.snd.snd.fst) = Bool.true) ∧ Wr (Decidable.decide (Go.Ad.read2 (Go.Ad.row1 x.snd.snd.fst) = (0 :
  Int)) = Bool.true → lenA (Go.Ad.read1 (Go.Ad.row1 x.snd.snd.fst)) = Bool.true) ∧ Wr ((Decidable.decide (Go.Ad.read2 (Go.Ad.row1 x.snd.snd.fst) = (0 : Int)) && sameLs (Go.Ad.read1 (Go.Ad.row1 x.snd.snd.fst))
  x.snd.snd.fst) = Bool.true → True) ∧ (Decidable.decide (Go.Ad.read2 (Go.Ad.row1 x.snd.snd.fst) = (0 : Int)) && sameLs (Go.Ad.read1 (Go.Ad.row1 x.snd.snd.fst)) x.snd.snd.fst && Bool.true, ()) = (Bool.true, ()))))) (Wr
  (Go.Proofs.YtkimpfoimblhjaaDoor.Lb.szOk x.snd.fst = Bool.true) ∧ bcase (Decidable.decide (Go.Ad.parse2 x.snd.fst = (0 : Int))) (Wr (Bool.true = Bool.true) ∧ Wr (Go.Proofs.YtkimpfoimblhjaaDoor.Lb.szOk (Go.Ad.text1
  (Go.Ad.parse1 x.snd.fst)) = Bool.true) ∧ bcase (!Decidable.decide (Go.Ad.text2 (Go.Ad.parse1 x.snd.fst) = (0 : Int)) || !Decidable.decide (Go.Ad.parse2 (Go.Ad.text1 (Go.Ad.parse1 x.snd.fst)) = (0 : Int)) || !Ty.eqb
  (Ty.cons (Ty.int IntKind.i8) (Ty.cons (Ty.arr (8 : Nat) (Ty.int IntKind.u16)) (Ty.cons (Ty.int IntKind.i64) Ty.unit))) (Go.Ad.parse1 (Go.Ad.text1 (Go.Ad.parse1 x.snd.fst))) (Go.Ad.parse1 x.snd.fst)) ((Bool.false, ()) =
  (Bool.true, ())) (Wr (lenA x.snd.snd.fst = Bool.true) ∧ bcase (!Decidable.decide (Go.Ad.row2 x.snd.snd.fst = (0 : Int))) (Wr ((!Decidable.decide ((↑(List.length x.snd.snd.fst) : Int) > (16 : Int))) = Bool.true → lenA
  x.snd.snd.fst = Bool.true) ∧ Wr ((Decidable.decide ((↑(List.length x.snd.snd.fst) : Int) > (16 : Int)) || !Go.Ad.mayA x.snd.snd.fst) = Bool.true → True) ∧ ((Decidable.decide ((↑(List.length x.snd.snd.fst) : Int) > (16 :
  Int)) || !Go.Ad.mayA x.snd.snd.fst) && Bool.true, ()) = (Bool.true, ())) (Wr (Go.Proofs.YtkimpfoimblhjaaDoor.Lb.szOk (Go.Ad.row1 x.snd.snd.fst) = Bool.true) ∧ Wr (Decidable.decide (Go.Ad.read2 (Go.Ad.row1 x.snd.snd.fst)
  = (0 : Int)) = Bool.true → lenA (Go.Ad.read1 (Go.Ad.row1 x.snd.snd.fst)) = Bool.true) ∧ Wr ((Decidable.decide (Go.Ad.read2 (Go.Ad.row1 x.snd.snd.fst) = (0 : Int)) && sameLs (Go.Ad.read1 (Go.Ad.row1 x.snd.snd.fst))
  x.snd.snd.fst) = Bool.true → True) ∧ (Decidable.decide (Go.Ad.read2 (Go.Ad.row1 x.snd.snd.fst) = (0 : Int)) && sameLs (Go.Ad.read1 (Go.Ad.row1 x.snd.snd.fst)) x.snd.snd.fst && Bool.true, ()) = (Bool.true, ())))) (Wr
  (lenA x.snd.snd.fst = Bool.true) ∧ bcase (!Decidable.decide (Go.Ad.row2 x.snd.snd.fst = (0 : Int))) (Wr ((!Decidable.decide ((↑(List.length x.snd.snd.fst) : Int) > (16 : Int))) = Bool.true → lenA x.snd.snd.fst =
  Bool.true) ∧ Wr ((Decidable.decide ((↑(List.length x.snd.snd.fst) : Int) > (16 : Int)) || !Go.Ad.mayA x.snd.snd.fst) = Bool.true → True) ∧ ((Decidable.decide ((↑(List.length x.snd.snd.fst) : Int) > (16 : Int)) ||
  !Go.Ad.mayA x.snd.snd.fst) && Bool.true, ()) = (Bool.true, ())) (Wr (Go.Proofs.YtkimpfoimblhjaaDoor.Lb.szOk (Go.Ad.row1 x.snd.snd.fst) = Bool.true) ∧ Wr (Decidable.decide (Go.Ad.read2 (Go.Ad.row1 x.snd.snd.fst) = (0 :
  Int)) = Bool.true → lenA (Go.Ad.read1 (Go.Ad.row1 x.snd.snd.fst)) = Bool.true) ∧ Wr ((Decidable.decide (Go.Ad.read2 (Go.Ad.row1 x.snd.snd.fst) = (0 : Int)) && sameLs (Go.Ad.read1 (Go.Ad.row1 x.snd.snd.fst))
  x.snd.snd.fst) = Bool.true → True) ∧ (Decidable.decide (Go.Ad.read2 (Go.Ad.row1 x.snd.snd.fst) = (0 : Int)) && sameLs (Go.Ad.read1 (Go.Ad.row1 x.snd.snd.fst)) x.snd.snd.fst && Bool.true, ()) = (Bool.true, ())))))) := by kernel_rfl
theorem v3_eq : vcFn g3 300 Tryd.f3 ((cLw aDigs)).T = ( ∀ (x : (Int × (Int × Int × Int × Int × Int × Int × Int × Int × Unit) × Int × Unit) × Unit), Wr (typedB aDigs x = Bool.true ∧ True) → Wr (lenA (x.fst :: nilL (Int × (Int × Int × Int × Int × Int × Int × Int × Int × Unit) ×
  Int × Unit)) = Bool.true) ∧ bcase (!Go.Ad.mayA (x.fst :: nilL (Int × (Int × Int × Int × Int × Int × Int × Int × Int × Unit) × Int × Unit)) || !Decidable.decide (x.fst.fst = (6 : Int)) || Decidable.decide
  (x.fst.snd.snd.fst < (1 : Int)) || Decidable.decide (x.fst.snd.snd.fst > (65535 : Int))) (Wr True ∧ (Bool.true, ()) = (Bool.true, ())) (Wr (Bool.true = Bool.true) ∧ bcase (!Decidable.decide (Go.Ad.text2 x.fst = (0 :
  Int))) ((Bool.false, ()) = (Bool.true, ())) ((Wr (Cl8I (Go.Ad.text1 x.fst) (-1 : Int) (0 : Int)) ∧ Wr ((-1 : Int) = (-1 : Int)) ∧ Wr ((0 : Int) = (0 : Int)) ∧ Wr (Go.Ad.text1 x.fst = Go.Ad.text1 x.fst) ∧ Wr (x.fst.fst =
  x.fst.fst) ∧ Wr (x.fst.snd.fst.fst = x.fst.snd.fst.fst) ∧ Wr (x.fst.snd.fst.snd.fst = x.fst.snd.fst.snd.fst) ∧ Wr (x.fst.snd.fst.snd.snd.fst = x.fst.snd.fst.snd.snd.fst) ∧ Wr (x.fst.snd.fst.snd.snd.snd.fst =
  x.fst.snd.fst.snd.snd.snd.fst) ∧ Wr (x.fst.snd.fst.snd.snd.snd.snd.fst = x.fst.snd.fst.snd.snd.snd.snd.fst) ∧ Wr (x.fst.snd.fst.snd.snd.snd.snd.snd.fst = x.fst.snd.fst.snd.snd.snd.snd.snd.fst) ∧ Wr
  (x.fst.snd.fst.snd.snd.snd.snd.snd.snd.fst = x.fst.snd.fst.snd.snd.snd.snd.snd.snd.fst) ∧ Wr (x.fst.snd.fst.snd.snd.snd.snd.snd.snd.snd.fst = x.fst.snd.fst.snd.snd.snd.snd.snd.snd.snd.fst) ∧ Wr (x.fst.snd.snd.fst =
  x.fst.snd.snd.fst)) ∧ ∀ (x_1 : Int × Int), Wr (Cl8I (Go.Ad.text1 x.fst) x_1.fst x_1.snd) → bcase (Decidable.decide (x_1.snd < (↑(ByteArray.size (Go.Ad.text1 x.fst)) : Int))) (Wr ((0 : Int) ≤ x_1.snd) ∧ Wr (x_1.snd <
  (↑(ByteArray.size (Go.Ad.text1 x.fst)) : Int)) ∧ bcase (Decidable.decide (byteAt (Go.Ad.text1 x.fst) (Int.toNat x_1.snd) = (58 : Int))) (Wr (Cl8I (Go.Ad.text1 x.fst) x_1.snd (IntKind.wrap IntKind.i64 (x_1.snd + (1 :
  Int)))) ∧ Wr (ByteArray.size (Go.Ad.text1 x.fst) - Int.toNat (IntKind.wrap IntKind.i64 (x_1.snd + (1 : Int))) < ByteArray.size (Go.Ad.text1 x.fst) - Int.toNat x_1.snd) ∧ Wr (x_1.snd = x_1.snd) ∧ Wr (IntKind.wrap
  IntKind.i64 (x_1.snd + (1 : Int)) = IntKind.wrap IntKind.i64 (x_1.snd + (1 : Int))) ∧ Wr (Go.Ad.text1 x.fst = Go.Ad.text1 x.fst) ∧ Wr (x.fst.fst = x.fst.fst) ∧ Wr (x.fst.snd.fst.fst = x.fst.snd.fst.fst) ∧ Wr
  (x.fst.snd.fst.snd.fst = x.fst.snd.fst.snd.fst) ∧ Wr (x.fst.snd.fst.snd.snd.fst = x.fst.snd.fst.snd.snd.fst) ∧ Wr (x.fst.snd.fst.snd.snd.snd.fst = x.fst.snd.fst.snd.snd.snd.fst) ∧ Wr (x.fst.snd.fst.snd.snd.snd.snd.fst =
  x.fst.snd.fst.snd.snd.snd.snd.fst) ∧ Wr (x.fst.snd.fst.snd.snd.snd.snd.snd.fst = x.fst.snd.fst.snd.snd.snd.snd.snd.fst) ∧ Wr (x.fst.snd.fst.snd.snd.snd.snd.snd.snd.fst = x.fst.snd.fst.snd.snd.snd.snd.snd.snd.fst) ∧ Wr
  (x.fst.snd.fst.snd.snd.snd.snd.snd.snd.snd.fst = x.fst.snd.fst.snd.snd.snd.snd.snd.snd.snd.fst) ∧ Wr (x.fst.snd.snd.fst = x.fst.snd.snd.fst)) (Wr (Cl8I (Go.Ad.text1 x.fst) x_1.fst (IntKind.wrap IntKind.i64 (x_1.snd + (1
  : Int)))) ∧ Wr (ByteArray.size (Go.Ad.text1 x.fst) - Int.toNat (IntKind.wrap IntKind.i64 (x_1.snd + (1 : Int))) < ByteArray.size (Go.Ad.text1 x.fst) - Int.toNat x_1.snd) ∧ Wr (x_1.fst = x_1.fst) ∧ Wr (IntKind.wrap
  IntKind.i64 (x_1.snd + (1 : Int)) = IntKind.wrap IntKind.i64 (x_1.snd + (1 : Int))) ∧ Wr (Go.Ad.text1 x.fst = Go.Ad.text1 x.fst) ∧ Wr (x.fst.fst = x.fst.fst) ∧ Wr (x.fst.snd.fst.fst = x.fst.snd.fst.fst) ∧ Wr
  (x.fst.snd.fst.snd.fst = x.fst.snd.fst.snd.fst) ∧ Wr (x.fst.snd.fst.snd.snd.fst = x.fst.snd.fst.snd.snd.fst) ∧ Wr (x.fst.snd.fst.snd.snd.snd.fst = x.fst.snd.fst.snd.snd.snd.fst) ∧ Wr (x.fst.snd.fst.snd.snd.snd.snd.fst =
  x.fst.snd.fst.snd.snd.snd.snd.fst) ∧ Wr (x.fst.snd.fst.snd.snd.snd.snd.snd.fst = x.fst.snd.fst.snd.snd.snd.snd.snd.fst) ∧ Wr (x.fst.snd.fst.snd.snd.snd.snd.snd.snd.fst = x.fst.snd.fst.snd.snd.snd.snd.snd.snd.fst) ∧ Wr
  (x.fst.snd.fst.snd.snd.snd.snd.snd.snd.snd.fst = x.fst.snd.fst.snd.snd.snd.snd.snd.snd.snd.fst) ∧ Wr (x.fst.snd.snd.fst = x.fst.snd.snd.fst))) (bcase (Decidable.decide (x_1.fst < (0 : Int))) ((Bool.false, ()) =
  (Bool.true, ())) ((Wr (Dg8I x.fst.snd.fst (ByteArray.mk (List.toArray ((91 : UInt8) :: nilL UInt8))) (0 : Int)) ∧ Wr (ByteArray.mk (List.toArray ((91 : UInt8) :: nilL UInt8)) = ByteArray.mk (List.toArray ((91 : UInt8)
  :: nilL UInt8))) ∧ Wr ((0 : Int) = (0 : Int)) ∧ Wr (Go.Ad.text1 x.fst = Go.Ad.text1 x.fst) ∧ Wr (x_1.fst = x_1.fst) ∧ Wr (x.fst.fst = x.fst.fst) ∧ Wr (x.fst.snd.fst.fst = x.fst.snd.fst.fst) ∧ Wr (x.fst.snd.fst.snd.fst =
  x.fst.snd.fst.snd.fst) ∧ Wr (x.fst.snd.fst.snd.snd.fst = x.fst.snd.fst.snd.snd.fst) ∧ Wr (x.fst.snd.fst.snd.snd.snd.fst = x.fst.snd.fst.snd.snd.snd.fst) ∧ Wr (x.fst.snd.fst.snd.snd.snd.snd.fst =
  x.fst.snd.fst.snd.snd.snd.snd.fst) ∧ Wr (x.fst.snd.fst.snd.snd.snd.snd.snd.fst = x.fst.snd.fst.snd.snd.snd.snd.snd.fst) ∧ Wr (x.fst.snd.fst.snd.snd.snd.snd.snd.snd.fst = x.fst.snd.fst.snd.snd.snd.snd.snd.snd.fst) ∧ Wr
  (x.fst.snd.fst.snd.snd.snd.snd.snd.snd.snd.fst = x.fst.snd.fst.snd.snd.snd.snd.snd.snd.snd.fst) ∧ Wr (x.fst.snd.snd.fst = x.fst.snd.snd.fst)) ∧ ∀ (x_2 : ByteArray × Int), Wr (Dg8I x.fst.snd.fst x_2.fst x_2.snd) → bcase
  (Decidable.decide (x_2.snd < (8 : Int))) (bcase (Decidable.decide (x_2.snd > (0 : Int))) (Wr (ByteArray.size x_2.fst + ByteArray.size (ByteArray.mk (List.toArray ((58 : UInt8) :: nilL UInt8))) ≤ Go.maxLen) ∧ (Wr (Dg4I
  (x_2.fst ++ ByteArray.mk (List.toArray ((58 : UInt8) :: nilL UInt8))) (x_2.fst ++ ByteArray.mk (List.toArray ((58 : UInt8) :: nilL UInt8))) (List.getD (Go.Ad.gl x.fst.snd.fst) (Int.toNat x_2.snd) (0 : Int)) (12 : Int))
  ∧ Wr (x_2.fst ++ ByteArray.mk (List.toArray ((58 : UInt8) :: nilL UInt8)) = x_2.fst ++ ByteArray.mk (List.toArray ((58 : UInt8) :: nilL UInt8))) ∧ Wr ((12 : Int) = (12 : Int)) ∧ Wr (Go.Ad.text1 x.fst = Go.Ad.text1
  x.fst) ∧ Wr (x_1.fst = x_1.fst) ∧ Wr (x_2.snd = x_2.snd) ∧ Wr (x.fst.fst = x.fst.fst) ∧ Wr (x.fst.snd.fst.fst = x.fst.snd.fst.fst) ∧ Wr (x.fst.snd.fst.snd.fst = x.fst.snd.fst.snd.fst) ∧ Wr (x.fst.snd.fst.snd.snd.fst =
  x.fst.snd.fst.snd.snd.fst) ∧ Wr (x.fst.snd.fst.snd.snd.snd.fst = x.fst.snd.fst.snd.snd.snd.fst) ∧ Wr (x.fst.snd.fst.snd.snd.snd.snd.fst = x.fst.snd.fst.snd.snd.snd.snd.fst) ∧ Wr (x.fst.snd.fst.snd.snd.snd.snd.snd.fst =
  x.fst.snd.fst.snd.snd.snd.snd.snd.fst) ∧ Wr (x.fst.snd.fst.snd.snd.snd.snd.snd.snd.fst = x.fst.snd.fst.snd.snd.snd.snd.snd.snd.fst) ∧ Wr (x.fst.snd.fst.snd.snd.snd.snd.snd.snd.snd.fst =
  x.fst.snd.fst.snd.snd.snd.snd.snd.snd.snd.fst) ∧ Wr (x.fst.snd.snd.fst = x.fst.snd.snd.fst)) ∧ ∀ (x_3 : ByteArray × Int), Wr (Dg4I (x_2.fst ++ ByteArray.mk (List.toArray ((58 : UInt8) :: nilL UInt8))) x_3.fst (List.getD
  (Go.Ad.gl x.fst.snd.fst) (Int.toNat x_2.snd) (0 : Int)) x_3.snd) → bcase (Decidable.decide (x_3.snd ≥ (0 : Int))) (Wr ((0 : Int) ≤ x_2.snd) ∧ Wr (x_2.snd < (↑(8 : Nat) : Int)) ∧ Wr ((0 : Int) ≤ x_3.snd) ∧ Wr
  (IntKind.wrap IntKind.i64 ((1 : Int) * (2 : Int) ^ Min.min (Int.toNat x_3.snd) (IntKind.bits IntKind.i64)) ≠ (0 : Int)) ∧ Wr ((16 : Int) ≠ (0 : Int)) ∧ Wr ((0 : Int) ≤ Int.tmod (IntKind.wrap IntKind.i64 (Int.tdiv
  (IntKind.wrap IntKind.i64 (List.getD (x.fst.snd.fst.fst :: x.fst.snd.fst.snd.fst :: x.fst.snd.fst.snd.snd.fst :: x.fst.snd.fst.snd.snd.snd.fst :: x.fst.snd.fst.snd.snd.snd.snd.fst ::
  x.fst.snd.fst.snd.snd.snd.snd.snd.fst :: x.fst.snd.fst.snd.snd.snd.snd.snd.snd.fst :: x.fst.snd.fst.snd.snd.snd.snd.snd.snd.snd.fst :: nilL Int) (Int.toNat x_2.snd) (0 : Int))) (IntKind.wrap IntKind.i64 ((1 : Int) * (2
  : Int) ^ Min.min (Int.toNat x_3.snd) (IntKind.bits IntKind.i64))))) (16 : Int)) ∧ Wr (Int.tmod (IntKind.wrap IntKind.i64 (Int.tdiv (IntKind.wrap IntKind.i64 (List.getD (x.fst.snd.fst.fst :: x.fst.snd.fst.snd.fst ::
  x.fst.snd.fst.snd.snd.fst :: x.fst.snd.fst.snd.snd.snd.fst :: x.fst.snd.fst.snd.snd.snd.snd.fst :: x.fst.snd.fst.snd.snd.snd.snd.snd.fst :: x.fst.snd.fst.snd.snd.snd.snd.snd.snd.fst ::
  x.fst.snd.fst.snd.snd.snd.snd.snd.snd.snd.fst :: nilL Int) (Int.toNat x_2.snd) (0 : Int))) (IntKind.wrap IntKind.i64 ((1 : Int) * (2 : Int) ^ Min.min (Int.toNat x_3.snd) (IntKind.bits IntKind.i64))))) (16 : Int) ≤
  IntKind.wrap IntKind.i64 (Int.tmod (IntKind.wrap IntKind.i64 (Int.tdiv (IntKind.wrap IntKind.i64 (List.getD (x.fst.snd.fst.fst :: x.fst.snd.fst.snd.fst :: x.fst.snd.fst.snd.snd.fst :: x.fst.snd.fst.snd.snd.snd.fst ::
  x.fst.snd.fst.snd.snd.snd.snd.fst :: x.fst.snd.fst.snd.snd.snd.snd.snd.fst :: x.fst.snd.fst.snd.snd.snd.snd.snd.snd.fst :: x.fst.snd.fst.snd.snd.snd.snd.snd.snd.snd.fst :: nilL Int) (Int.toNat x_2.snd) (0 : Int)))
  (IntKind.wrap IntKind.i64 ((1 : Int) * (2 : Int) ^ Min.min (Int.toNat x_3.snd) (IntKind.bits IntKind.i64))))) (16 : Int) + (1 : Int))) ∧ Wr (IntKind.wrap IntKind.i64 (Int.tmod (IntKind.wrap IntKind.i64 (Int.tdiv
  (IntKind.wrap IntKind.i64 (List.getD (x.fst.snd.fst.fst :: x.fst.snd.fst.snd.fst :: x.fst.snd.fst.snd.snd.fst :: x.fst.snd.fst.snd.snd.snd.fst :: x.fst.snd.fst.snd.snd.snd.snd.fst ::
  x.fst.snd.fst.snd.snd.snd.snd.snd.fst :: x.fst.snd.fst.snd.snd.snd.snd.snd.snd.fst :: x.fst.snd.fst.snd.snd.snd.snd.snd.snd.snd.fst :: nilL Int) (Int.toNat x_2.snd) (0 : Int))) (IntKind.wrap IntKind.i64 ((1 : Int) * (2
  : Int) ^ Min.min (Int.toNat x_3.snd) (IntKind.bits IntKind.i64))))) (16 : Int) + (1 : Int)) ≤ (↑(ByteArray.size (ByteArray.mk (List.toArray ((48 : UInt8) :: (49 : UInt8) :: (50 : UInt8) :: (51 : UInt8) :: (52 : UInt8)
  :: (53 : UInt8) :: (54 : UInt8) :: (55 : UInt8) :: (56 : UInt8) :: (57 : UInt8) :: (65 : UInt8) :: (66 : UInt8) :: (67 : UInt8) :: (68 : UInt8) :: (69 : UInt8) :: (70 : UInt8) :: nilL UInt8)))) : Int)) ∧ Wr
  (ByteArray.size x_3.fst + ByteArray.size (subS (ByteArray.mk (List.toArray ((48 : UInt8) :: (49 : UInt8) :: (50 : UInt8) :: (51 : UInt8) :: (52 : UInt8) :: (53 : UInt8) :: (54 : UInt8) :: (55 : UInt8) :: (56 : UInt8) ::
  (57 : UInt8) :: (65 : UInt8) :: (66 : UInt8) :: (67 : UInt8) :: (68 : UInt8) :: (69 : UInt8) :: (70 : UInt8) :: nilL UInt8))) (Int.toNat (Int.tmod (IntKind.wrap IntKind.i64 (Int.tdiv (IntKind.wrap IntKind.i64 (List.getD
  (x.fst.snd.fst.fst :: x.fst.snd.fst.snd.fst :: x.fst.snd.fst.snd.snd.fst :: x.fst.snd.fst.snd.snd.snd.fst :: x.fst.snd.fst.snd.snd.snd.snd.fst :: x.fst.snd.fst.snd.snd.snd.snd.snd.fst ::
  x.fst.snd.fst.snd.snd.snd.snd.snd.snd.fst :: x.fst.snd.fst.snd.snd.snd.snd.snd.snd.snd.fst :: nilL Int) (Int.toNat x_2.snd) (0 : Int))) (IntKind.wrap IntKind.i64 ((1 : Int) * (2 : Int) ^ Min.min (Int.toNat x_3.snd)
  (IntKind.bits IntKind.i64))))) (16 : Int))) (Int.toNat (IntKind.wrap IntKind.i64 (Int.tmod (IntKind.wrap IntKind.i64 (Int.tdiv (IntKind.wrap IntKind.i64 (List.getD (x.fst.snd.fst.fst :: x.fst.snd.fst.snd.fst ::
  x.fst.snd.fst.snd.snd.fst :: x.fst.snd.fst.snd.snd.snd.fst :: x.fst.snd.fst.snd.snd.snd.snd.fst :: x.fst.snd.fst.snd.snd.snd.snd.snd.fst :: x.fst.snd.fst.snd.snd.snd.snd.snd.snd.fst ::
  x.fst.snd.fst.snd.snd.snd.snd.snd.snd.snd.fst :: nilL Int) (Int.toNat x_2.snd) (0 : Int))) (IntKind.wrap IntKind.i64 ((1 : Int) * (2 : Int) ^ Min.min (Int.toNat x_3.snd) (IntKind.bits IntKind.i64))))) (16 : Int) + (1 :
  Int))))) ≤ Go.maxLen) ∧ Wr (Dg4I (x_2.fst ++ ByteArray.mk (List.toArray ((58 : UInt8) :: nilL UInt8))) (x_3.fst ++ subS (ByteArray.mk (List.toArray ((48 : UInt8) :: (49 : UInt8) :: (50 : UInt8) :: (51 : UInt8) :: (52 :
  UInt8) :: (53 : UInt8) :: (54 : UInt8) :: (55 : UInt8) :: (56 : UInt8) :: (57 : UInt8) :: (65 : UInt8) :: (66 : UInt8) :: (67 : UInt8) :: (68 : UInt8) :: (69 : UInt8) :: (70 : UInt8) :: nilL UInt8))) (Int.toNat
  (Int.tmod (IntKind.wrap IntKind.i64 (Int.tdiv (IntKind.wrap IntKind.i64 (List.getD (x.fst.snd.fst.fst :: x.fst.snd.fst.snd.fst :: x.fst.snd.fst.snd.snd.fst :: x.fst.snd.fst.snd.snd.snd.fst ::
  x.fst.snd.fst.snd.snd.snd.snd.fst :: x.fst.snd.fst.snd.snd.snd.snd.snd.fst :: x.fst.snd.fst.snd.snd.snd.snd.snd.snd.fst :: x.fst.snd.fst.snd.snd.snd.snd.snd.snd.snd.fst :: nilL Int) (Int.toNat x_2.snd) (0 : Int)))
  (IntKind.wrap IntKind.i64 ((1 : Int) * (2 : Int) ^ Min.min (Int.toNat x_3.snd) (IntKind.bits IntKind.i64))))) (16 : Int))) (Int.toNat (IntKind.wrap IntKind.i64 (Int.tmod (IntKind.wrap IntKind.i64 (Int.tdiv (IntKind.wrap
  IntKind.i64 (List.getD (x.fst.snd.fst.fst :: x.fst.snd.fst.snd.fst :: x.fst.snd.fst.snd.snd.fst :: x.fst.snd.fst.snd.snd.snd.fst :: x.fst.snd.fst.snd.snd.snd.snd.fst :: x.fst.snd.fst.snd.snd.snd.snd.snd.fst ::
  x.fst.snd.fst.snd.snd.snd.snd.snd.snd.fst :: x.fst.snd.fst.snd.snd.snd.snd.snd.snd.snd.fst :: nilL Int) (Int.toNat x_2.snd) (0 : Int))) (IntKind.wrap IntKind.i64 ((1 : Int) * (2 : Int) ^ Min.min (Int.toNat x_3.snd)
  (IntKind.bits IntKind.i64))))) (16 : Int) + (1 : Int))))) (List.getD (Go.Ad.gl x.fst.snd.fst) (Int.toNat x_2.snd) (0 : Int)) (IntKind.wrap IntKind.i64 (x_3.snd - (4 : Int)))) ∧ Wr (Int.toNat (IntKind.wrap IntKind.i64
  (x_3.snd - (4 : Int)) + (4 : Int)) < Int.toNat (x_3.snd + (4 : Int))) ∧ Wr (x_3.fst ++ subS (ByteArray.mk (List.toArray ((48 : UInt8) :: (49 : UInt8) :: (50 : UInt8) :: (51 : UInt8) :: (52 : UInt8) :: (53 : UInt8) ::
  (54 : UInt8) :: (55 : UInt8) :: (56 : UInt8) :: (57 : UInt8) :: (65 : UInt8) :: (66 : UInt8) :: (67 : UInt8) :: (68 : UInt8) :: (69 : UInt8) :: (70 : UInt8) :: nilL UInt8))) (Int.toNat (Int.tmod (IntKind.wrap
  IntKind.i64 (Int.tdiv (IntKind.wrap IntKind.i64 (List.getD (x.fst.snd.fst.fst :: x.fst.snd.fst.snd.fst :: x.fst.snd.fst.snd.snd.fst :: x.fst.snd.fst.snd.snd.snd.fst :: x.fst.snd.fst.snd.snd.snd.snd.fst ::
  x.fst.snd.fst.snd.snd.snd.snd.snd.fst :: x.fst.snd.fst.snd.snd.snd.snd.snd.snd.fst :: x.fst.snd.fst.snd.snd.snd.snd.snd.snd.snd.fst :: nilL Int) (Int.toNat x_2.snd) (0 : Int))) (IntKind.wrap IntKind.i64 ((1 : Int) * (2
  : Int) ^ Min.min (Int.toNat x_3.snd) (IntKind.bits IntKind.i64))))) (16 : Int))) (Int.toNat (IntKind.wrap IntKind.i64 (Int.tmod (IntKind.wrap IntKind.i64 (Int.tdiv (IntKind.wrap IntKind.i64 (List.getD (x.fst.snd.fst.fst
  :: x.fst.snd.fst.snd.fst :: x.fst.snd.fst.snd.snd.fst :: x.fst.snd.fst.snd.snd.snd.fst :: x.fst.snd.fst.snd.snd.snd.snd.fst :: x.fst.snd.fst.snd.snd.snd.snd.snd.fst :: x.fst.snd.fst.snd.snd.snd.snd.snd.snd.fst ::
  x.fst.snd.fst.snd.snd.snd.snd.snd.snd.snd.fst :: nilL Int) (Int.toNat x_2.snd) (0 : Int))) (IntKind.wrap IntKind.i64 ((1 : Int) * (2 : Int) ^ Min.min (Int.toNat x_3.snd) (IntKind.bits IntKind.i64))))) (16 : Int) + (1 :
  Int)))) = x_3.fst ++ subS (ByteArray.mk (List.toArray ((48 : UInt8) :: (49 : UInt8) :: (50 : UInt8) :: (51 : UInt8) :: (52 : UInt8) :: (53 : UInt8) :: (54 : UInt8) :: (55 : UInt8) :: (56 : UInt8) :: (57 : UInt8) :: (65
  : UInt8) :: (66 : UInt8) :: (67 : UInt8) :: (68 : UInt8) :: (69 : UInt8) :: (70 : UInt8) :: nilL UInt8))) (Int.toNat (Int.tmod (IntKind.wrap IntKind.i64 (Int.tdiv (IntKind.wrap IntKind.i64 (List.getD (x.fst.snd.fst.fst
  :: x.fst.snd.fst.snd.fst :: x.fst.snd.fst.snd.snd.fst :: x.fst.snd.fst.snd.snd.snd.fst :: x.fst.snd.fst.snd.snd.snd.snd.fst :: x.fst.snd.fst.snd.snd.snd.snd.snd.fst :: x.fst.snd.fst.snd.snd.snd.snd.snd.snd.fst ::
  x.fst.snd.fst.snd.snd.snd.snd.snd.snd.snd.fst :: nilL Int) (Int.toNat x_2.snd) (0 : Int))) (IntKind.wrap IntKind.i64 ((1 : Int) * (2 : Int) ^ Min.min (Int.toNat x_3.snd) (IntKind.bits IntKind.i64))))) (16 : Int)))
  (Int.toNat (IntKind.wrap IntKind.i64 (Int.tmod (IntKind.wrap IntKind.i64 (Int.tdiv (IntKind.wrap IntKind.i64 (List.getD (x.fst.snd.fst.fst :: x.fst.snd.fst.snd.fst :: x.fst.snd.fst.snd.snd.fst ::
  x.fst.snd.fst.snd.snd.snd.fst :: x.fst.snd.fst.snd.snd.snd.snd.fst :: x.fst.snd.fst.snd.snd.snd.snd.snd.fst :: x.fst.snd.fst.snd.snd.snd.snd.snd.snd.fst :: x.fst.snd.fst.snd.snd.snd.snd.snd.snd.snd.fst :: nilL Int)
  (Int.toNat x_2.snd) (0 : Int))) (IntKind.wrap IntKind.i64 ((1 : Int) * (2 : Int) ^ Min.min (Int.toNat x_3.snd) (IntKind.bits IntKind.i64))))) (16 : Int) + (1 : Int))))) ∧ Wr (IntKind.wrap IntKind.i64 (x_3.snd - (4 :
  Int)) = IntKind.wrap IntKind.i64 (x_3.snd - (4 : Int))) ∧ Wr (Go.Ad.text1 x.fst = Go.Ad.text1 x.fst) ∧ Wr (x_1.fst = x_1.fst) ∧ Wr (x_2.snd = x_2.snd) ∧ Wr (x.fst.fst = x.fst.fst) ∧ Wr (x.fst.snd.fst.fst =
  x.fst.snd.fst.fst) ∧ Wr (x.fst.snd.fst.snd.fst = x.fst.snd.fst.snd.fst) ∧ Wr (x.fst.snd.fst.snd.snd.fst = x.fst.snd.fst.snd.snd.fst) ∧ Wr (x.fst.snd.fst.snd.snd.snd.fst = x.fst.snd.fst.snd.snd.snd.fst) ∧ Wr
  (x.fst.snd.fst.snd.snd.snd.snd.fst = x.fst.snd.fst.snd.snd.snd.snd.fst) ∧ Wr (x.fst.snd.fst.snd.snd.snd.snd.snd.fst = x.fst.snd.fst.snd.snd.snd.snd.snd.fst) ∧ Wr (x.fst.snd.fst.snd.snd.snd.snd.snd.snd.fst =
  x.fst.snd.fst.snd.snd.snd.snd.snd.snd.fst) ∧ Wr (x.fst.snd.fst.snd.snd.snd.snd.snd.snd.snd.fst = x.fst.snd.fst.snd.snd.snd.snd.snd.snd.snd.fst) ∧ Wr (x.fst.snd.snd.fst = x.fst.snd.snd.fst)) (Wr (Dg8I x.fst.snd.fst
  x_3.fst (IntKind.wrap IntKind.i64 (x_2.snd + (1 : Int)))) ∧ Wr ((8 : Nat) - Int.toNat (IntKind.wrap IntKind.i64 (x_2.snd + (1 : Int))) < (8 : Nat) - Int.toNat x_2.snd) ∧ Wr (x_3.fst = x_3.fst) ∧ Wr (IntKind.wrap
  IntKind.i64 (x_2.snd + (1 : Int)) = IntKind.wrap IntKind.i64 (x_2.snd + (1 : Int))) ∧ Wr (Go.Ad.text1 x.fst = Go.Ad.text1 x.fst) ∧ Wr (x_1.fst = x_1.fst) ∧ Wr (x.fst.fst = x.fst.fst) ∧ Wr (x.fst.snd.fst.fst =
  x.fst.snd.fst.fst) ∧ Wr (x.fst.snd.fst.snd.fst = x.fst.snd.fst.snd.fst) ∧ Wr (x.fst.snd.fst.snd.snd.fst = x.fst.snd.fst.snd.snd.fst) ∧ Wr (x.fst.snd.fst.snd.snd.snd.fst = x.fst.snd.fst.snd.snd.snd.fst) ∧ Wr
  (x.fst.snd.fst.snd.snd.snd.snd.fst = x.fst.snd.fst.snd.snd.snd.snd.fst) ∧ Wr (x.fst.snd.fst.snd.snd.snd.snd.snd.fst = x.fst.snd.fst.snd.snd.snd.snd.snd.fst) ∧ Wr (x.fst.snd.fst.snd.snd.snd.snd.snd.snd.fst =
  x.fst.snd.fst.snd.snd.snd.snd.snd.snd.fst) ∧ Wr (x.fst.snd.fst.snd.snd.snd.snd.snd.snd.snd.fst = x.fst.snd.fst.snd.snd.snd.snd.snd.snd.snd.fst) ∧ Wr (x.fst.snd.snd.fst = x.fst.snd.snd.fst))) ((Wr (Dg4I x_2.fst x_2.fst
  (List.getD (Go.Ad.gl x.fst.snd.fst) (Int.toNat x_2.snd) (0 : Int)) (12 : Int)) ∧ Wr (x_2.fst = x_2.fst) ∧ Wr ((12 : Int) = (12 : Int)) ∧ Wr (Go.Ad.text1 x.fst = Go.Ad.text1 x.fst) ∧ Wr (x_1.fst = x_1.fst) ∧ Wr (x_2.snd
  = x_2.snd) ∧ Wr (x.fst.fst = x.fst.fst) ∧ Wr (x.fst.snd.fst.fst = x.fst.snd.fst.fst) ∧ Wr (x.fst.snd.fst.snd.fst = x.fst.snd.fst.snd.fst) ∧ Wr (x.fst.snd.fst.snd.snd.fst = x.fst.snd.fst.snd.snd.fst) ∧ Wr
  (x.fst.snd.fst.snd.snd.snd.fst = x.fst.snd.fst.snd.snd.snd.fst) ∧ Wr (x.fst.snd.fst.snd.snd.snd.snd.fst = x.fst.snd.fst.snd.snd.snd.snd.fst) ∧ Wr (x.fst.snd.fst.snd.snd.snd.snd.snd.fst =
  x.fst.snd.fst.snd.snd.snd.snd.snd.fst) ∧ Wr (x.fst.snd.fst.snd.snd.snd.snd.snd.snd.fst = x.fst.snd.fst.snd.snd.snd.snd.snd.snd.fst) ∧ Wr (x.fst.snd.fst.snd.snd.snd.snd.snd.snd.snd.fst =
  x.fst.snd.fst.snd.snd.snd.snd.snd.snd.snd.fst) ∧ Wr (x.fst.snd.snd.fst = x.fst.snd.snd.fst)) ∧ ∀ (x_3 : ByteArray × Int), Wr (Dg4I x_2.fst x_3.fst (List.getD (Go.Ad.gl x.fst.snd.fst) (Int.toNat x_2.snd) (0 : Int))
  x_3.snd) → bcase (Decidable.decide (x_3.snd ≥ (0 : Int))) (Wr ((0 : Int) ≤ x_2.snd) ∧ Wr (x_2.snd < (↑(8 : Nat) : Int)) ∧ Wr ((0 : Int) ≤ x_3.snd) ∧ Wr (IntKind.wrap IntKind.i64 ((1 : Int) * (2 : Int) ^ Min.min
  (Int.toNat x_3.snd) (IntKind.bits IntKind.i64)) ≠ (0 : Int)) ∧ Wr ((16 : Int) ≠ (0 : Int)) ∧ Wr ((0 : Int) ≤ Int.tmod (IntKind.wrap IntKind.i64 (Int.tdiv (IntKind.wrap IntKind.i64 (List.getD (x.fst.snd.fst.fst ::
  x.fst.snd.fst.snd.fst :: x.fst.snd.fst.snd.snd.fst :: x.fst.snd.fst.snd.snd.snd.fst :: x.fst.snd.fst.snd.snd.snd.snd.fst :: x.fst.snd.fst.snd.snd.snd.snd.snd.fst :: x.fst.snd.fst.snd.snd.snd.snd.snd.snd.fst ::
  x.fst.snd.fst.snd.snd.snd.snd.snd.snd.snd.fst :: nilL Int) (Int.toNat x_2.snd) (0 : Int))) (IntKind.wrap IntKind.i64 ((1 : Int) * (2 : Int) ^ Min.min (Int.toNat x_3.snd) (IntKind.bits IntKind.i64))))) (16 : Int)) ∧ Wr
  (Int.tmod (IntKind.wrap IntKind.i64 (Int.tdiv (IntKind.wrap IntKind.i64 (List.getD (x.fst.snd.fst.fst :: x.fst.snd.fst.snd.fst :: x.fst.snd.fst.snd.snd.fst :: x.fst.snd.fst.snd.snd.snd.fst ::
  x.fst.snd.fst.snd.snd.snd.snd.fst :: x.fst.snd.fst.snd.snd.snd.snd.snd.fst :: x.fst.snd.fst.snd.snd.snd.snd.snd.snd.fst :: x.fst.snd.fst.snd.snd.snd.snd.snd.snd.snd.fst :: nilL Int) (Int.toNat x_2.snd) (0 : Int)))
  (IntKind.wrap IntKind.i64 ((1 : Int) * (2 : Int) ^ Min.min (Int.toNat x_3.snd) (IntKind.bits IntKind.i64))))) (16 : Int) ≤ IntKind.wrap IntKind.i64 (Int.tmod (IntKind.wrap IntKind.i64 (Int.tdiv (IntKind.wrap IntKind.i64
  (List.getD (x.fst.snd.fst.fst :: x.fst.snd.fst.snd.fst :: x.fst.snd.fst.snd.snd.fst :: x.fst.snd.fst.snd.snd.snd.fst :: x.fst.snd.fst.snd.snd.snd.snd.fst :: x.fst.snd.fst.snd.snd.snd.snd.snd.fst ::
  x.fst.snd.fst.snd.snd.snd.snd.snd.snd.fst :: x.fst.snd.fst.snd.snd.snd.snd.snd.snd.snd.fst :: nilL Int) (Int.toNat x_2.snd) (0 : Int))) (IntKind.wrap IntKind.i64 ((1 : Int) * (2 : Int) ^ Min.min (Int.toNat x_3.snd)
  (IntKind.bits IntKind.i64))))) (16 : Int) + (1 : Int))) ∧ Wr (IntKind.wrap IntKind.i64 (Int.tmod (IntKind.wrap IntKind.i64 (Int.tdiv (IntKind.wrap IntKind.i64 (List.getD (x.fst.snd.fst.fst :: x.fst.snd.fst.snd.fst ::
  x.fst.snd.fst.snd.snd.fst :: x.fst.snd.fst.snd.snd.snd.fst :: x.fst.snd.fst.snd.snd.snd.snd.fst :: x.fst.snd.fst.snd.snd.snd.snd.snd.fst :: x.fst.snd.fst.snd.snd.snd.snd.snd.snd.fst ::
  x.fst.snd.fst.snd.snd.snd.snd.snd.snd.snd.fst :: nilL Int) (Int.toNat x_2.snd) (0 : Int))) (IntKind.wrap IntKind.i64 ((1 : Int) * (2 : Int) ^ Min.min (Int.toNat x_3.snd) (IntKind.bits IntKind.i64))))) (16 : Int) + (1 :
  Int)) ≤ (↑(ByteArray.size (ByteArray.mk (List.toArray ((48 : UInt8) :: (49 : UInt8) :: (50 : UInt8) :: (51 : UInt8) :: (52 : UInt8) :: (53 : UInt8) :: (54 : UInt8) :: (55 : UInt8) :: (56 : UInt8) :: (57 : UInt8) :: (65
  : UInt8) :: (66 : UInt8) :: (67 : UInt8) :: (68 : UInt8) :: (69 : UInt8) :: (70 : UInt8) :: nilL UInt8)))) : Int)) ∧ Wr (ByteArray.size x_3.fst + ByteArray.size (subS (ByteArray.mk (List.toArray ((48 : UInt8) :: (49 :
  UInt8) :: (50 : UInt8) :: (51 : UInt8) :: (52 : UInt8) :: (53 : UInt8) :: (54 : UInt8) :: (55 : UInt8) :: (56 : UInt8) :: (57 : UInt8) :: (65 : UInt8) :: (66 : UInt8) :: (67 : UInt8) :: (68 : UInt8) :: (69 : UInt8) ::
  (70 : UInt8) :: nilL UInt8))) (Int.toNat (Int.tmod (IntKind.wrap IntKind.i64 (Int.tdiv (IntKind.wrap IntKind.i64 (List.getD (x.fst.snd.fst.fst :: x.fst.snd.fst.snd.fst :: x.fst.snd.fst.snd.snd.fst ::
  x.fst.snd.fst.snd.snd.snd.fst :: x.fst.snd.fst.snd.snd.snd.snd.fst :: x.fst.snd.fst.snd.snd.snd.snd.snd.fst :: x.fst.snd.fst.snd.snd.snd.snd.snd.snd.fst :: x.fst.snd.fst.snd.snd.snd.snd.snd.snd.snd.fst :: nilL Int)
  (Int.toNat x_2.snd) (0 : Int))) (IntKind.wrap IntKind.i64 ((1 : Int) * (2 : Int) ^ Min.min (Int.toNat x_3.snd) (IntKind.bits IntKind.i64))))) (16 : Int))) (Int.toNat (IntKind.wrap IntKind.i64 (Int.tmod (IntKind.wrap
  IntKind.i64 (Int.tdiv (IntKind.wrap IntKind.i64 (List.getD (x.fst.snd.fst.fst :: x.fst.snd.fst.snd.fst :: x.fst.snd.fst.snd.snd.fst :: x.fst.snd.fst.snd.snd.snd.fst :: x.fst.snd.fst.snd.snd.snd.snd.fst ::
  x.fst.snd.fst.snd.snd.snd.snd.snd.fst :: x.fst.snd.fst.snd.snd.snd.snd.snd.snd.fst :: x.fst.snd.fst.snd.snd.snd.snd.snd.snd.snd.fst :: nilL Int) (Int.toNat x_2.snd) (0 : Int))) (IntKind.wrap IntKind.i64 ((1 : Int) * (2
  : Int) ^ Min.min (Int.toNat x_3.snd) (IntKind.bits IntKind.i64))))) (16 : Int) + (1 : Int))))) ≤ Go.maxLen) ∧ Wr (Dg4I x_2.fst (x_3.fst ++ subS (ByteArray.mk (List.toArray ((48 : UInt8) :: (49 : UInt8) :: (50 : UInt8)
  :: (51 : UInt8) :: (52 : UInt8) :: (53 : UInt8) :: (54 : UInt8) :: (55 : UInt8) :: (56 : UInt8) :: (57 : UInt8) :: (65 : UInt8) :: (66 : UInt8) :: (67 : UInt8) :: (68 : UInt8) :: (69 : UInt8) :: (70 : UInt8) :: nilL
  UInt8))) (Int.toNat (Int.tmod (IntKind.wrap IntKind.i64 (Int.tdiv (IntKind.wrap IntKind.i64 (List.getD (x.fst.snd.fst.fst :: x.fst.snd.fst.snd.fst :: x.fst.snd.fst.snd.snd.fst :: x.fst.snd.fst.snd.snd.snd.fst ::
  x.fst.snd.fst.snd.snd.snd.snd.fst :: x.fst.snd.fst.snd.snd.snd.snd.snd.fst :: x.fst.snd.fst.snd.snd.snd.snd.snd.snd.fst :: x.fst.snd.fst.snd.snd.snd.snd.snd.snd.snd.fst :: nilL Int) (Int.toNat x_2.snd) (0 : Int)))
  (IntKind.wrap IntKind.i64 ((1 : Int) * (2 : Int) ^ Min.min (Int.toNat x_3.snd) (IntKind.bits IntKind.i64))))) (16 : Int))) (Int.toNat (IntKind.wrap IntKind.i64 (Int.tmod (IntKind.wrap IntKind.i64 (Int.tdiv (IntKind.wrap
  IntKind.i64 (List.getD (x.fst.snd.fst.fst :: x.fst.snd.fst.snd.fst :: x.fst.snd.fst.snd.snd.fst :: x.fst.snd.fst.snd.snd.snd.fst :: x.fst.snd.fst.snd.snd.snd.snd.fst :: x.fst.snd.fst.snd.snd.snd.snd.snd.fst ::
  x.fst.snd.fst.snd.snd.snd.snd.snd.snd.fst :: x.fst.snd.fst.snd.snd.snd.snd.snd.snd.snd.fst :: nilL Int) (Int.toNat x_2.snd) (0 : Int))) (IntKind.wrap IntKind.i64 ((1 : Int) * (2 : Int) ^ Min.min (Int.toNat x_3.snd)
  (IntKind.bits IntKind.i64))))) (16 : Int) + (1 : Int))))) (List.getD (Go.Ad.gl x.fst.snd.fst) (Int.toNat x_2.snd) (0 : Int)) (IntKind.wrap IntKind.i64 (x_3.snd - (4 : Int)))) ∧ Wr (Int.toNat (IntKind.wrap IntKind.i64
  (x_3.snd - (4 : Int)) + (4 : Int)) < Int.toNat (x_3.snd + (4 : Int))) ∧ Wr (x_3.fst ++ subS (ByteArray.mk (List.toArray ((48 : UInt8) :: (49 : UInt8) :: (50 : UInt8) :: (51 : UInt8) :: (52 : UInt8) :: (53 : UInt8) ::
  (54 : UInt8) :: (55 : UInt8) :: (56 : UInt8) :: (57 : UInt8) :: (65 : UInt8) :: (66 : UInt8) :: (67 : UInt8) :: (68 : UInt8) :: (69 : UInt8) :: (70 : UInt8) :: nilL UInt8))) (Int.toNat (Int.tmod (IntKind.wrap
  IntKind.i64 (Int.tdiv (IntKind.wrap IntKind.i64 (List.getD (x.fst.snd.fst.fst :: x.fst.snd.fst.snd.fst :: x.fst.snd.fst.snd.snd.fst :: x.fst.snd.fst.snd.snd.snd.fst :: x.fst.snd.fst.snd.snd.snd.snd.fst ::
  x.fst.snd.fst.snd.snd.snd.snd.snd.fst :: x.fst.snd.fst.snd.snd.snd.snd.snd.snd.fst :: x.fst.snd.fst.snd.snd.snd.snd.snd.snd.snd.fst :: nilL Int) (Int.toNat x_2.snd) (0 : Int))) (IntKind.wrap IntKind.i64 ((1 : Int) * (2
  : Int) ^ Min.min (Int.toNat x_3.snd) (IntKind.bits IntKind.i64))))) (16 : Int))) (Int.toNat (IntKind.wrap IntKind.i64 (Int.tmod (IntKind.wrap IntKind.i64 (Int.tdiv (IntKind.wrap IntKind.i64 (List.getD (x.fst.snd.fst.fst
  :: x.fst.snd.fst.snd.fst :: x.fst.snd.fst.snd.snd.fst :: x.fst.snd.fst.snd.snd.snd.fst :: x.fst.snd.fst.snd.snd.snd.snd.fst :: x.fst.snd.fst.snd.snd.snd.snd.snd.fst :: x.fst.snd.fst.snd.snd.snd.snd.snd.snd.fst ::
  x.fst.snd.fst.snd.snd.snd.snd.snd.snd.snd.fst :: nilL Int) (Int.toNat x_2.snd) (0 : Int))) (IntKind.wrap IntKind.i64 ((1 : Int) * (2 : Int) ^ Min.min (Int.toNat x_3.snd) (IntKind.bits IntKind.i64))))) (16 : Int) + (1 :
  Int)))) = x_3.fst ++ subS (ByteArray.mk (List.toArray ((48 : UInt8) :: (49 : UInt8) :: (50 : UInt8) :: (51 : UInt8) :: (52 : UInt8) :: (53 : UInt8) :: (54 : UInt8) :: (55 : UInt8) :: (56 : UInt8) :: (57 : UInt8) :: (65
  : UInt8) :: (66 : UInt8) :: (67 : UInt8) :: (68 : UInt8) :: (69 : UInt8) :: (70 : UInt8) :: nilL UInt8))) (Int.toNat (Int.tmod (IntKind.wrap IntKind.i64 (Int.tdiv (IntKind.wrap IntKind.i64 (List.getD (x.fst.snd.fst.fst
  :: x.fst.snd.fst.snd.fst :: x.fst.snd.fst.snd.snd.fst :: x.fst.snd.fst.snd.snd.snd.fst :: x.fst.snd.fst.snd.snd.snd.snd.fst :: x.fst.snd.fst.snd.snd.snd.snd.snd.fst :: x.fst.snd.fst.snd.snd.snd.snd.snd.snd.fst ::
  x.fst.snd.fst.snd.snd.snd.snd.snd.snd.snd.fst :: nilL Int) (Int.toNat x_2.snd) (0 : Int))) (IntKind.wrap IntKind.i64 ((1 : Int) * (2 : Int) ^ Min.min (Int.toNat x_3.snd) (IntKind.bits IntKind.i64))))) (16 : Int)))
  (Int.toNat (IntKind.wrap IntKind.i64 (Int.tmod (IntKind.wrap IntKind.i64 (Int.tdiv (IntKind.wrap IntKind.i64 (List.getD (x.fst.snd.fst.fst :: x.fst.snd.fst.snd.fst :: x.fst.snd.fst.snd.snd.fst ::
  x.fst.snd.fst.snd.snd.snd.fst :: x.fst.snd.fst.snd.snd.snd.snd.fst :: x.fst.snd.fst.snd.snd.snd.snd.snd.fst :: x.fst.snd.fst.snd.snd.snd.snd.snd.snd.fst :: x.fst.snd.fst.snd.snd.snd.snd.snd.snd.snd.fst :: nilL Int)
  (Int.toNat x_2.snd) (0 : Int))) (IntKind.wrap IntKind.i64 ((1 : Int) * (2 : Int) ^ Min.min (Int.toNat x_3.snd) (IntKind.bits IntKind.i64))))) (16 : Int) + (1 : Int))))) ∧ Wr (IntKind.wrap IntKind.i64 (x_3.snd - (4 :
  Int)) = IntKind.wrap IntKind.i64 (x_3.snd - (4 : Int))) ∧ Wr (Go.Ad.text1 x.fst = Go.Ad.text1 x.fst) ∧ Wr (x_1.fst = x_1.fst) ∧ Wr (x_2.snd = x_2.snd) ∧ Wr (x.fst.fst = x.fst.fst) ∧ Wr (x.fst.snd.fst.fst =
  x.fst.snd.fst.fst) ∧ Wr (x.fst.snd.fst.snd.fst = x.fst.snd.fst.snd.fst) ∧ Wr (x.fst.snd.fst.snd.snd.fst = x.fst.snd.fst.snd.snd.fst) ∧ Wr (x.fst.snd.fst.snd.snd.snd.fst = x.fst.snd.fst.snd.snd.snd.fst) ∧ Wr
  (x.fst.snd.fst.snd.snd.snd.snd.fst = x.fst.snd.fst.snd.snd.snd.snd.fst) ∧ Wr (x.fst.snd.fst.snd.snd.snd.snd.snd.fst = x.fst.snd.fst.snd.snd.snd.snd.snd.fst) ∧ Wr (x.fst.snd.fst.snd.snd.snd.snd.snd.snd.fst =
  x.fst.snd.fst.snd.snd.snd.snd.snd.snd.fst) ∧ Wr (x.fst.snd.fst.snd.snd.snd.snd.snd.snd.snd.fst = x.fst.snd.fst.snd.snd.snd.snd.snd.snd.snd.fst) ∧ Wr (x.fst.snd.snd.fst = x.fst.snd.snd.fst)) (Wr (Dg8I x.fst.snd.fst
  x_3.fst (IntKind.wrap IntKind.i64 (x_2.snd + (1 : Int)))) ∧ Wr ((8 : Nat) - Int.toNat (IntKind.wrap IntKind.i64 (x_2.snd + (1 : Int))) < (8 : Nat) - Int.toNat x_2.snd) ∧ Wr (x_3.fst = x_3.fst) ∧ Wr (IntKind.wrap
  IntKind.i64 (x_2.snd + (1 : Int)) = IntKind.wrap IntKind.i64 (x_2.snd + (1 : Int))) ∧ Wr (Go.Ad.text1 x.fst = Go.Ad.text1 x.fst) ∧ Wr (x_1.fst = x_1.fst) ∧ Wr (x.fst.fst = x.fst.fst) ∧ Wr (x.fst.snd.fst.fst =
  x.fst.snd.fst.fst) ∧ Wr (x.fst.snd.fst.snd.fst = x.fst.snd.fst.snd.fst) ∧ Wr (x.fst.snd.fst.snd.snd.fst = x.fst.snd.fst.snd.snd.fst) ∧ Wr (x.fst.snd.fst.snd.snd.snd.fst = x.fst.snd.fst.snd.snd.snd.fst) ∧ Wr
  (x.fst.snd.fst.snd.snd.snd.snd.fst = x.fst.snd.fst.snd.snd.snd.snd.fst) ∧ Wr (x.fst.snd.fst.snd.snd.snd.snd.snd.fst = x.fst.snd.fst.snd.snd.snd.snd.snd.fst) ∧ Wr (x.fst.snd.fst.snd.snd.snd.snd.snd.snd.fst =
  x.fst.snd.fst.snd.snd.snd.snd.snd.snd.fst) ∧ Wr (x.fst.snd.fst.snd.snd.snd.snd.snd.snd.snd.fst = x.fst.snd.fst.snd.snd.snd.snd.snd.snd.snd.fst) ∧ Wr (x.fst.snd.snd.fst = x.fst.snd.snd.fst)))) (Wr (ByteArray.size x_2.fst
  + ByteArray.size (ByteArray.mk (List.toArray ((93 : UInt8) :: nilL UInt8))) ≤ Go.maxLen) ∧ Wr ((0 : Int) ≤ x_1.fst) ∧ Wr (x_1.fst ≤ (↑(ByteArray.size (Go.Ad.text1 x.fst)) : Int)) ∧ Wr ((↑(ByteArray.size (Go.Ad.text1
  x.fst)) : Int) ≤ (↑(ByteArray.size (Go.Ad.text1 x.fst)) : Int)) ∧ Wr (ByteArray.size (x_2.fst ++ ByteArray.mk (List.toArray ((93 : UInt8) :: nilL UInt8))) + ByteArray.size (subS (Go.Ad.text1 x.fst) (Int.toNat x_1.fst)
  (Int.toNat (↑(ByteArray.size (Go.Ad.text1 x.fst)) : Int))) ≤ Go.maxLen) ∧ Wr (Go.Proofs.YtkimpfoimblhjaaDoor.Lb.szOk (x_2.fst ++ ByteArray.mk (List.toArray ((93 : UInt8) :: nilL UInt8)) ++ subS (Go.Ad.text1 x.fst)
  (Int.toNat x_1.fst) (Int.toNat (↑(ByteArray.size (Go.Ad.text1 x.fst)) : Int))) = Bool.true) ∧ Wr ((Decidable.decide (Go.Ad.parse2 (x_2.fst ++ ByteArray.mk (List.toArray ((93 : UInt8) :: nilL UInt8)) ++ subS (Go.Ad.text1
  x.fst) (Int.toNat x_1.fst) (Int.toNat (↑(ByteArray.size (Go.Ad.text1 x.fst)) : Int))) = (0 : Int)) && Ty.eqb (Ty.cons (Ty.int IntKind.i8) (Ty.cons (Ty.arr (8 : Nat) (Ty.int IntKind.u16)) (Ty.cons (Ty.int IntKind.i64)
  Ty.unit))) (Go.Ad.parse1 (x_2.fst ++ ByteArray.mk (List.toArray ((93 : UInt8) :: nilL UInt8)) ++ subS (Go.Ad.text1 x.fst) (Int.toNat x_1.fst) (Int.toNat (↑(ByteArray.size (Go.Ad.text1 x.fst)) : Int)))) x.fst) =
  Bool.true → True) ∧ (Decidable.decide (Go.Ad.parse2 (x_2.fst ++ ByteArray.mk (List.toArray ((93 : UInt8) :: nilL UInt8)) ++ subS (Go.Ad.text1 x.fst) (Int.toNat x_1.fst) (Int.toNat (↑(ByteArray.size (Go.Ad.text1 x.fst))
  : Int))) = (0 : Int)) && Ty.eqb (Ty.cons (Ty.int IntKind.i8) (Ty.cons (Ty.arr (8 : Nat) (Ty.int IntKind.u16)) (Ty.cons (Ty.int IntKind.i64) Ty.unit))) (Go.Ad.parse1 (x_2.fst ++ ByteArray.mk (List.toArray ((93 : UInt8)
  :: nilL UInt8)) ++ subS (Go.Ad.text1 x.fst) (Int.toNat x_1.fst) (Int.toNat (↑(ByteArray.size (Go.Ad.text1 x.fst)) : Int)))) x.fst && Bool.true, ()) = (Bool.true, ()))))))) := by kernel_rfl
end Go.Proofs.YtkimpfoimblhjaaDoor.Ad
set_option linter.all false
namespace Go.Proofs.YtkimpfoimblhjaaDoor.Ad
open Go Go.Eng Go.Lb Go.Ad Lb
set_option maxRecDepth 100000
set_option maxHeartbeats 2000000
theorem v16 : Vc g16 300 Tryd.f16 cWk := by
  constructor
  rw [v16_eq]
  intro x _
  repeat' (first | exact ⟨rfl⟩ | exact ⟨by decide⟩ | apply And.intro)
  decide +kernel
theorem ofA_cons (f : Int) (a : Ad) (r : List Ad) : ofA f (a :: r) = if a.1 = f then a :: ofA f r else ofA f r := by
  unfold ofA isFam
  rw [List.filter_cons]
  simp
theorem of_at {f : Int} {l : List Ad} {n : Int} {z : Ad} (h0 : 0 ≤ n) (h : n < l.length) (hf : (l.getD n.toNat z).1 = f) :
    (ofA f (l.take n.toNat)).length < (ofA f l).length ∧ (ofA f l).getD (ofA f (l.take n.toNat)).length z = l.getD n.toNat z := by
  have e : ofA f l = ofA f (l.take n.toNat) ++ l.getD n.toNat z :: ofA f (l.drop (n + 1).toNat) := by
    have e1 : ofA f l = ofA f (l.take n.toNat) ++ ofA f (l.drop n.toNat) := by
      unfold ofA
      rw [← List.filter_append, List.take_append_drop]
    rw [e1, drop_cons l n z h0 h, ofA_cons, if_pos hf]
  rw [e]
  constructor
  · rw [List.length_append, List.length_cons]; omega
  · rw [List.getD_eq_getElem?_getD, List.getElem?_append_right (Nat.le_refl _), Nat.sub_self]
    rfl
theorem of_step {f : Int} {l : List Ad} {n : Int} (z : Ad) (h0 : 0 ≤ n) (h : n < l.length) : ofA f (l.take (n + 1).toNat) = if (l.getD n.toNat z).1 = f then ofA f (l.take n.toNat) ++ [l.getD n.toNat z] else ofA f (l.take n.toNat) := by
  rw [take_succ l n z h0 h, ofA_snoc]
theorem fam4 {l : List Ad} {i k o n : Int} {z : Ad} (h : FamI l i k o n) (hl : l.length ≤ 60) (hn : n < l.length) (hf : (l.getD n.toNat z).1 = 4) :
    FamI l (IntKind.wrap .i64 (i + 1)) k o (IntKind.wrap .i64 (n + 1)) ∧ i < (ofA 4 l).length ∧ (ofA 4 l).getD i.toNat z = l.getD n.toNat z := by
  obtain ⟨n0, n1, o0, o1, rfl, hk, ho⟩ := h
  obtain ⟨a1, a2⟩ := of_at n0 hn hf
  have hlen : (ofA 4 (l.take n.toNat)).length ≤ 60 := by
    have := List.length_filter_le (isFam 4) (l.take n.toNat)
    rw [List.length_take] at this
    unfold ofA
    omega
  rw [w64 (by omega) (by omega), w64 (by omega) (by omega)]
  refine ⟨⟨by omega, by omega, o0, by omega, ?_, ?_, ho⟩, by omega, ?_⟩
  · rw [of_step z n0 hn, if_pos hf, List.length_append]; simp
  · rw [of_step z n0 hn, if_neg (by rw [hf]; decide)]; exact hk
  · rw [Int.toNat_natCast]; exact a2
theorem fam6 {l : List Ad} {i k o n : Int} {z : Ad} (h : FamI l i k o n) (hl : l.length ≤ 60) (hn : n < l.length) (hf : (l.getD n.toNat z).1 = 6) :
    FamI l i (IntKind.wrap .i64 (k + 1)) o (IntKind.wrap .i64 (n + 1)) ∧ k < (ofA 6 l).length ∧ (ofA 6 l).getD k.toNat z = l.getD n.toNat z := by
  obtain ⟨n0, n1, o0, o1, hi, rfl, ho⟩ := h
  obtain ⟨a1, a2⟩ := of_at n0 hn hf
  have hlen : (ofA 6 (l.take n.toNat)).length ≤ 60 := by
    have := List.length_filter_le (isFam 6) (l.take n.toNat)
    rw [List.length_take] at this
    unfold ofA
    omega
  rw [w64 (by omega) (by omega), w64 (by omega) (by omega)]
  refine ⟨⟨by omega, by omega, o0, by omega, ?_, ?_, ho⟩, by omega, ?_⟩
  · rw [of_step z n0 hn, if_neg (by rw [hf]; decide)]; exact hi
  · rw [of_step z n0 hn, if_pos hf, List.length_append]; simp
  · rw [Int.toNat_natCast]; exact a2
theorem famO {l : List Ad} {i k o n : Int} {z : Ad} (h : FamI l i k o n) (hl : l.length ≤ 60) (hn : n < l.length) (h4 : ¬ (l.getD n.toNat z).1 = 4) (h6 : ¬ (l.getD n.toNat z).1 = 6) :
    FamI l i k (IntKind.wrap .i64 (o + 1)) (IntKind.wrap .i64 (n + 1)) := by
  obtain ⟨n0, n1, o0, o1, hi, hk, ho⟩ := h
  rw [w64 (by omega) (by omega), w64 (by omega) (by omega)]
  refine ⟨by omega, by omega, by omega, by omega, ?_, ?_, .inr ?_⟩
  · rw [of_step z n0 hn, if_neg h4]; exact hi
  · rw [of_step z n0 hn, if_neg h6]; exact hk
  · cases hm : mayA l with
    | false => rfl
    | true =>
      have := List.all_eq_true.1 hm _ (getD_mem (z := z) n0 hn)
      have := ((may1_iff _).1 this).2
      rcases this with h | h
      · exact absurd h h6
      · exact absurd h.1 h4
theorem v4 : Vc g4 300 Tryd.f4 (cLw aFam) := by
  constructor
  rw [v4_eq]
  intro x _
  generalize x.fst = l
  refine ⟨⟨rfl⟩, (bcase_iff _ _ _).2 ⟨fun h => ⟨⟨trivial⟩, rfl⟩, fun h => ?_⟩⟩
  have hl : l.length ≤ 60 := by have := of_decide_eq_false h; exact Nat.le_of_not_lt this
  have hA : lenA l = true := (lenA_iff _).2 (by omega)
  refine ⟨⟨hA⟩, ⟨hA⟩, ⟨⟨⟨by omega, by omega, by omega, by omega, rfl, rfl, .inl rfl⟩⟩, by repeat' (first | exact ⟨rfl⟩ | apply And.intro)⟩, fun y hy => (bcase_iff _ _ _).2 ⟨fun h => ?_, fun h => ?_⟩⟩
  · have hy := hy.out
    have hn : y.2.2.2 < l.length := of_decide_eq_true h
    have n0 := hy.n0
    have hmu : l.length - (IntKind.wrap .i64 (y.2.2.2 + 1)).toNat < l.length - y.2.2.2.toNat := by
      rw [step n0 (by omega) hn]
      exact wcut n0 hn
    refine ⟨⟨n0⟩, ⟨hn⟩, ⟨rfl⟩, ⟨rfl⟩, (bcase_iff _ _ _).2 ⟨fun h4 => ?_, fun h4 => ⟨⟨n0⟩, ⟨hn⟩, ⟨rfl⟩, ⟨rfl⟩, (bcase_iff _ _ _).2 ⟨fun h6 => ?_, fun h6 => ?_⟩⟩⟩⟩
    · obtain ⟨a1, a2, a3⟩ := fam4 hy hl hn (of_decide_eq_true h4)
      have i0 : 0 ≤ y.1 := by rw [hy.fi]; omega
      have hge : ¬ y.1 ≥ ((ofA 4 l).length : Int) := by omega
      have heq := (eqA _ _).2 a3
      refine ⟨⟨fun _ => i0⟩, ⟨fun _ => a2⟩, ⟨fun _ => rfl⟩, ⟨fun _ => n0⟩, ⟨fun _ => hn⟩, ⟨fun _ => rfl⟩, (bcase_iff _ _ _).2 ⟨fun hb => ?_, fun _ => ⟨⟨a1⟩, ⟨hmu⟩, by repeat' (first | exact ⟨rfl⟩ | apply And.intro)⟩⟩⟩
      exfalso
      rw [Bool.or_eq_true, decide_eq_true_eq, Bool.not_eq_true'] at hb
      rcases hb with hb | hb
      · exact hge hb
      · exact absurd (hb.symm.trans heq) (by decide)
    · obtain ⟨a1, a2, a3⟩ := fam6 hy hl hn (of_decide_eq_true h6)
      have i0 : 0 ≤ y.2.1 := by rw [hy.fk]; omega
      have hge : ¬ y.2.1 ≥ ((ofA 6 l).length : Int) := by omega
      have heq := (eqA _ _).2 a3
      refine ⟨⟨fun _ => i0⟩, ⟨fun _ => a2⟩, ⟨fun _ => rfl⟩, ⟨fun _ => n0⟩, ⟨fun _ => hn⟩, ⟨fun _ => rfl⟩, (bcase_iff _ _ _).2 ⟨fun hb => ?_, fun _ => ⟨⟨a1⟩, ⟨hmu⟩, by repeat' (first | exact ⟨rfl⟩ | apply And.intro)⟩⟩⟩
      exfalso
      rw [Bool.or_eq_true, decide_eq_true_eq, Bool.not_eq_true'] at hb
      rcases hb with hb | hb
      · exact hge hb
      · exact absurd (hb.symm.trans heq) (by decide)
    · exact ⟨⟨famO hy hl hn (of_decide_eq_false h4) (of_decide_eq_false h6)⟩, ⟨hmu⟩, by repeat' (first | exact ⟨rfl⟩ | apply And.intro)⟩
  · obtain ⟨n0, n1, o0, o1, hi, hk, ho⟩ := hy.out
    have hn : ¬ y.2.2.2 < l.length := of_decide_eq_false h
    rw [take_all n1 hn] at hi hk
    refine ⟨⟨fun _ => hA⟩, ⟨fun _ => trivial⟩, ?_⟩
    rw [decide_eq_true hi, decide_eq_true hk]
    rcases ho with ho | ho
    · rw [decide_eq_true ho]; rfl
    · rw [ho, Bool.not_false, Bool.or_true]; rfl
end Go.Proofs.YtkimpfoimblhjaaDoor.Ad
set_option linter.all false
namespace Go.Proofs.YtkimpfoimblhjaaDoor.Ad
open Go Go.Eng Go.Lb Go.Ad Lb
set_option maxRecDepth 100000
set_option maxHeartbeats 2000000
theorem row2_iff (l : List Ad) : (row2 l = 0 → Go.Ad.rowOk l = true) ∧ (¬ row2 l = 0 → Go.Ad.rowOk l = false) := by
  unfold row2
  cases Go.Ad.rowOk l <;> simp
theorem row_no {l : List Ad} (h : ¬ row2 l = 0) : (decide ((l.length : Int) > 16) || !mayA l) = true := by
  have h := (row2_iff l).2 h
  unfold Go.Ad.rowOk at h
  rw [Bool.and_eq_false_iff] at h
  rcases h with h | h
  · rw [decide_eq_false_iff_not] at h
    rw [decide_eq_true (by omega), Bool.true_or]
  · rw [h, Bool.not_false, Bool.or_true]
theorem row_read {l : List Ad} (h : row2 l = 0) (hr : ∀ a ∈ l, AdR a) : read2 (row1 l) = 0 ∧ read1 (row1 l) = l := by
  have h := row_back ((row2_iff l).1 h) hr
  unfold read1 read2
  rw [h]
  exact ⟨rfl, rfl⟩
theorem row1_sz (l : List Ad) : szOk (row1 l) = true := by
  rw [szOk_iff]
  unfold row1
  cases h : Go.Ad.rowOk l with
  | false => exact Nat.zero_le _
  | true =>
    rw [cond_true, ofL_size]
    unfold Go.Ad.rowOk at h
    rw [Bool.and_eq_true, decide_eq_true_eq] at h
    unfold rowL
    have := join_le (n := 200) (d := [32]) (ps := l.map text0) (by
      intro p hp
      obtain ⟨a, _, rfl⟩ := List.mem_map.1 hp
      exact text0_len a)
    rw [List.length_map] at this
    have : (200 + [(32 : UInt8)].length) * l.length ≤ 201 * 16 := Nat.mul_le_mul (Nat.le_refl _) h.1
    omega
theorem text1_sz (a : Ad) : szOk (text1 a) = true := (szOk_iff _).2 (by have := text1_len a; omega)
theorem text_parse {a : Ad} (h : text2 a = 0) (hr : AdR a) : parse2 (text1 a) = 0 ∧ parse1 (text1 a) = a ∧ may1 a = true := by
  have hm := (text2_iff a).1 h
  have hb := text_back hm hr
  unfold parse1 parse2
  rw [hb]
  exact ⟨rfl, rfl, hm⟩
theorem parse_text {s : ByteArray} (h : parse2 s = 0) : text2 (parse1 s) = 0 ∧ parse2 (text1 (parse1 s)) = 0 ∧ parse1 (text1 (parse1 s)) = parse1 s := by
  have hs := (parse2_iff s).1 h
  obtain ⟨hm, hr⟩ := parse_R hs
  have h2 := (text2_iff _).2 hm
  obtain ⟨h3, h4, _⟩ := text_parse h2 hr
  exact ⟨h2, h3, h4⟩
theorem typed_L {l : List Ad} (h : typedB AdL l = true) : ∀ a ∈ l, AdR a := by
  have h' : (decide (l.length ≤ maxLen) && l.all (typedB AdT)) = true := h
  rw [Bool.and_eq_true] at h'
  intro a ha
  exact typed_R (List.all_eq_true.1 h'.2 a ha)
theorem v6 : Vc g6 300 Tryd.f6 (cLw aBack).T := by
  constructor
  rw [v6_eq]
  intro x hx
  have h1 : (typedB AdT x.1 && (typedB .str x.2.1 && (typedB AdL x.2.2.1 && true))) = true := hx.out.1
  rw [Bool.and_eq_true, Bool.and_eq_true, Bool.and_true] at h1
  have hra := typed_R h1.1
  have hrl := typed_L h1.2.2
  clear h1 hx
  generalize x.fst = a at *
  generalize x.snd.fst = s at *
  generalize x.snd.snd.fst = l at *
  refine ⟨⟨fun _ => rfl⟩, (bcase_iff _ _ _).2 ⟨fun h => ⟨⟨trivial⟩, rfl⟩, fun h => ?_⟩⟩
  rw [Bool.or_eq_false_iff, decide_eq_false_iff_not, decide_eq_false_iff_not] at h
  have hs : szOk s = true := (szOk_iff s).2 (by omega)
  have hl : lenA l = true := (lenA_iff l).2 (by omega)
  have hleaf1 := @row_no l
  have hleaf2 := fun h => @row_read l h hrl
  have hrow := row1_sz l
  have eqf : ∀ a b : Ad, a = b → Ty.eqb (Ty.cons (Ty.int .i8) (Ty.cons (Ty.arr 8 (Ty.int .u16)) (Ty.cons (Ty.int .i64) Ty.unit))) a b = true := fun a b h => (eqA a b).2 h
  refine ⟨⟨rfl⟩, (bcase_iff _ _ _).2 ⟨fun ht => ⟨⟨text1_sz a⟩, ⟨fun _ => (lenA_iff _).2 (by show 1 ≤ 100000; omega)⟩, (bcase_iff _ _ _).2 ⟨fun hb => ?_, fun _ => ⟨⟨hs⟩, (bcase_iff _ _ _).2 ⟨fun hp => ⟨⟨rfl⟩, ⟨text1_sz _⟩, (bcase_iff _ _ _).2 ⟨fun hb => ?_, fun _ => ⟨⟨hl⟩, ?_⟩⟩⟩, fun hp => ⟨⟨hl⟩, ?_⟩⟩⟩⟩⟩, fun ht => ⟨⟨hs⟩, (bcase_iff _ _ _).2 ⟨fun hp => ⟨⟨rfl⟩, ⟨text1_sz _⟩, (bcase_iff _ _ _).2 ⟨fun hb => ?_, fun _ => ⟨⟨hl⟩, ?_⟩⟩⟩, fun hp => ⟨⟨hl⟩, ?_⟩⟩⟩⟩⟩
  case refine_1 =>
    exfalso
    obtain ⟨q1, q2, q3⟩ := text_parse (of_decide_eq_true ht) hra
    rw [q1, mayA_one, q3, q2, eqf a a rfl] at hb
    exact absurd hb (by decide)
  case refine_2 =>
    exfalso
    obtain ⟨q1, q2, q3⟩ := parse_text (of_decide_eq_true hp)
    rw [q1, q2, q3, eqf _ _ rfl] at hb
    exact absurd hb (by decide)
  case refine_5 =>
    exfalso
    obtain ⟨q1, q2, q3⟩ := parse_text (of_decide_eq_true hp)
    rw [q1, q2, q3, eqf _ _ rfl] at hb
    exact absurd hb (by decide)
  all_goals
    refine (bcase_iff _ _ _).2 ⟨fun h => ⟨⟨fun _ => hl⟩, ⟨fun _ => trivial⟩, ?_⟩, fun h => ⟨⟨hrow⟩, ⟨fun _ => ?_⟩, ⟨fun _ => trivial⟩, ?_⟩⟩
    · rw [hleaf1 (by simpa using h)]; rfl
    · rw [(hleaf2 (by simpa using h)).2]; exact hl
    · obtain ⟨q1, q2⟩ := hleaf2 (by simpa using h)
      rw [q1, q2, show sameLs l l = true from decide_eq_true rfl]
      rfl
end Go.Proofs.YtkimpfoimblhjaaDoor.Ad
set_option linter.all false
namespace Go.Proofs.YtkimpfoimblhjaaDoor.Ad
open Go Go.Eng Go.Lb Go.Ad Lb
set_option maxRecDepth 100000
set_option maxHeartbeats 2000000
theorem col_on {t : ByteArray} {a i : Int} (h : Cl8I t a i) (ht : t.size ≤ 200) (hi : i < t.size) :
    (byteAt t i.toNat = 58 → Cl8I t i (IntKind.wrap .i64 (i + 1))) ∧ (¬ byteAt t i.toNat = 58 → Cl8I t a (IntKind.wrap .i64 (i + 1))) := by
  obtain ⟨i0, i1, e⟩ := h
  have hz := size_bytesL t
  have e1 : (i + 1).toNat = i.toNat + 1 := by omega
  have hs : lastI ((bytesL t).take (i + 1).toNat) = if (bytesL t).getD i.toNat 0 = 58 then i else lastI ((bytesL t).take i.toNat) := by
    unfold lastI
    rw [e1, take_next (by omega), lastN_snoc]
    by_cases hb : (bytesL t).getD i.toNat 0 = 58
    · rw [if_pos hb, if_pos hb, List.length_take]
      show ((min i.toNat (bytesL t).length : Nat) : Int) = i
      omega
    · rw [if_neg hb, if_neg hb]
  rw [w64 (by omega) (by omega)]
  constructor
  · intro hb
    refine ⟨by omega, by omega, ?_⟩
    rw [byteAt_eq] at hb
    rw [hs, if_pos (UInt8.toNat_inj.1 (by show _ = 58; omega))]
  · intro hb
    refine ⟨by omega, by omega, ?_⟩
    rw [hs, if_neg (fun h => hb (by rw [byteAt_eq, h]; rfl))]
    exact e
def HEXS : ByteArray := ByteArray.mk (List.toArray ((48 : UInt8) :: (49 : UInt8) :: (50 : UInt8) :: (51 : UInt8) :: (52 : UInt8) :: (53 : UInt8) :: (54 : UInt8) :: (55 : UInt8) :: (56 : UInt8) :: (57 : UInt8) :: (65 : UInt8) :: (66 : UInt8) :: (67 : UInt8) :: (68 : UInt8) :: (69 : UInt8) :: (70 : UInt8) :: nilL UInt8))
theorem hexs_all : ((List.range 16).all fun d => decide (subS HEXS d (d + 1) = ofL [hexU d])) = true := by decide +kernel
theorem hexs_at {d : Nat} (h : d < 16) : subS HEXS d (d + 1) = ofL [hexU d] := of_decide_eq_true (List.all_eq_true.1 hexs_all d (List.mem_range.2 h))
abbrev pw (k : Int) : Int := IntKind.wrap .i64 (1 * 2 ^ min k.toNat (IntKind.bits .i64))
abbrev dd (n k : Int) : Int := Int.tmod (IntKind.wrap .i64 (Int.tdiv (IntKind.wrap .i64 n) (pw k))) 16
theorem dd_eq {n k : Int} {q : Nat} (hn : inR n) (hp : pw k = (q : Int)) (hq : 1 ≤ q) : dd n k = ((n.toNat / q % 16 : Nat) : Int) := by
  obtain ⟨a, rfl⟩ : ∃ a : Nat, n = a := ⟨n.toNat, by have := hn.1; omega⟩
  have h1 : ((a : Nat) : Int) < 65536 := hn.2
  show Int.tmod (IntKind.wrap .i64 (Int.tdiv (IntKind.wrap .i64 (a : Int)) (pw k))) 16 = _
  rw [hp, w64 (n := (a : Int)) (by omega) (by omega), Int.tdiv_eq_ediv_of_nonneg (by omega), ← Int.natCast_ediv]
  have : a / q ≤ a := Nat.div_le_self _ _
  rw [Int.toNat_natCast]
  generalize a / q = m at *
  rw [w64 (by omega) (by omega), Int.tmod_eq_emod_of_nonneg (by omega)]
  omega
theorem dg_on {s0 s : ByteArray} {n k : Int} (h : Dg4I s0 s n k) (hk : k ≥ 0) (hn : inR n) :
    pw k ≠ 0 ∧ 0 ≤ dd n k ∧ dd n k < 16 ∧ (subS HEXS (dd n k).toNat (dd n k + 1).toNat).size = 1 ∧ Dg4I s0 (s ++ subS HEXS (dd n k).toNat (dd n k + 1).toNat) n (IntKind.wrap .i64 (k - 4)) ∧ (IntKind.wrap .i64 (k - 4) + 4).toNat < (k + 4).toNat := by
  have main : ∀ (q j : Nat), pw k = (q : Int) → 1 ≤ q → ((12 - k) / 4).toNat = j → ((12 - (k - 4)) / 4).toNat = j + 1 → IntKind.wrap .i64 (k - 4) = k - 4 →
      (hex4 n.toNat).take (j + 1) = (hex4 n.toNat).take j ++ [hexU (n.toNat / q % 16)] → (k - 4 = 8 ∨ k - 4 = 4 ∨ k - 4 = 0 ∨ k - 4 = -4) →
      pw k ≠ 0 ∧ 0 ≤ dd n k ∧ dd n k < 16 ∧ (subS HEXS (dd n k).toNat (dd n k + 1).toNat).size = 1 ∧ Dg4I s0 (s ++ subS HEXS (dd n k).toNat (dd n k + 1).toNat) n (IntKind.wrap .i64 (k - 4)) ∧ (IntKind.wrap .i64 (k - 4) + 4).toNat < (k + 4).toNat := by
    intro q j hp hq h1 h2 hw ht hc
    have hd := dd_eq hn hp hq
    have lt : n.toNat / q % 16 < 16 := Nat.mod_lt _ (by omega)
    have e1 : (dd n k + 1).toNat = n.toNat / q % 16 + 1 := by omega
    have e2 : (dd n k).toNat = n.toNat / q % 16 := by omega
    rw [e1, e2, hexs_at lt, hw, hp]
    refine ⟨by omega, by omega, by omega, ofL_size _, ⟨by omega, ?_⟩, by omega⟩
    have e := h.e
    rw [h2, ht, e, h1, ByteArray.append_assoc, ofL_app]
  rcases h.fk with e | e | e | e | e
  · subst e; exact main 4096 0 (by decide) (by omega) rfl rfl (by decide) rfl (by omega)
  · subst e; exact main 256 1 (by decide) (by omega) rfl rfl (by decide) rfl (by omega)
  · subst e; exact main 16 2 (by decide) (by omega) rfl rfl (by decide) rfl (by omega)
  · subst e; exact main 1 3 (by decide) (by omega) rfl rfl (by decide) rfl (by omega)
  · omega
theorem dg_fin {s0 s : ByteArray} {n k : Int} (h : Dg4I s0 s n k) (hk : ¬ k ≥ 0) : s = s0 ++ ofL (hex4 n.toNat) := by
  have := h.e
  rcases h.fk with e | e | e | e | e
  · omega
  · omega
  · omega
  · omega
  · rw [e] at this; exact this
theorem dg_zero (s : ByteArray) (n : Int) : Dg4I s s n 12 := ⟨.inl rfl, by
  show s = s ++ ofL []
  apply bytesL_inj
  simp [bytesL, ofL]⟩
theorem dg_sz {s0 s : ByteArray} {n k : Int} (h : Dg4I s0 s n k) : s.size ≤ s0.size + 4 := by
  rw [h.e, ByteArray.size_append, ofL_size, List.length_take]
  have : (hex4 n.toNat).length = 4 := rfl
  omega
theorem join_snoc (q : List UInt8) (d : List UInt8) : ∀ (ps : List (List UInt8)), ps ≠ [] → Go.Lib.join (ps ++ [q]) d = Go.Lib.join ps d ++ (d ++ q)
  | [], h => absurd rfl h
  | [p], _ => by
    show Go.Lib.join (p :: q :: []) d = _
    rw [join_cc]
    simp [Go.Lib.join_one]
  | p :: r :: ps, _ => by
    show Go.Lib.join (p :: r :: (ps ++ [q])) d = _
    rw [join_cc, join_cc]
    have := join_snoc q d (r :: ps) (by simp)
    rw [List.cons_append] at this
    rw [this]
    simp
theorem dg8_sz {g : G8} {s : ByteArray} {i : Int} (h : Dg8I g s i) : s.size ≤ 100 := by
  rw [h.e, ofL_size, List.length_append]
  have := join_le (n := 4) (d := [58]) (ps := ((gl g).take i.toNat).map fun n => hex4 n.toNat) (by
    intro p hp
    obtain ⟨n, _, rfl⟩ := List.mem_map.1 hp
    exact Nat.le_refl 4)
  rw [List.length_map, List.length_take, len_gl] at this
  have h2 : (4 + [(58 : UInt8)].length) * min i.toNat 8 ≤ 5 * 8 := Nat.mul_le_mul (Nat.le_refl _) (by omega)
  have : [(91 : UInt8)].length = 1 := rfl
  omega
theorem dg8_on {g : G8} {s : ByteArray} {i : Int} (h : Dg8I g s i) (hi : i < 8) : (i > 0 → Dg8I g (s ++ ofL [58] ++ ofL (hex4 ((gl g).getD i.toNat 0).toNat)) (IntKind.wrap .i64 (i + 1))) ∧ (¬ i > 0 → Dg8I g (s ++ ofL (hex4 ((gl g).getD i.toNat 0).toNat)) (IntKind.wrap .i64 (i + 1))) := by
  obtain ⟨i0, i1, e⟩ := h
  rw [w64 (by omega) (by omega)]
  have ht := take_succ (gl g) i 0 i0 (by rw [len_gl]; omega)
  constructor
  · intro hp
    refine ⟨by omega, by omega, ?_⟩
    rw [ht, List.map_append, List.map_cons, List.map_nil, join_snoc _ _ _ (by
      intro h0
      have := congrArg List.length h0
      rw [List.length_map, List.length_take, len_gl, List.length_nil] at this
      omega), e, ofL_app, ofL_app]
    simp
  · intro hp
    have : i = 0 := by omega
    subst this
    refine ⟨by omega, by omega, ?_⟩
    rw [e, ofL_app]
    rfl
theorem dg8_fin {g : G8} {s : ByteArray} {i : Int} (h : Dg8I g s i) (hi : ¬ i < 8) : s = ofL ([91] ++ Go.Lib.join ((gl g).map fun n => hex4 n.toNat) [58]) := by
  have := h.e
  rwa [List.take_of_length_le (by rw [len_gl]; omega)] at this
theorem text1_eq {a : Ad} (h : may1 a = true) : bytesL (text1 a) = hostL a ++ 58 :: digL a.2.2.1.toNat := by
  unfold text1
  rw [h, cond_true, bytesL_ofL]
  rfl
theorem text1_last {a : Ad} (h : may1 a = true) : lastI (bytesL (text1 a)) = ((hostL a).length : Int) := by
  have hp := ((may1_iff a).1 h).1
  unfold lastI
  rw [text1_eq h, lastN_app 58 _ (dig_not (by omega) 58 (by decide))]
theorem text1_tail {a : Ad} (h : may1 a = true) : subS (text1 a) (hostL a).length (text1 a).size = ofL (58 :: digL a.2.2.1.toNat) := by
  rw [sub_drop, text1_eq h, List.drop_left]
theorem v3 : Vc g3 300 Tryd.f3 (cLw aDigs).T := by
  constructor
  rw [v3_eq]
  rw [show (ByteArray.mk (List.toArray ((48 : UInt8) :: (49 : UInt8) :: (50 : UInt8) :: (51 : UInt8) :: (52 : UInt8) :: (53 : UInt8) :: (54 : UInt8) :: (55 : UInt8) :: (56 : UInt8) :: (57 : UInt8) :: (65 : UInt8) :: (66 : UInt8) :: (67 : UInt8) :: (68 : UInt8) :: (69 : UInt8) :: (70 : UInt8) :: nilL UInt8)) : ByteArray) = HEXS from rfl,
    show (ByteArray.mk (List.toArray ((58 : UInt8) :: nilL UInt8)) : ByteArray) = ofL [58] from rfl, show (ByteArray.mk (List.toArray ((93 : UInt8) :: nilL UInt8)) : ByteArray) = ofL [93] from rfl, show (ByteArray.mk (List.toArray ((91 : UInt8) :: nilL UInt8)) : ByteArray) = ofL [91] from rfl]
  intro x hx
  have hr : AdR x.1 := by
    have h1 : (typedB AdT x.1 && true) = true := hx.out.1
    rw [Bool.and_true] at h1
    exact typed_R h1
  clear hx
  have mx : maxLen = 9223372036854775807 := rfl
  generalize x.fst = a at *
  have hg : (a.2.1.1 :: a.2.1.2.1 :: a.2.1.2.2.1 :: a.2.1.2.2.2.1 :: a.2.1.2.2.2.2.1 :: a.2.1.2.2.2.2.2.1 :: a.2.1.2.2.2.2.2.2.1 :: a.2.1.2.2.2.2.2.2.2.1 :: nilL Int) = gl a.2.1 := rfl
  rw [hg, mayA_one]
  refine ⟨⟨(lenA_iff _).2 (by show 1 ≤ 100000; omega)⟩, (bcase_iff _ _ _).2 ⟨fun h => ⟨⟨trivial⟩, rfl⟩, fun h => ?_⟩⟩
  simp only [Bool.or_eq_false_iff, Bool.not_eq_false', decide_eq_true_eq, decide_eq_false_iff_not] at h
  obtain ⟨⟨⟨hm, h6⟩, p1⟩, p2⟩ := h
  have ht2 := (text2_iff a).2 hm
  have htl := text1_len a
  (repeat with_reducible refine ⟨⟨rfl⟩, ?_⟩)
  refine (bcase_iff _ _ _).2 ⟨fun h => ?_, fun _ => ?_⟩
  · rw [ht2] at h; exact absurd h (by decide)
  refine ⟨⟨⟨⟨by omega, by omega, rfl⟩⟩, by repeat' (first | exact ⟨rfl⟩ | apply And.intro)⟩, fun y hy => (bcase_iff _ _ _).2 ⟨fun hi => ?_, fun hi => ?_⟩⟩
  · have hy := hy.out
    have hi := of_decide_eq_true hi
    have i0 := hy.i0
    have hon := col_on hy htl hi
    have hmu : (text1 a).size - (IntKind.wrap .i64 (y.2 + 1)).toNat < (text1 a).size - y.2.toNat := by
      rw [step i0 (by omega) hi]
      exact wcut i0 hi
    refine ⟨⟨i0⟩, ⟨hi⟩, ?_⟩
    (repeat with_reducible refine ⟨⟨rfl⟩, ?_⟩)
    refine (bcase_iff _ _ _).2 ⟨fun hb => ⟨⟨hon.1 (of_decide_eq_true hb)⟩, ⟨hmu⟩, by repeat' (first | exact ⟨rfl⟩ | apply And.intro)⟩, fun hb => ⟨⟨hon.2 (of_decide_eq_false hb)⟩, ⟨hmu⟩, by repeat' (first | exact ⟨rfl⟩ | apply And.intro)⟩⟩
  have hi := of_decide_eq_false hi
  have hya : y.1 = ((hostL a).length : Int) := by
    obtain ⟨i0, i1, e⟩ := hy.out
    rw [List.take_of_length_le (by rw [← size_bytesL]; omega), text1_last hm] at e
    exact e
  have hhl : (hostL a).length ≤ (text1 a).size := by
    rw [size_bytesL, text1_eq hm, List.length_append]; omega
  refine (bcase_iff _ _ _).2 ⟨fun h => absurd (of_decide_eq_true h) (by omega), fun _ => ?_⟩
  refine ⟨⟨⟨⟨by omega, by omega, rfl⟩⟩, by repeat' (first | exact ⟨rfl⟩ | apply And.intro)⟩, fun z hz => (bcase_iff _ _ _).2 ⟨fun h8 => ?_, fun h8 => ?_⟩⟩
  · have hz := hz.out
    have hz8 : z.2 < 8 := of_decide_eq_true h8
    have z0 := hz.i0
    have hon := dg8_on hz hz8
    have hsz := dg8_sz hz
    have hn : inR ((gl a.2.1).getD z.2.toNat 0) := hr.g _ (getD_mem z0 (by rw [len_gl]; omega))
    have hmu : 8 - (IntKind.wrap .i64 (z.2 + 1)).toNat < 8 - z.2.toNat := by
      rw [w64 (by omega) (by omega)]; omega
    have s1 : (ofL [58]).size = 1 := ofL_size _
    have hx16 : HEXS.size = 16 := rfl
    refine (bcase_iff _ _ _).2 ⟨fun hp => ?_, fun hp => ?_⟩
    · refine ⟨⟨by rw [s1, mx]; omega⟩, ?_⟩
      refine ⟨⟨⟨dg_zero _ _⟩, by repeat' (first | exact ⟨rfl⟩ | apply And.intro)⟩, fun w hw => (bcase_iff _ _ _).2 ⟨fun hk => ?_, fun hk => ?_⟩⟩
      · have hw := hw.out
        have hk := of_decide_eq_true hk
        obtain ⟨k1, k2, k3, k4, k5, k6⟩ := dg_on hw hk hn
        have k7 := dg_sz hw
        rw [ByteArray.size_append, s1] at k7
        have wd : IntKind.wrap .i64 (dd ((gl a.2.1).getD z.2.toNat 0) w.2 + 1) = dd ((gl a.2.1).getD z.2.toNat 0) w.2 + 1 := w64 (by omega) (by omega)
        rw [wd]
        exact ⟨⟨z0⟩, ⟨hz8⟩, ⟨hk⟩, ⟨k1⟩, ⟨by decide⟩, ⟨k2⟩, ⟨Int.le_add_one (Int.le_refl _)⟩, ⟨by rw [hx16]; omega⟩, ⟨by rw [k4, mx]; omega⟩, ⟨k5⟩, ⟨k6⟩, by repeat' (first | exact ⟨rfl⟩ | apply And.intro)⟩
      · have e := dg_fin hw.out (of_decide_eq_false hk)
        rw [e]
        exact ⟨⟨hon.1 (of_decide_eq_true hp)⟩, ⟨hmu⟩, by repeat' (first | exact ⟨rfl⟩ | apply And.intro)⟩
    · refine ⟨⟨⟨dg_zero _ _⟩, by repeat' (first | exact ⟨rfl⟩ | apply And.intro)⟩, fun w hw => (bcase_iff _ _ _).2 ⟨fun hk => ?_, fun hk => ?_⟩⟩
      · have hw := hw.out
        have hk := of_decide_eq_true hk
        obtain ⟨k1, k2, k3, k4, k5, k6⟩ := dg_on hw hk hn
        have k7 := dg_sz hw
        skip
        have wd : IntKind.wrap .i64 (dd ((gl a.2.1).getD z.2.toNat 0) w.2 + 1) = dd ((gl a.2.1).getD z.2.toNat 0) w.2 + 1 := w64 (by omega) (by omega)
        rw [wd]
        exact ⟨⟨z0⟩, ⟨hz8⟩, ⟨hk⟩, ⟨k1⟩, ⟨by decide⟩, ⟨k2⟩, ⟨Int.le_add_one (Int.le_refl _)⟩, ⟨by rw [hx16]; omega⟩, ⟨by rw [k4, mx]; omega⟩, ⟨k5⟩, ⟨k6⟩, by repeat' (first | exact ⟨rfl⟩ | apply And.intro)⟩
      · have e := dg_fin hw.out (of_decide_eq_false hk)
        rw [e]
        exact ⟨⟨hon.2 (of_decide_eq_false hp)⟩, ⟨hmu⟩, by repeat' (first | exact ⟨rfl⟩ | apply And.intro)⟩
  · have e := dg8_fin hz.out (of_decide_eq_false h8)
    have hsz := dg8_sz hz.out
    have htail : subS (text1 a) y.1.toNat (Int.toNat ((text1 a).size : Int)) = ofL (58 :: digL a.2.2.1.toNat) := by
      rw [hya]
      exact text1_tail hm
    have hb := digits_back hm h6 hr
    have s93 : (ofL [93]).size = 1 := ofL_size _
    have hd : (ofL (58 :: digL a.2.2.1.toNat)).size ≤ 6 := by
      have := digF_len 5 a.2.2.1.toNat
      rw [ofL_size, List.length_cons]
      exact Nat.succ_le_succ this
    rw [htail]
    have es : z.1 ++ ofL [93] ++ ofL (58 :: digL a.2.2.1.toNat) = ofL ([91] ++ Go.Lib.join ((gl a.2.1).map fun n => hex4 n.toNat) [58] ++ [93] ++ 58 :: digL a.2.2.1.toNat) := by
      rw [e, ofL_app, ofL_app]
    have p1' : parse1 (z.1 ++ ofL [93] ++ ofL (58 :: digL a.2.2.1.toNat)) = a := by
      rw [es]; unfold parse1; rw [hb]; rfl
    have p2' : parse2 (z.1 ++ ofL [93] ++ ofL (58 :: digL a.2.2.1.toNat)) = 0 := by
      rw [es]; unfold parse2; rw [hb]; rfl
    have eqf : Ty.eqb (Ty.cons (Ty.int .i8) (Ty.cons (Ty.arr 8 (Ty.int .u16)) (Ty.cons (Ty.int .i64) Ty.unit))) a a = true := (eqA a a).2 rfl
    refine ⟨⟨by rw [s93, mx]; omega⟩, ⟨by omega⟩, ⟨by omega⟩, ⟨by omega⟩, ⟨by rw [ByteArray.size_append, s93, mx]; omega⟩, ⟨by rw [szOk_iff, ByteArray.size_append, ByteArray.size_append, s93]; omega⟩, ?_⟩
    rw [p1', p2']
    (repeat with_reducible refine ⟨⟨rfl⟩, ?_⟩)
    refine ⟨⟨fun _ => trivial⟩, ?_⟩
    rw [eqf]
    rfl
end Go.Proofs.YtkimpfoimblhjaaDoor.Ad
namespace Go.Proofs.YtkimpfoimblhjaaDoor.Ad
open Go Go.Eng Go.Lb Go.Ad Lb
set_option maxRecDepth 100000
theorem val16 : Valid Tryd.prog GA 16 cWk := mkValid gas Tb.mix Tb.tab_ok Tb.eqs_ok g16 rfl (allV_cons val17 (allV_cons val18 allV_nil)) allI_nil Tryd.func16 (by kernel_rfl) v16
theorem val4 : Valid Tryd.prog GA 4 ((cLw aFam)) := mkValid gas Tb.mix Tb.tab_ok Tb.eqs_ok g4 rfl (allV_cons val15 (allV_cons val16 (allV_cons val19 (allV_cons val20 allV_nil)))) allI_nil Tryd.func4 (by kernel_rfl) v4
theorem val6 : Valid Tryd.prog GA 6 ((cLw aBack)) := Valid.T (mkValid gas Tb.mix Tb.tab_ok Tb.eqs_ok g6 rfl (allV_cons val15 (allV_cons val16 (allV_cons val17 (allV_cons val18 (allV_cons val19 (allV_cons val21 (allV_cons val23 (allV_cons val25 allV_nil)))))))) allI_nil Tryd.func6 (by kernel_rfl) v6)
theorem val3 : Valid Tryd.prog GA 3 ((cLw aDigs)) := Valid.T (mkValid gas Tb.mix Tb.tab_ok Tb.eqs_ok g3 rfl (allV_cons val15 (allV_cons val16 (allV_cons val17 (allV_cons val18 allV_nil)))) allI_nil Tryd.func3 (by kernel_rfl) v3)
end Go.Proofs.YtkimpfoimblhjaaDoor.Ad
set_option maxRecDepth 100000
namespace Go.Proofs.YtkimpfoimblhjaaDoor.Ad
open Go Go.Eng Go.Lb Go.Ad Lb
def dgL (b n : Int) : List UInt8 := bif decide (b = 16) then hexL n.toNat else digL n.toNat
def dgS (n b : Int) : ByteArray := ofL (dgL b n)
def run1 (g : G8) : Int := bif decide (long2 g = 0) then -1 else long1 g
def run2 (g : G8) : Int := bif decide (long2 g = 0) then 1 else long2 g
def sixS (g : G8) : ByteArray := ofL (inL g)
def hx1 (s : ByteArray) : Int := bif grp2 s then grp1 s else 0
def cutC (s : ByteArray) (c : Int) : List ByteArray := splitS s (ofL [UInt8.ofNat c.toNat])
abbrev aRows : Ty := .cons AdL (.cons .str .unit)
def cMay1 : Contract := conD (.cons AdT .unit) (.cons .bool .unit) (fun _ => true) fun x => (may1 x.1, ())
def cDigs : Contract := conD (.cons I64 (.cons I64 .unit)) (.cons .str .unit) (fun x => decide ((0 : Int) ≤ x.1) && decide ((x.1 : Int) ≤ 65535) && (decide ((x.2.1 : Int) = 10) || decide ((x.2.1 : Int) = 16))) fun x => (dgS x.1 x.2.1, ())
def cRun : Contract := conD (.cons G8T .unit) (.cons I64 (.cons I64 .unit)) (fun _ => true) fun x => (run1 x.1, (run2 x.1, ()))
def cSixS : Contract := conD (.cons G8T .unit) (.cons .str .unit) (fun _ => true) fun x => (sixS x.1, ())
def cHexR : Contract := conD (.cons .str .unit) (.cons U16 (.cons .bool .unit)) (fun x => szOk x.1) fun x => (hx1 x.1, (grp2 x.1, ()))
def cCutR : Contract := conD (.cons .str (.cons U8 .unit)) (.cons (.sl .str) .unit) (fun x => szOk x.1 && decide ((0 : Int) ≤ x.2.1) && decide ((x.2.1 : Int) < 256)) fun x => (cutC x.1 x.2.1, ())
structure May2I (a : Ad) (i : Int) : Prop where
  i0 : 2 ≤ i
  i1 : i ≤ 8
  z : a.1 = 4 → ∀ k : Nat, 2 ≤ k → (k : Int) < i → (gl a.2.1).getD k 0 = 0
def may2L : LoopAnn where
  α := Int
  keep := [1]
  okeep := [0]
  nxt := 30
  env := fun _ x => [(3, .dat I64 x)]
  own := fun _ _ => []
  inv := fun s x => May2I (cDat AdT s 1 0).out x
  mu := fun _ x => 8 - x.toNat
  pick := some fun _ s => (bDat I64 s 3).out
def mayRL : LoopAnn where
  α := Int
  keep := [0]
  okeep := []
  nxt := 30
  env := fun _ x => [(3, .dat I64 x)]
  own := fun _ _ => []
  inv := fun s x => MayI (bDat AdL s 0).out x
  mu := fun s x => List.length (α := Ad) (bDat AdL s 0).out - x.toNat
  pick := some fun _ s => (bDat I64 s 3).out
structure DgRI (b m n : Int) (s : ByteArray) : Prop where
  n0 : 0 ≤ n
  n1 : n ≤ 65535
  e : (n = 0 ∧ s = ofL (dgL b m)) ∨ (0 < n ∧ dgL b n ++ bytesL s = dgL b m)
def dgRL : LoopAnn where
  α := Int × ByteArray
  keep := [1]
  okeep := []
  nxt := 30
  env := fun _ x => [(0, .dat I64 x.1), (5, .dat .str x.2)]
  own := fun _ _ => []
  inv := fun s x => DgRI (bDat I64 s 1).out (bDat I64 s 0).out x.1 x.2
  mu := fun _ x => x.1.toNat
  pick := some fun _ s => ((bDat I64 s 0).out, (bDat .str s 5).out)
/-- how many are 0 from here on -/
def zc : List Int → Nat
  | [] => 0
  | x :: r => bif decide (x = 0) then zc r + 1 else 0
def runG (l : List Int) : Nat → Int × Int
  | 0 => (-1, 1)
  | i + 1 => bif decide (((zc (l.drop i) : Nat) : Int) > (runG l i).2) then ((i : Int), ((zc (l.drop i) : Nat) : Int)) else runG l i
structure RunRI (g : G8) (a m i : Int) : Prop where
  i0 : 0 ≤ i
  i1 : i ≤ 8
  e : (a, m) = runG (gl g) i.toNat
def runL : LoopAnn where
  α := Int × Int × Int
  keep := [1]
  okeep := [0]
  nxt := 30
  env := fun _ x => [(4, .dat I64 x.1), (5, .dat I64 x.2.1), (6, .dat I64 x.2.2)]
  own := fun _ _ => []
  inv := fun s x => RunRI (cDat G8T s 1 0).out x.1 x.2.1 x.2.2
  mu := fun _ x => 8 - x.2.2.toNat
  pick := some fun _ s => ((bDat I64 s 4).out, (bDat I64 s 5).out, (bDat I64 s 6).out)
structure ZcI (g : G8) (i n : Int) : Prop where
  n0 : 0 ≤ n
  n1 : i + n ≤ 8
  e : zc ((gl g).drop i.toNat) = n.toNat + zc ((gl g).drop (i + n).toNat)
def zcL : LoopAnn where
  α := Int
  keep := [1, 4, 5, 6]
  okeep := [0]
  nxt := 30
  env := fun _ x => [(7, .dat I64 x)]
  own := fun _ _ => []
  inv := fun s x => ZcI (cDat G8T s 1 0).out (bDat I64 s 6).out x
  mu := fun _ x => 8 - x.toNat
  pick := some fun _ s => (bDat I64 s 7).out
def sixP (g : G8) (i : Int) : List UInt8 := bif decide (long2 g = 0) || decide (i ≤ long1 g) then hexesL ((gl g).take i.toNat) else hexesL ((gl g).take (long1 g).toNat) ++ [58, 58] ++ hexesL (((gl g).take i.toNat).drop (long1 g + long2 g).toNat)
structure SixRI (g : G8) (s : ByteArray) (i : Int) : Prop where
  i0 : 0 ≤ i
  i1 : i ≤ 8
  out : long2 g = 0 ∨ i ≤ long1 g ∨ long1 g + long2 g ≤ i
  e : s = ofL (sixP g i)
def sixL : LoopAnn where
  α := ByteArray × Int
  keep := [1, 3, 4]
  okeep := [0]
  nxt := 30
  env := fun _ x => [(5, .dat .str x.1), (6, .dat I64 x.2)]
  own := fun _ _ => []
  inv := fun s x => SixRI (cDat G8T s 1 0).out x.1 x.2
  mu := fun _ x => 8 - x.2.toNat
  pick := some fun _ s => ((bDat .str s 5).out, (bDat I64 s 6).out)
structure CutRI (s : ByteArray) (c : Int) (out : List ByteArray) (from_ i : Int) : Prop where
  f0 : 0 ≤ from_
  f1 : from_ ≤ i
  i1 : i ≤ s.size
  nc : (UInt8.ofNat c.toNat) ∉ ((bytesL s).take i.toNat).drop from_.toNat
  ln : (out.length : Int) ≤ from_
  e : out.map bytesL ++ splitC (UInt8.ofNat c.toNat) ((bytesL s).drop from_.toNat) = splitC (UInt8.ofNat c.toNat) (bytesL s)
def cutRL : LoopAnn where
  α := List ByteArray × Int × Int
  keep := [0, 1]
  okeep := []
  nxt := 30
  env := fun _ x => [(5, .own 20), (6, .dat I64 x.2.1), (7, .dat I64 x.2.2)]
  own := fun _ x => [(20, .row 9 .str x.1)]
  inv := fun s x => CutRI (bDat .str s 0).out (bDat U8 s 1).out x.1 x.2.1 x.2.2
  mu := fun s x => (bDat .str s 0).out.size - x.2.2.toNat
  pick := some fun _ s => ((bRow .str s 5).out, (bDat I64 s 6).out, (bDat I64 s 7).out)
structure DecRI (s : ByteArray) (n i : Int) : Prop where
  i0 : 0 ≤ i
  i1 : i ≤ s.size
  n0 : 0 ≤ n
  n1 : n < 10 ^ i.toNat
  d : ((bytesL s).take i.toNat).all isDigit = true
  e : n = ((numL 0 ((bytesL s).take i.toNat) : Nat) : Int)
def decRL : LoopAnn where
  α := Int × Int
  keep := [0, 1]
  okeep := []
  nxt := 30
  env := fun _ x => [(6, .dat I64 x.1), (7, .dat I64 x.2)]
  own := fun _ _ => []
  inv := fun s x => DecRI (bDat .str s 0).out x.1 x.2
  mu := fun s x => (bDat .str s 0).out.size - x.2.toNat
  pick := some fun _ s => ((bDat I64 s 6).out, (bDat I64 s 7).out)
structure HexRI (s : ByteArray) (n i : Int) : Prop where
  i0 : 0 ≤ i
  i1 : i ≤ s.size
  n0 : 0 ≤ n
  n1 : n < 16 ^ i.toNat
  e : grpL n.toNat ((bytesL s).drop i.toNat) = grpL 0 (bytesL s)
def hexRL : LoopAnn where
  α := Int × Int
  keep := [0]
  okeep := []
  nxt := 30
  env := fun _ x => [(4, .dat I64 x.1), (5, .dat I64 x.2)]
  own := fun _ _ => []
  inv := fun s x => HexRI (bDat .str s 0).out x.1 x.2
  mu := fun s x => (bDat .str s 0).out.size - x.2.toNat
  pick := some fun _ s => ((bDat I64 s 4).out, (bDat I64 s 5).out)
def grpsL : LoopAnn where
  α := List Int × Int
  keep := [5]
  okeep := []
  nxt := 30
  env := fun _ x => [(4, .own 20), (6, .dat I64 x.2)]
  own := fun _ x => [(20, .row 23 U16 x.1)]
  inv := fun s x => GoI grpO (bDat (.sl .str) s 5).out x.1 x.2
  mu := fun s x => (bDat (.sl .str) s 5).out.length - x.2.toNat
  pick := some fun _ s => ((bRow U16 s 4).out, (bDat I64 s 6).out)
structure FindI (s : ByteArray) (a i : Int) : Prop where
  i0 : 0 ≤ i
  i1 : i ≤ s.size
  e : (a = -1 ∧ (∀ j : Nat, (j : Int) < i → ¬ ((bytesL s).getD j 0 = 58 ∧ (bytesL s).getD (j + 1) 0 = 58))) ∨ (0 ≤ a ∧ a + 1 < s.size ∧ (bytesL s).getD a.toNat 0 = 58 ∧ (bytesL s).getD (a.toNat + 1) 0 = 58 ∧ (∀ j : Nat, (j : Int) < a → ¬ ((bytesL s).getD j 0 = 58 ∧ (bytesL s).getD (j + 1) 0 = 58)))
def findL : LoopAnn where
  α := Int × Int
  keep := [0, 2, 4]
  okeep := [0, 1]
  nxt := 30
  env := fun _ x => [(5, .dat I64 x.1), (6, .dat I64 x.2)]
  own := fun _ _ => []
  inv := fun s x => FindI (bDat .str s 0).out x.1 x.2
  mu := fun s x => (bDat .str s 0).out.size - x.2.toNat
  pick := some fun _ s => ((bDat I64 s 5).out, (bDat I64 s 6).out)
def cl9L : LoopAnn where
  α := Int × Int
  keep := [0, 2]
  okeep := [0]
  nxt := 30
  env := fun _ x => [(4, .dat I64 x.1), (5, .dat I64 x.2)]
  own := fun _ _ => []
  inv := fun s x => Cl8I (bDat .str s 0).out x.1 x.2
  mu := fun s x => (bDat .str s 0).out.size - x.2.toNat
  pick := some fun _ s => ((bDat I64 s 4).out, (bDat I64 s 5).out)
structure Four2I (ps : List ByteArray) (p : Int) (a : Ad) (i : Int) : Prop where
  f : FourI ps a.2.1 i
  fam : a.1 = 4
  port : a.2.2.1 = p
def four2L : LoopAnn where
  α := Ad × Int
  keep := [2, 6, 9]
  okeep := [0]
  nxt := 30
  env := fun _ x => [(8, .pt 20 0), (10, .dat I64 x.2)]
  own := fun _ x => [(20, .cells 26 (leaves AdT x.1))]
  inv := fun s x => Four2I (bDat (.sl .str) s 9).out (bDat I64 s 6).out x.1 x.2
  mu := fun _ x => 4 - x.2.toNat
  pick := some fun _ s => ((cDat AdT s 8 0).out, (bDat I64 s 10).out)
structure RowRI (l : List Ad) (s : ByteArray) (i : Int) : Prop where
  i0 : 0 ≤ i
  i1 : i ≤ l.length
  e : s = ofL (Go.Lib.join ((l.take i.toNat).map text0) [32])
def rowRL : LoopAnn where
  α := ByteArray × Int
  keep := [0]
  okeep := []
  nxt := 30
  env := fun _ x => [(4, .dat .str x.1), (5, .dat I64 x.2)]
  own := fun _ _ => []
  inv := fun s x => RowRI (bDat AdL s 0).out x.1 x.2
  mu := fun s x => List.length (α := Ad) (bDat AdL s 0).out - x.2.toNat
  pick := some fun _ s => ((bDat .str s 4).out, (bDat I64 s 5).out)
def readRL : LoopAnn where
  α := List Ad × Int
  keep := [4]
  okeep := []
  nxt := 30
  env := fun _ x => [(5, .own 20), (6, .dat I64 x.2)]
  own := fun _ x => [(20, .row 26 AdT x.1)]
  inv := fun s x => GoI parseO (bDat (.sl .str) s 4).out x.1 x.2
  mu := fun s x => (bDat (.sl .str) s 4).out.length - x.2.toNat
  pick := some fun _ s => ((bRow AdT s 5).out, (bDat I64 s 6).out)
end Go.Proofs.YtkimpfoimblhjaaDoor.Ad
namespace Go.Proofs.YtkimpfoimblhjaaDoor.Ad
open Go Go.Eng Go.Lb Go.Ad Lb
set_option maxRecDepth 100000
noncomputable def g74 : Cfg := { tab := Tb.tab, cons := [], inls := [], loops := [(4, may2L)], cuts := [], unroll := false, arrs := [] }
noncomputable def g47 : Cfg := { tab := Tb.tab, cons := [(74, cMay1)], inls := [], loops := [(2, mayRL)], cuts := [], unroll := false, arrs := [] }
noncomputable def g75 : Cfg := { tab := Tb.tab, cons := [], inls := [], loops := [(4, dgRL)], cuts := [], unroll := false, arrs := [] }
noncomputable def g100 : Cfg := { tab := Tb.tab, cons := [], inls := [], loops := [(3, runL), (6, zcL)], cuts := [], unroll := false, arrs := [] }
noncomputable def g76 : Cfg := { tab := Tb.tab, cons := [(75, cDigs), (100, cRun)], inls := [], loops := [(4, sixL)], cuts := [], unroll := false, arrs := [] }
noncomputable def g45 : Cfg := { tab := Tb.tab, cons := [(74, cMay1), (75, cDigs), (76, cSixS)], inls := [], loops := [], cuts := [], unroll := false, arrs := [] }
noncomputable def g77 : Cfg := { tab := Tb.tab, cons := [], inls := [], loops := [(5, decRL)], cuts := [], unroll := false, arrs := [] }
noncomputable def g122 : Cfg := { tab := Tb.tab, cons := [], inls := [], loops := [(5, hexRL)], cuts := [], unroll := false, arrs := [] }
noncomputable def g60 : Cfg := { tab := Tb.tab, cons := [], inls := [], loops := [(4, cutRL)], cuts := [], unroll := false, arrs := [] }
noncomputable def g101 : Cfg := { tab := Tb.tab, cons := [(60, cCutR), (122, cHexR)], inls := [], loops := [(6, grpsL)], cuts := [], unroll := false, arrs := [] }
noncomputable def g78 : Cfg := { tab := Tb.tab, cons := [(101, cSide)], inls := [], loops := [(4, findL)], cuts := [], unroll := false, arrs := [] }
noncomputable def g46 : Cfg := { tab := Tb.tab, cons := [(60, cCutR), (77, cNum), (78, cSix)], inls := [], loops := [(3, cl9L), (25, four2L)], cuts := [], unroll := false, arrs := [] }
noncomputable def g22 : Cfg := { tab := Tb.tab, cons := [(45, cText), (47, cMay)], inls := [], loops := [(5, rowRL)], cuts := [], unroll := false, arrs := [] }
noncomputable def g24 : Cfg := { tab := Tb.tab, cons := [(46, cParse), (60, cCutR)], inls := [], loops := [(8, readRL)], cuts := [], unroll := false, arrs := [] }
noncomputable def g5 : Cfg := { tab := Tb.tab, cons := [(16, cWk), (19, cGreat), (21, cRow), (22, cRow), (23, cRead), (24, cRead), (25, cSameA)], inls := [], loops := [], cuts := [], unroll := false, arrs := [] }
end Go.Proofs.YtkimpfoimblhjaaDoor.Ad

/-
  A text of mine, of several parts: AdP5, AdP6, AdP7, AdV, AmDef, AmV, AdDef3, ArCfg, ArVc, ArP1, ArP2, ArP3, ArP4, ArP5, ArP6, ArP7, ArV, StPlain, StMerge, StDef, SaCfg, SaVc, SaP, SaV, SrCfg.
-/
import Derived.Test.YtkimpfoimblhjaaDoorAua
import Derived.Test.YtkimpfoimblhjaaDoorAub
import Derived.Test.YtkimpfoimblhjaaDoorAuc
import Derived.Test.YtkimpfoimblhjaaDoorAud
set_option linter.all false
set_option linter.all false
namespace Go.Proofs.YtkimpfoimblhjaaDoor.Ad
open Go Go.Eng Go.Lb Go.Ad Lb
set_option maxRecDepth 100000
set_option maxHeartbeats 4000000
theorem cut_no {l d : List UInt8} (h : (Go.Lib.cut l d).2.2 = false) : (Go.Lib.cut l d).2.1 = [] := by
  unfold Go.Lib.cut at *
  by_cases hc : 0 ≤ Go.Lib.index l d
  · rw [if_pos hc] at h; exact Bool.noConfusion (show true = false from h)
  · rw [if_neg hc]
theorem gl_lg {l : List Int} (h : l.length = 8) : gl (lg l) = l := by
  match l, h with
  | [a, b, c, d, e, f, g, i], _ => rfl
abbrev z8 : List Int := [0, 0, 0, 0, 0, 0, 0, 0]
theorem z8_eq : z8 = List.replicate 8 0 := rfl
theorem cp1 {l : List Int} (h : l.length ≤ 8) : cpL z8 (Int.toNat 0) (Int.toNat (8 : Nat) - Int.toNat 0) l = l ++ List.replicate (8 - l.length) 0 := by
  show z8.take 0 ++ (l.take 8 ++ z8.drop (0 + min 8 l.length)) = _
  rw [List.take_zero, List.nil_append, List.take_of_length_le h, z8_eq, List.drop_replicate, Nat.zero_add, Nat.min_eq_right h]
theorem cp2 {l m : List Int} {w : Int} (h : l.length + m.length ≤ 8) (hw : w = 8 - (m.length : Int)) : cpL (l ++ List.replicate (8 - l.length) 0) w.toNat (Int.toNat (8 : Nat) - w.toNat) m = l ++ List.replicate (8 - l.length - m.length) 0 ++ m := by
  have e : w.toNat = 8 - m.length := by omega
  have e8 : Int.toNat ((8 : Nat) : Int) = 8 := rfl
  unfold cpL
  rw [e, e8, show 8 - (8 - m.length) = m.length from by omega, List.take_of_length_le (Nat.le_refl _), Nat.min_self, List.take_append, List.drop_of_length_le (by simp; omega), List.append_nil, List.take_of_length_le (by omega), List.take_replicate, show min (8 - m.length - l.length) (8 - l.length) = 8 - l.length - m.length from by omega]
theorem six_cp {l m : List Int} {w : Int} (h : l.length + m.length ≤ 8) (hw : w = 8 - (m.length : Int)) :
    lg (cpL (gl (lg (cpL z8 (Int.toNat 0) (Int.toNat (8 : Nat) - Int.toNat 0) l))) w.toNat (Int.toNat (8 : Nat) - w.toNat) m) = lg (l ++ List.replicate (8 - l.length - m.length) 0 ++ m) := by
  rw [cp1 (by omega), gl_lg (by rw [List.length_append, List.length_replicate]; omega), cp2 h hw]
theorem side_len {s : ByteArray} (h : szOk s = true) : (side1 s).length ≤ 4000000001 := by
  unfold side1 sideO
  cases decide ((bytesL s).length = 0) with
  | true => exact Nat.zero_le _
  | false =>
    rw [cond_false]
    cases hg : goO grpO (splitS s (ofL [58])) with
    | none => exact Nat.zero_le _
    | some l => rw [Option.getD_some, goO_len hg]; exact splitS_n h
theorem six_eq (s : ByteArray) : sixO s = bif side2 (cut1 s (ofL [58, 58])) && side2 (cut2 s (ofL [58, 58])) then
    (bif cutOk s (ofL [58, 58]) then (bif decide ((side1 (cut1 s (ofL [58, 58]))).length + (side1 (cut2 s (ofL [58, 58]))).length ≤ 7) then some (side1 (cut1 s (ofL [58, 58])) ++ List.replicate (8 - (side1 (cut1 s (ofL [58, 58]))).length - (side1 (cut2 s (ofL [58, 58]))).length) 0 ++ side1 (cut2 s (ofL [58, 58]))) else none) else
      (bif decide ((side1 (cut1 s (ofL [58, 58]))).length = 8) then some (side1 (cut1 s (ofL [58, 58]))) else none)) else none := by
  unfold sixO cut1 cut2 cutOk side1 side2
  rw [bytesL_ofL]
  generalize sideO (ofL (Go.Lib.cut (bytesL s) [58, 58]).1) = a
  generalize sideO (ofL (Go.Lib.cut (bytesL s) [58, 58]).2.1) = b
  cases a <;> cases b <;> rfl
theorem cut_side (s : ByteArray) (h : cutOk s (ofL [58, 58]) = false) : side1 (cut2 s (ofL [58, 58])) = [] := by
  unfold cutOk at h
  unfold cut2
  rw [cut_no h]
  rfl
theorem six_no {s : ByteArray} (h : sixO s = none) : (((0 : Int), (0 : Int), (0 : Int), (0 : Int), (0 : Int), (0 : Int), (0 : Int), (0 : Int), ()), false, ()) = (six1 s, six2 s, ()) := by
  unfold six1 six2
  rw [h]
  rfl
theorem six_yes {s : ByteArray} {l : List Int} {g : G8} (h : sixO s = some l) (hg : g = lg l) : (g, true, ()) = (six1 s, six2 s, ()) := by
  unfold six1 six2
  rw [h, hg]
  rfl
theorem cut_le (s : ByteArray) : (cut1 s (ofL [58, 58])).size ≤ s.size ∧ (cut2 s (ofL [58, 58])).size ≤ s.size := by
  unfold cut1 cut2
  rw [ofL_size, ofL_size, size_bytesL s]
  unfold Go.Lib.cut
  by_cases hc : 0 ≤ Go.Lib.index (bytesL s) (bytesL (ofL [58, 58]))
  · rw [if_pos hc]
    show (List.take _ _).length ≤ _ ∧ (List.drop _ _).length ≤ _
    rw [List.length_take, List.length_drop]
    omega
  · rw [if_neg hc]
    exact ⟨Nat.le_refl _, Nat.zero_le _⟩
theorem v58 : Vc g58 300 Tryd.f58 cSix := by
  constructor
  rw [v58_eq]; delta c58b c58d c58f c58a c58c c58e c58g
  intro x
  generalize x.fst = s
  have hf := six_eq s
  have hk := cut_side s
  have hc := cut_le s
  rw [show (ByteArray.mk (List.toArray ((58 : UInt8) :: (58 : UInt8) :: nilL UInt8)) : ByteArray) = ofL [58, 58] from rfl]
  generalize ha : cut1 s (ofL [58, 58]) = a at *
  generalize hb : cut2 s (ofL [58, 58]) = b at *
  have l1 : szOk a = true → (side1 a).length ≤ 4000000001 := side_len
  have l2 : szOk b = true → (side1 b).length ≤ 4000000001 := side_len
  generalize side1 a = l at *
  generalize side1 b = m at *
  generalize side2 a = p at *
  generalize side2 b = q at *
  generalize cutOk s (ofL [58, 58]) = k at *
  intro hs
  have hs := (szOk_iff s).1 ((Wr_iff _).1 hs)
  have za := (szOk_iff a).2 (by omega)
  have zb := (szOk_iff b).2 (by omega)
  have l1 := l1 za
  have l2 := l2 zb
  refine ⟨⟨(szOk_iff s).2 hs⟩, ⟨za⟩, ⟨zb⟩, ?_⟩
  have w : IntKind.wrap .i64 ((l.length : Int) + m.length) = (l.length : Int) + m.length := w64 (by omega) (by omega)
  have e8 : ((8 : Nat) : Int) = 8 := rfl
  refine (bcase_iff _ _ _).2 ⟨fun h => (bcase_iff _ _ _).2 ⟨fun _ => six_no ?_, fun h' => absurd (h.symm.trans h') (by decide)⟩, fun h => (bcase_iff _ _ _).2 ⟨fun h2 => (bcase_iff _ _ _).2 ⟨fun _ => six_no ?_, fun h' => absurd (h2.symm.trans h') (by decide)⟩, fun h2 => (bcase_iff _ _ _).2 ⟨fun h3 => six_no ?_, fun h3 => ?_⟩⟩⟩
  · rw [hf]
    have : (p && q) = false := by cases p <;> cases q <;> simp_all
    rw [this]; rfl
  · have hp : (p && q) = true := by cases p <;> cases q <;> simp_all
    rw [Bool.and_eq_true, decide_eq_true_eq, w] at h2
    rw [hf, hp, h2.1, decide_eq_false (show ¬ l.length + m.length ≤ 7 by omega)]; rfl
  · have hp : (p && q) = true := by cases p <;> cases q <;> simp_all
    rw [Bool.and_eq_true, Bool.not_eq_true', Bool.not_eq_true', decide_eq_false_iff_not] at h3
    rw [hf, hp, h3.1, decide_eq_false (show ¬ l.length = 8 by omega)]; rfl
  · have hp : (p && q) = true := by cases p <;> cases q <;> simp_all
    have hlm : ∃ r, sixO s = some r ∧ r = l ++ List.replicate (8 - l.length - m.length) 0 ++ m ∧ l.length + m.length ≤ 8 := by
      cases k with
      | true =>
        have : ¬ ((l.length : Int) + m.length > 7) := by rw [Bool.true_and, decide_eq_false_iff_not, w] at h2; exact h2
        rw [hf, hp, decide_eq_true (show l.length + m.length ≤ 7 by omega)]
        exact ⟨_, rfl, rfl, by omega⟩
      | false =>
        have : (l.length : Int) = 8 := by rw [Bool.not_false, Bool.true_and, Bool.not_eq_false', decide_eq_true_eq] at h3; exact h3
        have hm := hk rfl
        subst hm
        rw [hf, hp, decide_eq_true (show l.length = 8 by omega)]
        refine ⟨_, rfl, ?_, by rw [List.length_nil]; omega⟩
        rw [show 8 - l.length - ([] : List Int).length = 0 from by rw [List.length_nil]; omega]
        simp
    obtain ⟨r, h1, h2, h3⟩ := hlm
    have w8 : IntKind.wrap .i64 (8 - (m.length : Int)) = 8 - (m.length : Int) := w64 (by omega) (by omega)
    have hcp := six_cp (w := IntKind.wrap .i64 (8 - (m.length : Int))) h3 w8
    refine ⟨⟨by omega⟩, ⟨by omega⟩, ⟨by omega⟩, ⟨by rw [w8]; omega⟩, ⟨by rw [w8]; omega⟩, ⟨by omega⟩, six_yes h1 ?_⟩
    rw [h2, ← hcp]
    rfl
end Go.Proofs.YtkimpfoimblhjaaDoor.Ad
set_option linter.all false
namespace Go.Proofs.YtkimpfoimblhjaaDoor.Ad
open Go Go.Eng Go.Lb Go.Ad Lb
set_option maxRecDepth 100000
set_option maxHeartbeats 4000000
theorem ofL_app (a b : List UInt8) : ofL a ++ ofL b = ofL (a ++ b) := by
  apply bytesL_inj
  rw [bytesL_ofL]
  simp [bytesL, ofL]
theorem typU16 {n : Int} (h : IntKind.wrap .u16 n = n) : inR n := by
  unfold inR
  rw [← h]
  simp [IntKind.wrap, IntKind.signed, IntKind.bits]
  omega
theorem typed_R {a : Ad} (h : typedB AdT a = true) : AdR a := by
  obtain ⟨f, ⟨a0, a1, a2, a3, a4, a5, a6, a7, ⟨⟩⟩, p, ⟨⟩⟩ := a
  have h' : (decide (IntKind.wrap .i8 f = f) && ((decide (IntKind.wrap .u16 a0 = a0) && (decide (IntKind.wrap .u16 a1 = a1) && (decide (IntKind.wrap .u16 a2 = a2) && (decide (IntKind.wrap .u16 a3 = a3) && (decide (IntKind.wrap .u16 a4 = a4) && (decide (IntKind.wrap .u16 a5 = a5) && (decide (IntKind.wrap .u16 a6 = a6) && (decide (IntKind.wrap .u16 a7 = a7) && true)))))))) && (decide (IntKind.wrap .i64 p = p) && true))) = true := h
  simp only [Bool.and_eq_true, decide_eq_true_eq, Bool.and_true] at h'
  obtain ⟨_, ⟨h0, h1, h2, h3, h4, h5, h6, h7⟩, _⟩ := h'
  constructor
  intro x hx
  have hx : x ∈ [a0, a1, a2, a3, a4, a5, a6, a7] := hx
  simp only [List.mem_cons, List.not_mem_nil, or_false] at hx
  rcases hx with rfl | rfl | rfl | rfl | rfl | rfl | rfl | rfl <;> exact typU16 (by assumption)
theorem hi_byte {n : Int} (h : inR n) : IntKind.wrap .i64 (Int.fdiv n (2 ^ min (Int.toNat 8) (IntKind.bits .u16))) = ((n.toNat / 256 : Nat) : Int) := by
  unfold inR at h
  have e : (2 : Int) ^ min (Int.toNat 8) (IntKind.bits .u16) = 256 := rfl
  rw [e, Int.fdiv_eq_ediv_of_nonneg _ (by omega), w64 (by omega) (by omega)]
  omega
theorem lo_byte {n : Int} (h : inR n) : IntKind.wrap .i64 (andI .u16 n 255) = ((n.toNat % 256 : Nat) : Int) := by
  unfold inR at h
  obtain ⟨a, rfl⟩ : ∃ a : Nat, n = a := ⟨n.toNat, by omega⟩
  have e1 : (BitVec.ofInt (IntKind.bits .u16) (a : Int)).toNat = a := by
    rw [BitVec.toNat_ofInt]
    show ((a : Int) % 65536).toNat = a
    omega
  have e2 : (BitVec.ofInt (IntKind.bits .u16) 255).toNat = 255 := rfl
  have e3 : a &&& 255 = a % 256 := Nat.and_two_pow_sub_one_eq_mod (n := 8) a
  unfold andI
  rw [BitVec.toNat_and, e1, e2, e3, wu16 (by omega) (by omega), w64 (by omega) (by omega), Int.toNat_natCast]
theorem digS_len (n : Int) : (digS n).size ≤ 5 := digS_size n
theorem join4 {x y z w : Nat} : joinS [digS x, digS y, digS z, digS w] (ofL [46]) = ofL (Go.Lib.join [digL x, digL y, digL z, digL w] [46]) ∧ (joinL [digS x, digS y, digS z, digS w] (ofL [46])).length ≤ 24 := by
  have e : joinL [digS x, digS y, digS z, digS w] (ofL [46]) = Go.Lib.join [digL x, digL y, digL z, digL w] [46] := by
    unfold joinL
    rw [bytesL_ofL]
    simp only [List.map_cons, List.map_nil, digS, bytesL_ofL, Int.toNat_natCast]
  unfold joinS
  rw [e]
  refine ⟨rfl, ?_⟩
  have := join_le (n := 5) (d := [46]) (ps := [digL x, digL y, digL z, digL w]) (by
    intro p hp
    simp only [List.mem_cons, List.not_mem_nil, or_false] at hp
    rcases hp with rfl | rfl | rfl | rfl <;> exact digF_len 5 _)
  exact this
theorem hexes_size {l : List Int} (h : l.length ≤ 8) : (hexes l).size ≤ 40 := by
  unfold hexes
  rw [ofL_size]
  exact hexesL_len h
theorem text_no' {a : Ad} (h : may1 a = false) : (({ data := #[] } : ByteArray), (20 : Int), ()) = (text1 a, text2 a, ()) := by
  unfold text1 text2
  rw [h]
  rfl
theorem text_yes {a : Ad} {t : ByteArray} (h : may1 a = true) (ht : t = ofL (text0 a)) : (t, (0 : Int), ()) = (text1 a, text2 a, ()) := by
  unfold text1 text2
  rw [h, ht]
  rfl
theorem mayA_one (a : Ad) : mayA (a :: nilL Ad) = may1 a := Bool.and_true _
theorem v17 : Vc g17 300 Tryd.f17 cText.T := by
  constructor
  rw [v17_eq]; delta c17a c17e c17d c17c c17b c17f c17g c17h c17i c17j c17k c17l c17m c17n c17o
  rintro ⟨a, ⟨⟩⟩ hx
  have hr : AdR a := by
    have h1 : (typedB AdT a && true) = true := hx.out.1
    rw [Bool.and_true] at h1
    exact typed_R h1
  have i0 : inR a.2.1.1 := hr.g _ (by simp [gl])
  have i1 : inR a.2.1.2.1 := hr.g _ (by simp [gl])
  have e0 : Int.toNat 0 + Int.toNat 0 = 0 := rfl
  have e1 : Int.toNat 0 + Int.toNat (IntKind.wrap .i64 (0 + 1)) = 1 := rfl
  have b91 : (ByteArray.mk (List.toArray ((91 : UInt8) :: nilL UInt8)) : ByteArray) = ofL [91] := rfl
  have b93 : (ByteArray.mk (List.toArray ((93 : UInt8) :: nilL UInt8)) : ByteArray) = ofL [93] := rfl
  have b58 : (ByteArray.mk (List.toArray ((58 : UInt8) :: nilL UInt8)) : ByteArray) = ofL [58] := rfl
  have b46 : (ByteArray.mk (List.toArray ((46 : UInt8) :: nilL UInt8)) : ByteArray) = ofL [46] := rfl
  have b5858 : (ByteArray.mk (List.toArray ((58 : UInt8) :: (58 : UInt8) :: nilL UInt8)) : ByteArray) = ofL [58, 58] := rfl
  have mx : maxLen = 9223372036854775807 := rfl
  have s1 : ∀ b : UInt8, (ofL [b]).size = 1 := fun b => ofL_size [b]
  have s2 : (ofL [58, 58]).size = 2 := ofL_size _
  have hp := digS_len a.2.2.1
  have hg : (a.2.1.1 :: a.2.1.2.1 :: a.2.1.2.2.1 :: a.2.1.2.2.2.1 :: a.2.1.2.2.2.2.1 :: a.2.1.2.2.2.2.2.1 :: a.2.1.2.2.2.2.2.2.1 :: a.2.1.2.2.2.2.2.2.2.1 :: nilL Int) = gl a.2.1 := rfl
  have lg8 := len_gl a.2.1
  have n8 : Int.toNat ((8 : Nat) : Int) = 8 := rfl
  have n0 : Int.toNat 0 = 0 := rfl
  simp only [e0, e1, List.getD_cons_zero, List.getD_cons_succ, hi_byte i0, lo_byte i0, hi_byte i1, lo_byte i1, mayA_one]
  simp only [b91, b93, b58, b46, b5858, hg, n8, n0, List.drop_zero]
  refine ⟨⟨(lenA_iff _).2 (by show 1 ≤ 100000; omega)⟩, (bcase_iff _ _ _).2 ⟨fun h => text_no' (by simpa using h), fun h => ?_⟩⟩
  have hm : may1 a = true := by simpa using h
  have hm' := (may1_iff a).1 hm
  have hport : digS a.2.2.1 = ofL (digL a.2.2.1.toNat) := rfl
  refine ⟨⟨by simp; omega⟩, ⟨by rw [s1, mx]; omega⟩, (bcase_iff _ _ _).2 ⟨fun h4 => ?_, fun h4 => ⟨⟨trivial⟩, (bcase_iff _ _ _).2 ⟨fun h0 => ?_, fun h0 => ?_⟩⟩⟩⟩
  · obtain ⟨j1, j2⟩ := join4 (x := a.2.1.1.toNat / 256) (y := a.2.1.1.toNat % 256) (z := a.2.1.2.1.toNat / 256) (w := a.2.1.2.1.toNat % 256)
    have e : ∀ p q r t : ByteArray, (p :: q :: nilL ByteArray) ++ (r :: t :: nilL ByteArray) = [p, q, r, t] := fun _ _ _ _ => rfl
    have el : ∀ p q : ByteArray, (p :: q :: nilL ByteArray).length = 2 := fun _ _ => rfl
    have e4 : ∀ p q r t : ByteArray, [p, q, r, t].length = 4 := fun _ _ _ _ => rfl
    unfold inR at i0 i1
    have k4 : a.1 = 4 := by simpa using h4
    rw [e, el, e4, j1, el]
    refine ⟨⟨by omega⟩, ⟨by omega⟩, ⟨by omega⟩, ⟨by omega⟩, ⟨by decide⟩, ⟨by omega⟩, ⟨by simp; omega⟩, ⟨by simp; omega⟩, ⟨by omega⟩, ⟨by decide⟩, ⟨by decide⟩, ⟨by omega⟩, ⟨by simp; omega⟩, ⟨by simp; omega⟩, ⟨by omega⟩, ⟨?_⟩, ⟨?_⟩, text_yes hm ?_⟩
    · rw [Bool.and_eq_true, decide_eq_true_eq, decide_eq_true_eq]
      omega
    · have : (ofL (Go.Lib.join [digL (a.2.1.1.toNat / 256), digL (a.2.1.1.toNat % 256), digL (a.2.1.2.1.toNat / 256), digL (a.2.1.2.1.toNat % 256)] [46])).size ≤ 24 := by
        rw [← j1]; unfold joinS; rw [ofL_size]; exact j2
      rw [ByteArray.size_append, s1, mx]
      omega
    · rw [hport, ofL_app, ofL_app]
      unfold text0 hostL
      rw [decide_eq_true k4, cond_true]
      rfl
  · have hh := hexes_size (l := gl a.2.1) (by omega)
    have k0 : long2 a.2.1 = 0 := by simpa using h0
    rw [List.take_of_length_le (Nat.le_of_eq lg8)]
    refine ⟨⟨by omega⟩, ⟨by omega⟩, ⟨by omega⟩, ⟨decide_eq_true (Nat.le_of_eq lg8)⟩, ⟨by rw [s1, mx]; omega⟩, ⟨by rw [ByteArray.size_append, s1, s1, mx]; omega⟩, ⟨by rw [ByteArray.size_append, ByteArray.size_append, ByteArray.size_append, s1, s1, s1, mx]; omega⟩, text_yes hm ?_⟩
    rw [hport, show hexes (gl a.2.1) = ofL (hexesL (gl a.2.1)) from rfl, ofL_app, ofL_app, ofL_app, ofL_app]
    unfold text0 hostL inL
    rw [show decide (a.1 = 4) = false from h4, cond_false, decide_eq_true k0, cond_true]
    rfl
  · have k0 : ¬ long2 a.2.1 = 0 := by simpa using h0
    have hl := longL_ok (gl a.2.1)
    have hl : 2 ≤ long2 a.2.1 ∧ 0 ≤ long1 a.2.1 ∧ long1 a.2.1 + long2 a.2.1 ≤ 8 := by
      rcases hl with h | ⟨h1, h2, h3, _⟩
      · exact absurd h k0
      · exact ⟨h1, h2, h3⟩
    have w : IntKind.wrap .i64 (long1 a.2.1 + long2 a.2.1) = long1 a.2.1 + long2 a.2.1 := w64 (by omega) (by omega)
    rw [List.take_of_length_le (Nat.le_of_eq lg8), w]
    have l1 : ((gl a.2.1).take (long1 a.2.1).toNat).length ≤ 8 := by rw [List.length_take]; omega
    have l2 : ((gl a.2.1).drop (long1 a.2.1 + long2 a.2.1).toNat).length ≤ 8 := by rw [List.length_drop]; omega
    have h1 := hexes_size l1
    have h2 := hexes_size l2
    refine ⟨⟨by omega⟩, ⟨by omega⟩, ⟨by omega⟩, ⟨decide_eq_true l1⟩, ⟨by rw [s1, mx]; omega⟩, ⟨by rw [ByteArray.size_append, s1, s2, mx]; omega⟩, ⟨by omega⟩, ⟨by omega⟩, ⟨by omega⟩, ⟨decide_eq_true l2⟩, ⟨by simp only [ByteArray.size_append, s1, s2, mx]; omega⟩, ⟨by simp only [ByteArray.size_append, s1, s2, mx]; omega⟩, ⟨by simp only [ByteArray.size_append, s1, s2, mx]; omega⟩, text_yes hm ?_⟩
    rw [hport, show ∀ l, hexes l = ofL (hexesL l) from fun _ => rfl, show ∀ l, hexes l = ofL (hexesL l) from fun _ => rfl, ofL_app, ofL_app, ofL_app, ofL_app, ofL_app, ofL_app]
    unfold text0 hostL inL
    rw [show decide (a.1 = 4) = false from h4, cond_false, decide_eq_false k0, cond_false]
    simp
end Go.Proofs.YtkimpfoimblhjaaDoor.Ad
set_option linter.all false
namespace Go.Proofs.YtkimpfoimblhjaaDoor.Ad
open Go Go.Eng Go.Lb Go.Ad Lb
set_option maxRecDepth 100000
set_option maxHeartbeats 4000000
def digs : ByteArray := ByteArray.mk (List.toArray ((48 : UInt8) :: (49 : UInt8) :: (50 : UInt8) :: (51 : UInt8) :: (52 : UInt8) :: (53 : UInt8) :: (54 : UInt8) :: (55 : UInt8) :: (56 : UInt8) :: (57 : UInt8) :: (97 : UInt8) :: (98 : UInt8) :: (99 : UInt8) :: (100 : UInt8) :: (101 : UInt8) :: (102 : UInt8) :: (103 : UInt8) :: (104 : UInt8) :: (105 : UInt8) :: (106 : UInt8) :: (107 : UInt8) :: (108 : UInt8) :: (109 : UInt8) :: (110 : UInt8) :: (111 : UInt8) :: (112 : UInt8) :: (113 : UInt8) :: (114 : UInt8) :: (115 : UInt8) :: (116 : UInt8) :: (117 : UInt8) :: (118 : UInt8) :: (119 : UInt8) :: (120 : UInt8) :: (121 : UInt8) :: (122 : UInt8) :: nilL UInt8))
theorem digs_size : digs.size = 36 := rfl
theorem digs_all : ((List.range 16).all fun k => decide (byteAt digs k = ((hexD k).toNat : Int))) = true := by decide +kernel
theorem digs_at {k : Nat} (h : k < 16) : byteAt digs k = ((hexD k).toNat : Int) := by
  have := List.all_eq_true.1 digs_all k (List.mem_range.2 h)
  exact of_decide_eq_true this
theorem digs_I {u : Int} (h0 : 0 ≤ u) (h : u < 16) : byteAt digs u.toNat = ((hexD u.toNat).toNat : Int) := digs_at (by omega)
theorem and15 {u : Int} (h0 : 0 ≤ u) (h : u < 65536) : andI .u64 u (IntKind.wrap .u64 (IntKind.wrap .u64 16 - 1)) = u % 16 := by
  obtain ⟨a, rfl⟩ : ∃ a : Nat, u = a := ⟨u.toNat, by omega⟩
  have e : IntKind.wrap .u64 (IntKind.wrap .u64 16 - 1) = 15 := by decide
  have e1 : (BitVec.ofInt (IntKind.bits .u64) (a : Int)).toNat = a := by
    rw [BitVec.toNat_ofInt]
    show ((a : Int) % 18446744073709551616).toNat = a
    omega
  have e2 : (BitVec.ofInt (IntKind.bits .u64) 15).toNat = 15 := rfl
  have e3 : a &&& 15 = a % 16 := Nat.and_two_pow_sub_one_eq_mod (n := 4) a
  rw [e]
  unfold andI
  rw [BitVec.toNat_and, e1, e2, e3]
  have : IntKind.wrap .u64 ((a % 16 : Nat) : Int) = ((a % 16 : Nat) : Int) := by
    simp [IntKind.wrap, IntKind.signed, IntKind.bits]; omega
  rw [this]
  omega
theorem wu64 {n : Int} (h0 : 0 ≤ n) (h1 : n < 65536) : IntKind.wrap .u64 n = n := by
  simp [IntKind.wrap, IntKind.signed, IntKind.bits]; omega
theorem ctz16 : IntKind.wrap .u64 (ctzZ (IntKind.wrap .u64 16)) = 4 := by decide +kernel
theorem shr4 {u : Int} (h0 : 0 ≤ u) : Int.fdiv u (2 ^ min (Int.toNat (IntKind.wrap .u64 (ctzZ (IntKind.wrap .u64 16)))) (IntKind.bits .u64)) = u / 16 := by
  rw [ctz16]
  have e : (2 : Int) ^ min (Int.toNat 4) (IntKind.bits .u64) = 16 := rfl
  rw [e, Int.fdiv_eq_ediv_of_nonneg _ (by omega)]
theorem byteL_set {xs : List Int} {i : Int} {b : UInt8} (i0 : 1 ≤ i) (i1 : i ≤ xs.length) : byteL (xs.set (i - 1).toNat (b.toNat : Int)) (i - 1) = b :: byteL xs i := by
  unfold byteL
  have e : i.toNat = (i - 1).toNat + 1 := by omega
  rw [List.drop_eq_getElem_cons (by rw [List.length_set]; omega), List.getElem_set_self, List.drop_set_of_lt (by omega), List.map_cons, e, Int.toNat_natCast, UInt8.ofNat_toNat]
theorem hexF_big {k : Nat} {u : Nat} (h : 16 ≤ u) : hexF (k + 1) u = hexF k (u / 16) ++ [hexD (u % 16)] := by
  rw [hexF, show decide (u < 16) = false from decide_eq_false (by omega), cond_false]
theorem hexF_small {k : Nat} {u : Nat} (h : u < 16) : hexF (k + 1) u = [hexD u] := by
  rw [hexF, show decide (u < 16) = true from decide_eq_true h, cond_true]
theorem bits_zero {u : Int} (h0 : 0 ≤ u) (h1 : u < 65536) : BitsI u u 65 (List.replicate 65 0) := by
  refine ⟨h0, by omega, by omega, List.length_replicate .., h1, ?_⟩
  show hexF 4 u.toNat ++ [] = _
  rw [List.append_nil]
theorem bits_lo {u0 u i : Int} {xs : List Int} (h : BitsI u0 u i xs) (hu : u ≥ 16) : 63 ≤ i := by
  have i0 := h.i0
  have u1 := h.u1
  rcases Int.lt_or_le i 63 with c | c
  · have e : i = 62 := by omega
    rw [e] at u1
    have : (16 : Int) ^ (62 - 61 : Int).toNat = 16 := rfl
    omega
  · exact c
theorem bits_lt {u0 u i : Int} {xs : List Int} (h : BitsI u0 u i xs) : u < 65536 := by
  have i0 := h.i0
  have i1 := h.i1
  have u1 := h.u1
  have : ∀ q : Fin 5, (16 : Int) ^ q.val ≤ 65536 := by decide
  have := this ⟨(i - 61).toNat, by omega⟩
  simp only at this
  omega
theorem bits_on {u0 u i : Int} {xs : List Int} (h : BitsI u0 u i xs) (hu : u ≥ 16) : BitsI u0 (u / 16) (i - 1) (xs.set (i - 1).toNat ((hexD (u % 16).toNat).toNat : Int)) := by
  have i0 := bits_lo h hu
  obtain ⟨v0, _, i1, l, u1, a⟩ := h
  obtain ⟨k, hk⟩ : ∃ k, (i - 61).toNat = k + 1 := ⟨(i - 62).toNat, by omega⟩
  have hk' : (i - 1 - 61).toNat = k := by omega
  rw [hk] at u1 a
  refine ⟨by omega, by omega, by omega, by rw [List.length_set]; exact l, ?_, ?_⟩
  · rw [hk']
    rw [Int.pow_succ] at u1
    omega
  · rw [hk', byteL_set (by omega) (by omega), ← a, hexF_big (by omega), List.append_assoc]
    have e1 : (u / 16).toNat = u.toNat / 16 := by omega
    have e2 : (u % 16).toNat = u.toNat % 16 := by omega
    rw [e1, e2]
    rfl
theorem bits_fin {u0 u i : Int} {xs : List Int} (h : BitsI u0 u i xs) (hu : ¬ u ≥ 16) : byteL (xs.set (i - 1).toNat ((hexD u.toNat).toNat : Int)) (i - 1) = hexF 4 u0.toNat := by
  obtain ⟨v0, i0, i1, l, u1, a⟩ := h
  obtain ⟨k, hk⟩ : ∃ k, (i - 61).toNat = k + 1 := ⟨(i - 62).toNat, by omega⟩
  rw [hk, hexF_small (by omega)] at a
  rw [byteL_set (by omega) (by omega), ← a]
  rfl
theorem str_byteL (xs : List Int) (i : Int) (h : xs.length = 65) : strI (List.drop i.toNat (List.take (Int.toNat ((65 : Nat) : Int)) xs)) = ofL (byteL xs i) := by
  rw [List.take_of_length_le (by show xs.length ≤ 65; omega)]
  rfl
theorem v54 : Vc g54 300 Tryd.f54 cHexes.T := by
  constructor
  rw [v54_eq]; delta c54a c54D c54t c54z c54g c54k c54u c54d c54q c54m c54c c54A c54v c54i c54b c54e c54r c54f c54w c54h c54j c54x c54l c54n c54o c54p c54s c54y c54B c54C c54E c54F c54G
  rw [show (ByteArray.mk (List.toArray ((48 : UInt8) :: (49 : UInt8) :: (50 : UInt8) :: (51 : UInt8) :: (52 : UInt8) :: (53 : UInt8) :: (54 : UInt8) :: (55 : UInt8) :: (56 : UInt8) :: (57 : UInt8) :: (97 : UInt8) :: (98 : UInt8) :: (99 : UInt8) :: (100 : UInt8) :: (101 : UInt8) :: (102 : UInt8) :: (103 : UInt8) :: (104 : UInt8) :: (105 : UInt8) :: (106 : UInt8) :: (107 : UInt8) :: (108 : UInt8) :: (109 : UInt8) :: (110 : UInt8) :: (111 : UInt8) :: (112 : UInt8) :: (113 : UInt8) :: (114 : UInt8) :: (115 : UInt8) :: (116 : UInt8) :: (117 : UInt8) :: (118 : UInt8) :: (119 : UInt8) :: (120 : UInt8) :: (121 : UInt8) :: (122 : UInt8) :: nilL UInt8)) : ByteArray) = digs from rfl]
  intro x hx
  have hl : x.1.length ≤ 8 := of_decide_eq_true hx.out.2
  have hr : ∀ n ∈ x.1, inR n := by
    have h1 : (decide (x.1.length ≤ maxLen) && x.1.all (typedB U16) && true) = true := hx.out.1
    rw [Bool.and_true, Bool.and_eq_true] at h1
    intro n hn
    have h2 := List.all_eq_true.1 h1.2 n hn
    exact typU16 (of_decide_eq_true h2)
  clear hx
  generalize x.fst = l at *
  have mx : maxLen = 9223372036854775807 := rfl
  have e65 : ((65 : Nat) : Int) = 65 := rfl
  refine ⟨⟨⟨MapI.zero _ _⟩, by repeat' (first | exact ⟨rfl⟩ | apply And.intro)⟩, fun y hy => (bcase_iff _ _ _).2 ⟨fun h => ?_, fun h => ?_⟩⟩
  · have hy := hy.out
    have hlt : y.2 < l.length := of_decide_eq_true h
    have hy0 := hy.i0
    refine ⟨⟨hy0⟩, ⟨hlt⟩, ?_⟩
    have hn : inR (l.getD y.2.toNat 0) := hr _ (getD_mem hy0 hlt)
    have hon := hy.on (z := 0) (by omega) hlt
    generalize l.getD y.2.toNat 0 = n at hn hon ⊢
    obtain ⟨n0, n1⟩ := hn
    have w1 : IntKind.wrap .i64 n = n := w64 n0 (by omega)
    have w2 : IntKind.wrap .u64 n = n := wu64 n0 n1
    rw [w1, w2]
    refine ⟨⟨rfl⟩, (bcase_iff _ _ _).2 ⟨fun hneg => absurd (of_decide_eq_true hneg) (by omega), fun hneg => ?_⟩⟩
    refine ⟨⟨by decide⟩, ⟨⟨bits_zero n0 n1⟩, by repeat' (first | exact ⟨rfl⟩ | exact ⟨by decide⟩ | apply And.intro)⟩, fun z hz => ?_⟩
    have hz := hz.out
    have v0 := hz.v0
    have vt := bits_lt hz
    have q0 := hz.i0
    have q1 := hz.i1
    have ql := hz.l
    have wz : IntKind.wrap .i64 (z.2.1 - 1) = z.2.1 - 1 := w64 (by omega) (by omega)
    rw [and15 v0 vt, shr4 v0, wz, digs_I (u := z.1 % 16) (by omega) (by omega), digs_size, ctz16]
    refine (bcase_iff _ _ _).2 ⟨fun hb => ?_, fun hb => ?_⟩
    · have hb : z.1 ≥ 16 := of_decide_eq_true hb
      have i63 := bits_lo hz hb
      refine ⟨⟨by omega⟩, ⟨by omega⟩, ⟨ql⟩, ⟨by omega⟩, ⟨by omega⟩, ⟨by omega⟩, ⟨bits_on hz hb⟩, ⟨by omega⟩, by repeat' (first | exact ⟨rfl⟩ | exact ⟨by rw [List.length_set]; omega⟩ | apply And.intro)⟩
    · have hb : ¬ z.1 ≥ 16 := of_decide_eq_false hb
      have hf := bits_fin hz hb
      rw [digs_I v0 (by omega)]
      refine ⟨⟨v0⟩, ⟨by omega⟩, ⟨ql⟩, ⟨by omega⟩, ⟨by omega⟩, ?_⟩
      refine (bcase_iff _ _ _).2 ⟨fun hneg => absurd (of_decide_eq_true hneg) (by omega), fun hneg => ?_⟩
      rw [str_byteL _ _ (by rw [List.length_set]; exact ql), hf]
      have hle : y.1.length ≤ 8 := by rw [hy.a, List.length_map, List.length_take]; omega
      have e1 : ∀ b : ByteArray, (b :: nilL ByteArray).length = 1 := fun _ => rfl
      refine ⟨⟨by omega⟩, ⟨by omega⟩, ⟨by omega⟩, ⟨by rw [List.length_set]; exact ql⟩, ⟨by rw [List.length_drop, List.length_take, List.length_set, mx]; omega⟩, ⟨by rw [e1]; omega⟩, ⟨hon.1⟩, ⟨hon.2⟩, by repeat' (first | exact ⟨rfl⟩ | apply And.intro)⟩
  · have hf := hy.out.fin (of_decide_eq_false h)
    have e58 : (ByteArray.mk (List.toArray ((58 : UInt8) :: nilL UInt8)) : ByteArray) = ofL [58] := rfl
    have ej : joinL y.1 (ofL [58]) = hexesL l := by
      unfold joinL hexesL
      rw [hf, bytesL_ofL, List.map_map]
      congr 1
    have hh := hexesL_len hl
    rw [e58]
    refine ⟨⟨?_⟩, ?_⟩
    · rw [ej, Bool.and_eq_true, decide_eq_true_eq, decide_eq_true_eq, hf, List.length_map]
      omega
    · unfold joinS
      rw [ej]
      rfl
end Go.Proofs.YtkimpfoimblhjaaDoor.Ad
namespace Go.Proofs.YtkimpfoimblhjaaDoor.Ad
open Go Go.Eng Go.Lb Go.Ad Lb
set_option maxRecDepth 100000
theorem val15 : Valid Tryd.prog GA 15 cMay := mkValid gas Tb.mix Tb.tab_ok Tb.eqs_ok g15 rfl allV_nil allI_nil Tryd.func15 (by kernel_rfl) v15
theorem val53 : Valid Tryd.prog GA 53 cLong := mkValid gas Tb.mix Tb.tab_ok Tb.eqs_ok g53 rfl allV_nil allI_nil Tryd.func53 (by kernel_rfl) v53
theorem val54 : Valid Tryd.prog GA 54 cHexes := Valid.T (mkValid gas Tb.mix Tb.tab_ok Tb.eqs_ok g54 rfl (allV_cons valJoin (allV_cons valTZ allV_nil)) (allI_cons Tryd.func82 (by kernel_rfl) (allI_cons Tryd.func102 (by kernel_rfl) (allI_cons Tryd.func126 (by kernel_rfl) (allI_cons Tryd.func140 (by kernel_rfl) allI_nil)))) Tryd.func54 (by kernel_rfl) v54)
theorem val17 : Valid Tryd.prog GA 17 cText := Valid.T (mkValid gas Tb.mix Tb.tab_ok Tb.eqs_ok g17 rfl (allV_cons val15 (allV_cons valItoa (allV_cons valJoin (allV_cons val53 (allV_cons val54 allV_nil))))) allI_nil Tryd.func17 (by kernel_rfl) v17)
theorem val56 : Valid Tryd.prog GA 56 cNum := mkValid gas Tb.mix Tb.tab_ok Tb.eqs_ok g56 rfl allV_nil allI_nil Tryd.func56 (by kernel_rfl) v56
theorem val105 : Valid Tryd.prog GA 105 cGrp := mkValid gas Tb.mix Tb.tab_ok Tb.eqs_ok g105 rfl allV_nil allI_nil Tryd.func105 (by kernel_rfl) v105
theorem val85 : Valid Tryd.prog GA 85 cSide := mkValid gas Tb.mix Tb.tab_ok Tb.eqs_ok g85 rfl (allV_cons valSplitS (allV_cons val105 allV_nil)) allI_nil Tryd.func85 (by kernel_rfl) v85
theorem val57 : Valid Tryd.prog GA 57 cFour := mkValid gas Tb.mix Tb.tab_ok Tb.eqs_ok g57 rfl (allV_cons val56 (allV_cons valSplitS allV_nil)) allI_nil Tryd.func57 (by kernel_rfl) v57
theorem val58 : Valid Tryd.prog GA 58 cSix := mkValid gas Tb.mix Tb.tab_ok Tb.eqs_ok g58 rfl (allV_cons valCut (allV_cons val85 allV_nil)) allI_nil Tryd.func58 (by kernel_rfl) v58
theorem val18 : Valid Tryd.prog GA 18 cParse := mkValid gas Tb.mix Tb.tab_ok Tb.eqs_ok g18 rfl (allV_cons valLast (allV_cons val56 (allV_cons val57 (allV_cons val58 allV_nil)))) allI_nil Tryd.func18 (by kernel_rfl) v18
theorem val19 : Valid Tryd.prog GA 19 cGreat := mkValid gas Tb.mix Tb.tab_ok Tb.eqs_ok g19 rfl allV_nil allI_nil Tryd.func19 (by kernel_rfl) v19
theorem val20 : Valid Tryd.prog GA 20 cOf := mkValid gas Tb.mix Tb.tab_ok Tb.eqs_ok g20 rfl allV_nil allI_nil Tryd.func20 (by kernel_rfl) v20
theorem val25 : Valid Tryd.prog GA 25 cSameA := mkValid gas Tb.mix Tb.tab_ok Tb.eqs_ok g25 rfl allV_nil allI_nil Tryd.func25 (by kernel_rfl) v25
end Go.Proofs.YtkimpfoimblhjaaDoor.Ad
set_option maxRecDepth 100000
namespace Go.Proofs.YtkimpfoimblhjaaDoor.Ad
open Go Go.Eng Go.Lb Go.Ad Lb
def cWk : Contract := { a := .unit, r := .cons .bool .unit, pre := fun _ => True, F := fun _ => (true, ()) }
def cLw (a : Ty) : Contract := { a := a, r := .cons .bool .unit, pre := fun _ => True, F := fun _ => (true, ()) }
def lastI (l : List UInt8) : Int := match lastN 58 l with
  | none => -1
  | some k => (k : Int)
structure Cl8I (t : ByteArray) (a i : Int) : Prop where
  i0 : 0 ≤ i
  i1 : i ≤ t.size
  fa : a = lastI ((bytesL t).take i.toNat)
end Go.Proofs.YtkimpfoimblhjaaDoor.Ad
set_option linter.all false
namespace Go.Proofs.YtkimpfoimblhjaaDoor.Ad
open Go Go.Eng Go.Lb Go.Ad Lb
set_option maxRecDepth 100000
set_option maxHeartbeats 2000000
noncomputable def g16 : Cfg := { tab := Tb.tab, cons := [(17, cText), (18, cParse)], inls := [], loops := [], cuts := [], unroll := false, arrs := [] }
theorem v16_eq : vcFn g16 300 Tryd.f16 cWk = ( ∀ (x : Unit), Wr True → Wr (Bool.true = Bool.true) ∧ Wr (Go.Proofs.YtkimpfoimblhjaaDoor.Lb.szOk (ByteArray.mk (List.toArray ((91 : UInt8) :: (48 : UInt8) :: (58 : UInt8) :: (48 : UInt8) :: (58 : UInt8) :: (58 : UInt8) ::
  (49 : UInt8) :: (93 : UInt8) :: (58 : UInt8) :: (57 : UInt8) :: nilL UInt8))) = Bool.true) ∧ Wr (Bool.true = Bool.true) ∧ Wr (Go.Proofs.YtkimpfoimblhjaaDoor.Lb.szOk (ByteArray.mk (List.toArray ((49 : UInt8) :: (46 :
  UInt8) :: (50 : UInt8) :: (46 : UInt8) :: (51 : UInt8) :: (46 : UInt8) :: (48 : UInt8) :: (52 : UInt8) :: (58 : UInt8) :: (56 : UInt8) :: (48 : UInt8) :: nilL UInt8))) = Bool.true) ∧ (Decidable.decide (Go.Ad.text2 ((4 :
  Int), ((258 : Int), (772 : Int), (0 : Int), (0 : Int), (0 : Int), (0 : Int), (0 : Int), (0 : Int), ()), (80 : Int), ()) = (0 : Int)) && Decidable.decide (Go.Ad.text1 ((4 : Int), ((258 : Int), (772 : Int), (0 : Int), (0
  : Int), (0 : Int), (0 : Int), (0 : Int), (0 : Int), ()), (80 : Int), ()) = ByteArray.mk (List.toArray ((49 : UInt8) :: (46 : UInt8) :: (50 : UInt8) :: (46 : UInt8) :: (51 : UInt8) :: (46 : UInt8) :: (52 : UInt8) :: (58
  : UInt8) :: (56 : UInt8) :: (48 : UInt8) :: nilL UInt8))) && Decidable.decide (Go.Ad.parse2 (ByteArray.mk (List.toArray ((91 : UInt8) :: (48 : UInt8) :: (58 : UInt8) :: (48 : UInt8) :: (58 : UInt8) :: (58 : UInt8) ::
  (49 : UInt8) :: (93 : UInt8) :: (58 : UInt8) :: (57 : UInt8) :: nilL UInt8))) = (0 : Int)) && Decidable.decide ((Go.Ad.parse1 (ByteArray.mk (List.toArray ((91 : UInt8) :: (48 : UInt8) :: (58 : UInt8) :: (48 : UInt8) ::
  (58 : UInt8) :: (58 : UInt8) :: (49 : UInt8) :: (93 : UInt8) :: (58 : UInt8) :: (57 : UInt8) :: nilL UInt8)))).fst = (6 : Int)) && Decidable.decide ((Go.Ad.parse1 (ByteArray.mk (List.toArray ((91 : UInt8) :: (48 :
  UInt8) :: (58 : UInt8) :: (48 : UInt8) :: (58 : UInt8) :: (58 : UInt8) :: (49 : UInt8) :: (93 : UInt8) :: (58 : UInt8) :: (57 : UInt8) :: nilL UInt8)))).snd.fst.snd.snd.snd.snd.snd.snd.snd.fst = (1 : Int)) &&
  Decidable.decide ((Go.Ad.parse1 (ByteArray.mk (List.toArray ((91 : UInt8) :: (48 : UInt8) :: (58 : UInt8) :: (48 : UInt8) :: (58 : UInt8) :: (58 : UInt8) :: (49 : UInt8) :: (93 : UInt8) :: (58 : UInt8) :: (57 : UInt8)
  :: nilL UInt8)))).snd.snd.fst = (9 : Int)) && Decidable.decide (Go.Ad.text2 (Go.Ad.parse1 (ByteArray.mk (List.toArray ((91 : UInt8) :: (48 : UInt8) :: (58 : UInt8) :: (48 : UInt8) :: (58 : UInt8) :: (58 : UInt8) :: (49
  : UInt8) :: (93 : UInt8) :: (58 : UInt8) :: (57 : UInt8) :: nilL UInt8)))) = (0 : Int)) && Decidable.decide (Go.Ad.text1 (Go.Ad.parse1 (ByteArray.mk (List.toArray ((91 : UInt8) :: (48 : UInt8) :: (58 : UInt8) :: (48 :
  UInt8) :: (58 : UInt8) :: (58 : UInt8) :: (49 : UInt8) :: (93 : UInt8) :: (58 : UInt8) :: (57 : UInt8) :: nilL UInt8)))) = ByteArray.mk (List.toArray ((91 : UInt8) :: (58 : UInt8) :: (58 : UInt8) :: (49 : UInt8) :: (93
  : UInt8) :: (58 : UInt8) :: (57 : UInt8) :: nilL UInt8))) && Decidable.decide (Go.Ad.parse2 (ByteArray.mk (List.toArray ((49 : UInt8) :: (46 : UInt8) :: (50 : UInt8) :: (46 : UInt8) :: (51 : UInt8) :: (46 : UInt8) ::
  (48 : UInt8) :: (52 : UInt8) :: (58 : UInt8) :: (56 : UInt8) :: (48 : UInt8) :: nilL UInt8))) = (20 : Int)), ()) = (Bool.true, ())) := by kernel_rfl
theorem v16 : Vc g16 300 Tryd.f16 cWk := by
  constructor
  rw [v16_eq]
  intro x _
  repeat' (first | exact ⟨rfl⟩ | exact ⟨by decide⟩ | apply And.intro)
  decide +kernel
theorem val16 : Valid Tryd.prog GA 16 cWk := mkValid gas Tb.mix Tb.tab_ok Tb.eqs_ok g16 rfl (allV_cons val17 (allV_cons val18 allV_nil)) allI_nil Tryd.func16 (by kernel_rfl) v16
theorem join_snoc (q : List UInt8) (d : List UInt8) : ∀ (ps : List (List UInt8)), ps ≠ [] → Go.Lib.join (ps ++ [q]) d = Go.Lib.join ps d ++ (d ++ q)
  | [], h => absurd rfl h
  | [p], _ => by
    show Go.Lib.join (p :: q :: []) d = _
    rw [join_cc]
    simp [Go.Lib.join_one]
  | p :: r :: ps, _ => by
    show Go.Lib.join (p :: r :: (ps ++ [q])) d = _
    rw [join_cc, join_cc]
    have := join_snoc q d (r :: ps) (by simp)
    rw [List.cons_append] at this
    rw [this]
    simp
end Go.Proofs.YtkimpfoimblhjaaDoor.Ad
set_option maxRecDepth 100000
namespace Go.Proofs.YtkimpfoimblhjaaDoor.Ad
open Go Go.Eng Go.Lb Go.Ad Lb
def dgL (b n : Int) : List UInt8 := bif decide (b = 16) then hexL n.toNat else digL n.toNat
def dgS (n b : Int) : ByteArray := ofL (dgL b n)
def run1 (g : G8) : Int := bif decide (long2 g = 0) then -1 else long1 g
def run2 (g : G8) : Int := bif decide (long2 g = 0) then 1 else long2 g
def sixS (g : G8) : ByteArray := ofL (inL g)
def hx1 (s : ByteArray) : Int := bif grp2 s then grp1 s else 0
def cutC (s : ByteArray) (c : Int) : List ByteArray := splitS s (ofL [UInt8.ofNat c.toNat])
abbrev aRows : Ty := .cons AdL (.cons .str .unit)
def cMay1 : Contract := conD (.cons AdT .unit) (.cons .bool .unit) (fun _ => true) fun x => (may1 x.1, ())
def cDigs : Contract := conD (.cons I64 (.cons I64 .unit)) (.cons .str .unit) (fun x => decide ((0 : Int) ≤ x.1) && decide ((x.1 : Int) ≤ 65535) && (decide ((x.2.1 : Int) = 10) || decide ((x.2.1 : Int) = 16))) fun x => (dgS x.1 x.2.1, ())
def cRun : Contract := conD (.cons G8T .unit) (.cons I64 (.cons I64 .unit)) (fun _ => true) fun x => (run1 x.1, (run2 x.1, ()))
def cSixS : Contract := conD (.cons G8T .unit) (.cons .str .unit) (fun _ => true) fun x => (sixS x.1, ())
def cHexR : Contract := conD (.cons .str .unit) (.cons U16 (.cons .bool .unit)) (fun x => szOk x.1) fun x => (hx1 x.1, (grp2 x.1, ()))
def cCutR : Contract := conD (.cons .str (.cons U8 .unit)) (.cons (.sl .str) .unit) (fun x => szOk x.1 && decide ((0 : Int) ≤ x.2.1) && decide ((x.2.1 : Int) < 256)) fun x => (cutC x.1 x.2.1, ())
structure May2I (a : Ad) (i : Int) : Prop where
  i0 : 2 ≤ i
  i1 : i ≤ 8
  z : a.1 = 4 → ∀ k : Nat, 2 ≤ k → (k : Int) < i → (gl a.2.1).getD k 0 = 0
def may2L : LoopAnn where
  α := Int
  keep := [1]
  okeep := [0]
  nxt := 30
  env := fun _ x => [(3, .dat I64 x)]
  own := fun _ _ => []
  inv := fun s x => May2I (cDat AdT s 1 0).out x
  mu := fun _ x => 8 - x.toNat
  pick := some fun _ s => (bDat I64 s 3).out
def mayRL : LoopAnn where
  α := Int
  keep := [0]
  okeep := []
  nxt := 30
  env := fun _ x => [(3, .dat I64 x)]
  own := fun _ _ => []
  inv := fun s x => MayI (bDat AdL s 0).out x
  mu := fun s x => List.length (α := Ad) (bDat AdL s 0).out - x.toNat
  pick := some fun _ s => (bDat I64 s 3).out
structure DgRI (b m n : Int) (s : ByteArray) : Prop where
  n0 : 0 ≤ n
  n1 : n ≤ 65535
  e : (n = 0 ∧ s = ofL (dgL b m)) ∨ (0 < n ∧ dgL b n ++ bytesL s = dgL b m)
def dgRL : LoopAnn where
  α := Int × ByteArray
  keep := [1]
  okeep := []
  nxt := 30
  env := fun _ x => [(0, .dat I64 x.1), (5, .dat .str x.2)]
  own := fun _ _ => []
  inv := fun s x => DgRI (bDat I64 s 1).out (bDat I64 s 0).out x.1 x.2
  mu := fun _ x => x.1.toNat
  pick := some fun _ s => ((bDat I64 s 0).out, (bDat .str s 5).out)
def zc : List Int → Nat
  | [] => 0
  | x :: r => bif decide (x = 0) then zc r + 1 else 0
def runG (l : List Int) : Nat → Int × Int
  | 0 => (-1, 1)
  | i + 1 => bif decide (((zc (l.drop i) : Nat) : Int) > (runG l i).2) then ((i : Int), ((zc (l.drop i) : Nat) : Int)) else runG l i
structure RunRI (g : G8) (a m i : Int) : Prop where
  i0 : 0 ≤ i
  i1 : i ≤ 8
  e : (a, m) = runG (gl g) i.toNat
def runL : LoopAnn where
  α := Int × Int × Int
  keep := [1]
  okeep := [0]
  nxt := 30
  env := fun _ x => [(4, .dat I64 x.1), (5, .dat I64 x.2.1), (6, .dat I64 x.2.2)]
  own := fun _ _ => []
  inv := fun s x => RunRI (cDat G8T s 1 0).out x.1 x.2.1 x.2.2
  mu := fun _ x => 8 - x.2.2.toNat
  pick := some fun _ s => ((bDat I64 s 4).out, (bDat I64 s 5).out, (bDat I64 s 6).out)
structure ZcI (g : G8) (i n : Int) : Prop where
  n0 : 0 ≤ n
  n1 : i + n ≤ 8
  e : zc ((gl g).drop i.toNat) = n.toNat + zc ((gl g).drop (i + n).toNat)
def zcL : LoopAnn where
  α := Int
  keep := [1, 4, 5, 6]
  okeep := [0]
  nxt := 30
  env := fun _ x => [(7, .dat I64 x)]
  own := fun _ _ => []
  inv := fun s x => ZcI (cDat G8T s 1 0).out (bDat I64 s 6).out x
  mu := fun _ x => 8 - x.toNat
  pick := some fun _ s => (bDat I64 s 7).out
def sixP (g : G8) (i : Int) : List UInt8 := bif decide (long2 g = 0) || decide (i ≤ long1 g) then hexesL ((gl g).take i.toNat) else hexesL ((gl g).take (long1 g).toNat) ++ [58, 58] ++ hexesL (((gl g).take i.toNat).drop (long1 g + long2 g).toNat)
structure SixRI (g : G8) (s : ByteArray) (i : Int) : Prop where
  i0 : 0 ≤ i
  i1 : i ≤ 8
  out : long2 g = 0 ∨ i ≤ long1 g ∨ long1 g + long2 g ≤ i
  e : s = ofL (sixP g i)
def sixL : LoopAnn where
  α := ByteArray × Int
  keep := [1, 3, 4]
  okeep := [0]
  nxt := 30
  env := fun _ x => [(5, .dat .str x.1), (6, .dat I64 x.2)]
  own := fun _ _ => []
  inv := fun s x => SixRI (cDat G8T s 1 0).out x.1 x.2
  mu := fun _ x => 8 - x.2.toNat
  pick := some fun _ s => ((bDat .str s 5).out, (bDat I64 s 6).out)
structure CutRI (s : ByteArray) (c : Int) (out : List ByteArray) (from_ i : Int) : Prop where
  f0 : 0 ≤ from_
  f1 : from_ ≤ i
  i1 : i ≤ s.size
  nc : (UInt8.ofNat c.toNat) ∉ ((bytesL s).take i.toNat).drop from_.toNat
  ln : (out.length : Int) ≤ from_
  e : out.map bytesL ++ splitC (UInt8.ofNat c.toNat) ((bytesL s).drop from_.toNat) = splitC (UInt8.ofNat c.toNat) (bytesL s)
def cutRL : LoopAnn where
  α := List ByteArray × Int × Int
  keep := [0, 1]
  okeep := []
  nxt := 30
  env := fun _ x => [(5, .own 20), (6, .dat I64 x.2.1), (7, .dat I64 x.2.2)]
  own := fun _ x => [(20, .row 9 .str x.1)]
  inv := fun s x => CutRI (bDat .str s 0).out (bDat U8 s 1).out x.1 x.2.1 x.2.2
  mu := fun s x => (bDat .str s 0).out.size - x.2.2.toNat
  pick := some fun _ s => ((bRow .str s 5).out, (bDat I64 s 6).out, (bDat I64 s 7).out)
structure DecRI (s : ByteArray) (n i : Int) : Prop where
  i0 : 0 ≤ i
  i1 : i ≤ s.size
  n0 : 0 ≤ n
  n1 : n < 10 ^ i.toNat
  d : ((bytesL s).take i.toNat).all isDigit = true
  e : n = ((numL 0 ((bytesL s).take i.toNat) : Nat) : Int)
def decRL : LoopAnn where
  α := Int × Int
  keep := [0, 1]
  okeep := []
  nxt := 30
  env := fun _ x => [(6, .dat I64 x.1), (7, .dat I64 x.2)]
  own := fun _ _ => []
  inv := fun s x => DecRI (bDat .str s 0).out x.1 x.2
  mu := fun s x => (bDat .str s 0).out.size - x.2.toNat
  pick := some fun _ s => ((bDat I64 s 6).out, (bDat I64 s 7).out)
structure HexRI (s : ByteArray) (n i : Int) : Prop where
  i0 : 0 ≤ i
  i1 : i ≤ s.size
  n0 : 0 ≤ n
  n1 : n < 16 ^ i.toNat
  e : grpL n.toNat ((bytesL s).drop i.toNat) = grpL 0 (bytesL s)
def hexRL : LoopAnn where
  α := Int × Int
  keep := [0]
  okeep := []
  nxt := 30
  env := fun _ x => [(4, .dat I64 x.1), (5, .dat I64 x.2)]
  own := fun _ _ => []
  inv := fun s x => HexRI (bDat .str s 0).out x.1 x.2
  mu := fun s x => (bDat .str s 0).out.size - x.2.toNat
  pick := some fun _ s => ((bDat I64 s 4).out, (bDat I64 s 5).out)
def grpsL : LoopAnn where
  α := List Int × Int
  keep := [5]
  okeep := []
  nxt := 30
  env := fun _ x => [(4, .own 20), (6, .dat I64 x.2)]
  own := fun _ x => [(20, .row 23 U16 x.1)]
  inv := fun s x => GoI grpO (bDat (.sl .str) s 5).out x.1 x.2
  mu := fun s x => (bDat (.sl .str) s 5).out.length - x.2.toNat
  pick := some fun _ s => ((bRow U16 s 4).out, (bDat I64 s 6).out)
structure FindI (s : ByteArray) (a i : Int) : Prop where
  i0 : 0 ≤ i
  i1 : i ≤ s.size
  e : (a = -1 ∧ (∀ j : Nat, (j : Int) < i → ¬ ((bytesL s).getD j 0 = 58 ∧ (bytesL s).getD (j + 1) 0 = 58))) ∨ (0 ≤ a ∧ a + 1 < s.size ∧ (bytesL s).getD a.toNat 0 = 58 ∧ (bytesL s).getD (a.toNat + 1) 0 = 58 ∧ (∀ j : Nat, (j : Int) < a → ¬ ((bytesL s).getD j 0 = 58 ∧ (bytesL s).getD (j + 1) 0 = 58)))
def findL : LoopAnn where
  α := Int × Int
  keep := [0, 2, 4]
  okeep := [0, 1]
  nxt := 30
  env := fun _ x => [(5, .dat I64 x.1), (6, .dat I64 x.2)]
  own := fun _ _ => []
  inv := fun s x => FindI (bDat .str s 0).out x.1 x.2
  mu := fun s x => (bDat .str s 0).out.size - x.2.toNat
  pick := some fun _ s => ((bDat I64 s 5).out, (bDat I64 s 6).out)
def cl9L : LoopAnn where
  α := Int × Int
  keep := [0, 2]
  okeep := [0]
  nxt := 30
  env := fun _ x => [(4, .dat I64 x.1), (5, .dat I64 x.2)]
  own := fun _ _ => []
  inv := fun s x => Cl8I (bDat .str s 0).out x.1 x.2
  mu := fun s x => (bDat .str s 0).out.size - x.2.toNat
  pick := some fun _ s => ((bDat I64 s 4).out, (bDat I64 s 5).out)
structure Four2I (ps : List ByteArray) (p : Int) (a : Ad) (i : Int) : Prop where
  f : FourI ps a.2.1 i
  fam : a.1 = 4
  port : a.2.2.1 = p
def four2L : LoopAnn where
  α := Ad × Int
  keep := [2, 6, 9]
  okeep := [0]
  nxt := 30
  env := fun _ x => [(8, .pt 20 0), (10, .dat I64 x.2)]
  own := fun _ x => [(20, .cells 26 (leaves AdT x.1))]
  inv := fun s x => Four2I (bDat (.sl .str) s 9).out (bDat I64 s 6).out x.1 x.2
  mu := fun _ x => 4 - x.2.toNat
  pick := some fun _ s => ((cDat AdT s 8 0).out, (bDat I64 s 10).out)
structure RowRI (l : List Ad) (s : ByteArray) (i : Int) : Prop where
  i0 : 0 ≤ i
  i1 : i ≤ l.length
  e : s = ofL (Go.Lib.join ((l.take i.toNat).map text0) [32])
def rowRL : LoopAnn where
  α := ByteArray × Int
  keep := [0]
  okeep := []
  nxt := 30
  env := fun _ x => [(4, .dat .str x.1), (5, .dat I64 x.2)]
  own := fun _ _ => []
  inv := fun s x => RowRI (bDat AdL s 0).out x.1 x.2
  mu := fun s x => List.length (α := Ad) (bDat AdL s 0).out - x.2.toNat
  pick := some fun _ s => ((bDat .str s 4).out, (bDat I64 s 5).out)
def readRL : LoopAnn where
  α := List Ad × Int
  keep := [4]
  okeep := []
  nxt := 30
  env := fun _ x => [(5, .own 20), (6, .dat I64 x.2)]
  own := fun _ x => [(20, .row 26 AdT x.1)]
  inv := fun s x => GoI parseO (bDat (.sl .str) s 4).out x.1 x.2
  mu := fun s x => (bDat (.sl .str) s 4).out.length - x.2.toNat
  pick := some fun _ s => ((bRow AdT s 5).out, (bDat I64 s 6).out)
end Go.Proofs.YtkimpfoimblhjaaDoor.Ad
namespace Go.Proofs.YtkimpfoimblhjaaDoor.Ad
open Go Go.Eng Go.Lb Go.Ad Lb
set_option maxRecDepth 100000
noncomputable def g74 : Cfg := { tab := Tb.tab, cons := [], inls := [], loops := [(4, may2L)], cuts := [], unroll := false, arrs := [] }
noncomputable def g47 : Cfg := { tab := Tb.tab, cons := [(74, cMay1)], inls := [], loops := [(2, mayRL)], cuts := [], unroll := false, arrs := [] }
noncomputable def g75 : Cfg := { tab := Tb.tab, cons := [], inls := [], loops := [(4, dgRL)], cuts := [], unroll := false, arrs := [] }
noncomputable def g100 : Cfg := { tab := Tb.tab, cons := [], inls := [], loops := [(3, runL), (6, zcL)], cuts := [], unroll := false, arrs := [] }
noncomputable def g76 : Cfg := { tab := Tb.tab, cons := [(75, cDigs), (100, cRun)], inls := [], loops := [(4, sixL)], cuts := [], unroll := false, arrs := [] }
noncomputable def g45 : Cfg := { tab := Tb.tab, cons := [(74, cMay1), (75, cDigs), (76, cSixS)], inls := [], loops := [], cuts := [], unroll := false, arrs := [] }
noncomputable def g77 : Cfg := { tab := Tb.tab, cons := [], inls := [], loops := [(5, decRL)], cuts := [], unroll := false, arrs := [] }
noncomputable def g122 : Cfg := { tab := Tb.tab, cons := [], inls := [], loops := [(5, hexRL)], cuts := [], unroll := false, arrs := [] }
noncomputable def g60 : Cfg := { tab := Tb.tab, cons := [], inls := [], loops := [(4, cutRL)], cuts := [], unroll := false, arrs := [] }
noncomputable def g101 : Cfg := { tab := Tb.tab, cons := [(60, cCutR), (122, cHexR)], inls := [], loops := [(6, grpsL)], cuts := [], unroll := false, arrs := [] }
noncomputable def g78 : Cfg := { tab := Tb.tab, cons := [(101, cSide)], inls := [], loops := [(4, findL)], cuts := [], unroll := false, arrs := [] }
noncomputable def g46 : Cfg := { tab := Tb.tab, cons := [(60, cCutR), (77, cNum), (78, cSix)], inls := [], loops := [(3, cl9L), (25, four2L)], cuts := [], unroll := false, arrs := [] }
noncomputable def g22 : Cfg := { tab := Tb.tab, cons := [(45, cText), (47, cMay)], inls := [], loops := [(5, rowRL)], cuts := [], unroll := false, arrs := [] }
noncomputable def g24 : Cfg := { tab := Tb.tab, cons := [(46, cParse), (60, cCutR)], inls := [], loops := [(8, readRL)], cuts := [], unroll := false, arrs := [] }
noncomputable def g5 : Cfg := { tab := Tb.tab, cons := [(16, cWk), (19, cGreat), (21, cRow), (22, cRow), (23, cRead), (24, cRead), (25, cSameA)], inls := [], loops := [], cuts := [], unroll := false, arrs := [] }
end Go.Proofs.YtkimpfoimblhjaaDoor.Ad
namespace Go.Proofs.YtkimpfoimblhjaaDoor.Ad
open Go Go.Eng Go.Lb Go.Ad Lb
set_option maxRecDepth 100000
theorem v74_eq : vcFn g74 300 Tryd.f74 cMay1 = (∀ (x : (Int × (Int × Int × Int × Int × Int × Int × Int × Int × Unit) × Int × Unit) × Unit), Wr (true = true) → bcase (decide (x.1.2.2.1 < (1 : Int)) || decide (x.1.2.2.1 > (65535 : Int)) || !decide (x.1.1 = (4 : Int)) &&
 !decide (x.1.1 = (6 : Int))) ((false, ()) = (Go.Ad.may1 x.1, ())) ((Wr (May2I x.1 (2 : Int)) ∧ Wr ((2 : Int) = (2 : Int)) ∧ Wr (x.1.1 = x.1.1) ∧ Wr (x.1.2.1.1 = x.1.2.1.1) ∧ Wr (x.1.2.1.2.1 = x.1.2.1.2.1) ∧ Wr
 (x.1.2.1.2.2.1 = x.1.2.1.2.2.1) ∧ Wr (x.1.2.1.2.2.2.1 = x.1.2.1.2.2.2.1) ∧ Wr (x.1.2.1.2.2.2.2.1 = x.1.2.1.2.2.2.2.1) ∧ Wr (x.1.2.1.2.2.2.2.2.1 = x.1.2.1.2.2.2.2.2.1) ∧ Wr (x.1.2.1.2.2.2.2.2.2.1 = x.1.2.1.2.2.2.2.2.2.1)
 ∧ Wr (x.1.2.1.2.2.2.2.2.2.2.1 = x.1.2.1.2.2.2.2.2.2.2.1) ∧ Wr (x.1.2.2.1 = x.1.2.2.1)) ∧ ∀ (x_1 : Int), Wr (May2I x.1 x_1) → bcase (decide (x_1 < (8 : Int)) && decide (x.1.1 = (4 : Int))) (Wr ((0 : Int) ≤ x_1) ∧ Wr (x_1
 < (↑(8 : Nat) : Int)) ∧ bcase (!decide (List.getD (x.1.2.1.1 :: x.1.2.1.2.1 :: x.1.2.1.2.2.1 :: x.1.2.1.2.2.2.1 :: x.1.2.1.2.2.2.2.1 :: x.1.2.1.2.2.2.2.2.1 :: x.1.2.1.2.2.2.2.2.2.1 :: x.1.2.1.2.2.2.2.2.2.2.1 :: nilL Int)
 (Int.toNat x_1) (0 : Int) = (0 : Int))) ((false, ()) = (Go.Ad.may1 x.1, ())) (Wr (May2I x.1 (IntKind.wrap IntKind.i64 (x_1 + (1 : Int)))) ∧ Wr ((8 : Nat) - Int.toNat (IntKind.wrap IntKind.i64 (x_1 + (1 : Int))) < (8 :
 Nat) - Int.toNat x_1) ∧ Wr (IntKind.wrap IntKind.i64 (x_1 + (1 : Int)) = IntKind.wrap IntKind.i64 (x_1 + (1 : Int))) ∧ Wr (x.1.1 = x.1.1) ∧ Wr (x.1.2.1.1 = x.1.2.1.1) ∧ Wr (x.1.2.1.2.1 = x.1.2.1.2.1) ∧ Wr (x.1.2.1.2.2.1
 = x.1.2.1.2.2.1) ∧ Wr (x.1.2.1.2.2.2.1 = x.1.2.1.2.2.2.1) ∧ Wr (x.1.2.1.2.2.2.2.1 = x.1.2.1.2.2.2.2.1) ∧ Wr (x.1.2.1.2.2.2.2.2.1 = x.1.2.1.2.2.2.2.2.1) ∧ Wr (x.1.2.1.2.2.2.2.2.2.1 = x.1.2.1.2.2.2.2.2.2.1) ∧ Wr
 (x.1.2.1.2.2.2.2.2.2.2.1 = x.1.2.1.2.2.2.2.2.2.2.1) ∧ Wr (x.1.2.2.1 = x.1.2.2.1))) ((true, ()) = (Go.Ad.may1 x.1, ())))) := by kernel_rfl
theorem v47_eq : vcFn g47 300 Tryd.f47 cMay = (∀ (x : List (Int × (Int × Int × Int × Int × Int × Int × Int × Int × Unit) × Int × Unit) × Unit), Wr (lenA x.1 = true) → (Wr (MayI x.1 (0 : Int)) ∧ Wr ((0 : Int) = (0 : Int)) ∧ Wr (x.1 = x.1)) ∧ ∀ (x_1 : Int), Wr (MayI x.1
 x_1) → bcase (decide (x_1 < (↑(List.length x.1) : Int))) (Wr ((0 : Int) ≤ x_1) ∧ Wr (x_1 < (↑(List.length x.1) : Int)) ∧ Wr (true = true) ∧ Wr (true = true) ∧ bcase (!Go.Ad.may1 (List.getD x.1 (Int.toNat x_1) (Ty.zero
 AdT))) ((false, ()) = (Go.Ad.mayA x.1, ())) (Wr (MayI x.1 (IntKind.wrap IntKind.i64 (x_1 + (1 : Int)))) ∧ Wr (List.length x.1 - Int.toNat (IntKind.wrap IntKind.i64 (x_1 + (1 : Int))) < List.length x.1 - Int.toNat x_1) ∧
 Wr (IntKind.wrap IntKind.i64 (x_1 + (1 : Int)) = IntKind.wrap IntKind.i64 (x_1 + (1 : Int))) ∧ Wr (x.1 = x.1))) ((true, ()) = (Go.Ad.mayA x.1, ()))) := by kernel_rfl
abbrev c75a := (ByteArray.mk (List.toArray ((48 : UInt8) :: (49 : UInt8) :: (50 : UInt8) :: (51 : UInt8) :: (52 : UInt8) :: (53 : UInt8) :: (54 : UInt8) :: (55 : UInt8) :: (56 : UInt8) :: (57 : UInt8) :: (97 : UInt8) ::
 (98 : UInt8) :: (99 : UInt8) :: (100 : UInt8) :: (101 : UInt8) :: (102 : UInt8) :: nilL UInt8)))
abbrev c75b (x : Int × Int × Unit) (x_1 : Int × ByteArray) := (Int.toNat (IntKind.wrap IntKind.i64 (Int.tmod x_1.1 x.2.1 + (1 : Int))))
theorem v75_eq : vcFn g75 300 Tryd.f75 cDigs = (∀ (x : Int × Int × Unit), Wr ((decide ((0 : Int) ≤ x.1) && decide (x.1 ≤ (65535 : Ty.El I64)) && (decide (x.2.1 = (10 : Ty.El I64)) || decide (x.2.1 = (16 : Ty.El I64)))) = true) → bcase (decide (x.1 = (0 : Int)))
 ((ByteArray.mk (List.toArray ((48 : UInt8) :: nilL UInt8)), ()) = (dgS x.1 x.2.1, ())) ((Wr (DgRI x.2.1 x.1 x.1 (ByteArray.mk (List.toArray (nilL UInt8)))) ∧ Wr (x.1 = x.1) ∧ Wr (ByteArray.mk (List.toArray (nilL UInt8))
 = ByteArray.mk (List.toArray (nilL UInt8))) ∧ Wr (x.2.1 = x.2.1)) ∧ ∀ (x_1 : Int × ByteArray), Wr (DgRI x.2.1 x.1 x_1.1 x_1.2) → bcase (decide (x_1.1 > (0 : Int))) (Wr (x.2.1 ≠ (0 : Int)) ∧ Wr (x.2.1 ≠ (0 : Int)) ∧ Wr
 ((0 : Int) ≤ Int.tmod x_1.1 x.2.1) ∧ Wr (Int.tmod x_1.1 x.2.1 ≤ IntKind.wrap IntKind.i64 (Int.tmod x_1.1 x.2.1 + (1 : Int))) ∧ Wr (IntKind.wrap IntKind.i64 (Int.tmod x_1.1 x.2.1 + (1 : Int)) ≤ (↑(ByteArray.size c75a) :
 Int)) ∧ Wr (ByteArray.size (subS c75a (Int.toNat (Int.tmod x_1.1 x.2.1)) (c75b x x_1)) + ByteArray.size x_1.2 ≤ Go.maxLen) ∧ Wr (x.2.1 ≠ (0 : Int)) ∧ Wr (DgRI x.2.1 x.1 (IntKind.wrap IntKind.i64 (Int.tdiv x_1.1 x.2.1))
 (subS c75a (Int.toNat (Int.tmod x_1.1 x.2.1)) (c75b x x_1) ++ x_1.2)) ∧ Wr (Int.toNat (IntKind.wrap IntKind.i64 (Int.tdiv x_1.1 x.2.1)) < Int.toNat x_1.1) ∧ Wr (IntKind.wrap IntKind.i64 (Int.tdiv x_1.1 x.2.1) =
 IntKind.wrap IntKind.i64 (Int.tdiv x_1.1 x.2.1)) ∧ Wr (subS c75a (Int.toNat (Int.tmod x_1.1 x.2.1)) (c75b x x_1) ++ x_1.2 = subS c75a (Int.toNat (Int.tmod x_1.1 x.2.1)) (c75b x x_1) ++ x_1.2) ∧ Wr (x.2.1 = x.2.1))
 ((x_1.2, ()) = (dgS x.1 x.2.1, ())))) := by kernel_rfl
abbrev c100a (x_1 : Int × Int × Int) := (IntKind.wrap IntKind.i64 (x_1.2.2 + (1 : Int)))
abbrev c100b (x : (Int × Int × Int × Int × Int × Int × Int × Int × Unit) × Unit) := (x.1.2.2.2.2.2.2.2.1 = x.1.2.2.2.2.2.2.2.1)
abbrev c100c (x_1 : Int × Int × Int) := (IntKind.wrap IntKind.i64 (x_1.2.2 + (1 : Int)) = IntKind.wrap IntKind.i64 (x_1.2.2 + (1 : Int)))
theorem v100_eq : vcFn g100 300 Tryd.f100 cRun = (∀ (x : (Int × Int × Int × Int × Int × Int × Int × Int × Unit) × Unit), Wr (true = true) → (Wr (RunRI x.1 (-1 : Int) (1 : Int) (0 : Int)) ∧ Wr ((-1 : Int) = (-1 : Int)) ∧ Wr ((1 : Int) = (1 : Int)) ∧ Wr ((0 : Int) = (0 :
 Int)) ∧ Wr (x.1.1 = x.1.1) ∧ Wr (x.1.2.1 = x.1.2.1) ∧ Wr (x.1.2.2.1 = x.1.2.2.1) ∧ Wr (x.1.2.2.2.1 = x.1.2.2.2.1) ∧ Wr (x.1.2.2.2.2.1 = x.1.2.2.2.2.1) ∧ Wr (x.1.2.2.2.2.2.1 = x.1.2.2.2.2.2.1) ∧ Wr (x.1.2.2.2.2.2.2.1 =
 x.1.2.2.2.2.2.2.1) ∧ Wr (c100b x)) ∧ ∀ (x_1 : Int × Int × Int), Wr (RunRI x.1 x_1.1 x_1.2.1 x_1.2.2) → bcase (decide (x_1.2.2 < (8 : Int))) ((Wr (ZcI x.1 x_1.2.2 (0 : Int)) ∧ Wr ((0 : Int) = (0 : Int)) ∧ Wr (x_1.1 =
 x_1.1) ∧ Wr (x_1.2.1 = x_1.2.1) ∧ Wr (x_1.2.2 = x_1.2.2) ∧ Wr (x.1.1 = x.1.1) ∧ Wr (x.1.2.1 = x.1.2.1) ∧ Wr (x.1.2.2.1 = x.1.2.2.1) ∧ Wr (x.1.2.2.2.1 = x.1.2.2.2.1) ∧ Wr (x.1.2.2.2.2.1 = x.1.2.2.2.2.1) ∧ Wr
 (x.1.2.2.2.2.2.1 = x.1.2.2.2.2.2.1) ∧ Wr (x.1.2.2.2.2.2.2.1 = x.1.2.2.2.2.2.2.1) ∧ Wr (c100b x)) ∧ ∀ (x_2 : Int), Wr (ZcI x.1 x_1.2.2 x_2) → Wr (decide (IntKind.wrap IntKind.i64 (x_1.2.2 + x_2) < (8 : Int)) = true → (0 :
 Int) ≤ IntKind.wrap IntKind.i64 (x_1.2.2 + x_2)) ∧ Wr (decide (IntKind.wrap IntKind.i64 (x_1.2.2 + x_2) < (8 : Int)) = true → IntKind.wrap IntKind.i64 (x_1.2.2 + x_2) < (↑(8 : Nat) : Int)) ∧ bcase (decide (IntKind.wrap
 IntKind.i64 (x_1.2.2 + x_2) < (8 : Int)) && decide (List.getD (x.1.1 :: x.1.2.1 :: x.1.2.2.1 :: x.1.2.2.2.1 :: x.1.2.2.2.2.1 :: x.1.2.2.2.2.2.1 :: x.1.2.2.2.2.2.2.1 :: x.1.2.2.2.2.2.2.2.1 :: nilL Int) (Int.toNat
 (IntKind.wrap IntKind.i64 (x_1.2.2 + x_2))) (0 : Int) = (0 : Int))) (Wr (ZcI x.1 x_1.2.2 (IntKind.wrap IntKind.i64 (x_2 + (1 : Int)))) ∧ Wr ((8 : Nat) - Int.toNat (IntKind.wrap IntKind.i64 (x_2 + (1 : Int))) < (8 : Nat)
 - Int.toNat x_2) ∧ Wr (IntKind.wrap IntKind.i64 (x_2 + (1 : Int)) = IntKind.wrap IntKind.i64 (x_2 + (1 : Int))) ∧ Wr (x_1.1 = x_1.1) ∧ Wr (x_1.2.1 = x_1.2.1) ∧ Wr (x_1.2.2 = x_1.2.2) ∧ Wr (x.1.1 = x.1.1) ∧ Wr (x.1.2.1 =
 x.1.2.1) ∧ Wr (x.1.2.2.1 = x.1.2.2.1) ∧ Wr (x.1.2.2.2.1 = x.1.2.2.2.1) ∧ Wr (x.1.2.2.2.2.1 = x.1.2.2.2.2.1) ∧ Wr (x.1.2.2.2.2.2.1 = x.1.2.2.2.2.2.1) ∧ Wr (x.1.2.2.2.2.2.2.1 = x.1.2.2.2.2.2.2.1) ∧ Wr (c100b x)) (bcase
 (decide (x_2 > x_1.2.1)) (Wr (RunRI x.1 x_1.2.2 x_2 (c100a x_1)) ∧ Wr ((8 : Nat) - Int.toNat (c100a x_1) < (8 : Nat) - Int.toNat x_1.2.2) ∧ Wr (x_1.2.2 = x_1.2.2) ∧ Wr (x_2 = x_2) ∧ Wr (c100c x_1) ∧ Wr (x.1.1 = x.1.1) ∧
 Wr (x.1.2.1 = x.1.2.1) ∧ Wr (x.1.2.2.1 = x.1.2.2.1) ∧ Wr (x.1.2.2.2.1 = x.1.2.2.2.1) ∧ Wr (x.1.2.2.2.2.1 = x.1.2.2.2.2.1) ∧ Wr (x.1.2.2.2.2.2.1 = x.1.2.2.2.2.2.1) ∧ Wr (x.1.2.2.2.2.2.2.1 = x.1.2.2.2.2.2.2.1) ∧ Wr (c100b
 x)) (Wr (RunRI x.1 x_1.1 x_1.2.1 (c100a x_1)) ∧ Wr ((8 : Nat) - Int.toNat (c100a x_1) < (8 : Nat) - Int.toNat x_1.2.2) ∧ Wr (x_1.1 = x_1.1) ∧ Wr (x_1.2.1 = x_1.2.1) ∧ Wr (c100c x_1) ∧ Wr (x.1.1 = x.1.1) ∧ Wr (x.1.2.1 =
 x.1.2.1) ∧ Wr (x.1.2.2.1 = x.1.2.2.1) ∧ Wr (x.1.2.2.2.1 = x.1.2.2.2.1) ∧ Wr (x.1.2.2.2.2.1 = x.1.2.2.2.2.1) ∧ Wr (x.1.2.2.2.2.2.1 = x.1.2.2.2.2.2.1) ∧ Wr (x.1.2.2.2.2.2.2.1 = x.1.2.2.2.2.2.2.1) ∧ Wr (c100b x)))) ((x_1.1,
 x_1.2.1, ()) = (run1 x.1, run2 x.1, ()))) := by kernel_rfl
abbrev c76a (x : (Int × Int × Int × Int × Int × Int × Int × Int × Unit) × Unit) (x_1 : ByteArray × Int) := (List.getD (x.1.1 :: x.1.2.1 :: x.1.2.2.1 :: x.1.2.2.2.1 :: x.1.2.2.2.2.1 :: x.1.2.2.2.2.2.1 :: x.1.2.2.2.2.2.2.1
 :: x.1.2.2.2.2.2.2.2.1 :: nilL Int) (Int.toNat x_1.2) (0 : Int))
abbrev c76b := (List.toArray ((58 : UInt8) :: (58 : UInt8) :: nilL UInt8))
abbrev c76c := (List.toArray ((58 : UInt8) :: nilL UInt8))
abbrev c76d (x : (Int × Int × Int × Int × Int × Int × Int × Int × Unit) × Unit) (x_1 : ByteArray × Int) := (IntKind.wrap IntKind.i64 (IntKind.wrap IntKind.i64 (x_1.2 + run2 x.1) - (1 : Int)) + (1 : Int))
abbrev c76e (x : (Int × Int × Int × Int × Int × Int × Int × Int × Unit) × Unit) (x_1 : ByteArray × Int) := ((decide ((0 : Int) ≤ IntKind.wrap IntKind.i64 (c76a x x_1)) && decide (IntKind.wrap IntKind.i64 (c76a x x_1) ≤
 (65535 : Ty.El I64)) && (decide ((16 : Int) = (10 : Ty.El I64)) || decide ((16 : Int) = (16 : Ty.El I64)))) = true)
abbrev c76f := (List.toArray (nilL UInt8))
abbrev c76g (x : (Int × Int × Int × Int × Int × Int × Int × Int × Unit) × Unit) (x_1 : ByteArray × Int) := (IntKind.wrap IntKind.i64 (c76a x x_1))
abbrev c76h (x_1 : ByteArray × Int) := (IntKind.wrap IntKind.i64 (x_1.2 + (1 : Int)))
abbrev c76i (x_1 : ByteArray × Int) := (IntKind.wrap IntKind.i64 (x_1.2 + (1 : Int)) = IntKind.wrap IntKind.i64 (x_1.2 + (1 : Int)))
theorem v76_eq : vcFn g76 300 Tryd.f76 cSixS.T = (∀ (x : (Int × Int × Int × Int × Int × Int × Int × Int × Unit) × Unit), Wr (typedB (Ty.cons G8T Ty.unit) x = true ∧ true = true) → Wr (true = true) ∧ (Wr (SixRI x.1 (ByteArray.mk c76f) (0 : Int)) ∧ Wr (ByteArray.mk c76f =
 ByteArray.mk c76f) ∧ Wr ((0 : Int) = (0 : Int)) ∧ Wr (run1 x.1 = run1 x.1) ∧ Wr (run2 x.1 = run2 x.1) ∧ Wr (x.1.1 = x.1.1) ∧ Wr (x.1.2.1 = x.1.2.1) ∧ Wr (x.1.2.2.1 = x.1.2.2.1) ∧ Wr (x.1.2.2.2.1 = x.1.2.2.2.1) ∧ Wr
 (x.1.2.2.2.2.1 = x.1.2.2.2.2.1) ∧ Wr (x.1.2.2.2.2.2.1 = x.1.2.2.2.2.2.1) ∧ Wr (x.1.2.2.2.2.2.2.1 = x.1.2.2.2.2.2.2.1) ∧ Wr (x.1.2.2.2.2.2.2.2.1 = x.1.2.2.2.2.2.2.2.1)) ∧ ∀ (x_1 : ByteArray × Int), Wr (SixRI x.1 x_1.1
 x_1.2) → bcase (decide (x_1.2 < (8 : Int))) (bcase (decide (x_1.2 = run1 x.1)) (Wr (ByteArray.size x_1.1 + ByteArray.size (ByteArray.mk c76b) ≤ Go.maxLen) ∧ Wr (SixRI x.1 (x_1.1 ++ ByteArray.mk c76b) (IntKind.wrap
 IntKind.i64 (c76d x x_1))) ∧ Wr ((8 : Nat) - Int.toNat (IntKind.wrap IntKind.i64 (c76d x x_1)) < (8 : Nat) - Int.toNat x_1.2) ∧ Wr (x_1.1 ++ ByteArray.mk c76b = x_1.1 ++ ByteArray.mk c76b) ∧ Wr (IntKind.wrap IntKind.i64
 (c76d x x_1) = IntKind.wrap IntKind.i64 (c76d x x_1)) ∧ Wr (run1 x.1 = run1 x.1) ∧ Wr (run2 x.1 = run2 x.1) ∧ Wr (x.1.1 = x.1.1) ∧ Wr (x.1.2.1 = x.1.2.1) ∧ Wr (x.1.2.2.1 = x.1.2.2.1) ∧ Wr (x.1.2.2.2.1 = x.1.2.2.2.1) ∧ Wr
 (x.1.2.2.2.2.1 = x.1.2.2.2.2.1) ∧ Wr (x.1.2.2.2.2.2.1 = x.1.2.2.2.2.2.1) ∧ Wr (x.1.2.2.2.2.2.2.1 = x.1.2.2.2.2.2.2.1) ∧ Wr (x.1.2.2.2.2.2.2.2.1 = x.1.2.2.2.2.2.2.2.1)) (Wr ((!decide (x_1.1 = ByteArray.mk c76f)) = true →
 (0 : Int) ≤ IntKind.wrap IntKind.i64 ((↑(ByteArray.size x_1.1) : Int) - (1 : Int))) ∧ Wr ((!decide (x_1.1 = ByteArray.mk c76f)) = true → IntKind.wrap IntKind.i64 ((↑(ByteArray.size x_1.1) : Int) - (1 : Int)) <
 (↑(ByteArray.size x_1.1) : Int)) ∧ bcase (!decide (x_1.1 = ByteArray.mk c76f) && !decide (byteAt x_1.1 (Int.toNat (IntKind.wrap IntKind.i64 ((↑(ByteArray.size x_1.1) : Int) - (1 : Int)))) = (58 : Int))) (Wr
 (ByteArray.size x_1.1 + ByteArray.size (ByteArray.mk c76c) ≤ Go.maxLen) ∧ Wr ((0 : Int) ≤ x_1.2) ∧ Wr (x_1.2 < (↑(8 : Nat) : Int)) ∧ Wr (c76e x x_1) ∧ Wr (ByteArray.size (x_1.1 ++ ByteArray.mk c76c) + ByteArray.size (dgS
 (c76g x x_1) (16 : Int)) ≤ Go.maxLen) ∧ Wr (SixRI x.1 (x_1.1 ++ ByteArray.mk c76c ++ dgS (c76g x x_1) (16 : Int)) (c76h x_1)) ∧ Wr ((8 : Nat) - Int.toNat (c76h x_1) < (8 : Nat) - Int.toNat x_1.2) ∧ Wr (x_1.1 ++
 ByteArray.mk c76c ++ dgS (c76g x x_1) (16 : Int) = x_1.1 ++ ByteArray.mk c76c ++ dgS (c76g x x_1) (16 : Int)) ∧ Wr (c76i x_1) ∧ Wr (run1 x.1 = run1 x.1) ∧ Wr (run2 x.1 = run2 x.1) ∧ Wr (x.1.1 = x.1.1) ∧ Wr (x.1.2.1 =
 x.1.2.1) ∧ Wr (x.1.2.2.1 = x.1.2.2.1) ∧ Wr (x.1.2.2.2.1 = x.1.2.2.2.1) ∧ Wr (x.1.2.2.2.2.1 = x.1.2.2.2.2.1) ∧ Wr (x.1.2.2.2.2.2.1 = x.1.2.2.2.2.2.1) ∧ Wr (x.1.2.2.2.2.2.2.1 = x.1.2.2.2.2.2.2.1) ∧ Wr (x.1.2.2.2.2.2.2.2.1
 = x.1.2.2.2.2.2.2.2.1)) (Wr ((0 : Int) ≤ x_1.2) ∧ Wr (x_1.2 < (↑(8 : Nat) : Int)) ∧ Wr (c76e x x_1) ∧ Wr (ByteArray.size x_1.1 + ByteArray.size (dgS (c76g x x_1) (16 : Int)) ≤ Go.maxLen) ∧ Wr (SixRI x.1 (x_1.1 ++ dgS
 (c76g x x_1) (16 : Int)) (c76h x_1)) ∧ Wr ((8 : Nat) - Int.toNat (c76h x_1) < (8 : Nat) - Int.toNat x_1.2) ∧ Wr (x_1.1 ++ dgS (c76g x x_1) (16 : Int) = x_1.1 ++ dgS (c76g x x_1) (16 : Int)) ∧ Wr (c76i x_1) ∧ Wr (run1 x.1
 = run1 x.1) ∧ Wr (run2 x.1 = run2 x.1) ∧ Wr (x.1.1 = x.1.1) ∧ Wr (x.1.2.1 = x.1.2.1) ∧ Wr (x.1.2.2.1 = x.1.2.2.1) ∧ Wr (x.1.2.2.2.1 = x.1.2.2.2.1) ∧ Wr (x.1.2.2.2.2.1 = x.1.2.2.2.2.1) ∧ Wr (x.1.2.2.2.2.2.1 =
 x.1.2.2.2.2.2.1) ∧ Wr (x.1.2.2.2.2.2.2.1 = x.1.2.2.2.2.2.2.1) ∧ Wr (x.1.2.2.2.2.2.2.2.1 = x.1.2.2.2.2.2.2.2.1)))) ((x_1.1, ()) = (sixS x.1, ()))) := by kernel_rfl
abbrev c45a := (List.toArray ((46 : UInt8) :: nilL UInt8))
abbrev c45e (x : (Int × (Int × Int × Int × Int × Int × Int × Int × Int × Unit) × Int × Unit) × Unit) := (IntKind.wrap IntKind.i64 x.1.2.1.1)
abbrev c45b (x : (Int × (Int × Int × Int × Int × Int × Int × Int × Int × Unit) × Int × Unit) × Unit) := (IntKind.wrap IntKind.i64 (Int.tdiv (c45e x) (256 : Int)))
abbrev c45c := (decide ((10 : Int) = (10 : Ty.El I64)) || decide ((10 : Int) = (16 : Ty.El I64)))
abbrev c45d (x : (Int × (Int × Int × Int × Int × Int × Int × Int × Int × Unit) × Int × Unit) × Unit) := (IntKind.wrap IntKind.i64 x.1.2.1.2.1)
abbrev c45f := (List.toArray ((58 : UInt8) :: nilL UInt8))
abbrev c45g := (List.toArray ((91 : UInt8) :: nilL UInt8))
abbrev c45h (x : (Int × (Int × Int × Int × Int × Int × Int × Int × Int × Unit) × Int × Unit) × Unit) := (IntKind.wrap IntKind.i64 (Int.tdiv (c45d x) (256 : Int)))
abbrev c45i := (List.toArray ((93 : UInt8) :: nilL UInt8))
abbrev c45j := ((256 : Int) ≠ (0 : Int))
theorem v45_eq : vcFn g45 300 Tryd.f45 cText.T = (∀ (x : (Int × (Int × Int × Int × Int × Int × Int × Int × Int × Unit) × Int × Unit) × Unit), Wr (typedB (Ty.cons AdT Ty.unit) x = true ∧ true = true) → Wr (true = true) ∧ bcase (!Go.Ad.may1 x.1) ((ByteArray.mk
 (List.toArray (nilL UInt8)), (20 : Int), ()) = (Go.Ad.text1 x.1, Go.Ad.text2 x.1, ())) (Wr ((decide ((0 : Int) ≤ x.1.2.2.1) && decide (x.1.2.2.1 ≤ (65535 : Ty.El I64)) && c45c) = true) ∧ Wr (ByteArray.size (ByteArray.mk
 c45f) + ByteArray.size (dgS x.1.2.2.1 (10 : Int)) ≤ Go.maxLen) ∧ bcase (decide (x.1.1 = (6 : Int))) (Wr (true = true) ∧ Wr (ByteArray.size (ByteArray.mk c45g) + ByteArray.size (sixS x.1.2.1) ≤ Go.maxLen) ∧ Wr
 (ByteArray.size (ByteArray.mk c45g ++ sixS x.1.2.1) + ByteArray.size (ByteArray.mk c45i) ≤ Go.maxLen) ∧ Wr (ByteArray.size (ByteArray.mk c45g ++ sixS x.1.2.1 ++ ByteArray.mk c45i) + ByteArray.size (ByteArray.mk c45f ++
 dgS x.1.2.2.1 (10 : Int)) ≤ Go.maxLen) ∧ (ByteArray.mk c45g ++ sixS x.1.2.1 ++ ByteArray.mk c45i ++ (ByteArray.mk c45f ++ dgS x.1.2.2.1 (10 : Int)), (0 : Int), ()) = (Go.Ad.text1 x.1, Go.Ad.text2 x.1, ())) (Wr c45j ∧ Wr
 ((decide ((0 : Int) ≤ IntKind.wrap IntKind.i64 (Int.tdiv (c45e x) (256 : Int))) && decide (IntKind.wrap IntKind.i64 (Int.tdiv (c45e x) (256 : Int)) ≤ (65535 : Ty.El I64)) && c45c) = true) ∧ Wr (ByteArray.size (dgS (c45b
 x) (10 : Int)) + ByteArray.size (ByteArray.mk c45a) ≤ Go.maxLen) ∧ Wr c45j ∧ Wr ((decide ((0 : Int) ≤ Int.tmod (c45e x) (256 : Int)) && decide (Int.tmod (c45e x) (256 : Int) ≤ (65535 : Ty.El I64)) && c45c) = true) ∧ Wr
 (ByteArray.size (dgS (c45b x) (10 : Int) ++ ByteArray.mk c45a) + ByteArray.size (dgS (Int.tmod (c45e x) (256 : Int)) (10 : Int)) ≤ Go.maxLen) ∧ Wr (ByteArray.size (dgS (c45b x) (10 : Int) ++ ByteArray.mk c45a ++ dgS
 (Int.tmod (c45e x) (256 : Int)) (10 : Int)) + ByteArray.size (ByteArray.mk c45a) ≤ Go.maxLen) ∧ Wr c45j ∧ Wr ((decide ((0 : Int) ≤ IntKind.wrap IntKind.i64 (Int.tdiv (c45d x) (256 : Int))) && decide (IntKind.wrap
 IntKind.i64 (Int.tdiv (c45d x) (256 : Int)) ≤ (65535 : Ty.El I64)) && c45c) = true) ∧ Wr (ByteArray.size (dgS (c45b x) (10 : Int) ++ ByteArray.mk c45a ++ dgS (Int.tmod (c45e x) (256 : Int)) (10 : Int) ++ ByteArray.mk
 c45a) + ByteArray.size (dgS (c45h x) (10 : Int)) ≤ Go.maxLen) ∧ Wr (ByteArray.size (dgS (c45b x) (10 : Int) ++ ByteArray.mk c45a ++ dgS (Int.tmod (c45e x) (256 : Int)) (10 : Int) ++ ByteArray.mk c45a ++ dgS (c45h x) (10
 : Int)) + ByteArray.size (ByteArray.mk c45a) ≤ Go.maxLen) ∧ Wr c45j ∧ Wr ((decide ((0 : Int) ≤ Int.tmod (c45d x) (256 : Int)) && decide (Int.tmod (c45d x) (256 : Int) ≤ (65535 : Ty.El I64)) && c45c) = true) ∧ Wr
 (ByteArray.size (dgS (c45b x) (10 : Int) ++ ByteArray.mk c45a ++ dgS (Int.tmod (c45e x) (256 : Int)) (10 : Int) ++ ByteArray.mk c45a ++ dgS (c45h x) (10 : Int) ++ ByteArray.mk c45a) + ByteArray.size (dgS (Int.tmod (c45d
 x) (256 : Int)) (10 : Int)) ≤ Go.maxLen) ∧ Wr (ByteArray.size (dgS (c45b x) (10 : Int) ++ ByteArray.mk c45a ++ dgS (Int.tmod (c45e x) (256 : Int)) (10 : Int) ++ ByteArray.mk c45a ++ dgS (c45h x) (10 : Int) ++
 ByteArray.mk c45a ++ dgS (Int.tmod (c45d x) (256 : Int)) (10 : Int)) + ByteArray.size (ByteArray.mk c45f ++ dgS x.1.2.2.1 (10 : Int)) ≤ Go.maxLen) ∧ (dgS (c45b x) (10 : Int) ++ ByteArray.mk c45a ++ dgS (Int.tmod (c45e x)
 (256 : Int)) (10 : Int) ++ ByteArray.mk c45a ++ dgS (c45h x) (10 : Int) ++ ByteArray.mk c45a ++ dgS (Int.tmod (c45d x) (256 : Int)) (10 : Int) ++ (ByteArray.mk c45f ++ dgS x.1.2.2.1 (10 : Int)), (0 : Int), ()) =
 (Go.Ad.text1 x.1, Go.Ad.text2 x.1, ())))) := by kernel_rfl
abbrev c77a (x : ByteArray × Int × Unit) := (↑(ByteArray.size x.1) : Int)
abbrev c77b (x : ByteArray × Int × Unit) (x_1 : Int × Int) := (IntKind.wrap IntKind.i64 (x_1.1 * (10 : Int)) + IntKind.wrap IntKind.i64 (IntKind.wrap IntKind.u8 (byteAt x.1 (Int.toNat x_1.2) - (48 : Int))))
abbrev c77c (x : ByteArray × Int × Unit) := (!(decide ((c77a x) < (1 : Int)) || decide ((c77a x) > (5 : Int))) && decide ((c77a x) > (1 : Int)))
theorem v77_eq : vcFn g77 300 Tryd.f77 cNum = (∀ (x : ByteArray × Int × Unit), Wr (szOk x.1 = true) → Wr ((c77c x) = true → (0 : Int) ≤ (0 : Int)) ∧ Wr ((c77c x) = true → (0 : Int) < (c77a x)) ∧ bcase (decide ((c77a x) < (1 : Int)) || decide ((c77a x) > (5 : Int)) ||
 decide ((c77a x) > (1 : Int)) && decide (byteAt x.1 (Int.toNat (0 : Int)) = (48 : Int))) (((0 : Int), false, ()) = (Go.Ad.num1 x.1 x.2.1, Go.Ad.num2 x.1 x.2.1, ())) ((Wr (DecRI x.1 (0 : Int) (0 : Int)) ∧ Wr ((0 : Int) =
 (0 : Int)) ∧ Wr ((0 : Int) = (0 : Int)) ∧ Wr (x.1 = x.1) ∧ Wr (x.2.1 = x.2.1)) ∧ ∀ (x_1 : Int × Int), Wr (DecRI x.1 x_1.1 x_1.2) → bcase (decide (x_1.2 < (c77a x))) (Wr ((0 : Int) ≤ x_1.2) ∧ Wr (x_1.2 < (c77a x)) ∧ Wr
 ((!decide (byteAt x.1 (Int.toNat x_1.2) < (48 : Int))) = true → (0 : Int) ≤ x_1.2) ∧ Wr ((!decide (byteAt x.1 (Int.toNat x_1.2) < (48 : Int))) = true → x_1.2 < (c77a x)) ∧ bcase (decide (byteAt x.1 (Int.toNat x_1.2) <
 (48 : Int)) || decide (byteAt x.1 (Int.toNat x_1.2) > (57 : Int))) (((0 : Int), false, ()) = (Go.Ad.num1 x.1 x.2.1, Go.Ad.num2 x.1 x.2.1, ())) (Wr ((0 : Int) ≤ x_1.2) ∧ Wr (x_1.2 < (c77a x)) ∧ Wr (DecRI x.1 (IntKind.wrap
 IntKind.i64 (c77b x x_1)) (IntKind.wrap IntKind.i64 (x_1.2 + (1 : Int)))) ∧ Wr (ByteArray.size x.1 - Int.toNat (IntKind.wrap IntKind.i64 (x_1.2 + (1 : Int))) < ByteArray.size x.1 - Int.toNat x_1.2) ∧ Wr (IntKind.wrap
 IntKind.i64 (c77b x x_1) = IntKind.wrap IntKind.i64 (c77b x x_1)) ∧ Wr (IntKind.wrap IntKind.i64 (x_1.2 + (1 : Int)) = IntKind.wrap IntKind.i64 (x_1.2 + (1 : Int))) ∧ Wr (x.1 = x.1) ∧ Wr (x.2.1 = x.2.1))) ((x_1.1, decide
 (x_1.1 ≤ x.2.1), ()) = (Go.Ad.num1 x.1 x.2.1, Go.Ad.num2 x.1 x.2.1, ())))) := by kernel_rfl
abbrev c122a (x : ByteArray × Unit) (x_1 : Int × Int) := (IntKind.wrap IntKind.i64 (IntKind.wrap IntKind.i64 (x_1.1 * (16 : Int)) + IntKind.wrap IntKind.i64 (IntKind.wrap IntKind.u8 (byteAt x.1 (Int.toNat x_1.2) - (97 :
 Int)))) + (10 : Int))
abbrev c122b (x : ByteArray × Unit) (x_1 : Int × Int) := (IntKind.wrap IntKind.i64 (IntKind.wrap IntKind.i64 (x_1.1 * (16 : Int)) + IntKind.wrap IntKind.i64 (IntKind.wrap IntKind.u8 (byteAt x.1 (Int.toNat x_1.2) - (65 :
 Int)))) + (10 : Int))
abbrev c122c (x : ByteArray × Unit) (x_1 : Int × Int) := (IntKind.wrap IntKind.i64 (x_1.1 * (16 : Int)) + IntKind.wrap IntKind.i64 (IntKind.wrap IntKind.u8 (byteAt x.1 (Int.toNat x_1.2) - (48 : Int))))
abbrev c122f (x_1 : Int × Int) := (IntKind.wrap IntKind.i64 (x_1.2 + (1 : Int)))
abbrev c122d (x : ByteArray × Unit) (x_1 : Int × Int) := (ByteArray.size x.1 - Int.toNat (c122f x_1) < ByteArray.size x.1 - Int.toNat x_1.2)
abbrev c122e (x_1 : Int × Int) := (IntKind.wrap IntKind.i64 (x_1.2 + (1 : Int)) = IntKind.wrap IntKind.i64 (x_1.2 + (1 : Int)))
theorem v122_eq : vcFn g122 300 Tryd.f122 cHexR = (∀ (x : ByteArray × Unit), Wr (szOk x.1 = true) → bcase (decide ((↑(ByteArray.size x.1) : Int) < (1 : Int)) || decide ((↑(ByteArray.size x.1) : Int) > (4 : Int))) (((0 : Int), false, ()) = (hx1 x.1, Go.Ad.grp2 x.1, ()))
 ((Wr (HexRI x.1 (0 : Int) (0 : Int)) ∧ Wr ((0 : Int) = (0 : Int)) ∧ Wr ((0 : Int) = (0 : Int)) ∧ Wr (x.1 = x.1)) ∧ ∀ (x_1 : Int × Int), Wr (HexRI x.1 x_1.1 x_1.2) → bcase (decide (x_1.2 < (↑(ByteArray.size x.1) : Int)))
 (Wr ((0 : Int) ≤ x_1.2) ∧ Wr (x_1.2 < (↑(ByteArray.size x.1) : Int)) ∧ bcase (decide (byteAt x.1 (Int.toNat x_1.2) ≥ (48 : Int)) && decide (byteAt x.1 (Int.toNat x_1.2) ≤ (57 : Int))) (Wr (HexRI x.1 (IntKind.wrap
 IntKind.i64 (c122c x x_1)) (c122f x_1)) ∧ Wr (c122d x x_1) ∧ Wr (IntKind.wrap IntKind.i64 (c122c x x_1) = IntKind.wrap IntKind.i64 (c122c x x_1)) ∧ Wr (c122e x_1) ∧ Wr (x.1 = x.1)) (bcase (decide (byteAt x.1 (Int.toNat
 x_1.2) ≥ (97 : Int)) && decide (byteAt x.1 (Int.toNat x_1.2) ≤ (102 : Int))) (Wr (HexRI x.1 (IntKind.wrap IntKind.i64 (c122a x x_1)) (c122f x_1)) ∧ Wr (c122d x x_1) ∧ Wr (IntKind.wrap IntKind.i64 (c122a x x_1) =
 IntKind.wrap IntKind.i64 (c122a x x_1)) ∧ Wr (c122e x_1) ∧ Wr (x.1 = x.1)) (bcase (decide (byteAt x.1 (Int.toNat x_1.2) ≥ (65 : Int)) && decide (byteAt x.1 (Int.toNat x_1.2) ≤ (70 : Int))) (Wr (HexRI x.1 (IntKind.wrap
 IntKind.i64 (c122b x x_1)) (c122f x_1)) ∧ Wr (c122d x x_1) ∧ Wr (IntKind.wrap IntKind.i64 (c122b x x_1) = IntKind.wrap IntKind.i64 (c122b x x_1)) ∧ Wr (c122e x_1) ∧ Wr (x.1 = x.1)) (((0 : Int), false, ()) = (hx1 x.1,
 Go.Ad.grp2 x.1, ()))))) ((IntKind.wrap IntKind.u16 x_1.1, true, ()) = (hx1 x.1, Go.Ad.grp2 x.1, ())))) := by kernel_rfl
abbrev c60a (x_1 : List ByteArray × Int × Int) := (IntKind.wrap IntKind.i64 (x_1.2.2 + (1 : Int)) = IntKind.wrap IntKind.i64 (x_1.2.2 + (1 : Int)))
abbrev c60b (x : ByteArray × Int × Unit) := (↑(ByteArray.size x.1) : Int)
abbrev c60c (x_1 : List ByteArray × Int × Int) := (IntKind.wrap IntKind.i64 (x_1.2.2 + (1 : Int)))
theorem v60_eq : vcFn g60 300 Tryd.f60 cCutR = (∀ (x : ByteArray × Int × Unit), Wr ((szOk x.1 && decide ((0 : Int) ≤ x.2.1) && decide (x.2.1 < (256 : Ty.El U8))) = true) → (Wr (CutRI x.1 x.2.1 (nilL ByteArray) (0 : Int) (0 : Int)) ∧ Wr ((0 : Int) = (0 : Int)) ∧ Wr ((0
 : Int) = (0 : Int)) ∧ Wr (x.1 = x.1) ∧ Wr (x.2.1 = x.2.1) ∧ Wr (nilL ByteArray = nilL ByteArray)) ∧ ∀ (x_1 : List ByteArray × Int × Int), Wr (CutRI x.1 x.2.1 x_1.1 x_1.2.1 x_1.2.2) → bcase (decide (x_1.2.2 < (c60b x)))
 (Wr ((0 : Int) ≤ x_1.2.2) ∧ Wr (x_1.2.2 < (c60b x)) ∧ bcase (decide (byteAt x.1 (Int.toNat x_1.2.2) = x.2.1)) (Wr ((0 : Int) ≤ x_1.2.1) ∧ Wr (x_1.2.1 ≤ x_1.2.2) ∧ Wr (x_1.2.2 ≤ (c60b x)) ∧ Wr ((List.length x_1.1 +
 List.length (subS x.1 (Int.toNat x_1.2.1) (Int.toNat x_1.2.2) :: nilL ByteArray)) * (16 : Nat) ≤ (140737488355328 : Nat)) ∧ Wr (CutRI x.1 x.2.1 (x_1.1 ++ subS x.1 (Int.toNat x_1.2.1) (Int.toNat x_1.2.2) :: nilL
 ByteArray) (c60c x_1) (c60c x_1)) ∧ Wr (ByteArray.size x.1 - Int.toNat (c60c x_1) < ByteArray.size x.1 - Int.toNat x_1.2.2) ∧ Wr (c60a x_1) ∧ Wr (c60a x_1) ∧ Wr (x.1 = x.1) ∧ Wr (x.2.1 = x.2.1) ∧ Wr (x_1.1 ++ subS x.1
 (Int.toNat x_1.2.1) (Int.toNat x_1.2.2) :: nilL ByteArray = x_1.1 ++ subS x.1 (Int.toNat x_1.2.1) (Int.toNat x_1.2.2) :: nilL ByteArray)) (Wr (CutRI x.1 x.2.1 x_1.1 x_1.2.1 (c60c x_1)) ∧ Wr (ByteArray.size x.1 -
 Int.toNat (c60c x_1) < ByteArray.size x.1 - Int.toNat x_1.2.2) ∧ Wr (x_1.2.1 = x_1.2.1) ∧ Wr (c60a x_1) ∧ Wr (x.1 = x.1) ∧ Wr (x.2.1 = x.2.1) ∧ Wr (x_1.1 = x_1.1))) (Wr ((0 : Int) ≤ x_1.2.1) ∧ Wr (x_1.2.1 ≤ (c60b x)) ∧
 Wr ((c60b x) ≤ (c60b x)) ∧ Wr ((List.length x_1.1 + List.length (subS x.1 (Int.toNat x_1.2.1) (Int.toNat (c60b x)) :: nilL ByteArray)) * (16 : Nat) ≤ (140737488355328 : Nat)) ∧ (x_1.1 ++ subS x.1 (Int.toNat x_1.2.1)
 (Int.toNat (c60b x)) :: nilL ByteArray, ()) = (cutC x.1 x.2.1, ()))) := by kernel_rfl
abbrev c101a (x : ByteArray × Unit) (x_1 : List Int × Int) := (List.getD (cutC x.1 (58 : Int)) (Int.toNat x_1.2) (Ty.zero Ty.str))
theorem v101_eq : vcFn g101 300 Tryd.f101 cSide = (∀ (x : ByteArray × Unit), Wr (szOk x.1 = true) → bcase (decide (x.1 = ByteArray.mk (List.toArray (nilL UInt8)))) ((nilL Int, true, ()) = (Go.Ad.side1 x.1, Go.Ad.side2 x.1, ())) (Wr ((szOk x.1 && decide ((0 : Int) ≤ (58 :
 Int)) && decide ((58 : Int) < (256 : Ty.El U8))) = true) ∧ (Wr (GoI Go.Ad.grpO (cutC x.1 (58 : Int)) (nilL Int) (0 : Int)) ∧ Wr ((0 : Int) = (0 : Int)) ∧ Wr (cutC x.1 (58 : Int) = cutC x.1 (58 : Int)) ∧ Wr (nilL Int =
 nilL Int)) ∧ ∀ (x_1 : List Int × Int), Wr (GoI Go.Ad.grpO (cutC x.1 (58 : Int)) x_1.1 x_1.2) → bcase (decide (x_1.2 < (↑(List.length (cutC x.1 (58 : Int))) : Int))) (Wr ((0 : Int) ≤ x_1.2) ∧ Wr (x_1.2 < (↑(List.length
 (cutC x.1 (58 : Int))) : Int)) ∧ Wr (true = true) ∧ Wr (szOk (c101a x x_1) = true) ∧ bcase (!Go.Ad.grp2 (c101a x x_1)) ((nilL Int, false, ()) = (Go.Ad.side1 x.1, Go.Ad.side2 x.1, ())) (Wr ((List.length x_1.1 +
 List.length (hx1 (c101a x x_1) :: nilL Int)) * (2 : Nat) ≤ (140737488355328 : Nat)) ∧ Wr (GoI Go.Ad.grpO (cutC x.1 (58 : Int)) (x_1.1 ++ hx1 (c101a x x_1) :: nilL Int) (IntKind.wrap IntKind.i64 (x_1.2 + (1 : Int)))) ∧ Wr
 (List.length (cutC x.1 (58 : Int)) - Int.toNat (IntKind.wrap IntKind.i64 (x_1.2 + (1 : Int))) < List.length (cutC x.1 (58 : Int)) - Int.toNat x_1.2) ∧ Wr (IntKind.wrap IntKind.i64 (x_1.2 + (1 : Int)) = IntKind.wrap
 IntKind.i64 (x_1.2 + (1 : Int))) ∧ Wr (cutC x.1 (58 : Int) = cutC x.1 (58 : Int)) ∧ Wr (x_1.1 ++ hx1 (c101a x x_1) :: nilL Int = x_1.1 ++ hx1 (c101a x x_1) :: nilL Int))) ((x_1.1, true, ()) = (Go.Ad.side1 x.1,
 Go.Ad.side2 x.1, ())))) := by kernel_rfl
abbrev c78i := ((0 : Int) :: (0 : Int) :: (0 : Int) :: (0 : Int) :: (0 : Int) :: (0 : Int) :: (0 : Int) :: (0 : Int) :: nilL Int)
abbrev c78k (x : ByteArray × Unit) (x_1 : Int × Int) := (subS x.1 (Int.toNat (0 : Int)) (Int.toNat x_1.1))
abbrev c78b (x : ByteArray × Unit) (x_1 : Int × Int) := (cpL c78i (Int.toNat (0 : Int)) (Int.toNat (↑(8 : Nat) : Int) - Int.toNat (0 : Int)) (Go.Ad.side1 (c78k x x_1)))
abbrev c78e (x : ByteArray × Unit) := (↑(ByteArray.size x.1) : Int)
abbrev c78d (x : ByteArray × Unit) (x_1 : Int × Int) := (subS x.1 (Int.toNat (IntKind.wrap IntKind.i64 (x_1.1 + (2 : Int)))) (Int.toNat (c78e x)))
abbrev c78h (x : ByteArray × Unit) (x_1 : Int × Int) := ((8 : Int) - (↑(List.length (Go.Ad.side1 (c78d x x_1))) : Int))
abbrev c78a (x : ByteArray × Unit) (x_1 : Int × Int) := (cpL (List.getD (c78b x x_1) (0 : Nat) (0 : Int) :: List.getD (c78b x x_1) (1 : Nat) (0 : Int) :: List.getD (c78b x x_1) (2 : Nat) (0 : Int) :: List.getD (c78b x
 x_1) (3 : Nat) (0 : Int) :: List.getD (c78b x x_1) (4 : Nat) (0 : Int) :: List.getD (c78b x x_1) (5 : Nat) (0 : Int) :: List.getD (c78b x x_1) (6 : Nat) (0 : Int) :: List.getD (c78b x x_1) (7 : Nat) (0 : Int) :: nilL
 Int) (Int.toNat (IntKind.wrap IntKind.i64 (c78h x x_1))) (Int.toNat (↑(8 : Nat) : Int) - Int.toNat (IntKind.wrap IntKind.i64 (c78h x x_1))) (Go.Ad.side1 (c78d x x_1)))
abbrev c78c (x : ByteArray × Unit) := (cpL c78i (Int.toNat (0 : Int)) (Int.toNat (↑(8 : Nat) : Int) - Int.toNat (0 : Int)) (Go.Ad.side1 x.1))
abbrev c78f (x_1 : Int × Int) := (IntKind.wrap IntKind.i64 (x_1.2 + (1 : Int)))
abbrev c78g (x : ByteArray × Unit) := ((((0 : Int), (0 : Int), (0 : Int), (0 : Int), (0 : Int), (0 : Int), (0 : Int), (0 : Int), ()), false, ()) = (Go.Ad.six1 x.1, Go.Ad.six2 x.1, ()))
abbrev c78j := ((↑(8 : Nat) : Int) ≤ (↑(8 : Nat) : Int))
abbrev c78l (x_1 : Int × Int) := (IntKind.wrap IntKind.i64 (x_1.2 + (1 : Int)) = IntKind.wrap IntKind.i64 (x_1.2 + (1 : Int)))
theorem v78_eq : vcFn g78 300 Tryd.f78 cSix = (∀ (x : ByteArray × Unit), Wr (szOk x.1 = true) → (Wr (FindI x.1 (-1 : Int) (0 : Int)) ∧ Wr ((-1 : Int) = (-1 : Int)) ∧ Wr ((0 : Int) = (0 : Int)) ∧ Wr (x.1 = x.1) ∧ Wr ((0 : Int) = (0 : Int)) ∧ Wr ((0 : Int) = (0 : Int))
 ∧ Wr ((0 : Int) = (0 : Int)) ∧ Wr ((0 : Int) = (0 : Int)) ∧ Wr ((0 : Int) = (0 : Int)) ∧ Wr ((0 : Int) = (0 : Int)) ∧ Wr ((0 : Int) = (0 : Int)) ∧ Wr ((0 : Int) = (0 : Int)) ∧ Wr ((0 : Int) = (0 : Int)) ∧ Wr ((0 : Int) =
 (0 : Int)) ∧ Wr ((0 : Int) = (0 : Int)) ∧ Wr ((0 : Int) = (0 : Int)) ∧ Wr ((0 : Int) = (0 : Int)) ∧ Wr ((0 : Int) = (0 : Int)) ∧ Wr ((0 : Int) = (0 : Int)) ∧ Wr ((0 : Int) = (0 : Int))) ∧ ∀ (x_1 : Int × Int), Wr (FindI
 x.1 x_1.1 x_1.2) → bcase (decide (IntKind.wrap IntKind.i64 (x_1.2 + (1 : Int)) < (c78e x)) && decide (x_1.1 < (0 : Int))) (Wr ((0 : Int) ≤ x_1.2) ∧ Wr (x_1.2 < (c78e x)) ∧ Wr (decide (byteAt x.1 (Int.toNat x_1.2) = (58 :
 Int)) = true → (0 : Int) ≤ IntKind.wrap IntKind.i64 (x_1.2 + (1 : Int))) ∧ Wr (decide (byteAt x.1 (Int.toNat x_1.2) = (58 : Int)) = true → IntKind.wrap IntKind.i64 (x_1.2 + (1 : Int)) < (c78e x)) ∧ bcase (decide (byteAt
 x.1 (Int.toNat x_1.2) = (58 : Int)) && decide (byteAt x.1 (Int.toNat (c78f x_1)) = (58 : Int))) (Wr (FindI x.1 x_1.2 (c78f x_1)) ∧ Wr (ByteArray.size x.1 - Int.toNat (c78f x_1) < ByteArray.size x.1 - Int.toNat x_1.2) ∧
 Wr (x_1.2 = x_1.2) ∧ Wr (c78l x_1) ∧ Wr (x.1 = x.1) ∧ Wr ((0 : Int) = (0 : Int)) ∧ Wr ((0 : Int) = (0 : Int)) ∧ Wr ((0 : Int) = (0 : Int)) ∧ Wr ((0 : Int) = (0 : Int)) ∧ Wr ((0 : Int) = (0 : Int)) ∧ Wr ((0 : Int) = (0 :
 Int)) ∧ Wr ((0 : Int) = (0 : Int)) ∧ Wr ((0 : Int) = (0 : Int)) ∧ Wr ((0 : Int) = (0 : Int)) ∧ Wr ((0 : Int) = (0 : Int)) ∧ Wr ((0 : Int) = (0 : Int)) ∧ Wr ((0 : Int) = (0 : Int)) ∧ Wr ((0 : Int) = (0 : Int)) ∧ Wr ((0 :
 Int) = (0 : Int)) ∧ Wr ((0 : Int) = (0 : Int)) ∧ Wr ((0 : Int) = (0 : Int))) (Wr (FindI x.1 x_1.1 (c78f x_1)) ∧ Wr (ByteArray.size x.1 - Int.toNat (c78f x_1) < ByteArray.size x.1 - Int.toNat x_1.2) ∧ Wr (x_1.1 = x_1.1) ∧
 Wr (c78l x_1) ∧ Wr (x.1 = x.1) ∧ Wr ((0 : Int) = (0 : Int)) ∧ Wr ((0 : Int) = (0 : Int)) ∧ Wr ((0 : Int) = (0 : Int)) ∧ Wr ((0 : Int) = (0 : Int)) ∧ Wr ((0 : Int) = (0 : Int)) ∧ Wr ((0 : Int) = (0 : Int)) ∧ Wr ((0 : Int)
 = (0 : Int)) ∧ Wr ((0 : Int) = (0 : Int)) ∧ Wr ((0 : Int) = (0 : Int)) ∧ Wr ((0 : Int) = (0 : Int)) ∧ Wr ((0 : Int) = (0 : Int)) ∧ Wr ((0 : Int) = (0 : Int)) ∧ Wr ((0 : Int) = (0 : Int)) ∧ Wr ((0 : Int) = (0 : Int)) ∧ Wr
 ((0 : Int) = (0 : Int)) ∧ Wr ((0 : Int) = (0 : Int)))) (bcase (decide (x_1.1 < (0 : Int))) (Wr (szOk x.1 = true) ∧ bcase (!Go.Ad.side2 x.1 || !decide ((↑(List.length (Go.Ad.side1 x.1)) : Int) = (8 : Int))) (c78g x) (Wr
 ((0 : Int) ≤ (0 : Int)) ∧ Wr ((0 : Int) ≤ (↑(8 : Nat) : Int)) ∧ Wr c78j ∧ ((List.getD (c78c x) (0 : Nat) (0 : Int), List.getD (c78c x) (1 : Nat) (0 : Int), List.getD (c78c x) (2 : Nat) (0 : Int), List.getD (c78c x) (3 :
 Nat) (0 : Int), List.getD (c78c x) (4 : Nat) (0 : Int), List.getD (c78c x) (5 : Nat) (0 : Int), List.getD (c78c x) (6 : Nat) (0 : Int), List.getD (c78c x) (7 : Nat) (0 : Int), ()), true, ()) = (Go.Ad.six1 x.1, Go.Ad.six2
 x.1, ()))) (Wr ((0 : Int) ≤ (0 : Int)) ∧ Wr ((0 : Int) ≤ x_1.1) ∧ Wr (x_1.1 ≤ (c78e x)) ∧ Wr (szOk (c78k x x_1) = true) ∧ Wr ((0 : Int) ≤ IntKind.wrap IntKind.i64 (x_1.1 + (2 : Int))) ∧ Wr (IntKind.wrap IntKind.i64
 (x_1.1 + (2 : Int)) ≤ (c78e x)) ∧ Wr ((c78e x) ≤ (c78e x)) ∧ Wr (szOk (c78d x x_1) = true) ∧ bcase (!Go.Ad.side2 (c78k x x_1) || !Go.Ad.side2 (c78d x x_1) || decide (IntKind.wrap IntKind.i64 ((↑(List.length (Go.Ad.side1
 (c78k x x_1))) : Int) + (↑(List.length (Go.Ad.side1 (c78d x x_1))) : Int)) > (7 : Int))) (c78g x) (Wr ((0 : Int) ≤ (0 : Int)) ∧ Wr ((0 : Int) ≤ (↑(8 : Nat) : Int)) ∧ Wr c78j ∧ Wr ((0 : Int) ≤ IntKind.wrap IntKind.i64
 (c78h x x_1)) ∧ Wr (IntKind.wrap IntKind.i64 (c78h x x_1) ≤ (↑(8 : Nat) : Int)) ∧ Wr c78j ∧ ((List.getD (c78a x x_1) (0 : Nat) (0 : Int), List.getD (c78a x x_1) (1 : Nat) (0 : Int), List.getD (c78a x x_1) (2 : Nat) (0 :
 Int), List.getD (c78a x x_1) (3 : Nat) (0 : Int), List.getD (c78a x x_1) (4 : Nat) (0 : Int), List.getD (c78a x x_1) (5 : Nat) (0 : Int), List.getD (c78a x x_1) (6 : Nat) (0 : Int), List.getD (c78a x x_1) (7 : Nat) (0 :
 Int), ()), true, ()) = (Go.Ad.six1 x.1, Go.Ad.six2 x.1, ()))))) := by kernel_rfl
abbrev c46j (x_2 : (Int × (Int × Int × Int × Int × Int × Int × Int × Int × Unit) × Int × Unit) × Int) := (x_2.1.2.1.1 :: x_2.1.2.1.2.1 :: x_2.1.2.1.2.2.1 :: x_2.1.2.1.2.2.2.1 :: x_2.1.2.1.2.2.2.2.1 ::
 x_2.1.2.1.2.2.2.2.2.1 :: x_2.1.2.1.2.2.2.2.2.2.1 :: x_2.1.2.1.2.2.2.2.2.2.2.1 :: nilL Int)
abbrev c46d (x : ByteArray × Unit) (x_1 : Int × Int) := (subS x.1 (Int.toNat (0 : Int)) (Int.toNat x_1.1))
abbrev c46k (x : ByteArray × Unit) (x_1 : Int × Int) := (cutC (c46d x x_1) (46 : Int))
abbrev c46a (x : ByteArray × Unit) (x_1 : Int × Int) (x_2 : (Int × (Int × Int × Int × Int × Int × Int × Int × Int × Unit) × Int × Unit) × Int) := (List.set (c46j x_2) (Int.toNat (IntKind.wrap IntKind.i64 (Int.tdiv x_2.2
 (2 : Int)))) (IntKind.wrap IntKind.u16 (IntKind.wrap IntKind.u16 (List.getD (c46j x_2) (Int.toNat (IntKind.wrap IntKind.i64 (Int.tdiv x_2.2 (2 : Int)))) (0 : Int) * (256 : Int)) + IntKind.wrap IntKind.u16 (Go.Ad.num1
 (List.getD (c46k x x_1) (Int.toNat x_2.2) (Ty.zero Ty.str)) (255 : Int)))))
abbrev c46e (x : ByteArray × Unit) := (↑(ByteArray.size x.1) : Int)
abbrev c46b (x : ByteArray × Unit) (x_1 : Int × Int) := (subS x.1 (Int.toNat (IntKind.wrap IntKind.i64 (x_1.1 + (1 : Int)))) (Int.toNat (c46e x)))
abbrev c46g := ((0 : Int), (0 : Int), (0 : Int), (0 : Int), (0 : Int), (0 : Int), (0 : Int), (0 : Int), ())
abbrev c46c (x : ByteArray × Unit) := ((((0 : Int), c46g, (0 : Int), ()), (20 : Int), ()) = (Go.Ad.parse1 x.1, Go.Ad.parse2 x.1, ()))
abbrev c46f (x_1 : Int × Int) := (Int.toNat (IntKind.wrap IntKind.i64 (x_1.1 - (1 : Int))))
abbrev c46h (x : ByteArray × Unit) (x_1 : Int × Int) := (Go.Ad.num1 (c46b x x_1) (65535 : Int) = Go.Ad.num1 (c46b x x_1) (65535 : Int))
abbrev c46i (x_1 : Int × Int) := (IntKind.wrap IntKind.i64 (x_1.2 + (1 : Int)))
abbrev c46l (x_1 : Int × Int) := (IntKind.wrap IntKind.i64 (x_1.2 + (1 : Int)) = IntKind.wrap IntKind.i64 (x_1.2 + (1 : Int)))
theorem v46_eq : vcFn g46 300 Tryd.f46 cParse = (∀ (x : ByteArray × Unit), Wr (szOk x.1 = true) → (Wr (Cl8I x.1 (-1 : Int) (0 : Int)) ∧ Wr ((-1 : Int) = (-1 : Int)) ∧ Wr ((0 : Int) = (0 : Int)) ∧ Wr (x.1 = x.1) ∧ Wr ((0 : Int) = (0 : Int)) ∧ Wr ((0 : Int) = (0 : Int)) ∧
 Wr ((0 : Int) = (0 : Int)) ∧ Wr ((0 : Int) = (0 : Int)) ∧ Wr ((0 : Int) = (0 : Int)) ∧ Wr ((0 : Int) = (0 : Int)) ∧ Wr ((0 : Int) = (0 : Int)) ∧ Wr ((0 : Int) = (0 : Int)) ∧ Wr ((0 : Int) = (0 : Int)) ∧ Wr ((0 : Int) =
 (0 : Int))) ∧ ∀ (x_1 : Int × Int), Wr (Cl8I x.1 x_1.1 x_1.2) → bcase (decide (x_1.2 < (c46e x))) (Wr ((0 : Int) ≤ x_1.2) ∧ Wr (x_1.2 < (c46e x)) ∧ bcase (decide (byteAt x.1 (Int.toNat x_1.2) = (58 : Int))) (Wr (Cl8I x.1
 x_1.2 (c46i x_1)) ∧ Wr (ByteArray.size x.1 - Int.toNat (c46i x_1) < ByteArray.size x.1 - Int.toNat x_1.2) ∧ Wr (x_1.2 = x_1.2) ∧ Wr (c46l x_1) ∧ Wr (x.1 = x.1) ∧ Wr ((0 : Int) = (0 : Int)) ∧ Wr ((0 : Int) = (0 : Int)) ∧
 Wr ((0 : Int) = (0 : Int)) ∧ Wr ((0 : Int) = (0 : Int)) ∧ Wr ((0 : Int) = (0 : Int)) ∧ Wr ((0 : Int) = (0 : Int)) ∧ Wr ((0 : Int) = (0 : Int)) ∧ Wr ((0 : Int) = (0 : Int)) ∧ Wr ((0 : Int) = (0 : Int)) ∧ Wr ((0 : Int) =
 (0 : Int))) (Wr (Cl8I x.1 x_1.1 (c46i x_1)) ∧ Wr (ByteArray.size x.1 - Int.toNat (c46i x_1) < ByteArray.size x.1 - Int.toNat x_1.2) ∧ Wr (x_1.1 = x_1.1) ∧ Wr (c46l x_1) ∧ Wr (x.1 = x.1) ∧ Wr ((0 : Int) = (0 : Int)) ∧ Wr
 ((0 : Int) = (0 : Int)) ∧ Wr ((0 : Int) = (0 : Int)) ∧ Wr ((0 : Int) = (0 : Int)) ∧ Wr ((0 : Int) = (0 : Int)) ∧ Wr ((0 : Int) = (0 : Int)) ∧ Wr ((0 : Int) = (0 : Int)) ∧ Wr ((0 : Int) = (0 : Int)) ∧ Wr ((0 : Int) = (0 :
 Int)) ∧ Wr ((0 : Int) = (0 : Int)))) (bcase (decide (x_1.1 < (1 : Int))) (c46c x) (Wr ((0 : Int) ≤ IntKind.wrap IntKind.i64 (x_1.1 + (1 : Int))) ∧ Wr (IntKind.wrap IntKind.i64 (x_1.1 + (1 : Int)) ≤ (c46e x)) ∧ Wr ((c46e
 x) ≤ (c46e x)) ∧ Wr (szOk (c46b x x_1) = true) ∧ bcase (!Go.Ad.num2 (c46b x x_1) (65535 : Int) || decide (Go.Ad.num1 (c46b x x_1) (65535 : Int) = (0 : Int))) (c46c x) (Wr ((0 : Int) ≤ (0 : Int)) ∧ Wr ((0 : Int) < (c46e
 x)) ∧ bcase (decide (byteAt x.1 (Int.toNat (0 : Int)) = (91 : Int))) (Wr ((!decide (x_1.1 < (2 : Int))) = true → (0 : Int) ≤ IntKind.wrap IntKind.i64 (x_1.1 - (1 : Int))) ∧ Wr ((!decide (x_1.1 < (2 : Int))) = true →
 IntKind.wrap IntKind.i64 (x_1.1 - (1 : Int)) < (c46e x)) ∧ bcase (decide (x_1.1 < (2 : Int)) || !decide (byteAt x.1 (c46f x_1) = (93 : Int))) (c46c x) (Wr ((0 : Int) ≤ (1 : Int)) ∧ Wr ((1 : Int) ≤ IntKind.wrap
 IntKind.i64 (x_1.1 - (1 : Int))) ∧ Wr (IntKind.wrap IntKind.i64 (x_1.1 - (1 : Int)) ≤ (c46e x)) ∧ Wr (szOk (subS x.1 (Int.toNat (1 : Int)) (c46f x_1)) = true) ∧ bcase (!Go.Ad.six2 (subS x.1 (Int.toNat (1 : Int)) (c46f
 x_1))) (c46c x) ((((6 : Int), Go.Ad.six1 (subS x.1 (Int.toNat (1 : Int)) (c46f x_1)), Go.Ad.num1 (c46b x x_1) (65535 : Int), ()), (0 : Int), ()) = (Go.Ad.parse1 x.1, Go.Ad.parse2 x.1, ())))) (Wr ((0 : Int) ≤ (0 : Int)) ∧
 Wr ((0 : Int) ≤ x_1.1) ∧ Wr (x_1.1 ≤ (c46e x)) ∧ Wr ((szOk (c46d x x_1) && decide ((0 : Int) ≤ (46 : Int)) && decide ((46 : Int) < (256 : Ty.El U8))) = true) ∧ bcase (!decide ((↑(List.length (c46k x x_1)) : Int) = (4 :
 Int))) (c46c x) ((Wr (Four2I (c46k x x_1) (Go.Ad.num1 (c46b x x_1) (65535 : Int)) ((4 : Int), c46g, Go.Ad.num1 (c46b x x_1) (65535 : Int), ()) (0 : Int)) ∧ Wr ((0 : Int) = (0 : Int)) ∧ Wr (c46h x x_1) ∧ Wr (cutC (c46d x
 x_1) (46 : Int) = cutC (c46d x x_1) (46 : Int)) ∧ Wr ((4 : Int) = (4 : Int)) ∧ Wr ((0 : Int) = (0 : Int)) ∧ Wr ((0 : Int) = (0 : Int)) ∧ Wr ((0 : Int) = (0 : Int)) ∧ Wr ((0 : Int) = (0 : Int)) ∧ Wr ((0 : Int) = (0 :
 Int)) ∧ Wr ((0 : Int) = (0 : Int)) ∧ Wr ((0 : Int) = (0 : Int)) ∧ Wr ((0 : Int) = (0 : Int)) ∧ Wr (c46h x x_1) ∧ Wr ((0 : Int) = (0 : Int)) ∧ Wr ((0 : Int) = (0 : Int)) ∧ Wr ((0 : Int) = (0 : Int)) ∧ Wr ((0 : Int) = (0 :
 Int)) ∧ Wr ((0 : Int) = (0 : Int)) ∧ Wr ((0 : Int) = (0 : Int)) ∧ Wr ((0 : Int) = (0 : Int)) ∧ Wr ((0 : Int) = (0 : Int)) ∧ Wr ((0 : Int) = (0 : Int)) ∧ Wr ((0 : Int) = (0 : Int))) ∧ ∀ (x_2 : (Int × (Int × Int × Int ×
 Int × Int × Int × Int × Int × Unit) × Int × Unit) × Int), Wr (Four2I (c46k x x_1) (Go.Ad.num1 (c46b x x_1) (65535 : Int)) x_2.1 x_2.2) → bcase (decide (x_2.2 < (4 : Int))) (Wr ((0 : Int) ≤ x_2.2) ∧ Wr (x_2.2 <
 (↑(List.length (c46k x x_1)) : Int)) ∧ Wr (true = true) ∧ Wr (szOk (List.getD (c46k x x_1) (Int.toNat x_2.2) (Ty.zero Ty.str)) = true) ∧ bcase (!Go.Ad.num2 (List.getD (c46k x x_1) (Int.toNat x_2.2) (Ty.zero Ty.str)) (255
 : Int)) (c46c x) (Wr ((2 : Int) ≠ (0 : Int)) ∧ Wr ((2 : Int) ≠ (0 : Int)) ∧ Wr ((0 : Int) ≤ IntKind.wrap IntKind.i64 (Int.tdiv x_2.2 (2 : Int))) ∧ Wr (IntKind.wrap IntKind.i64 (Int.tdiv x_2.2 (2 : Int)) < (↑(8 : Nat) :
 Int)) ∧ Wr ((0 : Int) ≤ IntKind.wrap IntKind.i64 (Int.tdiv x_2.2 (2 : Int))) ∧ Wr (IntKind.wrap IntKind.i64 (Int.tdiv x_2.2 (2 : Int)) < (↑(8 : Nat) : Int)) ∧ Wr (Four2I (c46k x x_1) (Go.Ad.num1 (c46b x x_1) (65535 :
 Int)) (x_2.1.1, (List.getD (c46a x x_1 x_2) (0 : Nat) (0 : Int), List.getD (c46a x x_1 x_2) (1 : Nat) (0 : Int), List.getD (c46a x x_1 x_2) (2 : Nat) (0 : Int), List.getD (c46a x x_1 x_2) (3 : Nat) (0 : Int), List.getD
 (c46a x x_1 x_2) (4 : Nat) (0 : Int), List.getD (c46a x x_1 x_2) (5 : Nat) (0 : Int), List.getD (c46a x x_1 x_2) (6 : Nat) (0 : Int), List.getD (c46a x x_1 x_2) (7 : Nat) (0 : Int), ()), x_2.1.2.2) (IntKind.wrap
 IntKind.i64 (x_2.2 + (1 : Int)))) ∧ Wr ((4 : Nat) - Int.toNat (IntKind.wrap IntKind.i64 (x_2.2 + (1 : Int))) < (4 : Nat) - Int.toNat x_2.2) ∧ Wr (IntKind.wrap IntKind.i64 (x_2.2 + (1 : Int)) = IntKind.wrap IntKind.i64
 (x_2.2 + (1 : Int))) ∧ Wr (c46h x x_1) ∧ Wr (cutC (c46d x x_1) (46 : Int) = cutC (c46d x x_1) (46 : Int)) ∧ Wr (x_2.1.1 = x_2.1.1) ∧ Wr (List.getD (c46a x x_1 x_2) (0 : Nat) (0 : Int) = List.getD (c46a x x_1 x_2) (0 :
 Nat) (0 : Int)) ∧ Wr (List.getD (c46a x x_1 x_2) (1 : Nat) (0 : Int) = List.getD (c46a x x_1 x_2) (1 : Nat) (0 : Int)) ∧ Wr (List.getD (c46a x x_1 x_2) (2 : Nat) (0 : Int) = List.getD (c46a x x_1 x_2) (2 : Nat) (0 :
 Int)) ∧ Wr (List.getD (c46a x x_1 x_2) (3 : Nat) (0 : Int) = List.getD (c46a x x_1 x_2) (3 : Nat) (0 : Int)) ∧ Wr (List.getD (c46a x x_1 x_2) (4 : Nat) (0 : Int) = List.getD (c46a x x_1 x_2) (4 : Nat) (0 : Int)) ∧ Wr
 (List.getD (c46a x x_1 x_2) (5 : Nat) (0 : Int) = List.getD (c46a x x_1 x_2) (5 : Nat) (0 : Int)) ∧ Wr (List.getD (c46a x x_1 x_2) (6 : Nat) (0 : Int) = List.getD (c46a x x_1 x_2) (6 : Nat) (0 : Int)) ∧ Wr (List.getD
 (c46a x x_1 x_2) (7 : Nat) (0 : Int) = List.getD (c46a x x_1 x_2) (7 : Nat) (0 : Int)) ∧ Wr (x_2.1.2.2.1 = x_2.1.2.2.1) ∧ Wr ((0 : Int) = (0 : Int)) ∧ Wr ((0 : Int) = (0 : Int)) ∧ Wr ((0 : Int) = (0 : Int)) ∧ Wr ((0 :
 Int) = (0 : Int)) ∧ Wr ((0 : Int) = (0 : Int)) ∧ Wr ((0 : Int) = (0 : Int)) ∧ Wr ((0 : Int) = (0 : Int)) ∧ Wr ((0 : Int) = (0 : Int)) ∧ Wr ((0 : Int) = (0 : Int)) ∧ Wr ((0 : Int) = (0 : Int)))) ((x_2.1, (0 : Int), ()) =
 (Go.Ad.parse1 x.1, Go.Ad.parse2 x.1, ())))))))) := by kernel_rfl
end Go.Proofs.YtkimpfoimblhjaaDoor.Ad
set_option linter.all false
namespace Go.Proofs.YtkimpfoimblhjaaDoor.Ad
open Go Go.Eng Go.Lb Go.Ad Lb
set_option maxRecDepth 100000
set_option maxHeartbeats 2000000
theorem may2_fin {a : Ad} {i : Int} (hp : ¬ a.2.2.1 < 1 ∧ ¬ a.2.2.1 > 65535) (hf : a.1 = 4 ∨ a.1 = 6) (h : May2I a i) (hi : ¬ i < 8 ∨ ¬ a.1 = 4) : may1 a = true := by
  rw [may1_iff]
  refine ⟨⟨by omega, by omega⟩, ?_⟩
  rcases hf with h4 | h6
  · refine .inr ⟨h4, fun x hx => ?_⟩
    obtain ⟨k, hk, e⟩ := List.mem_iff_getElem.1 hx
    rw [List.getElem_drop] at e
    rw [List.length_drop, len_gl] at hk
    have i1 := h.i1
    have i8 : i = 8 := by omega
    have := h.z h4 (2 + k) (by omega) (by omega)
    rw [List.getD_eq_getElem?_getD, List.getElem?_eq_getElem (by rw [len_gl]; omega)] at this
    rw [← e]
    exact this
  · exact .inl h6
theorem v74 : Vc g74 300 Tryd.f74 cMay1 := by
  constructor
  rw [v74_eq]
  intro x _
  generalize x.fst = a
  have hg : (a.2.1.1 :: a.2.1.2.1 :: a.2.1.2.2.1 :: a.2.1.2.2.2.1 :: a.2.1.2.2.2.2.1 :: a.2.1.2.2.2.2.2.1 :: a.2.1.2.2.2.2.2.2.1 :: a.2.1.2.2.2.2.2.2.2.1 :: nilL Int) = gl a.2.1 := rfl
  rw [hg]
  refine (bcase_iff _ _ _).2 ⟨fun h => ?_, fun h => ?_⟩
  · have : may1 a = false := by
      cases hm : may1 a with
      | false => rfl
      | true =>
        exfalso
        have hm := (may1_iff a).1 hm
        simp only [Bool.or_eq_true, Bool.and_eq_true, Bool.not_eq_true', decide_eq_true_eq, decide_eq_false_iff_not] at h
        rcases h with (h | h) | h
        · omega
        · omega
        · rcases hm.2 with h6 | h4
          · exact h.2 h6
          · exact h.1 h4.1
    rw [this]
  · simp only [Bool.or_eq_false_iff, Bool.and_eq_false_iff, Bool.not_eq_false', decide_eq_true_eq, decide_eq_false_iff_not] at h
    obtain ⟨hp, hf⟩ := h
    refine ⟨⟨⟨⟨by omega, by omega, fun _ k h1 h2 => by omega⟩⟩, by repeat' (first | exact ⟨rfl⟩ | apply And.intro)⟩, fun y hy => (bcase_iff _ _ _).2 ⟨fun h => ?_, fun h => ?_⟩⟩
    · have hy := hy.out
      simp only [Bool.and_eq_true, decide_eq_true_eq] at h
      obtain ⟨h8, h4⟩ := h
      have y0 := hy.i0
      refine ⟨⟨by omega⟩, ⟨by omega⟩, (bcase_iff _ _ _).2 ⟨fun h => ?_, fun h => ?_⟩⟩
      · have h : ¬ (gl a.2.1).getD y.toNat 0 = 0 := by simpa using h
        have : may1 a = false := by
          cases hm : may1 a with
          | false => rfl
          | true =>
            exfalso
            have hm := ((may1_iff a).1 hm).2
            rcases hm with h6 | ⟨_, hz⟩
            · omega
            · apply h
              apply hz
              have hl : y.toNat < (gl a.2.1).length := by rw [len_gl]; omega
              rw [List.getD_eq_getElem?_getD, List.getElem?_eq_getElem hl]
              refine List.mem_iff_getElem.2 ⟨y.toNat - 2, by rw [List.length_drop, len_gl]; omega, ?_⟩
              rw [List.getElem_drop]
              simp only [Option.getD_some]
              congr 1
              omega
        rw [this]
      · have h : (gl a.2.1).getD y.toNat 0 = 0 := by simpa using h
        rw [w64 (by omega) (by omega)]
        refine ⟨⟨⟨by omega, by omega, fun h4 k k1 k2 => ?_⟩⟩, ⟨by omega⟩, by repeat' (first | exact ⟨rfl⟩ | apply And.intro)⟩
        rcases Int.lt_or_le (k : Int) y with c | c
        · exact hy.z h4 k k1 c
        · have : k = y.toNat := by omega
          rw [this]; exact h
    · rw [may2_fin hp hf hy.out (by
        simp only [Bool.and_eq_false_iff, decide_eq_false_iff_not] at h
        exact h)]
theorem v47 : Vc g47 300 Tryd.f47 cMay := by
  constructor
  rw [v47_eq]
  intro x hl
  generalize x.fst = l at *
  have hl := (lenA_iff l).1 hl.out
  refine ⟨⟨⟨⟨by omega, by omega, rfl⟩⟩, by repeat' (first | exact ⟨rfl⟩ | apply And.intro)⟩, fun y hy => (bcase_iff _ _ _).2 ⟨fun h => ?_, fun h => ?_⟩⟩
  · have hy := hy.out
    have h := of_decide_eq_true h
    have y0 := hy.i0
    refine ⟨⟨y0⟩, ⟨h⟩, ⟨rfl⟩, ⟨rfl⟩, (bcase_iff _ _ _).2 ⟨fun hm => ?_, fun hm => ?_⟩⟩
    · have : mayA l = false := by
        cases hx : mayA l with
        | false => rfl
        | true =>
          have h1 : may1 (l.getD y.toNat (Ty.zero AdT)) = true := List.all_eq_true.1 hx _ (getD_mem (z := Ty.zero AdT) y0 h)
          have h2 : may1 (l.getD y.toNat (Ty.zero AdT)) = false := by
            rw [Bool.not_eq_true'] at hm
            exact hm
          exact absurd (h1.symm.trans h2) (by decide)
      rw [this]
    · have hm : may1 (l.getD y.toNat (Ty.zero AdT)) = true := by simpa using hm
      rw [step y0 (by omega) h]
      refine ⟨⟨⟨by omega, by omega, ?_⟩⟩, ⟨wcut y0 h⟩, by repeat' (first | exact ⟨rfl⟩ | apply And.intro)⟩
      rw [take_succ l y (Ty.zero AdT) y0 h, List.all_append, hy.a]
      simpa using hm
  · have := hy.out.a
    rw [take_all hy.out.i1 (of_decide_eq_false h)] at this
    rw [show mayA l = true from this]
theorem hexF_fuel : ∀ (f m : Nat), 1 ≤ f → m < 16 ^ f → hexF (f + 1) m = hexF f m
  | f + 1, m, _, h => by
    rcases Nat.lt_or_ge m 16 with c | c
    · rw [hexF_small c, hexF_small c]
    · rw [hexF_big c, hexF_big (k := f) c]
      cases f with
      | zero => simp at h; omega
      | succ f => rw [hexF_fuel (f + 1) (m / 16) (by omega) (by rw [Nat.pow_succ] at h; omega)]
theorem digF_big {k n : Nat} (h : 10 ≤ n) : digF (k + 1) n = digF k (n / 10) ++ [UInt8.ofNat (48 + n % 10)] := by
  rw [digF, show decide (n < 10) = false from decide_eq_false (by omega), cond_false]
theorem digF_small {k n : Nat} (h : n < 10) : digF (k + 1) n = [UInt8.ofNat (48 + n)] := by
  rw [digF, show decide (n < 10) = true from decide_eq_true h, cond_true]
theorem digF_fuel : ∀ (f m : Nat), 1 ≤ f → m < 10 ^ f → digF (f + 1) m = digF f m
  | f + 1, m, _, h => by
    rcases Nat.lt_or_ge m 10 with c | c
    · rw [digF_small c, digF_small c]
    · rw [digF_big c, digF_big (k := f) c]
      cases f with
      | zero => simp at h; omega
      | succ f => rw [digF_fuel (f + 1) (m / 10) (by omega) (by rw [Nat.pow_succ] at h; omega)]
theorem hexD_lo {n : Nat} (h : n < 10) : hexD n = UInt8.ofNat (48 + n) := by
  unfold hexD
  rw [decide_eq_true h]
  rfl
theorem dgL_step {b n : Int} (hb : b = 10 ∨ b = 16) (h0 : 0 < n) (h1 : n ≤ 65535) :
    (n / b = 0 ∧ dgL b n = [hexD (n % b).toNat]) ∨ (0 < n / b ∧ dgL b n = dgL b (n / b) ++ [hexD (n % b).toNat]) := by
  obtain ⟨m, rfl⟩ : ∃ m : Nat, n = m := ⟨n.toNat, by omega⟩
  rcases hb with rfl | rfl
  · have e : ∀ k : Int, dgL 10 k = digF 5 k.toNat := fun _ => rfl
    have e1 : ((m : Int) / 10).toNat = m / 10 := by omega
    have e2 : ((m : Int) % 10).toNat = m % 10 := by omega
    rw [e, e, e1, e2, hexD_lo (by omega), Int.toNat_natCast]
    rcases Nat.lt_or_ge m 10 with c | c
    · refine .inl ⟨by omega, ?_⟩
      rw [digF_small c, show m % 10 = m from Nat.mod_eq_of_lt c]
    · refine .inr ⟨by omega, ?_⟩
      rw [digF_big c, digF_fuel 4 (m / 10) (by omega) (by show m / 10 < 10000; omega)]
  · have e : ∀ k : Int, dgL 16 k = hexF 4 k.toNat := fun _ => rfl
    have e1 : ((m : Int) / 16).toNat = m / 16 := by omega
    have e2 : ((m : Int) % 16).toNat = m % 16 := by omega
    rw [e, e, e1, e2, Int.toNat_natCast]
    rcases Nat.lt_or_ge m 16 with c | c
    · refine .inl ⟨by omega, ?_⟩
      rw [hexF_small c, show m % 16 = m from Nat.mod_eq_of_lt c]
    · refine .inr ⟨by omega, ?_⟩
      rw [hexF_big c, hexF_fuel 3 (m / 16) (by omega) (by show m / 16 < 4096; omega)]
def LOWS : ByteArray := ByteArray.mk (List.toArray ((48 : UInt8) :: (49 : UInt8) :: (50 : UInt8) :: (51 : UInt8) :: (52 : UInt8) :: (53 : UInt8) :: (54 : UInt8) :: (55 : UInt8) :: (56 : UInt8) :: (57 : UInt8) :: (97 : UInt8) :: (98 : UInt8) :: (99 : UInt8) :: (100 : UInt8) :: (101 : UInt8) :: (102 : UInt8) :: nilL UInt8))
theorem lows_all : ((List.range 16).all fun d => decide (subS LOWS d (d + 1) = ofL [hexD d])) = true := by decide +kernel
theorem lows_at {d : Int} (h0 : 0 ≤ d) (h : d < 16) : subS LOWS d.toNat (d + 1).toNat = ofL [hexD d.toNat] := by
  rw [show (d + 1).toNat = d.toNat + 1 by omega]
  exact of_decide_eq_true (List.all_eq_true.1 lows_all d.toNat (List.mem_range.2 (by omega)))
theorem dgL_len (b n : Int) : (dgL b n).length ≤ 5 := by
  unfold dgL
  cases decide (b = 16) with
  | true => have := hexF_len 4 n.toNat; rw [cond_true]; exact Nat.le_succ_of_le this
  | false => exact digF_len 5 n.toNat
theorem dgR_sz {b m n : Int} {s : ByteArray} (h : DgRI b m n s) : s.size ≤ 5 := by
  have hm := dgL_len b m
  rcases h.e with ⟨_, e⟩ | ⟨_, e⟩
  · rw [e, ofL_size]; exact hm
  · rw [← e, List.length_append, ← size_bytesL] at hm; omega
theorem v75 : Vc g75 300 Tryd.f75 cDigs := by
  constructor
  rw [v75_eq]; delta c75a c75b
  rw [show (ByteArray.mk (List.toArray ((48 : UInt8) :: (49 : UInt8) :: (50 : UInt8) :: (51 : UInt8) :: (52 : UInt8) :: (53 : UInt8) :: (54 : UInt8) :: (55 : UInt8) :: (56 : UInt8) :: (57 : UInt8) :: (97 : UInt8) :: (98 : UInt8) :: (99 : UInt8) :: (100 : UInt8) :: (101 : UInt8) :: (102 : UInt8) :: nilL UInt8)) : ByteArray) = LOWS from rfl]
  intro x hx
  have hx := hx.out
  generalize x.fst = n at *
  generalize x.snd.fst = b at *
  have hx : ((0 : Int) ≤ n ∧ n ≤ 65535) ∧ (b = 10 ∨ b = 16) := by
    rw [Bool.and_eq_true, Bool.and_eq_true, Bool.or_eq_true, decide_eq_true_eq, decide_eq_true_eq, decide_eq_true_eq, decide_eq_true_eq] at hx
    exact hx
  obtain ⟨⟨n0, n1⟩, hb⟩ := hx
  have mx : maxLen = 9223372036854775807 := rfl
  have ls : LOWS.size = 16 := rfl
  refine (bcase_iff _ _ _).2 ⟨fun h => ?_, fun h => ?_⟩
  · have h : n = 0 := of_decide_eq_true h
    subst h
    rcases hb with rfl | rfl <;> rfl
  · have h : ¬ n = 0 := of_decide_eq_false h
    refine ⟨⟨⟨⟨n0, n1, .inr ⟨by omega, List.append_nil _⟩⟩⟩, by repeat' (first | exact ⟨rfl⟩ | apply And.intro)⟩, fun y hy => (bcase_iff _ _ _).2 ⟨fun h => ?_, fun h => ?_⟩⟩
    · have hy := hy.out
      have hs := dgR_sz hy
      obtain ⟨y0, y1, e⟩ := hy
      have h : y.1 > 0 := of_decide_eq_true h
      rcases e with ⟨e, _⟩ | ⟨_, e⟩
      · omega
      have hst := dgL_step hb h y1
      have t1 : Int.tmod y.1 b = y.1 % b := Int.tmod_eq_emod_of_nonneg y0
      have t2 : Int.tdiv y.1 b = y.1 / b := Int.tdiv_eq_ediv_of_nonneg y0
      have m0 : 0 ≤ y.1 % b ∧ y.1 % b < 16 ∧ 0 ≤ y.1 / b ∧ y.1 / b < y.1 := by rcases hb with rfl | rfl <;> omega
      obtain ⟨m0, m1, m2, m3⟩ := m0
      have b0 : b ≠ 0 := by omega
      rw [t1, t2, w64 (n := y.1 % b + 1) (by omega) (by omega), w64 (n := y.1 / b) (by omega) (by omega), lows_at m0 m1]
      refine ⟨⟨b0⟩, ⟨b0⟩, ⟨m0⟩, ⟨by omega⟩, ⟨by rw [ls]; omega⟩, ⟨by rw [ofL_size, mx]; show 1 + _ ≤ _; omega⟩, ⟨b0⟩, ⟨⟨by omega, by omega, ?_⟩⟩, ⟨by omega⟩, by repeat' (first | exact ⟨rfl⟩ | apply And.intro)⟩
      rcases hst with ⟨q, hst⟩ | ⟨q, hst⟩
      · refine .inl ⟨q, ?_⟩
        rw [← e, hst]
        apply bytesL_inj
        rw [bytesL_ofL]
        simp [bytesL, ofL]
      · refine .inr ⟨q, ?_⟩
        rw [← e, hst]
        simp [bytesL, ofL]
    · have h : ¬ y.1 > 0 := of_decide_eq_false h
      obtain ⟨y0, y1, e⟩ := hy.out
      rcases e with ⟨_, e⟩ | ⟨e, _⟩
      · rw [e]; rfl
      · omega
def pat (l : List Int) : List Int := l.map fun x => bif decide (x = 0) then 0 else 1
theorem pat_zero (x : Int) : decide ((bif decide (x = 0) then (0 : Int) else 1) = 0) = decide (x = 0) := by
  by_cases h : x = 0 <;> simp [h]
theorem long_pat : ∀ (l : List Int) (i n a m : Int), longGo i n a m (pat l) = longGo i n a m l
  | [], _, _, _, _ => rfl
  | x :: r, i, n, a, m => by
    show longGo i n a m ((bif decide (x = 0) then 0 else 1) :: pat r) = _
    rw [longGo, longGo, pat_zero, long_pat r, long_pat r, long_pat r]
theorem zc_pat : ∀ (l : List Int), zc (pat l) = zc l
  | [] => rfl
  | x :: r => by
    show zc ((bif decide (x = 0) then 0 else 1) :: pat r) = _
    rw [zc, zc, pat_zero, zc_pat r]
theorem runG_pat (l : List Int) : ∀ i, runG (pat l) i = runG l i
  | 0 => rfl
  | i + 1 => by
    have : (pat l).drop i = pat (l.drop i) := List.map_drop.symm
    rw [runG, runG, runG_pat l i, this, zc_pat]
def rr (p : Int × Int) : Int × Int := bif decide (p.2 = 0) then (-1, 1) else p
def b8 (b : Bool) : Int := bif b then 0 else 1
theorem run_all : ∀ a b c d e f g h : Bool, runG [b8 a, b8 b, b8 c, b8 d, b8 e, b8 f, b8 g, b8 h] 8 = rr (longL [b8 a, b8 b, b8 c, b8 d, b8 e, b8 f, b8 g, b8 h]) := by decide +kernel
theorem run_eq (g : G8) : runG (gl g) 8 = (run1 g, run2 g) := by
  have h : runG (gl g) 8 = rr (longL (gl g)) := by
    rw [← runG_pat]
    unfold longL
    rw [← long_pat]
    exact run_all (decide (g.1 = 0)) (decide (g.2.1 = 0)) (decide (g.2.2.1 = 0)) (decide (g.2.2.2.1 = 0)) (decide (g.2.2.2.2.1 = 0)) (decide (g.2.2.2.2.2.1 = 0)) (decide (g.2.2.2.2.2.2.1 = 0)) (decide (g.2.2.2.2.2.2.2.1 = 0))
  rw [h]
  unfold run1 run2 rr long1 long2
  cases decide ((longL (gl g)).2 = 0) <;> rfl
theorem zc_step {l : List Int} {k : Int} (h0 : 0 ≤ k) (h : k < l.length) : zc (l.drop k.toNat) = if l.getD k.toNat 0 = 0 then zc (l.drop (k + 1).toNat) + 1 else 0 := by
  rw [drop_cons l k 0 h0 h, zc]
  by_cases hz : l.getD k.toNat 0 = 0
  · rw [decide_eq_true hz, cond_true, if_pos hz]
  · rw [decide_eq_false hz, cond_false, if_neg hz]
theorem v100 : Vc g100 300 Tryd.f100 cRun := by
  constructor
  rw [v100_eq]; delta c100a c100b c100c
  intro x _
  generalize x.fst = g
  have hg : (g.1 :: g.2.1 :: g.2.2.1 :: g.2.2.2.1 :: g.2.2.2.2.1 :: g.2.2.2.2.2.1 :: g.2.2.2.2.2.2.1 :: g.2.2.2.2.2.2.2.1 :: nilL Int) = gl g := rfl
  have hl := len_gl g
  rw [hg]
  refine ⟨⟨⟨⟨by omega, by omega, rfl⟩⟩, by repeat' (first | exact ⟨rfl⟩ | apply And.intro)⟩, fun y hy => (bcase_iff _ _ _).2 ⟨fun h => ?_, fun h => ?_⟩⟩
  · obtain ⟨i0, i1, e⟩ := hy.out
    have h : y.2.2 < 8 := of_decide_eq_true h
    have en : (y.2.2 + 1).toNat = y.2.2.toNat + 1 := by omega
    refine ⟨⟨⟨⟨by omega, by omega, by simp⟩⟩, by repeat' (first | exact ⟨rfl⟩ | apply And.intro)⟩, fun z hz => ?_⟩
    obtain ⟨n0, n1, ez⟩ := hz.out
    have w1 : IntKind.wrap .i64 (y.2.2 + z) = y.2.2 + z := w64 (by omega) (by omega)
    rw [w1]
    refine ⟨⟨fun _ => by omega⟩, ⟨fun h => of_decide_eq_true h⟩, (bcase_iff _ _ _).2 ⟨fun hb => ?_, fun hb => ?_⟩⟩
    · rw [Bool.and_eq_true, decide_eq_true_eq, decide_eq_true_eq] at hb
      rw [w64 (by omega) (by omega)]
      refine ⟨⟨⟨by omega, by omega, ?_⟩⟩, ⟨by omega⟩, by repeat' (first | exact ⟨rfl⟩ | apply And.intro)⟩
      rw [ez, zc_step (k := y.2.2 + z) (by omega) (by omega), if_pos hb.2, Int.add_assoc]
      omega
    · rw [Bool.and_eq_false_iff, decide_eq_false_iff_not, decide_eq_false_iff_not] at hb
      have hz0 : zc ((gl g).drop (y.2.2 + z).toNat) = 0 := by
        by_cases h8 : y.2.2 + z < 8
        · rw [zc_step (k := y.2.2 + z) (by omega) (by omega), if_neg (by rcases hb with hb | hb; exact absurd h8 hb; exact hb)]
        · rw [List.drop_eq_nil_iff.2 (by omega)]
          rfl
      have hzc : ((zc ((gl g).drop y.2.2.toNat) : Nat) : Int) = z := by rw [ez, hz0]; omega
      have ha : y.1 = (runG (gl g) y.2.2.toNat).1 := congrArg Prod.fst e
      have hm : y.2.1 = (runG (gl g) y.2.2.toNat).2 := congrArg Prod.snd e
      have hmu : 8 - (IntKind.wrap .i64 (y.2.2 + 1)).toNat < 8 - y.2.2.toNat := by rw [w64 (by omega) (by omega)]; omega
      have w2 : IntKind.wrap .i64 (y.2.2 + 1) = y.2.2 + 1 := w64 (by omega) (by omega)
      refine (bcase_iff _ _ _).2 ⟨fun hb => ⟨⟨?_⟩, ⟨hmu⟩, by repeat' (first | exact ⟨rfl⟩ | apply And.intro)⟩, fun hb => ⟨⟨?_⟩, ⟨hmu⟩, by repeat' (first | exact ⟨rfl⟩ | apply And.intro)⟩⟩
      · rw [w2]
        refine ⟨by omega, by omega, ?_⟩
        rw [en, runG, hzc, ← hm, hb, cond_true]
        congr 1
        omega
      · rw [w2]
        refine ⟨by omega, by omega, ?_⟩
        rw [en, runG, hzc, ← hm, hb, cond_false]
        exact e
  · obtain ⟨i0, i1, e⟩ := hy.out
    have h : ¬ y.2.2 < 8 := of_decide_eq_false h
    have e8 : y.2.2.toNat = 8 := by omega
    rw [e8, run_eq] at e
    have ha : y.1 = run1 g := congrArg Prod.fst e
    have hm : y.2.1 = run2 g := congrArg Prod.snd e
    rw [ha, hm]
end Go.Proofs.YtkimpfoimblhjaaDoor.Ad
set_option linter.all false
namespace Go.Proofs.YtkimpfoimblhjaaDoor.Ad
open Go Go.Eng Go.Lb Go.Ad Lb
set_option maxRecDepth 100000
set_option maxHeartbeats 2000000
theorem hexesL_snoc {l : List Int} (x : Int) (h : l ≠ []) : hexesL (l ++ [x]) = hexesL l ++ ([58] ++ hexL x.toNat) := by
  unfold hexesL
  rw [List.map_append, List.map_cons, List.map_nil, join_snoc _ _ _ (by simpa using h)]
theorem hexesL_one (x : Int) : hexesL [x] = hexL x.toNat := Go.Lib.join_one _ _
theorem hexL_last {x : Int} (h : inR x) : ∃ b, (hexL x.toNat).getLast? = some b ∧ b ≠ 58 := by
  obtain ⟨_, h1, _, h2⟩ := grpL_hex (n := x.toNat) (by have := h.1; have := h.2; omega)
  cases hl : (hexL x.toNat).getLast? with
  | none => rw [List.getLast?_eq_none_iff] at hl; rw [hl] at h1; simp at h1
  | some b =>
    refine ⟨b, rfl, fun e => ?_⟩
    have := h2 b (List.mem_of_getLast? hl)
    rw [e] at this
    exact absurd this (by decide)
theorem hexesL_last {m : List Int} (h : m ≠ []) (hr : ∀ x ∈ m, inR x) : ∃ b, (hexesL m).getLast? = some b ∧ b ≠ 58 := by
  obtain ⟨r, x, rfl⟩ : ∃ r x, m = r ++ [x] := ⟨m.dropLast, m.getLast h, (List.dropLast_concat_getLast h).symm⟩
  obtain ⟨b, hb, hn⟩ := hexL_last (hr x (by simp))
  refine ⟨b, ?_, hn⟩
  by_cases hr : r = []
  · subst hr
    rw [List.nil_append, hexesL_one]
    exact hb
  · rw [hexesL_snoc x hr, List.getLast?_append, List.getLast?_append, hb]; rfl
def endC (t : List UInt8) : Bool := match t.getLast? with
  | none => false
  | some b => decide (b ≠ 58)
theorem endC_eq (t : List UInt8) (ht : t.length ≤ 1000) : (!decide (ofL t = ofL []) && !decide (byteAt (ofL t) (IntKind.wrap .i64 ((((ofL t).size : Nat) : Int) - 1)).toNat = 58)) = endC t := by
  unfold endC
  cases hl : t.getLast? with
  | none =>
    rw [List.getLast?_eq_none_iff] at hl
    subst hl
    rw [decide_eq_true (rfl : ofL [] = ofL [])]
    rfl
  | some b =>
    have hne : t ≠ [] := by intro e; rw [e] at hl; cases hl
    have h1 : 1 ≤ t.length := by cases t with | nil => exact absurd rfl hne | cons _ _ => simp
    have n0 : ¬ ofL t = ofL [] := fun e => hne (by have := congrArg bytesL e; rwa [bytesL_ofL, bytesL_ofL] at this)
    have w : IntKind.wrap .i64 ((((ofL t).size : Nat) : Int) - 1) = (t.length : Int) - 1 := by rw [ofL_size, w64 (by omega) (by omega)]
    rw [w, decide_eq_false n0, byteAt_eq, bytesL_ofL, show ((t.length : Int) - 1).toNat = t.length - 1 from by omega]
    rw [List.getLast?_eq_getElem?] at hl
    rw [List.getD_eq_getElem?_getD, hl, Option.getD_some, Bool.not_false, Bool.true_and]
    show (!decide ((b.toNat : Int) = 58)) = decide (b ≠ 58)
    by_cases hb : b = 58
    · subst hb; rfl
    · rw [decide_eq_true (show b ≠ 58 from hb), decide_eq_false (fun e => hb (UInt8.toNat_inj.1 (by show b.toNat = 58; omega)))]; rfl
theorem tail_step {pre : List UInt8} {m : List Int} (n : Int) (hp : pre = [] ∨ pre.getLast? = some 58) (hr : ∀ x ∈ m, inR x) :
    pre ++ hexesL (m ++ [n]) = (bif endC (pre ++ hexesL m) then pre ++ hexesL m ++ [58] else pre ++ hexesL m) ++ hexL n.toNat := by
  by_cases hm : m = []
  · subst hm
    have e : endC (pre ++ hexesL []) = false := by
      rw [show hexesL [] = [] from rfl, List.append_nil]
      unfold endC
      rcases hp with rfl | hp
      · rfl
      · rw [hp]; rfl
    rw [e, cond_false, show hexesL [] = [] from rfl, List.append_nil, List.nil_append, hexesL_one]
  · obtain ⟨b, hb, hn⟩ := hexesL_last hm hr
    have e : endC (pre ++ hexesL m) = true := by
      unfold endC
      rw [List.getLast?_append, hb]
      exact decide_eq_true hn
    rw [e, cond_true, hexesL_snoc n hm]
    simp
theorem long_facts {g : G8} (h : ¬ long2 g = 0) : 2 ≤ long2 g ∧ 0 ≤ long1 g ∧ long1 g + long2 g ≤ 8 := by
  have hl := longL_ok (gl g)
  rcases hl with h' | ⟨h1, h2, h3, _⟩
  · exact absurd h' h
  · exact ⟨h1, h2, h3⟩
theorem sixP_lo {g : G8} {i : Int} (h : long2 g = 0 ∨ i ≤ long1 g) : sixP g i = hexesL ((gl g).take i.toNat) := by
  unfold sixP
  rw [show (decide (long2 g = 0) || decide (i ≤ long1 g)) = true by simpa using h, cond_true]
theorem sixP_hi {g : G8} {i : Int} (h0 : ¬ long2 g = 0) (h : ¬ i ≤ long1 g) : sixP g i = hexesL ((gl g).take (long1 g).toNat) ++ [58, 58] ++ hexesL (((gl g).take i.toNat).drop (long1 g + long2 g).toNat) := by
  unfold sixP
  rw [decide_eq_false h0, decide_eq_false h]
  rfl
theorem sixP_len (g : G8) (i : Int) : (sixP g i).length ≤ 100 := by
  have h1 := hexesL_len (l := (gl g).take i.toNat) (by rw [List.length_take, len_gl]; omega)
  have h2 := hexesL_len (l := (gl g).take (long1 g).toNat) (by rw [List.length_take, len_gl]; omega)
  have h3 := hexesL_len (l := ((gl g).take i.toNat).drop (long1 g + long2 g).toNat) (by rw [List.length_drop, List.length_take, len_gl]; omega)
  unfold sixP
  cases (decide (long2 g = 0) || decide (i ≤ long1 g)) with
  | true => rw [cond_true]; omega
  | false => rw [cond_false, List.length_append, List.length_append]; show _ + 2 + _ ≤ _; omega
theorem six_run {g : G8} {s : ByteArray} {i : Int} (h : SixRI g s i) (hi : i < 8) (hr : i = run1 g) : ¬ long2 g = 0 ∧ i = long1 g ∧ run2 g = long2 g ∧ SixRI g (s ++ ofL [58, 58]) (i + run2 g) := by
  have i0 := h.i0
  have h0 : ¬ long2 g = 0 := by
    intro h0
    unfold run1 at hr
    rw [decide_eq_true h0, cond_true] at hr
    omega
  have h1 : i = long1 g := by unfold run1 at hr; rw [decide_eq_false h0, cond_false] at hr; exact hr
  have h2 : run2 g = long2 g := by unfold run2; rw [decide_eq_false h0, cond_false]
  obtain ⟨f1, f2, f3⟩ := long_facts h0
  refine ⟨h0, h1, h2, ⟨by omega, by omega, .inr (.inr (by omega)), ?_⟩⟩
  rw [h.e, ofL_app, sixP_lo (.inr (by omega)), sixP_hi h0 (by omega), h2, ← h1]
  congr 1
  have : ((gl g).take (i + long2 g).toNat).drop (i + long2 g).toNat = [] := by
    rw [List.drop_eq_nil_iff, List.length_take]; omega
  rw [this]
  simp [hexesL, Go.Lib.join_nil]
theorem six_on {g : G8} {s : ByteArray} {i : Int} (h : SixRI g s i) (hi : i < 8) (hr : ¬ i = run1 g) (hR : ∀ x ∈ gl g, inR x) :
    ∃ t, s = ofL t ∧ t.length ≤ 100 ∧ SixRI g (ofL ((bif endC t then t ++ [58] else t) ++ hexL ((gl g).getD i.toNat 0).toNat)) (i + 1) := by
  obtain ⟨i0, i1, ho, e⟩ := h
  refine ⟨sixP g i, e, sixP_len g i, ?_⟩
  have ht := take_succ (gl g) i 0 i0 (by rw [len_gl]; omega)
  have hRt : ∀ x ∈ (gl g).take i.toNat, inR x := fun x hx => hR x (List.mem_of_mem_take hx)
  by_cases h0 : long2 g = 0
  · refine ⟨by omega, by omega, .inl h0, ?_⟩
    rw [sixP_lo (.inl h0), sixP_lo (.inl h0), ht]
    have := tail_step (pre := []) ((gl g).getD i.toNat 0) (.inl rfl) hRt
    simp only [List.nil_append] at this
    rw [this]
  · have hr1 : ¬ i = long1 g := by
      intro e1
      apply hr
      unfold run1
      rw [decide_eq_false h0, cond_false]
      exact e1
    obtain ⟨f1, f2, f3⟩ := long_facts h0
    rcases ho with ho | ho | ho
    · exact absurd ho h0
    · refine ⟨by omega, by omega, .inr (.inl (by omega)), ?_⟩
      rw [sixP_lo (.inr ho), sixP_lo (.inr (by omega)), ht]
      have := tail_step (pre := []) ((gl g).getD i.toNat 0) (.inl rfl) hRt
      simp only [List.nil_append] at this
      rw [this]
    · refine ⟨by omega, by omega, .inr (.inr (by omega)), ?_⟩
      rw [sixP_hi h0 (by omega), sixP_hi h0 (by omega), ht]
      have hd : ((gl g).take i.toNat ++ [(gl g).getD i.toNat 0]).drop (long1 g + long2 g).toNat = ((gl g).take i.toNat).drop (long1 g + long2 g).toNat ++ [(gl g).getD i.toNat 0] := by
        rw [List.drop_append_of_le_length]
        rw [List.length_take, len_gl]
        omega
      rw [hd, tail_step (pre := hexesL ((gl g).take (long1 g).toNat) ++ [58, 58]) ((gl g).getD i.toNat 0) (.inr (by rw [List.getLast?_append]; rfl)) (fun x hx => hRt x (List.mem_of_mem_drop hx))]
theorem six_end {g : G8} {s : ByteArray} {i : Int} (h : SixRI g s i) (hi : ¬ i < 8) : s = sixS g := by
  obtain ⟨i0, i1, ho, e⟩ := h
  have e8 : i = 8 := by omega
  subst e8
  have ht : (gl g).take (8 : Int).toNat = gl g := List.take_of_length_le (Nat.le_of_eq (len_gl g))
  rw [e]
  unfold sixS inL
  by_cases h0 : long2 g = 0
  · rw [sixP_lo (.inl h0), decide_eq_true h0, cond_true, ht]
  · obtain ⟨f1, f2, f3⟩ := long_facts h0
    rw [sixP_hi h0 (by omega), decide_eq_false h0, cond_false, ht]
theorem v76 : Vc g76 300 Tryd.f76 cSixS.T := by
  constructor
  rw [v76_eq]; delta c76a c76b c76c c76d c76e c76f c76g c76h c76i
  rw [show (ByteArray.mk (List.toArray ((58 : UInt8) :: nilL UInt8)) : ByteArray) = ofL [58] from rfl, show (ByteArray.mk (List.toArray ((58 : UInt8) :: (58 : UInt8) :: nilL UInt8)) : ByteArray) = ofL [58, 58] from rfl, show (ByteArray.mk (List.toArray (nilL UInt8)) : ByteArray) = ofL [] from rfl]
  intro x hx
  have hR : ∀ z ∈ gl x.1, inR z := by
    have h1 : (typedB G8T x.1 && true) = true := hx.out.1
    have h2 : typedB AdT (0, x.1, 0, ()) = true := by
      have : (typedB G8T x.1 && true) = true := h1
      show (decide (IntKind.wrap .i8 0 = 0) && (typedB G8T x.1 && (decide (IntKind.wrap .i64 0 = 0) && true))) = true
      rw [Bool.and_true] at this
      rw [this]
      decide
    exact (typed_R h2).g
  clear hx
  generalize x.fst = g at *
  have hg : (g.1 :: g.2.1 :: g.2.2.1 :: g.2.2.2.1 :: g.2.2.2.2.1 :: g.2.2.2.2.2.1 :: g.2.2.2.2.2.2.1 :: g.2.2.2.2.2.2.2.1 :: nilL Int) = gl g := rfl
  rw [hg]
  have mx : maxLen = 9223372036854775807 := rfl
  have s1 : (ofL [58]).size = 1 := ofL_size _
  have s2 : (ofL [58, 58]).size = 2 := ofL_size _
  refine ⟨⟨rfl⟩, ⟨⟨⟨by omega, by omega, ?_, ?_⟩⟩, by repeat' (first | exact ⟨rfl⟩ | apply And.intro)⟩, fun y hy => (bcase_iff _ _ _).2 ⟨fun h => ?_, fun h => ?_⟩⟩
  · by_cases h0 : long2 g = 0
    · exact .inl h0
    · exact .inr (.inl (long_facts h0).2.1)
  · have : long2 g = 0 ∨ (0 : Int) ≤ long1 g := by
      by_cases h0 : long2 g = 0
      · exact .inl h0
      · exact .inr (long_facts h0).2.1
    rw [sixP_lo this]
    rfl
  · have hy := hy.out
    have h : y.2 < 8 := of_decide_eq_true h
    have y0 := hy.i0
    have hsz : y.1.size ≤ 100 := by rw [hy.e, ofL_size]; exact sixP_len g y.2
    refine (bcase_iff _ _ _).2 ⟨fun hr => ?_, fun hr => ?_⟩
    · have hr : y.2 = run1 g := of_decide_eq_true hr
      obtain ⟨q0, q1, q2, q3⟩ := six_run hy h hr
      obtain ⟨f1, f2, f3⟩ := long_facts q0
      have e1 : IntKind.wrap .i64 (y.2 + run2 g) = y.2 + run2 g := w64 (by omega) (by omega)
      have e2 : IntKind.wrap .i64 (y.2 + run2 g - 1) = y.2 + run2 g - 1 := w64 (by omega) (by omega)
      have e3 : IntKind.wrap .i64 (y.2 + run2 g - 1 + 1) = y.2 + run2 g := by rw [w64 (by omega) (by omega)]; omega
      rw [e1, e2, e3]
      exact ⟨⟨by rw [s2, mx]; omega⟩, ⟨q3⟩, ⟨by omega⟩, by repeat' (first | exact ⟨rfl⟩ | apply And.intro)⟩
    · have hr : ¬ y.2 = run1 g := of_decide_eq_false hr
      obtain ⟨t, ht, htl, hst⟩ := six_on hy h hr hR
      have hn : inR ((gl g).getD y.2.toNat 0) := hR _ (getD_mem y0 (by rw [len_gl]; omega))
      have wn : IntKind.wrap .i64 ((gl g).getD y.2.toNat 0) = (gl g).getD y.2.toNat 0 := w64 hn.1 (by have := hn.2; omega)
      have w1 : IntKind.wrap .i64 (y.2 + 1) = y.2 + 1 := w64 (by omega) (by omega)
      have hd : dgS ((gl g).getD y.2.toNat 0) 16 = ofL (hexL ((gl g).getD y.2.toNat 0).toNat) := rfl
      have hdl : (dgS ((gl g).getD y.2.toNat 0) 16).size ≤ 5 := by unfold dgS; rw [ofL_size]; exact dgL_len _ _
      have hpre : (decide ((0 : Int) ≤ (gl g).getD y.2.toNat 0) && decide ((gl g).getD y.2.toNat 0 ≤ (65535 : Int)) && (decide ((16 : Int) = (10 : Int)) || decide ((16 : Int) = (16 : Int)))) = true := by
        have := hn.1; have := hn.2
        rw [decide_eq_true (show (0 : Int) ≤ (gl g).getD y.2.toNat 0 by omega), decide_eq_true (show (gl g).getD y.2.toNat 0 ≤ 65535 by omega)]
        rfl
      have hc := endC_eq t (by omega)
      rw [← ht] at hc
      rw [wn, w1, hc]
      have hwz : y.1 = ofL [] ∨ 1 ≤ y.1.size := by
        rw [ht, ofL_size]
        cases t with
        | nil => exact .inl rfl
        | cons _ _ => exact .inr (by simp)
      have hwz' : (!decide (y.1 = ofL [])) = true → 1 ≤ y.1.size := by
        intro h
        rcases hwz with e | e
        · rw [decide_eq_true e] at h; cases h
        · exact e
      have wsz : (!decide (y.1 = ofL [])) = true → IntKind.wrap .i64 ((y.1.size : Int) - 1) = (y.1.size : Int) - 1 := fun h => by
        have := hwz' h
        exact w64 (by omega) (by omega)
      refine ⟨⟨fun h => by have := hwz' h; rw [wsz h]; omega⟩, ⟨fun h => by have := hwz' h; rw [wsz h]; omega⟩, (bcase_iff _ _ _).2 ⟨fun he => ?_, fun he => ?_⟩⟩
      · rw [he, cond_true, ← ofL_app, ← ofL_app, ← ht, ← hd] at hst
        exact ⟨⟨by rw [s1, mx]; omega⟩, ⟨y0⟩, ⟨by omega⟩, ⟨hpre⟩, ⟨by rw [ByteArray.size_append, s1, mx]; omega⟩, ⟨hst⟩, ⟨by omega⟩, by repeat' (first | exact ⟨rfl⟩ | apply And.intro)⟩
      · rw [he, cond_false, ← ofL_app, ← ht, ← hd] at hst
        exact ⟨⟨y0⟩, ⟨by omega⟩, ⟨hpre⟩, ⟨by rw [mx]; omega⟩, ⟨hst⟩, ⟨by omega⟩, by repeat' (first | exact ⟨rfl⟩ | apply And.intro)⟩
  · rw [six_end hy.out (of_decide_eq_false h)]
end Go.Proofs.YtkimpfoimblhjaaDoor.Ad
set_option linter.all false
namespace Go.Proofs.YtkimpfoimblhjaaDoor.Ad
open Go Go.Eng Go.Lb Go.Ad Lb
set_option maxRecDepth 100000
set_option maxHeartbeats 2000000
theorem byte_parts {n : Int} (h : inR n) : IntKind.wrap .i64 (Int.tdiv (IntKind.wrap .i64 n) 256) = ((n.toNat / 256 : Nat) : Int) ∧ Int.tmod (IntKind.wrap .i64 n) 256 = ((n.toNat % 256 : Nat) : Int) := by
  have h0 := h.1
  have h1 := h.2
  rw [w64 (n := n) h0 (by omega), Int.tdiv_eq_ediv_of_nonneg h0, Int.tmod_eq_emod_of_nonneg h0, w64 (by omega) (by omega)]
  omega
theorem dg_pre {n : Int} (h0 : 0 ≤ n) (h1 : n ≤ 65535) : (decide ((0 : Int) ≤ n) && decide (n ≤ (65535 : Int)) && (decide ((10 : Int) = (10 : Int)) || decide ((10 : Int) = (16 : Int)))) = true := by
  rw [decide_eq_true h0, decide_eq_true h1]
  rfl
theorem v45 : Vc g45 300 Tryd.f45 cText.T := by
  constructor
  rw [v45_eq]; delta c45a c45e c45b c45c c45d c45f c45g c45h c45i c45j
  rw [show (ByteArray.mk (List.toArray ((58 : UInt8) :: nilL UInt8)) : ByteArray) = ofL [58] from rfl, show (ByteArray.mk (List.toArray ((91 : UInt8) :: nilL UInt8)) : ByteArray) = ofL [91] from rfl, show (ByteArray.mk (List.toArray ((93 : UInt8) :: nilL UInt8)) : ByteArray) = ofL [93] from rfl, show (ByteArray.mk (List.toArray ((46 : UInt8) :: nilL UInt8)) : ByteArray) = ofL [46] from rfl]
  intro x hx
  have hr : AdR x.1 := by
    have h1 : (typedB AdT x.1 && true) = true := hx.out.1
    rw [Bool.and_true] at h1
    exact typed_R h1
  clear hx
  generalize x.fst = a at *
  have i0 : inR a.2.1.1 := hr.g _ (by simp [gl])
  have i1 : inR a.2.1.2.1 := hr.g _ (by simp [gl])
  have mx : maxLen = 9223372036854775807 := rfl
  have s1 : ∀ b : UInt8, (ofL [b]).size = 1 := fun b => ofL_size [b]
  have hd : ∀ n, (dgS n 10).size ≤ 5 := fun n => by unfold dgS; rw [ofL_size]; exact dgL_len _ _
  refine ⟨⟨rfl⟩, (bcase_iff _ _ _).2 ⟨fun h => text_no' (by simpa using h), fun h => ?_⟩⟩
  have hm : may1 a = true := by simpa using h
  have hm' := (may1_iff a).1 hm
  have hport : dgS a.2.2.1 10 = ofL (digL a.2.2.1.toNat) := rfl
  have hpp := hd a.2.2.1
  have six40 : (sixS a.2.1).size ≤ 100 := by
    unfold sixS
    rw [ofL_size]
    have := six_end (g := a.2.1) (s := ofL (sixP a.2.1 8)) (i := 8) ⟨by omega, by omega, by
      by_cases h0 : long2 a.2.1 = 0
      · exact .inl h0
      · exact .inr (.inr (long_facts h0).2.2), rfl⟩ (by omega)
    have h2 := sixP_len a.2.1 8
    rw [← ofL_size, this] at h2
    unfold sixS at h2
    rwa [ofL_size] at h2
  refine ⟨⟨dg_pre (by omega) (by omega)⟩, ⟨by rw [s1, mx]; omega⟩, (bcase_iff _ _ _).2 ⟨fun h6 => ?_, fun h6 => ?_⟩⟩
  · have k6 : a.1 = 6 := of_decide_eq_true h6
    refine ⟨⟨rfl⟩, ⟨by rw [s1, mx]; omega⟩, ⟨by simp only [ByteArray.size_append, s1, mx]; omega⟩, ⟨by simp only [ByteArray.size_append, s1, mx]; omega⟩, text_yes hm ?_⟩
    rw [hport, show sixS a.2.1 = ofL (inL a.2.1) from rfl, ofL_app, ofL_app, ofL_app, ofL_app]
    unfold text0 hostL
    rw [decide_eq_false (show ¬ a.1 = 4 by omega), cond_false]
    rfl
  · have k4 : a.1 = 4 := by
      have : ¬ a.1 = 6 := of_decide_eq_false h6
      rcases hm'.2 with h | h
      · exact absurd h this
      · exact h.1
    obtain ⟨p1, p2⟩ := byte_parts i0
    obtain ⟨p3, p4⟩ := byte_parts i1
    unfold inR at i0 i1
    rw [p1, p2, p3, p4]
    have d1 := hd ((a.2.1.1.toNat / 256 : Nat) : Int)
    have d2 := hd ((a.2.1.1.toNat % 256 : Nat) : Int)
    have d3 := hd ((a.2.1.2.1.toNat / 256 : Nat) : Int)
    have d4 := hd ((a.2.1.2.1.toNat % 256 : Nat) : Int)
    have fin : dgS ((a.2.1.1.toNat / 256 : Nat) : Int) 10 ++ ofL [46] ++ dgS ((a.2.1.1.toNat % 256 : Nat) : Int) 10 ++ ofL [46] ++ dgS ((a.2.1.2.1.toNat / 256 : Nat) : Int) 10 ++ ofL [46] ++ dgS ((a.2.1.2.1.toNat % 256 : Nat) : Int) 10 ++ (ofL [58] ++ dgS a.2.2.1 10) = ofL (text0 a) := by
      have e : ∀ n : Nat, dgS (n : Int) 10 = ofL (digL n) := fun n => rfl
      rw [hport, e, e, e, e, ofL_app, ofL_app, ofL_app, ofL_app, ofL_app, ofL_app, ofL_app, ofL_app]
      unfold text0 hostL
      rw [decide_eq_true k4, cond_true]
      unfold fourL
      rw [join_cc, join_cc, join_cc, Go.Lib.join_one]
      simp
    have hq := text_yes hm fin
    generalize dgS ((a.2.1.1.toNat / 256 : Nat) : Int) 10 = A at *
    generalize dgS ((a.2.1.1.toNat % 256 : Nat) : Int) 10 = B at *
    generalize dgS ((a.2.1.2.1.toNat / 256 : Nat) : Int) 10 = C at *
    generalize dgS ((a.2.1.2.1.toNat % 256 : Nat) : Int) 10 = D at *
    generalize dgS a.2.2.1 10 = E at *
    repeat' (first | exact hq | with_reducible apply And.intro | exact ⟨dg_pre (by omega) (by omega)⟩ | exact ⟨by decide⟩ | exact ⟨by simp only [ByteArray.size_append, s1, mx]; omega⟩)
end Go.Proofs.YtkimpfoimblhjaaDoor.Ad
set_option linter.all false
namespace Go.Proofs.YtkimpfoimblhjaaDoor.Ad
open Go Go.Eng Go.Lb Go.Ad Lb
set_option maxRecDepth 100000
set_option maxHeartbeats 2000000
theorem ofL_bytesL (s : ByteArray) : ofL (bytesL s) = s := bytesL_inj (bytesL_ofL _)
theorem size0 {s : ByteArray} (h : s.size < 1) : s = ofL [] := by
  apply bytesL_inj
  rw [bytesL_ofL]
  exact List.eq_nil_of_length_eq_zero (by rw [← size_bytesL]; omega)
theorem num_no {s : ByteArray} {m : Int} (h : numOk (bytesL s) = false) : ((0 : Int), false, ()) = (num1 s m, num2 s m, ()) := by
  unfold num1 num2
  rw [h]
  rfl
theorem num_yes {s : ByteArray} {m n : Int} (h : numOk (bytesL s) = true) (hn : n = ((numL 0 (bytesL s) : Nat) : Int)) : (n, decide (n ≤ m), ()) = (num1 s m, num2 s m, ()) := by
  unfold num1 num2
  rw [h, hn]
  rfl
theorem take1 {s : ByteArray} {i : Int} (i0 : 0 ≤ i) (hi : i < s.size) : (bytesL s).take (i + 1).toNat = (bytesL s).take i.toNat ++ [(bytesL s).getD i.toNat 0] := by
  rw [show (i + 1).toNat = i.toNat + 1 from by omega, take_next (by omega)]
theorem drop1 {s : ByteArray} {i : Int} (i0 : 0 ≤ i) (hi : i < s.size) : (bytesL s).drop i.toNat = (bytesL s).getD i.toNat 0 :: (bytesL s).drop (i + 1).toNat :=
  drop_cons _ i 0 i0 (by rw [← size_bytesL]; exact hi)
theorem wu8 {n : Int} (h0 : 0 ≤ n) (h1 : n < 256) : IntKind.wrap .u8 n = n := by
  simp [IntKind.wrap, IntKind.signed, IntKind.bits]; omega
theorem dec_on {s : ByteArray} {n i : Int} (h : DecRI s n i) (hs : s.size ≤ 5) (hi : i < s.size) (h1 : ¬ byteAt s i.toNat < 48) (h2 : ¬ byteAt s i.toNat > 57) :
    DecRI s (IntKind.wrap .i64 (IntKind.wrap .i64 (n * 10) + IntKind.wrap .i64 (IntKind.wrap .u8 (byteAt s i.toNat - 48)))) (IntKind.wrap .i64 (i + 1)) := by
  obtain ⟨i0, i1, n0, n1, d, e⟩ := h
  rw [byteAt_eq] at *
  generalize hb : (bytesL s).getD i.toNat 0 = b at *
  have hb8 := b.toNat_lt
  have hp := pw_le (p := i.toNat) (by omega)
  rw [w64 (n := i + 1) (by omega) (by omega), wu8 (by omega) (by omega), w64 (n := n * 10) (by omega) (by omega), w64 (n := (b.toNat : Int) - 48) (by omega) (by omega), w64 (by omega) (by omega)]
  have ht := take1 i0 hi
  rw [hb] at ht
  refine ⟨by omega, by omega, by omega, ?_, ?_, ?_⟩
  · rw [show (i + 1).toNat = i.toNat + 1 from by omega, Int.pow_succ]; omega
  · rw [ht, List.all_append, d, Bool.true_and, List.all_cons, (isDigit_iff b).2 (by omega)]; rfl
  · rw [ht, numL_snoc, e]; omega
theorem v77 : Vc g77 300 Tryd.f77 cNum := by
  constructor
  rw [v77_eq]; delta c77a c77b c77c
  intro x hs
  generalize x.fst = s at *
  generalize x.snd.fst = m at *
  have hs := (szOk_iff s).1 hs.out
  have hz := size_bytesL s
  have e0 : Int.toNat 0 = 0 := rfl
  refine ⟨⟨fun _ => by omega⟩, ⟨fun h => ?_⟩, (bcase_iff _ _ _).2 ⟨fun h => num_no ?_, fun h => ?_⟩⟩
  · simp only [Bool.and_eq_true, decide_eq_true_eq] at h; omega
  · simp only [Bool.or_eq_true, Bool.and_eq_true, decide_eq_true_eq] at h
    apply num_bad
    rcases h with (h | h) | h
    · exact .inl (.inl (size0 (by omega)))
    · exact .inl (.inr h)
    · refine .inr ⟨h.2, fun e => ?_⟩
      rw [e, ofL_size] at h
      exact absurd h.1 (by decide)
  · simp only [Bool.or_eq_false_iff, Bool.and_eq_false_iff, decide_eq_false_iff_not] at h
    obtain ⟨⟨h1, h5⟩, h48⟩ := h
    have hgood : numOk (bytesL s) = (bytesL s).all isDigit := by
      apply num_good
      refine ⟨⟨fun e => by rw [e, ofL_size] at h1; exact h1 (by decide), h5⟩, ?_⟩
      by_cases hb : byteAt s 0 = 48
      · right
        rcases h48 with h | h
        · have h11 : (bytesL s).length = 1 := by omega
          apply bytesL_inj
          rw [bytesL_ofL]
          rw [byteAt_eq] at hb
          match hl : bytesL s, h11 with
          | [b], _ =>
            rw [hl] at hb
            have hb : ((b.toNat : Nat) : Int) = 48 := hb
            rw [UInt8.toNat_inj.1 (show b.toNat = (48 : UInt8).toNat by show b.toNat = 48; omega)]
        · exact absurd hb h
      · exact .inl hb
    refine ⟨⟨⟨⟨by omega, by omega, by omega, by decide, rfl, rfl⟩⟩, by repeat' (first | exact ⟨rfl⟩ | apply And.intro)⟩, fun y hy => (bcase_iff _ _ _).2 ⟨fun h => ?_, fun h => ?_⟩⟩
    · have hy := hy.out
      have y0 := hy.i0
      have h : y.2 < s.size := of_decide_eq_true h
      refine ⟨⟨y0⟩, ⟨h⟩, ⟨fun _ => y0⟩, ⟨fun _ => h⟩, (bcase_iff _ _ _).2 ⟨fun hb => num_no ?_, fun hb => ?_⟩⟩
      · rw [hgood]
        cases ha : (bytesL s).all isDigit with
        | false => rfl
        | true =>
          have := List.all_eq_true.1 ha _ (getD_mem (z := 0) y0 (by omega))
          rw [isDigit_iff] at this
          rw [Bool.or_eq_true, decide_eq_true_eq, decide_eq_true_eq, byteAt_eq] at hb
          omega
      · simp only [Bool.or_eq_false_iff, decide_eq_false_iff_not] at hb
        refine ⟨⟨y0⟩, ⟨h⟩, ⟨dec_on hy (by omega) h hb.1 hb.2⟩, ⟨by rw [w64 (by omega) (by omega)]; omega⟩, by repeat' (first | exact ⟨rfl⟩ | apply And.intro)⟩
    · have h : ¬ y.2 < s.size := of_decide_eq_false h
      obtain ⟨i0, i1, n0, n1, d, e⟩ := hy.out
      rw [List.take_of_length_le (by omega)] at d e
      exact num_yes (hgood.trans d) e
theorem hgrp_no {s : ByteArray} (h : grp2 s = false) : ((0 : Int), false, ()) = (hx1 s, grp2 s, ()) := by
  unfold hx1
  rw [h]
  rfl
theorem hex_on {s : ByteArray} {n i : Int} {d : Nat} (h : HexRI s n i) (hs : s.size ≤ 4) (hi : i < s.size) (hd : hexV ((bytesL s).getD i.toNat 0) = some d) : HexRI s (n * 16 + d) (i + 1) := by
  obtain ⟨i0, i1, n0, n1, e⟩ := h
  have hlt := hexV_lt hd
  have hpow : (16 : Int) ^ (i.toNat + 1) ≤ 65536 := by
    have : ∀ q : Fin 5, (16 : Int) ^ q.val ≤ 65536 := by decide
    exact this ⟨i.toNat + 1, by omega⟩
  rw [Int.pow_succ] at hpow
  refine ⟨by omega, by omega, by omega, ?_, ?_⟩
  · rw [show (i + 1).toNat = i.toNat + 1 from by omega, Int.pow_succ]; omega
  · rw [drop1 i0 hi, grp_cons _ hd (by omega)] at e
    rw [← e]
    congr 1
    omega
theorem hex_bad {s : ByteArray} {n i : Int} (h : HexRI s n i) (hi : i < s.size) (hd : hexV ((bytesL s).getD i.toNat 0) = none) : grp2 s = false := by
  obtain ⟨i0, i1, n0, n1, e⟩ := h
  rw [drop1 i0 hi, grpL, hd] at e
  unfold grp2
  rw [← e]
  rfl
theorem hexV_1 {b : UInt8} (h : 48 ≤ b.toNat ∧ b.toNat ≤ 57) : hexV b = some (b.toNat - 48) := by
  unfold hexV
  rw [decide_eq_true h.1, decide_eq_true h.2]; rfl
theorem hexV_2 {b : UInt8} (h : 97 ≤ b.toNat ∧ b.toNat ≤ 102) : hexV b = some (b.toNat - 87) := by
  unfold hexV
  rw [decide_eq_false (show ¬ b.toNat ≤ 57 by omega), Bool.and_false, cond_false, decide_eq_true h.1, decide_eq_true h.2]; rfl
theorem hexV_3 {b : UInt8} (h : 65 ≤ b.toNat ∧ b.toNat ≤ 70) : hexV b = some (b.toNat - 55) := by
  unfold hexV
  rw [decide_eq_false (show ¬ b.toNat ≤ 57 by omega), Bool.and_false, cond_false, decide_eq_false (show ¬ 97 ≤ b.toNat by omega), Bool.false_and, cond_false, decide_eq_true h.1, decide_eq_true h.2]; rfl
theorem hexW_0 {b : UInt8} (h1 : ¬ (48 ≤ b.toNat ∧ b.toNat ≤ 57)) (h2 : ¬ (97 ≤ b.toNat ∧ b.toNat ≤ 102)) (h3 : ¬ (65 ≤ b.toNat ∧ b.toNat ≤ 70)) : hexV b = none := by
  unfold hexV
  have e : ∀ p q : Nat, ∀ n : Nat, ¬ (p ≤ n ∧ n ≤ q) → (decide (p ≤ n) && decide (n ≤ q)) = false := by
    intro p q n h
    cases hx : (decide (p ≤ n) && decide (n ≤ q)) with
    | false => rfl
    | true => rw [Bool.and_eq_true, decide_eq_true_eq, decide_eq_true_eq] at hx; exact absurd hx h
  rw [e _ _ _ h1, e _ _ _ h2, e _ _ _ h3]
  rfl
theorem hex_n {s : ByteArray} {n i : Int} (h : HexRI s n i) (hs : s.size ≤ 4) : 0 ≤ n ∧ n < 65536 := by
  obtain ⟨i0, i1, n0, n1, e⟩ := h
  have : ∀ q : Fin 5, (16 : Int) ^ q.val ≤ 65536 := by decide
  have := this ⟨i.toNat, by omega⟩
  simp only at this
  omega
theorem v122 : Vc g122 300 Tryd.f122 cHexR := by
  constructor
  rw [v122_eq]; delta c122a c122b c122c c122f c122d c122e
  intro x hs
  generalize x.fst = s at *
  have hs := (szOk_iff s).1 hs.out
  have hz := size_bytesL s
  refine (bcase_iff _ _ _).2 ⟨fun h => hgrp_no ?_, fun h => ?_⟩
  · simp only [Bool.or_eq_true, decide_eq_true_eq] at h
    unfold grp2
    rcases h with h | h
    · rw [decide_eq_false (show ¬ 1 ≤ (bytesL s).length by omega), Bool.and_false, Bool.false_and]
    · rw [decide_eq_false (show ¬ (bytesL s).length ≤ 4 by omega), Bool.and_false]
  · simp only [Bool.or_eq_false_iff, decide_eq_false_iff_not] at h
    refine ⟨⟨⟨⟨by omega, by omega, by omega, by decide, rfl⟩⟩, by repeat' (first | exact ⟨rfl⟩ | apply And.intro)⟩, fun y hy => (bcase_iff _ _ _).2 ⟨fun hi => ?_, fun hi => ?_⟩⟩
    · have hy := hy.out
      have y0 := hy.i0
      have hi : y.2 < s.size := of_decide_eq_true hi
      have hn := hex_n hy (by omega)
      have hmu : s.size - (IntKind.wrap .i64 (y.2 + 1)).toNat < s.size - y.2.toNat := by rw [w64 (by omega) (by omega)]; omega
      have on := fun d => hex_on (d := d) hy (by omega) hi
      have bad := hex_bad hy hi
      rw [byteAt_eq]
      generalize (bytesL s).getD y.2.toNat 0 = b at *
      have hb8 := b.toNat_lt
      have w1 : IntKind.wrap .i64 (y.2 + 1) = y.2 + 1 := w64 (by omega) (by omega)
      have w2 : IntKind.wrap .i64 (y.1 * 16) = y.1 * 16 := w64 (by omega) (by omega)
      refine ⟨⟨y0⟩, ⟨hi⟩, (bcase_iff _ _ _).2 ⟨fun c1 => ?_, fun c1 => (bcase_iff _ _ _).2 ⟨fun c2 => ?_, fun c2 => (bcase_iff _ _ _).2 ⟨fun c3 => ?_, fun c3 => hgrp_no (bad ?_)⟩⟩⟩⟩
      · simp only [Bool.and_eq_true, decide_eq_true_eq] at c1
        refine ⟨⟨?_⟩, ⟨hmu⟩, by repeat' (first | exact ⟨rfl⟩ | apply And.intro)⟩
        have := on _ (hexV_1 (b := b) (by omega))
        rw [w1, w2, wu8 (by omega) (by omega), w64 (n := (b.toNat : Int) - 48) (by omega) (by omega), w64 (by omega) (by omega), show (b.toNat : Int) - 48 = ((b.toNat - 48 : Nat) : Int) from by omega]
        exact this
      · simp only [Bool.and_eq_true, decide_eq_true_eq] at c2
        refine ⟨⟨?_⟩, ⟨hmu⟩, by repeat' (first | exact ⟨rfl⟩ | apply And.intro)⟩
        have := on _ (hexV_2 (b := b) (by omega))
        rw [w1, w2, wu8 (by omega) (by omega), w64 (n := (b.toNat : Int) - 97) (by omega) (by omega), w64 (n := y.1 * 16 + ((b.toNat : Int) - 97)) (by omega) (by omega), w64 (by omega) (by omega), show y.1 * 16 + ((b.toNat : Int) - 97) + 10 = y.1 * 16 + ((b.toNat - 87 : Nat) : Int) from by omega]
        exact this
      · simp only [Bool.and_eq_true, decide_eq_true_eq] at c3
        refine ⟨⟨?_⟩, ⟨hmu⟩, by repeat' (first | exact ⟨rfl⟩ | apply And.intro)⟩
        have := on _ (hexV_3 (b := b) (by omega))
        rw [w1, w2, wu8 (by omega) (by omega), w64 (n := (b.toNat : Int) - 65) (by omega) (by omega), w64 (n := y.1 * 16 + ((b.toNat : Int) - 65)) (by omega) (by omega), w64 (by omega) (by omega), show y.1 * 16 + ((b.toNat : Int) - 65) + 10 = y.1 * 16 + ((b.toNat - 55 : Nat) : Int) from by omega]
        exact this
      · simp only [Bool.and_eq_false_iff, decide_eq_false_iff_not] at c1 c2 c3
        exact hexW_0 (by omega) (by omega) (by omega)
    · have hi : ¬ y.2 < s.size := of_decide_eq_false hi
      have hn := hex_n hy.out (by omega)
      obtain ⟨i0, i1, n0, n1, e⟩ := hy.out
      rw [List.drop_of_length_le (by omega), grpL] at e
      have g2 : grp2 s = true := by
        unfold grp2
        rw [← e, decide_eq_true (show 1 ≤ (bytesL s).length by omega), decide_eq_true (show (bytesL s).length ≤ 4 by omega)]
        rfl
      unfold hx1
      rw [g2, cond_true, wu16 hn.1 hn.2]
      unfold grp1
      rw [← e, Option.getD_some, Int.toNat_of_nonneg n0]
end Go.Proofs.YtkimpfoimblhjaaDoor.Ad
set_option linter.all false
namespace Go.Proofs.YtkimpfoimblhjaaDoor.Ad
open Go Go.Eng Go.Lb Go.Ad Lb
set_option maxRecDepth 100000
set_option maxHeartbeats 2000000
theorem cut_on {s : ByteArray} {c : Int} {out : List ByteArray} {f i : Int} (h : CutRI s c out f i) (hs : s.size ≤ 4000000000) (c0 : 0 ≤ c) (c1 : c < 256) (hi : i < s.size) :
    (byteAt s i.toNat = c → CutRI s c (out ++ [subS s f.toNat i.toNat]) (i + 1) (i + 1)) ∧ (¬ byteAt s i.toNat = c → CutRI s c out f (i + 1)) := by
  obtain ⟨f0, f1, i1, hn, ln, e⟩ := h
  have hz := size_bytesL s
  have i0 : 0 ≤ i := by omega
  have ht := take1 i0 hi
  have hd := drop1 i0 hi
  have hcb : byteAt s i.toNat = c ↔ (bytesL s).getD i.toNat 0 = UInt8.ofNat c.toNat := by
    rw [byteAt_eq]
    constructor
    · intro h; apply UInt8.toNat_inj.1; rw [UInt8.toNat_ofNat']; omega
    · intro h; rw [h, UInt8.toNat_ofNat']; omega
  rw [hcb]
  have hfd : (bytesL s).drop f.toNat = ((bytesL s).take i.toNat).drop f.toNat ++ (bytesL s).drop i.toNat := by
    have e1 : bytesL s = (bytesL s).take i.toNat ++ (bytesL s).drop i.toNat := (List.take_append_drop _ _).symm
    have e2 : ((bytesL s).take i.toNat ++ (bytesL s).drop i.toNat).drop f.toNat = ((bytesL s).take i.toNat).drop f.toNat ++ (bytesL s).drop i.toNat := by
      rw [List.drop_append_of_le_length]
      rw [List.length_take]
      omega
    rw [← e1] at e2
    exact e2
  constructor
  · intro hb
    refine ⟨by omega, by omega, by omega, ?_, by rw [List.length_append]; show ((out.length + 1 : Nat) : Int) ≤ _; omega, ?_⟩
    · rw [List.drop_of_length_le (by rw [List.length_take]; omega)]
      simp
    · rw [List.map_append, List.map_cons, List.map_nil, bytesL_sub, ← e, hfd, hd, hb, splitC_app _ hn, List.append_assoc]
      rfl
  · intro hb
    refine ⟨f0, by omega, by omega, ?_, by omega, e⟩
    rw [ht, List.drop_append_of_le_length (by rw [List.length_take]; omega), List.mem_append, not_or]
    exact ⟨hn, by simpa using fun h => hb h.symm⟩
theorem cutC_eq (s : ByteArray) (c : Int) : cutC s c = (splitC (UInt8.ofNat c.toNat) (bytesL s)).map ofL := by
  unfold cutC splitS
  rw [bytesL_ofL]
  rfl
theorem v60 : Vc g60 300 Tryd.f60 cCutR := by
  constructor
  rw [v60_eq]; delta c60a c60b c60c
  intro x hx
  generalize x.fst = s at *
  generalize x.snd.fst = c at *
  have hx : (szOk s = true ∧ (0 : Int) ≤ c) ∧ c < 256 := by
    have := hx.out
    rw [Bool.and_eq_true, Bool.and_eq_true, decide_eq_true_eq, decide_eq_true_eq] at this
    exact this
  obtain ⟨⟨hs, c0⟩, c1⟩ := hx
  have hs := (szOk_iff s).1 hs
  have hz := size_bytesL s
  refine ⟨⟨⟨⟨by omega, by omega, by omega, by simp, by simp [nilL], by simp [nilL]⟩⟩, by repeat' (first | exact ⟨rfl⟩ | apply And.intro)⟩, fun y hy => (bcase_iff _ _ _).2 ⟨fun h => ?_, fun h => ?_⟩⟩
  · have hy := hy.out
    have f0 := hy.f0
    have f1 := hy.f1
    have ln := hy.ln
    have h : y.2.2 < s.size := of_decide_eq_true h
    have hon := cut_on hy hs c0 c1 h
    have w1 : IntKind.wrap .i64 (y.2.2 + 1) = y.2.2 + 1 := w64 (by omega) (by omega)
    have e1 : ∀ b : ByteArray, (b :: nilL ByteArray).length = 1 := fun _ => rfl
    rw [w1]
    refine ⟨⟨by omega⟩, ⟨h⟩, (bcase_iff _ _ _).2 ⟨fun hb => ?_, fun hb => ?_⟩⟩
    · exact ⟨⟨f0⟩, ⟨f1⟩, ⟨by omega⟩, ⟨by rw [e1]; omega⟩, ⟨hon.1 (of_decide_eq_true hb)⟩, ⟨by omega⟩, by repeat' (first | exact ⟨rfl⟩ | apply And.intro)⟩
    · exact ⟨⟨hon.2 (of_decide_eq_false hb)⟩, ⟨by omega⟩, by repeat' (first | exact ⟨rfl⟩ | apply And.intro)⟩
  · have h : ¬ y.2.2 < s.size := of_decide_eq_false h
    obtain ⟨f0, f1, i1, hn, ln, e⟩ := hy.out
    have e1 : ∀ b : ByteArray, (b :: nilL ByteArray).length = 1 := fun _ => rfl
    refine ⟨⟨f0⟩, ⟨by omega⟩, ⟨by omega⟩, ⟨by rw [e1]; omega⟩, ?_⟩
    rw [List.take_of_length_le (by omega)] at hn
    rw [splitC_none hn] at e
    have : cutC s c = y.1 ++ [subS s y.2.1.toNat (Int.toNat (s.size : Int))] := by
      rw [cutC_eq, ← e, List.map_append, List.map_map, Int.toNat_natCast, sub_drop]
      congr 1
      exact (List.map_congr_left (fun b _ => ofL_bytesL b)).trans (List.map_id _)
    rw [this]
theorem v101 : Vc g101 300 Tryd.f101 cSide := by
  constructor
  rw [v101_eq]; delta c101a
  rw [show (ByteArray.mk (List.toArray (nilL UInt8)) : ByteArray) = ofL [] from rfl]
  intro x hs
  generalize x.fst = s at *
  have hs := hs.out
  have un : sideO s = bif decide ((bytesL s).length = 0) then some [] else goO grpO (splitS s (ofL [58])) := rfl
  have hn := splitS_n (d := ofL [58]) hs
  have hz := fun p => splitS_sz (p := p) (d := ofL [58]) hs
  have fin : ∀ (o : Option (List Int)) (a : List Int) (b : Bool), sideO s = o → a = o.getD [] → b = o.isSome → (a, b, ()) = (side1 s, side2 s, ()) := by
    intro o a b h1 h2 h3
    unfold side1 side2
    rw [h1, h2, h3]
  rw [show cutC s 58 = splitS s (ofL [58]) from rfl]
  refine (bcase_iff _ _ _).2 ⟨fun h => ?_, fun h => ?_⟩
  · rw [(empty_iff s).1 (of_decide_eq_true h)] at un
    exact fin _ _ _ un rfl rfl
  · have h : decide ((bytesL s).length = 0) = false := by
      cases hx : decide ((bytesL s).length = 0) with
      | false => rfl
      | true => exact absurd ((empty_iff s).2 hx) (of_decide_eq_false h)
    rw [h, cond_false] at un
    have hs58 : (szOk s && decide ((0 : Int) ≤ 58) && decide ((58 : Int) < 256)) = true := by rw [hs]; rfl
    generalize splitS s (ofL [58]) = l at un hn hz ⊢
    refine ⟨⟨hs58⟩, ⟨⟨GoI.zero _ _⟩, by repeat' (first | exact ⟨rfl⟩ | apply And.intro)⟩, fun y hy => (bcase_iff _ _ _).2 ⟨fun hlt => ?_, fun hlt => ?_⟩⟩
    · have hi := hy.out
      have hlt : y.2 < l.length := of_decide_eq_true hlt
      have hm := getD_mem (z := Ty.zero .str) hi.i0 hlt
      refine ⟨⟨hi.i0⟩, ⟨hlt⟩, ?_⟩
      (repeat with_reducible refine ⟨⟨rfl⟩, ?_⟩)
      refine ⟨⟨hz _ hm⟩, (bcase_iff _ _ _).2 ⟨fun hp => ?_, fun hp => ?_⟩⟩
      · have hp : grp2 (l.getD y.2.toNat (Ty.zero .str)) = false := by rw [Bool.not_eq_true'] at hp; exact hp
        rw [hi.no hlt (grp_O.2 hp)] at un
        exact fin _ _ _ un rfl rfl
      · have hp : grp2 (l.getD y.2.toNat (Ty.zero .str)) = true := by rw [Bool.not_eq_false'] at hp; exact hp
        have hon := hi.on (z := Ty.zero .str) (by omega) hlt (grp_O.1 hp)
        have e1 : hx1 (l.getD y.2.toNat (Ty.zero .str)) = grp1 (l.getD y.2.toNat (Ty.zero .str)) := by unfold hx1; rw [hp]; rfl
        have e2 : ∀ n : Int, (n :: nilL Int).length = 1 := fun _ => rfl
        have hlen := hi.len
        have i1 := hi.i1
        rw [e1, e2]
        exact ⟨⟨by omega⟩, ⟨hon.1⟩, ⟨hon.2⟩, by repeat' (first | exact ⟨rfl⟩ | apply And.intro)⟩
    · rw [hy.out.fin (of_decide_eq_false hlt)] at un
      exact fin _ _ _ un rfl rfl
theorem rowR_on {l : List Ad} {s : ByteArray} {i : Int} {z : Ad} (h : RowRI l s i) (hl : l.length ≤ 16) (hm : mayA l = true) (hi : i < l.length) :
    (i > 0 → RowRI l (s ++ ofL [32] ++ text1 (l.getD i.toNat z)) (IntKind.wrap .i64 (i + 1))) ∧ (¬ i > 0 → RowRI l (s ++ text1 (l.getD i.toNat z)) (IntKind.wrap .i64 (i + 1))) := by
  obtain ⟨i0, i1, e⟩ := h
  rw [w64 (by omega) (by omega)]
  have hm1 : may1 (l.getD i.toNat z) = true := List.all_eq_true.1 hm _ (getD_mem i0 hi)
  have ht := take_succ l i z i0 hi
  rw [text1_may hm1]
  constructor
  · intro hp
    refine ⟨by omega, by omega, ?_⟩
    rw [ht, List.map_append, List.map_cons, List.map_nil, join_snoc _ _ _ (by
      intro h0
      have := congrArg List.length h0
      rw [List.length_map, List.length_take, List.length_nil] at this
      omega), e, ofL_app, ofL_app]
    simp
  · intro hp
    have : i = 0 := by omega
    subst this
    refine ⟨by omega, by omega, ?_⟩
    rw [ht, e, ofL_app]
    show ofL (Go.Lib.join [] [32] ++ _) = ofL (Go.Lib.join [text0 _] [32])
    rw [Go.Lib.join_nil, Go.Lib.join_one, List.nil_append]
theorem rowR_sz {l : List Ad} {s : ByteArray} {i : Int} (h : RowRI l s i) (hl : l.length ≤ 16) : s.size ≤ 4000 := by
  rw [h.e, ofL_size]
  have := join_le (n := 200) (d := [32]) (ps := (l.take i.toNat).map text0) (by
    intro p hp
    obtain ⟨a, _, rfl⟩ := List.mem_map.1 hp
    exact text0_len a)
  rw [List.length_map, List.length_take] at this
  have h2 : (200 + [(32 : UInt8)].length) * min i.toNat l.length ≤ 201 * 16 := Nat.mul_le_mul (Nat.le_refl _) (by omega)
  omega
theorem read1_len (s : ByteArray) : lenA (read1 s) = true := by
  rw [lenA_iff]
  unfold read1 readO
  cases decide ((bytesL s).length = 0) with
  | true => exact Nat.zero_le _
  | false =>
    rw [cond_false]
    cases h : decide ((splitS s (ofL [32])).length ≤ 16) with
    | false => exact Nat.zero_le _
    | true =>
      rw [cond_true]
      cases hg : goO parseO (splitS s (ofL [32])) with
      | none => exact Nat.zero_le _
      | some l =>
        rw [Option.getD_some, goO_len hg]
        have := of_decide_eq_true h
        omega
end Go.Proofs.YtkimpfoimblhjaaDoor.Ad
set_option linter.all false
namespace Go.Proofs.YtkimpfoimblhjaaDoor.Ad
open Go Go.Eng Go.Lb Go.Ad Lb
set_option maxRecDepth 100000
set_option maxHeartbeats 4000000
theorem occ_iff (l : List UInt8) (j : Nat) : Go.Lib.occAt l [58, 58] j = true ↔ l.getD j 0 = 58 ∧ l.getD (j + 1) 0 = 58 := by
  have e0 : l.getD j 0 = (l.drop j).getD 0 0 := by rw [List.getD_eq_getElem?_getD, List.getD_eq_getElem?_getD, List.getElem?_drop]; rfl
  have e1 : l.getD (j + 1) 0 = (l.drop j).getD 1 0 := by rw [List.getD_eq_getElem?_getD, List.getD_eq_getElem?_getD, List.getElem?_drop]
  rw [e0, e1]
  unfold Go.Lib.occAt
  match l.drop j with
  | [] => decide
  | [a] =>
    simp [List.isPrefixOf]
  | a :: b :: r =>
    simp [List.isPrefixOf]
    exact ⟨fun h => ⟨h.1.symm, h.2.symm⟩, fun h => ⟨h.1.symm, h.2.symm⟩⟩
theorem getD_out {l : List UInt8} {j : Nat} (h : l.length ≤ j) : l.getD j 0 = 0 := by
  rw [List.getD_eq_getElem?_getD, List.getElem?_eq_none h]; rfl
theorem find_none {s : ByteArray} {a i : Int} (h : FindI s a i) (ha : a < 0) (hi : ¬ i + 1 < s.size) : Go.Lib.cut (bytesL s) [58, 58] = (bytesL s, [], false) := by
  have hz := size_bytesL s
  have hx : Go.Lib.index (bytesL s) [58, 58] = -1 := by
    apply Go.Lib.index_none
    intro j hj
    cases ho : Go.Lib.occAt (bytesL s) [58, 58] j with
    | false => rfl
    | true =>
      exfalso
      have ho := (occ_iff _ _).1 ho
      rcases h.e with ⟨_, h⟩ | ⟨h, _⟩
      · by_cases hj : (j : Int) < i
        · exact h j hj ho
        · have := ho.2
          rw [getD_out (by omega)] at this
          exact absurd this (by decide)
      · omega
  unfold Go.Lib.cut
  rw [hx]
  rfl
theorem find_some {s : ByteArray} {a i : Int} (h : FindI s a i) (ha : ¬ a < 0) : a + 1 < s.size ∧ Go.Lib.cut (bytesL s) [58, 58] = ((bytesL s).take a.toNat, (bytesL s).drop (a.toNat + 2), true) := by
  have hz := size_bytesL s
  rcases h.e with ⟨h, _⟩ | ⟨h0, h1, h2, h3, h4⟩
  · omega
  · refine ⟨h1, ?_⟩
    have hx : Go.Lib.index (bytesL s) [58, 58] = (a.toNat : Int) := by
      apply Go.Lib.index_first (by omega) ((occ_iff _ _).2 ⟨h2, h3⟩)
      intro j hj
      cases ho : Go.Lib.occAt (bytesL s) [58, 58] j with
      | false => rfl
      | true => exact absurd ((occ_iff _ _).1 ho) (h4 j (by omega))
    unfold Go.Lib.cut
    rw [hx, if_pos (by omega), Int.toNat_natCast]
    rfl
theorem find_on {s : ByteArray} {a i : Int} (h : FindI s a i) (hi : i + 1 < s.size) (ha : a < 0) : (byteAt s i.toNat = 58 ∧ byteAt s (i + 1).toNat = 58 → FindI s i (i + 1)) ∧ (¬ (byteAt s i.toNat = 58 ∧ byteAt s (i + 1).toNat = 58) → FindI s a (i + 1)) := by
  obtain ⟨i0, i1, e⟩ := h
  have hn : a = -1 ∧ ∀ j : Nat, (j : Int) < i → ¬ ((bytesL s).getD j 0 = 58 ∧ (bytesL s).getD (j + 1) 0 = 58) := by
    rcases e with e | e
    · exact e
    · omega
  have e1 : (i + 1).toNat = i.toNat + 1 := by omega
  have hb : (byteAt s i.toNat = 58 ∧ byteAt s (i + 1).toNat = 58) ↔ ((bytesL s).getD i.toNat 0 = 58 ∧ (bytesL s).getD (i.toNat + 1) 0 = 58) := by
    rw [byteAt_eq, byteAt_eq, e1]
    constructor
    · intro h
      exact ⟨UInt8.toNat_inj.1 (by show _ = 58; omega), UInt8.toNat_inj.1 (by show _ = 58; omega)⟩
    · intro h
      rw [h.1, h.2]
      exact ⟨rfl, rfl⟩
  rw [hb]
  constructor
  · intro h
    exact ⟨by omega, by omega, .inr ⟨i0, by omega, h.1, h.2, hn.2⟩⟩
  · intro h
    refine ⟨by omega, by omega, .inl ⟨hn.1, fun j hj => ?_⟩⟩
    by_cases hji : (j : Int) < i
    · exact hn.2 j hji
    · have : j = i.toNat := by omega
      rw [this]
      exact h
theorem v78 : Vc g78 300 Tryd.f78 cSix := by
  constructor
  rw [v78_eq]; delta c78i c78k c78b c78e c78d c78h c78a c78c c78f c78g c78j c78l
  intro x hs
  generalize x.fst = s at *
  have hs1 := hs.out
  have hs := (szOk_iff s).1 hs1
  have hz := size_bytesL s
  have hf := six_eq s
  have e8 : ((8 : Nat) : Int) = 8 := rfl
  refine ⟨⟨⟨by omega, by omega, .inl ⟨rfl, fun j hj => by omega⟩⟩, by repeat' (first | exact ⟨rfl⟩ | apply And.intro)⟩, fun y hy => (bcase_iff _ _ _).2 ⟨fun h => ?_, fun h => (bcase_iff _ _ _).2 ⟨fun ha => ?_, fun ha => ?_⟩⟩⟩
  · have hy := hy.out
    have y0 := hy.i0
    have y1 := hy.i1
    have w1 : IntKind.wrap .i64 (y.2 + 1) = y.2 + 1 := w64 (by omega) (by omega)
    rw [w1, Bool.and_eq_true, decide_eq_true_eq, decide_eq_true_eq] at h
    have hon := find_on hy h.1 h.2
    rw [w1]
    refine ⟨⟨y0⟩, ⟨by omega⟩, ⟨fun _ => by omega⟩, ⟨fun _ => by omega⟩, (bcase_iff _ _ _).2 ⟨fun hb => ?_, fun hb => ?_⟩⟩
    · rw [Bool.and_eq_true, decide_eq_true_eq, decide_eq_true_eq] at hb
      exact ⟨⟨hon.1 hb⟩, ⟨by omega⟩, by repeat' (first | exact ⟨rfl⟩ | apply And.intro)⟩
    · rw [Bool.and_eq_false_iff, decide_eq_false_iff_not, decide_eq_false_iff_not] at hb
      exact ⟨⟨hon.2 (fun hx => by rcases hb with hb | hb; exact hb hx.1; exact hb hx.2)⟩, ⟨by omega⟩, by repeat' (first | exact ⟨rfl⟩ | apply And.intro)⟩
  · have hy := hy.out
    have y0 := hy.i0
    have y1 := hy.i1
    have ha := of_decide_eq_true ha
    have w1 : IntKind.wrap .i64 (y.2 + 1) = y.2 + 1 := w64 (by omega) (by omega)
    have hend : ¬ y.2 + 1 < s.size := by
      rw [w1, Bool.and_eq_false_iff, decide_eq_false_iff_not, decide_eq_false_iff_not] at h
      rcases h with h | h
      · exact h
      · exact absurd ha h
    have hc := find_none hy ha hend
    have c1 : cut1 s (ofL [58, 58]) = s := by unfold cut1; rw [bytesL_ofL, hc]; exact ofL_bytesL s
    have c2 : cut2 s (ofL [58, 58]) = ofL [] := by unfold cut2; rw [bytesL_ofL, hc]
    have c3 : cutOk s (ofL [58, 58]) = false := by unfold cutOk; rw [bytesL_ofL, hc]
    rw [c1, c2, c3, show side2 (ofL []) = true from rfl, Bool.and_true, cond_false] at hf
    refine ⟨⟨hs1⟩, (bcase_iff _ _ _).2 ⟨fun hb => six_no ?_, fun hb => ?_⟩⟩
    · simp only [Bool.or_eq_true, Bool.not_eq_true', decide_eq_false_iff_not] at hb
      rw [hf]
      rcases hb with hb | hb
      · rw [hb]; rfl
      · rw [decide_eq_false (show ¬ (side1 s).length = 8 by omega)]
        cases side2 s <;> rfl
    · simp only [Bool.or_eq_false_iff, Bool.not_eq_false', decide_eq_true_eq] at hb
      have h8 : (side1 s).length = 8 := by omega
      rw [hb.1, cond_true, decide_eq_true h8, cond_true] at hf
      refine ⟨⟨by omega⟩, ⟨by omega⟩, ⟨by omega⟩, six_yes hf ?_⟩
      have hcp := cp1 (l := side1 s) (by omega)
      rw [h8, Nat.sub_self, List.replicate_zero, List.append_nil] at hcp
      conv => rhs; rw [← hcp]
      rfl
  · have hy := hy.out
    have ha := of_decide_eq_false ha
    obtain ⟨a1, hc⟩ := find_some hy ha
    have w2 : IntKind.wrap .i64 (y.1 + 2) = ((y.1.toNat + 2 : Nat) : Int) := by rw [w64 (by omega) (by omega)]; omega
    have c1 : cut1 s (ofL [58, 58]) = subS s (Int.toNat 0) y.1.toNat := by unfold cut1; rw [bytesL_ofL, hc]; exact (sub_take s _).symm
    have c2 : cut2 s (ofL [58, 58]) = subS s (IntKind.wrap .i64 (y.1 + 2)).toNat (Int.toNat (s.size : Int)) := by unfold cut2; rw [bytesL_ofL, hc]; exact (sub_at w2 rfl).symm
    have c3 : cutOk s (ofL [58, 58]) = true := by unfold cutOk; rw [bytesL_ofL, hc]
    have hle := cut_le s
    rw [c1, c2] at hle
    rw [c1, c2, c3] at hf
    generalize subS s (Int.toNat 0) y.1.toNat = A at *
    generalize subS s (IntKind.wrap .i64 (y.1 + 2)).toNat (Int.toNat (s.size : Int)) = B at *
    have za := (szOk_iff A).2 (by omega)
    have zb := (szOk_iff B).2 (by omega)
    have l1 := side_len za
    have l2 := side_len zb
    have w : IntKind.wrap .i64 (((side1 A).length : Int) + (side1 B).length) = ((side1 A).length : Int) + (side1 B).length := w64 (by omega) (by omega)
    refine ⟨⟨by omega⟩, ⟨by omega⟩, ⟨by omega⟩, ⟨za⟩, ⟨by rw [w2]; omega⟩, ⟨by rw [w2]; omega⟩, ⟨by omega⟩, ⟨zb⟩, (bcase_iff _ _ _).2 ⟨fun hb => six_no ?_, fun hb => ?_⟩⟩
    · rw [w] at hb
      simp only [Bool.or_eq_true, Bool.not_eq_true', decide_eq_true_eq] at hb
      rw [hf]
      rcases hb with (hb | hb) | hb
      · rw [hb]; rfl
      · rw [hb, Bool.and_false]; rfl
      · rw [decide_eq_false (show ¬ (side1 A).length + (side1 B).length ≤ 7 by omega)]
        cases (side2 A && side2 B) <;> rfl
    · rw [w] at hb
      simp only [Bool.or_eq_false_iff, Bool.not_eq_false', decide_eq_false_iff_not] at hb
      obtain ⟨⟨b1, b2⟩, b3⟩ := hb
      have h7 : (side1 A).length + (side1 B).length ≤ 7 := by omega
      rw [b1, b2, decide_eq_true h7] at hf
      have w8 : IntKind.wrap .i64 (8 - ((side1 B).length : Int)) = 8 - ((side1 B).length : Int) := w64 (by omega) (by omega)
      have hcp := six_cp (w := IntKind.wrap .i64 (8 - ((side1 B).length : Int))) (show (side1 A).length + (side1 B).length ≤ 8 by omega) w8
      refine ⟨⟨by omega⟩, ⟨by omega⟩, ⟨by omega⟩, ⟨by rw [w8]; omega⟩, ⟨by rw [w8]; omega⟩, ⟨by omega⟩, six_yes hf ?_⟩
      rw [← hcp]
      rfl
end Go.Proofs.YtkimpfoimblhjaaDoor.Ad
set_option linter.all false
namespace Go.Proofs.YtkimpfoimblhjaaDoor.Ad
open Go Go.Eng Go.Lb Go.Ad Lb
set_option maxRecDepth 100000
set_option maxHeartbeats 4000000
theorem col_on2 {t : ByteArray} {a i : Int} (h : Cl8I t a i) (ht : t.size ≤ 4000000000) (hi : i < t.size) :
    (byteAt t i.toNat = 58 → Cl8I t i (IntKind.wrap .i64 (i + 1))) ∧ (¬ byteAt t i.toNat = 58 → Cl8I t a (IntKind.wrap .i64 (i + 1))) := by
  obtain ⟨i0, i1, e⟩ := h
  have hz := size_bytesL t
  have e1 : (i + 1).toNat = i.toNat + 1 := by omega
  have hs : lastI ((bytesL t).take (i + 1).toNat) = if (bytesL t).getD i.toNat 0 = 58 then i else lastI ((bytesL t).take i.toNat) := by
    unfold lastI
    rw [e1, take_next (by omega), lastN_snoc]
    by_cases hb : (bytesL t).getD i.toNat 0 = 58
    · rw [if_pos hb, if_pos hb, List.length_take]
      show ((min i.toNat (bytesL t).length : Nat) : Int) = i
      omega
    · rw [if_neg hb, if_neg hb]
  rw [w64 (by omega) (by omega)]
  constructor
  · intro hb
    refine ⟨by omega, by omega, ?_⟩
    rw [byteAt_eq] at hb
    rw [hs, if_pos (UInt8.toNat_inj.1 (by show _ = 58; omega))]
  · intro hb
    refine ⟨by omega, by omega, ?_⟩
    rw [hs, if_neg (fun h => hb (by rw [byteAt_eq, h]; rfl))]
    exact e
theorem mul8 {n d : Int} (n0 : 0 ≤ n) (n1 : n ≤ 255) (d0 : 0 ≤ d) (d1 : d ≤ 255) : IntKind.wrap .u16 (IntKind.wrap .u16 (n * 256) + IntKind.wrap .u16 d) = n * 256 + d := by
  rw [wu16 (n := n * 256) (by omega) (by omega), wu16 (n := d) (by omega) (by omega), wu16 (by omega) (by omega)]
abbrev four9 (g : G8) (i : Int) (n : Int) : G8 := lg ((gl g).set (IntKind.wrap .i64 (Int.tdiv i 2)).toNat (IntKind.wrap .u16 (IntKind.wrap .u16 ((gl g).getD (IntKind.wrap .i64 (Int.tdiv i 2)).toNat 0 * 256) + IntKind.wrap .u16 n)))
theorem four_on2 {ps : List ByteArray} {g : G8} {i : Int} {z : ByteArray} (h : FourI ps g i) (hi : i < ps.length) (hn : num2 (ps.getD i.toNat z) 255 = true) : FourI ps (four9 g i (num1 (ps.getD i.toNat z) 255)) (IntKind.wrap .i64 (i + 1)) := by
  obtain ⟨i0, i1, l, ns, e, rfl⟩ := h
  have hg : GoI (numO 255) ps ns i := ⟨i0, by omega, e⟩
  have hno := (numO_cases _ _).1 hn
  obtain ⟨hon, _⟩ := hg.on (z := z) (by omega) hi hno
  have len := hg.len
  have R : ∀ n ∈ ns, 0 ≤ n ∧ n ≤ 255 := goO_mem (fun a b => numO_R) e
  have Rn := numO_R hno
  refine ⟨hon.i0, by have := hon.i1; omega, l, ns ++ [num1 (ps.getD i.toNat z) 255], hon.a, ?_⟩
  generalize num1 (ps.getD i.toNat z) 255 = n at *
  have hc : i = 0 ∨ i = 1 ∨ i = 2 ∨ i = 3 := by omega
  rcases hc with rfl | rfl | rfl | rfl
  · match ns, len with
    | [], _ =>
      have e1 := mul8 (n := 0) (by omega) (by omega) Rn.1 Rn.2
      rw [Int.zero_mul, Int.zero_add] at e1
      show lg [IntKind.wrap .u16 (IntKind.wrap .u16 (0 * 256) + IntKind.wrap .u16 n), 0, 0, 0, 0, 0, 0, 0] = lg [n]
      rw [Int.zero_mul, e1]
      rfl
  · match ns, len with
    | [a], _ =>
      have Ra := R a (by simp)
      have e1 := mul8 Ra.1 Ra.2 Rn.1 Rn.2
      show lg [IntKind.wrap .u16 (IntKind.wrap .u16 (a * 256) + IntKind.wrap .u16 n), 0, 0, 0, 0, 0, 0, 0] = lg [a * 256 + n]
      rw [e1]
      rfl
  · match ns, len with
    | [a, b], _ =>
      have e1 := mul8 (n := 0) (by omega) (by omega) Rn.1 Rn.2
      rw [Int.zero_mul, Int.zero_add] at e1
      show lg [a * 256 + b, IntKind.wrap .u16 (IntKind.wrap .u16 (0 * 256) + IntKind.wrap .u16 n), 0, 0, 0, 0, 0, 0] = lg [a * 256 + b, n]
      rw [Int.zero_mul, e1]
      rfl
  · match ns, len with
    | [a, b, c], _ =>
      have Ra := R c (by simp)
      have e1 := mul8 Ra.1 Ra.2 Rn.1 Rn.2
      show lg [a * 256 + b, IntKind.wrap .u16 (IntKind.wrap .u16 (c * 256) + IntKind.wrap .u16 n), 0, 0, 0, 0, 0, 0] = lg [a * 256 + b, c * 256 + n]
      rw [e1]
      rfl
theorem parse_low {s : ByteArray} {a i : Int} (h : Cl8I s a i) (hi : ¬ i < s.size) (ha : a < 1) : parseO s = none := by
  have hz := size_bytesL s
  obtain ⟨i0, i1, e⟩ := h
  rw [List.take_of_length_le (by omega)] at e
  unfold lastI at e
  unfold parseO
  cases hk : lastN 58 (bytesL s) with
  | none => rfl
  | some k =>
    rw [hk] at e
    show (bif decide (k < 1) then none else _) = _
    rw [decide_eq_true (show k < 1 by have : a = (k : Int) := e; omega), cond_true]
theorem last_at {s : ByteArray} {a i : Int} (h : Cl8I s a i) (hi : ¬ i < s.size) (ha : ¬ a < 1) : lastN 58 (bytesL s) = some a.toNat ∧ a < s.size := by
  have hz := size_bytesL s
  obtain ⟨i0, i1, e⟩ := h
  rw [List.take_of_length_le (by omega)] at e
  unfold lastI at e
  cases hk : lastN 58 (bytesL s) with
  | none => rw [hk] at e; have : a = -1 := e; omega
  | some k =>
    rw [hk] at e
    have e : a = (k : Int) := e
    have := lastN_lt hk
    rw [e, Int.toNat_natCast]
    exact ⟨rfl, by omega⟩
theorem head_take {s : ByteArray} {k : Nat} (hk : 1 ≤ k) : byteAt s (Int.toNat 0) = 91 ↔ ((bytesL s).take k).head? = some 91 := by
  have : byteAt s (Int.toNat 0) = byteAt (ofL ((bytesL s).take k)) (Int.toNat 0) := by
    rw [byteAt_eq, byteAt_eq, bytesL_ofL, List.getD_eq_getElem?_getD, List.getD_eq_getElem?_getD, List.getElem?_take_of_lt (show Int.toNat 0 < k from hk)]
  rw [this]
  exact head91
theorem last_take {s : ByteArray} {k : Nat} (hk : 1 ≤ k) (hl : k ≤ s.size) : byteAt s ((k : Int) - 1).toNat = 93 ↔ ((bytesL s).take k).getLast? = some 93 := by
  have hz := size_bytesL s
  have hlen : ((bytesL s).take k).length = k := by rw [List.length_take]; omega
  have : byteAt s ((k : Int) - 1).toNat = byteAt (ofL ((bytesL s).take k)) ((k : Int) - 1).toNat := by
    rw [byteAt_eq, byteAt_eq, bytesL_ofL, List.getD_eq_getElem?_getD, List.getD_eq_getElem?_getD, List.getElem?_take_of_lt (by omega)]
  rw [this]
  exact last93 (by omega) (by omega)
theorem mid_take {s : ByteArray} {k : Nat} (hk : 2 ≤ k) (hl : k ≤ s.size) : subS s (Int.toNat 1) ((k : Int) - 1).toNat = ofL (((bytesL s).take k).drop 1).dropLast := by
  have hz := size_bytesL s
  rw [sub_ofL, List.dropLast_eq_take, List.length_drop, List.length_take, ← List.drop_take, List.take_take]
  congr 3
  · omega
theorem v46 : Vc g46 300 Tryd.f46 cParse := by
  constructor
  rw [v46_eq]; delta c46j c46d c46k c46a c46e c46b c46g c46c c46f c46h c46i c46l
  intro x hs
  generalize x.fst = s at *
  have hs1 := hs.out
  have hs := (szOk_iff s).1 hs1
  have hz := size_bytesL s
  have e8 : ((8 : Nat) : Int) = 8 := rfl
  refine ⟨⟨⟨by omega, by omega, rfl⟩, by repeat' (first | exact ⟨rfl⟩ | apply And.intro)⟩, fun y hy => (bcase_iff _ _ _).2 ⟨fun hi => ?_, fun hi => (bcase_iff _ _ _).2 ⟨fun h1 => parse_none (parse_low hy.out (of_decide_eq_false hi) (of_decide_eq_true h1)), fun h1 => ?_⟩⟩⟩
  · have hy := hy.out
    have hi : y.2 < s.size := of_decide_eq_true hi
    have i0 := hy.i0
    have hon := col_on2 hy hs hi
    have hmu : s.size - (IntKind.wrap .i64 (y.2 + 1)).toNat < s.size - y.2.toNat := by
      rw [step i0 (by omega) hi]
      exact wcut i0 hi
    exact ⟨⟨i0⟩, ⟨hi⟩, (bcase_iff _ _ _).2 ⟨fun hb => ⟨⟨hon.1 (of_decide_eq_true hb)⟩, ⟨hmu⟩, by repeat' (first | exact ⟨rfl⟩ | apply And.intro)⟩, fun hb => ⟨⟨hon.2 (of_decide_eq_false hb)⟩, ⟨hmu⟩, by repeat' (first | exact ⟨rfl⟩ | apply And.intro)⟩⟩⟩
  · have h1 := of_decide_eq_false h1
    obtain ⟨hk, hlt⟩ := last_at hy.out (of_decide_eq_false hi) h1
    obtain ⟨k, hk0⟩ : ∃ k : Nat, y.1 = k := ⟨y.1.toNat, by omega⟩
    rw [hk0] at hk hlt h1 ⊢
    rw [Int.toNat_natCast] at hk
    have k1 : 1 ≤ k := by omega
    have wz : IntKind.wrap .i64 ((k : Int) + 1) = ((k + 1 : Nat) : Int) := by rw [w64 (by omega) (by omega)]; omega
    have wm : IntKind.wrap .i64 ((k : Int) - 1) = (k : Int) - 1 := w64 (by omega) (by omega)
    have hH : ((bytesL s).take k).length = k := by rw [List.length_take]; omega
    have bad := fun b => parse_none (parse_bad hk k1 b)
    have good := fun (f : Int) (l : List Int) a b c => parse_some (parse_good (f := f) (l := l) hk k1 a b c)
    have szP : (ofL ((bytesL s).drop (k + 1))).size ≤ 4000000000 := by rw [ofL_size, List.length_drop]; omega
    have szH : (ofL ((bytesL s).take k)).size ≤ 4000000000 := by rw [ofL_size]; omega
    have hhd := head_take (s := s) k1
    rw [sub_at wz rfl, sub_to (b := (k : Int)) rfl, wz, wm]
    have hP := hk0
    generalize ofL ((bytesL s).drop (k + 1)) = P at *
    refine ⟨⟨by omega⟩, ⟨by omega⟩, ⟨by omega⟩, ⟨(szOk_iff P).2 szP⟩, (bcase_iff _ _ _).2 ⟨fun hb => bad ?_, fun hb => ?_⟩⟩
    · rw [Bool.or_eq_true, Bool.not_eq_true', decide_eq_true_eq] at hb
      rcases hb with hb | hb
      · exact .inl hb
      · exact .inr (.inr hb)
    · rw [Bool.or_eq_false_iff, Bool.not_eq_false', decide_eq_false_iff_not] at hb
      obtain ⟨n2, n0⟩ := hb
      refine ⟨⟨by omega⟩, ⟨by omega⟩, (bcase_iff _ _ _).2 ⟨fun h91 => ?_, fun h91 => ?_⟩⟩
      · have h91 := hhd.1 (of_decide_eq_true h91)
        have hlast := last_take (s := s) k1 (by omega)
        refine ⟨⟨fun _ => by omega⟩, ⟨fun _ => by omega⟩, (bcase_iff _ _ _).2 ⟨fun hb => bad (.inr (.inl (host0 h91 ?_))), fun hb => ?_⟩⟩
        · rw [Bool.or_eq_true, Bool.not_eq_true', decide_eq_true_eq, decide_eq_false_iff_not] at hb
          rcases hb with hb | hb
          · exact .inl (by omega)
          · exact .inr (fun e => hb (hlast.2 e))
        · rw [Bool.or_eq_false_iff, Bool.not_eq_false', decide_eq_true_eq, decide_eq_false_iff_not] at hb
          have hm := mid_take (s := s) (k := k) (by omega) (by omega)
          have hh := host6 h91 (by omega) (hlast.1 hb.2)
          have dH : (ofL (((bytesL s).take k).drop 1).dropLast).size ≤ 4000000000 := by rw [ofL_size, List.length_dropLast, List.length_drop]; omega
          rw [hm]
          refine ⟨⟨by omega⟩, ⟨by omega⟩, ⟨by omega⟩, ⟨(szOk_iff _).2 dH⟩, (bcase_iff _ _ _).2 ⟨fun hb => bad (.inr (.inl ?_)), fun hb => ?_⟩⟩
          · rw [Bool.not_eq_true'] at hb
            rw [hh, (six_cases _).2 hb]
            rfl
          · rw [Bool.not_eq_false'] at hb
            exact good 6 _ n2 (by rw [hh, (six_cases _).1 hb]) n0
      · have h91 : ¬ ((bytesL s).take k).head? = some 91 := fun e => of_decide_eq_false h91 (hhd.2 e)
        have hh := host4 h91
        generalize (bytesL s).take k = H at *
        have hC : cutC (ofL H) 46 = splitS (ofL H) (ofL [46]) := rfl
        have zz := (szOk_iff _).2 szH
        have hz46 : (szOk (ofL H) && decide ((0 : Int) ≤ 46) && decide ((46 : Int) < 256)) = true := by rw [zz]; rfl
        have hfour : fourO (ofL H) = none → _ := fun h => bad (.inr (.inl (by rw [hh, h]; rfl)))
        rw [hC]
        refine ⟨⟨by omega⟩, ⟨by omega⟩, ⟨by omega⟩, ⟨hz46⟩, (bcase_iff _ _ _).2 ⟨fun h4 => hfour ?_, fun h4 => ?_⟩⟩
        · rw [Bool.not_eq_true', decide_eq_false_iff_not] at h4
          unfold fourO
          rw [decide_eq_false (show ¬ (splitS (ofL H) (ofL [46])).length = 4 by omega)]
          rfl
        · rw [Bool.not_eq_false', decide_eq_true_eq] at h4
          refine ⟨⟨⟨⟨⟨by omega, by omega, by omega, [], rfl, rfl⟩, rfl, rfl⟩⟩, by repeat' (first | exact ⟨rfl⟩ | apply And.intro)⟩, fun z hz' => (bcase_iff _ _ _).2 ⟨fun h => ?_, fun h => ?_⟩⟩
          · obtain ⟨hf, hfam, hport⟩ := hz'.out
            have i0 := hf.i0
            have h : z.2 < 4 := of_decide_eq_true h
            have hi' : z.2 < (splitS (ofL H) (ofL [46])).length := by omega
            have w : IntKind.wrap .i64 (Int.tdiv z.2 2) = Int.tdiv z.2 2 ∧ 0 ≤ Int.tdiv z.2 2 ∧ Int.tdiv z.2 2 < 8 := by
              rw [Int.tdiv_eq_ediv_of_nonneg i0]
              exact ⟨w64 (by omega) (by omega), by omega, by omega⟩
            have szp := splitS_sz zz (getD_mem (z := Ty.zero .str) i0 hi')
            refine ⟨⟨i0⟩, ⟨hi'⟩, ?_⟩
            (repeat with_reducible refine ⟨⟨rfl⟩, ?_⟩)
            refine ⟨⟨szp⟩, (bcase_iff _ _ _).2 ⟨fun hn => hfour ?_, fun hn => ?_⟩⟩
            · rw [Bool.not_eq_true'] at hn
              unfold fourO
              rw [goO_none (getD_mem (z := Ty.zero .str) i0 hi') ((numO_cases _ _).2 hn)]
              cases decide ((splitS (ofL H) (ofL [46])).length = 4) <;> rfl
            · rw [Bool.not_eq_false'] at hn
              refine ⟨⟨by decide⟩, ⟨by decide⟩, ⟨by rw [w.1]; exact w.2.1⟩, ⟨by rw [w.1, e8]; exact w.2.2⟩, ⟨by rw [w.1]; exact w.2.1⟩, ⟨by rw [w.1, e8]; exact w.2.2⟩, ⟨⟨four_on2 hf hi' hn, hfam, hport⟩⟩, ⟨?_⟩, by repeat' (first | exact ⟨rfl⟩ | apply And.intro)⟩
              rw [w64 (by omega) (by omega)]
              omega
          · obtain ⟨hf, hfam, hport⟩ := hz'.out
            have h : ¬ z.2 < 4 := of_decide_eq_false h
            have hfin := four_fin hf (by omega)
            have q1 : z.1.2.1 = four1 (ofL H) := congrArg Prod.fst hfin
            have q2 : true = four2 (ofL H) := congrArg (fun p => p.2.1) hfin
            have hg := good 4 _ n2 (by rw [hh, (four_cases _).1 q2.symm]) n0
            rw [← hg]
            have ez : z.1 = (z.1.1, z.1.2.1, z.1.2.2.1, ()) := rfl
            rw [ez, hfam, hport, q1]
            rfl
end Go.Proofs.YtkimpfoimblhjaaDoor.Ad
namespace Go.Proofs.YtkimpfoimblhjaaDoor.Ad
open Go Go.Eng Go.Lb Go.Ad Lb
set_option maxRecDepth 100000
theorem val74 : Valid Tryd.prog GA 74 cMay1 := mkValid gas Tb.mix Tb.tab_ok Tb.eqs_ok g74 rfl allV_nil allI_nil Tryd.func74 (by kernel_rfl) v74
theorem val47 : Valid Tryd.prog GA 47 cMay := mkValid gas Tb.mix Tb.tab_ok Tb.eqs_ok g47 rfl (allV_cons val74 allV_nil) allI_nil Tryd.func47 (by kernel_rfl) v47
theorem val75 : Valid Tryd.prog GA 75 cDigs := mkValid gas Tb.mix Tb.tab_ok Tb.eqs_ok g75 rfl allV_nil allI_nil Tryd.func75 (by kernel_rfl) v75
theorem val100 : Valid Tryd.prog GA 100 cRun := mkValid gas Tb.mix Tb.tab_ok Tb.eqs_ok g100 rfl allV_nil allI_nil Tryd.func100 (by kernel_rfl) v100
theorem val76 : Valid Tryd.prog GA 76 cSixS := Valid.T (mkValid gas Tb.mix Tb.tab_ok Tb.eqs_ok g76 rfl (allV_cons val75 (allV_cons val100 allV_nil)) allI_nil Tryd.func76 (by kernel_rfl) v76)
theorem val45 : Valid Tryd.prog GA 45 cText := Valid.T (mkValid gas Tb.mix Tb.tab_ok Tb.eqs_ok g45 rfl (allV_cons val74 (allV_cons val75 (allV_cons val76 allV_nil))) allI_nil Tryd.func45 (by kernel_rfl) v45)
theorem val77 : Valid Tryd.prog GA 77 cNum := mkValid gas Tb.mix Tb.tab_ok Tb.eqs_ok g77 rfl allV_nil allI_nil Tryd.func77 (by kernel_rfl) v77
theorem val122 : Valid Tryd.prog GA 122 cHexR := mkValid gas Tb.mix Tb.tab_ok Tb.eqs_ok g122 rfl allV_nil allI_nil Tryd.func122 (by kernel_rfl) v122
theorem val60 : Valid Tryd.prog GA 60 cCutR := mkValid gas Tb.mix Tb.tab_ok Tb.eqs_ok g60 rfl allV_nil allI_nil Tryd.func60 (by kernel_rfl) v60
theorem val101 : Valid Tryd.prog GA 101 cSide := mkValid gas Tb.mix Tb.tab_ok Tb.eqs_ok g101 rfl (allV_cons val60 (allV_cons val122 allV_nil)) allI_nil Tryd.func101 (by kernel_rfl) v101
theorem val78 : Valid Tryd.prog GA 78 cSix := mkValid gas Tb.mix Tb.tab_ok Tb.eqs_ok g78 rfl (allV_cons val101 allV_nil) allI_nil Tryd.func78 (by kernel_rfl) v78
theorem val46 : Valid Tryd.prog GA 46 cParse := mkValid gas Tb.mix Tb.tab_ok Tb.eqs_ok g46 rfl (allV_cons val60 (allV_cons val77 (allV_cons val78 allV_nil))) allI_nil Tryd.func46 (by kernel_rfl) v46
end Go.Proofs.YtkimpfoimblhjaaDoor.Ad
set_option linter.all false
namespace Go.Proofs.St
variable {α : Type}
structure Ord (lt : α → α → Bool) : Prop where
  irr : ∀ a, lt a a = false
  tr : ∀ a b c, lt a b = true → lt b c = true → lt a c = true
  tri : ∀ a b, lt a b = false → lt b a = false → a = b
variable {lt : α → α → Bool}
theorem Ord.le (h : Ord lt) {a b c : α} (h1 : lt b a = false) (h2 : lt c b = false) : lt c a = false := by
  cases h3 : lt c a with
  | false => rfl
  | true =>
    cases h4 : lt a b with
    | true => rw [h.tr _ _ _ h3 h4] at h2; cases h2
    | false => rw [h.tri _ _ h4 h1] at h3; rw [h3] at h2; cases h2
theorem Ord.asym (h : Ord lt) {a b : α} (h1 : lt a b = true) : lt b a = false := by
  cases h2 : lt b a with
  | false => rfl
  | true => have := h.tr _ _ _ h1 h2; rw [h.irr] at this; cases this
def ins (lt : α → α → Bool) (x : α) : List α → List α
  | [] => [x]
  | y :: r => bif lt x y then x :: y :: r else y :: ins lt x r
def srt (lt : α → α → Bool) (l : List α) : List α := l.foldl (fun o x => ins lt x o) []
abbrev Up (lt : α → α → Bool) (l : List α) : Prop := l.Pairwise fun a b => lt b a = false
theorem ins_perm (x : α) : ∀ l : List α, (ins lt x l).Perm (x :: l)
  | [] => .refl _
  | y :: r => by
    unfold ins
    cases lt x y with
    | true => exact .refl _
    | false => exact ((ins_perm x r).cons y).trans (.swap _ _ _)
theorem ins_up (h : Ord lt) (x : α) : ∀ {l : List α}, Up lt l → Up lt (ins lt x l)
  | [], _ => List.pairwise_singleton _ _
  | y :: r, hl => by
    obtain ⟨h1, h2⟩ := List.pairwise_cons.1 hl
    unfold ins
    cases hx : lt x y with
    | true =>
      refine List.pairwise_cons.2 ⟨fun a ha => ?_, hl⟩
      rcases List.mem_cons.1 ha with rfl | ha
      · exact h.asym hx
      · exact h.le (h.asym hx) (h1 a ha)
    | false =>
      refine List.pairwise_cons.2 ⟨fun a ha => ?_, ins_up h x h2⟩
      rcases List.mem_cons.1 ((ins_perm x r).mem_iff.1 ha) with rfl | ha
      · exact hx
      · exact h1 a ha
theorem fold_perm : ∀ (l o : List α), (l.foldl (fun o x => ins lt x o) o).Perm (l ++ o)
  | [], o => .refl _
  | x :: r, o => (fold_perm r (ins lt x o)).trans (((List.Perm.append_left r (ins_perm x o))).trans List.perm_middle)
theorem fold_up (h : Ord lt) : ∀ (l : List α) {o : List α}, Up lt o → Up lt (l.foldl (fun o x => ins lt x o) o)
  | [], o, ho => ho
  | x :: r, o, ho => fold_up h r (ins_up h x ho)
theorem srt_perm (l : List α) : (srt lt l).Perm l := by
  have := fold_perm (lt := lt) l []
  rwa [List.append_nil] at this
theorem srt_up (h : Ord lt) (l : List α) : Up lt (srt lt l) := fold_up h l List.Pairwise.nil
theorem up_unique (h : Ord lt) : ∀ {l r : List α}, l.Perm r → Up lt l → Up lt r → l = r
  | [], r, hp, _, _ => (List.nil_perm.1 hp).symm ▸ rfl
  | a :: l, [], hp, _, _ => by cases List.perm_nil.1 hp
  | a :: l, b :: r, hp, hl, hr => by
    obtain ⟨a1, a2⟩ := List.pairwise_cons.1 hl
    obtain ⟨b1, b2⟩ := List.pairwise_cons.1 hr
    have e : a = b := by
      rcases List.mem_cons.1 (hp.mem_iff.1 (List.mem_cons_self (a := a) (l := l))) with e | hm
      · exact e
      · rcases List.mem_cons.1 (hp.mem_iff.2 (List.mem_cons_self (a := b) (l := r))) with e | hm'
        · exact e.symm
        · exact h.tri _ _ (b1 a hm) (a1 b hm')
    subst e
    rw [up_unique h (List.Perm.cons_inv hp) a2 b2]
section
variable {z : α}
theorem getD_lt {l : List α} {k : Nat} (h : k < l.length) : l.getD k z = l[k] := by
  rw [List.getD_eq_getElem?_getD, List.getElem?_eq_getElem h]; rfl
theorem extD {r s : List α} (h : r.length = s.length) (h2 : ∀ k, k < r.length → r.getD k z = s.getD k z) : r = s := by
  apply List.ext_getElem h
  intro k h3 h4
  have := h2 k h3
  rwa [getD_lt h3, getD_lt h4] at this
def UpOn (lt : α → α → Bool) (z : α) (a b : Nat) (r : List α) : Prop := ∀ p q, a ≤ p → p < q → q < b → lt (r.getD q z) (r.getD p z) = false
structure PSeg (z : α) (a b : Nat) (xs r : List α) : Prop where
  p : r.Perm xs
  e : ∀ k, (k < a ∨ b ≤ k) → r.getD k z = xs.getD k z
theorem PSeg.refl (a b : Nat) (xs : List α) : PSeg z a b xs xs := ⟨.refl _, fun _ _ => rfl⟩
theorem PSeg.trans {a b : Nat} {xs r s : List α} (h : PSeg z a b xs r) (k : PSeg z a b r s) : PSeg z a b xs s := ⟨k.p.trans h.p, fun i hi => (k.e i hi).trans (h.e i hi)⟩
theorem PSeg.mono {a b a' b' : Nat} {xs r : List α} (h : PSeg z a b xs r) (ha : a' ≤ a) (hb : b ≤ b') : PSeg z a' b' xs r := ⟨h.p, fun i hi => h.e i (by omega)⟩
theorem PSeg.len {a b : Nat} {xs r : List α} (h : PSeg z a b xs r) : r.length = xs.length := h.p.length_eq
def seg (a b : Nat) (xs : List α) : List α := (xs.drop a).take (b - a)
theorem cut3 {a b : Nat} (h : a ≤ b) (xs : List α) : xs.take a ++ (seg a b xs ++ xs.drop b) = xs := by
  unfold seg
  have h1 : xs.drop b = (xs.drop a).drop (b - a) := by rw [List.drop_drop]; congr 1; omega
  rw [h1, List.take_append_drop, List.take_append_drop]
theorem seg_len {a b : Nat} {xs : List α} (h : a ≤ b) (hb : b ≤ xs.length) : (seg a b xs).length = b - a := by
  unfold seg; rw [List.length_take, List.length_drop]; omega
theorem seg_get {a b k : Nat} {xs : List α} (h : k < b - a) : (seg a b xs).getD k z = xs.getD (a + k) z := by
  unfold seg
  rw [List.getD_eq_getElem?_getD, List.getD_eq_getElem?_getD, List.getElem?_take, if_pos h, List.getElem?_drop]
theorem take_eq {a : Nat} {xs r : List α} (hl : r.length = xs.length) (h : ∀ k, k < a → r.getD k z = xs.getD k z) : r.take a = xs.take a := by
  apply extD (z := z)
  · rw [List.length_take, List.length_take, hl]
  · intro k hk
    rw [List.length_take] at hk
    rw [List.getD_eq_getElem?_getD, List.getD_eq_getElem?_getD, List.getElem?_take, List.getElem?_take, if_pos (by omega), if_pos (by omega), ← List.getD_eq_getElem?_getD, ← List.getD_eq_getElem?_getD]
    exact h k (by omega)
theorem drop_eq {b : Nat} {xs r : List α} (hl : r.length = xs.length) (h : ∀ k, b ≤ k → r.getD k z = xs.getD k z) : r.drop b = xs.drop b := by
  apply extD (z := z)
  · rw [List.length_drop, List.length_drop, hl]
  · intro k hk
    rw [List.getD_eq_getElem?_getD, List.getD_eq_getElem?_getD, List.getElem?_drop, List.getElem?_drop, ← List.getD_eq_getElem?_getD, ← List.getD_eq_getElem?_getD]
    exact h _ (by omega)
theorem PSeg.seg {a b : Nat} {xs r : List α} (h : PSeg z a b xs r) (hab : a ≤ b) : (seg a b r).Perm (seg a b xs) := by
  have h1 := cut3 hab r
  have h2 := cut3 hab xs
  have hp := h.p
  rw [← h1, ← h2, take_eq h.len (fun k hk => h.e k (.inl hk)), drop_eq h.len (fun k hk => h.e k (.inr hk))] at hp
  exact (List.perm_append_right_iff _).1 ((List.perm_append_left_iff _).1 hp)
def segS (lt : α → α → Bool) (a b : Nat) (xs : List α) : List α := xs.take a ++ (srt lt (seg a b xs) ++ xs.drop b)
theorem up_of {a b : Nat} {r : List α} (hab : a ≤ b) (hb : b ≤ r.length) (h : UpOn lt z a b r) : Up lt (seg a b r) := by
  unfold Up
  rw [List.pairwise_iff_getElem]
  intro i j hi hj hij
  rw [seg_len hab hb] at hi hj
  have h1 := seg_get (z := z) (xs := r) hi
  have h2 := seg_get (z := z) (xs := r) hj
  rw [getD_lt (by rw [seg_len hab hb]; exact hi)] at h1
  rw [getD_lt (by rw [seg_len hab hb]; exact hj)] at h2
  rw [h1, h2]
  exact h _ _ (by omega) (by omega) (by omega)
theorem seg_unique (ho : Ord lt) {a b : Nat} {xs r : List α} (hab : a ≤ b) (hb : b ≤ xs.length) (h : PSeg z a b xs r) (hu : UpOn lt z a b r) : r = segS lt a b xs := by
  have hl := h.len
  rw [← cut3 hab r, take_eq hl (fun k hk => h.e k (.inl hk)), drop_eq hl (fun k hk => h.e k (.inr hk))]
  unfold segS
  rw [up_unique ho ((h.seg hab).trans (srt_perm (lt := lt) _).symm) (up_of hab (by omega) hu) (srt_up ho _)]
theorem segS_len {a b : Nat} {xs : List α} (hab : a ≤ b) (hb : b ≤ xs.length) : (segS lt a b xs).length = xs.length := by
  unfold segS
  rw [List.length_append, List.length_append, (srt_perm (lt := lt) _).length_eq, seg_len hab hb, List.length_take, List.length_drop]; omega
theorem segS_mid {a b : Nat} {xs : List α} (hab : a ≤ b) (hb : b ≤ xs.length) {k : Nat} (h1 : a ≤ k) (h2 : k < b) : (segS lt a b xs).getD k z = (srt lt (seg a b xs)).getD (k - a) z := by
  unfold segS
  have hs : (srt lt (seg a b xs)).length = b - a := by rw [(srt_perm (lt := lt) _).length_eq, seg_len hab hb]
  rw [List.getD_eq_getElem?_getD, List.getElem?_append_right (by rw [List.length_take]; omega), List.getElem?_append_left (by rw [hs, List.length_take]; omega), List.length_take, List.getD_eq_getElem?_getD, Nat.min_eq_left (by omega)]
theorem segS_ok (ho : Ord lt) {a b : Nat} {xs : List α} (hab : a ≤ b) (hb : b ≤ xs.length) : PSeg z a b xs (segS lt a b xs) ∧ UpOn lt z a b (segS lt a b xs) := by
  have hs : (srt lt (seg a b xs)).length = b - a := by rw [(srt_perm (lt := lt) _).length_eq, seg_len hab hb]
  refine ⟨⟨?_, fun k hk => ?_⟩, fun p q h1 h2 h3 => ?_⟩
  · have := cut3 hab xs
    conv => rhs; rw [← this]
    exact List.Perm.append_left _ (List.Perm.append_right _ (srt_perm (lt := lt) _))
  · unfold segS
    rcases hk with hk | hk
    · rw [List.getD_eq_getElem?_getD, List.getElem?_append_left (by rw [List.length_take]; omega), List.getElem?_take, if_pos hk, List.getD_eq_getElem?_getD]
    · rw [List.getD_eq_getElem?_getD, List.getElem?_append_right (by rw [List.length_take]; omega), List.getElem?_append_right (by rw [hs, List.length_take]; omega), hs, List.length_take, List.getElem?_drop, List.getD_eq_getElem?_getD]
      congr 2; omega
  · rw [segS_mid hab hb (by omega) (by omega), segS_mid hab hb (by omega) (by omega)]
    have hu := srt_up ho (seg a b xs)
    unfold Up at hu
    rw [List.pairwise_iff_getElem] at hu
    rw [getD_lt (by rw [hs]; omega), getD_lt (by rw [hs]; omega)]
    exact hu _ _ _ _ (by omega)
theorem segS_all {xs : List α} : segS lt 0 xs.length xs = srt lt xs := by
  unfold segS seg; simp
def swp (z : α) (i j : Nat) (r : List α) : List α := (r.set i (r.getD j z)).set j (r.getD i z)
theorem swp_len (i j : Nat) (r : List α) : (swp z i j r).length = r.length := by unfold swp; simp
theorem swp_get {i j : Nat} {r : List α} (hi : i < r.length) (hj : j < r.length) (k : Nat) : (swp z i j r).getD k z = if k = j then r.getD i z else if k = i then r.getD j z else r.getD k z := by
  unfold swp
  by_cases h1 : k = j
  · subst h1
    rw [if_pos rfl, List.getD_eq_getElem?_getD, List.getElem?_set_self (by simpa using hj)]; rfl
  · rw [if_neg h1, List.getD_eq_getElem?_getD, List.getElem?_set_ne (fun e => h1 e.symm)]
    by_cases h2 : k = i
    · subst h2
      rw [if_pos rfl, List.getElem?_set_self hi]; rfl
    · rw [if_neg h2, List.getElem?_set_ne (fun e => h2 e.symm), List.getD_eq_getElem?_getD]
theorem swp_perm {i j : Nat} {r : List α} (hi : i < r.length) (hj : j < r.length) : (swp z i j r).Perm r := by
  unfold swp
  rw [getD_lt hi, getD_lt hj]
  exact List.set_set_perm hi hj
theorem swp_seg {a b i j : Nat} {r : List α} (hb : b ≤ r.length) (hi : a ≤ i) (hi2 : i < b) (hj : a ≤ j) (hj2 : j < b) : PSeg z a b r (swp z i j r) :=
  ⟨swp_perm (by omega) (by omega), fun k hk => by rw [swp_get (by omega) (by omega), if_neg (by omega), if_neg (by omega)]⟩
end
end Go.Proofs.St
set_option linter.all false
namespace Go.Proofs.St
variable {α : Type} {lt : α → α → Bool} {z : α}
def rotK (a m b k : Nat) : Nat := if a ≤ k ∧ k < b then (if k < a + (b - m) then k + (m - a) else k - (b - m)) else k
def rotF (a m b : Nat) (xs : List α) : List α := xs.take a ++ (seg m b xs ++ (seg a m xs ++ xs.drop b))
def swrK (a b n k : Nat) : Nat := if a ≤ k ∧ k < a + n then k + (b - a) else if b ≤ k ∧ k < b + n then k - (b - a) else k
def swrF (z : α) (a b n : Nat) (xs : List α) : List α := (List.range xs.length).map fun k => xs.getD (swrK a b n k) z
theorem rotK_c (a m b k : Nat) : (a ≤ k ∧ k < b ∧ k < a + (b - m) ∧ rotK a m b k = k + (m - a)) ∨ (a ≤ k ∧ k < b ∧ a + (b - m) ≤ k ∧ rotK a m b k = k - (b - m)) ∨ ((k < a ∨ b ≤ k) ∧ rotK a m b k = k) := by
  unfold rotK
  split
  · split <;> omega
  · omega
theorem swrK_c (a b n k : Nat) : (a ≤ k ∧ k < a + n ∧ swrK a b n k = k + (b - a)) ∨ ((k < a ∨ a + n ≤ k) ∧ b ≤ k ∧ k < b + n ∧ swrK a b n k = k - (b - a)) ∨ ((k < a ∨ a + n ≤ k) ∧ (k < b ∨ b + n ≤ k) ∧ swrK a b n k = k) := by
  unfold swrK
  split
  · omega
  · split <;> omega
theorem rot_len {a m b : Nat} {xs : List α} (h1 : a ≤ m) (h2 : m ≤ b) (h3 : b ≤ xs.length) : (rotF a m b xs).length = xs.length := by
  unfold rotF
  rw [List.length_append, List.length_append, List.length_append, seg_len h2 h3, seg_len h1 (by omega), List.length_take, List.length_drop]; omega
theorem rot_get {a m b : Nat} {xs : List α} (h1 : a ≤ m) (h2 : m ≤ b) (h3 : b ≤ xs.length) (k : Nat) : (rotF a m b xs).getD k z = xs.getD (rotK a m b k) z := by
  have l1 : (xs.take a).length = a := by rw [List.length_take]; omega
  have l2 := seg_len h2 h3
  have l3 := seg_len h1 (show m ≤ xs.length by omega)
  unfold rotF rotK
  by_cases c1 : k < a
  · rw [if_neg (by omega), List.getD_eq_getElem?_getD, List.getElem?_append_left (by omega), List.getElem?_take, if_pos c1, List.getD_eq_getElem?_getD]
  · rw [List.getD_eq_getElem?_getD, List.getElem?_append_right (by omega), l1]
    by_cases c2 : k < a + (b - m)
    · rw [List.getElem?_append_left (by omega), if_pos (by omega), if_pos c2, ← List.getD_eq_getElem?_getD, seg_get (by omega)]
      congr 1; omega
    · rw [List.getElem?_append_right (by omega), l2]
      by_cases c3 : k < b
      · rw [List.getElem?_append_left (by omega), if_pos (by omega), if_neg c2, ← List.getD_eq_getElem?_getD, seg_get (by omega)]
        congr 1; omega
      · rw [List.getElem?_append_right (by omega), l3, if_neg (by omega), List.getElem?_drop, List.getD_eq_getElem?_getD]
        congr 2; omega
theorem swr_len (a b n : Nat) (xs : List α) : (swrF z a b n xs).length = xs.length := by unfold swrF; simp
theorem swr_get {a b n : Nat} {xs : List α} (h : a ≤ b) (h2 : b + n ≤ xs.length) (k : Nat) : (swrF z a b n xs).getD k z = xs.getD (swrK a b n k) z := by
  unfold swrF
  by_cases hk : k < xs.length
  · rw [getD_lt (by simpa using hk)]; simp
  · rw [List.getD_eq_getElem?_getD, List.getElem?_eq_none (by simp; omega), List.getD_eq_getElem?_getD, List.getElem?_eq_none (by unfold swrK; rw [if_neg (by omega), if_neg (by omega)]; omega)]
theorem rot_seg {a m b : Nat} {xs : List α} (h1 : a ≤ m) (h2 : m ≤ b) (h3 : b ≤ xs.length) : PSeg z a b xs (rotF a m b xs) := by
  refine ⟨?_, fun k hk => by rw [rot_get h1 h2 h3, rotK, if_neg (by omega)]⟩
  have e := cut3 (show a ≤ b by omega) xs
  have e2 : seg a b xs = seg a m xs ++ seg m b xs := by
    have := List.take_append_drop (m - a) (seg a b xs)
    rw [← this]
    congr 1
    · unfold seg; rw [List.take_take, Nat.min_eq_left (by omega)]
    · unfold seg; rw [List.drop_take, List.drop_drop]
      rw [show a + (m - a) = m by omega, show b - a - (m - a) = b - m by omega]
  unfold rotF
  conv => rhs; rw [← e, e2]
  refine List.Perm.append_left _ ?_
  rw [← List.append_assoc]
  exact List.Perm.append_right _ List.perm_append_comm
theorem rot_step1 {s m e : Nat} {r : List α} (h1 : s ≤ m) (h2 : m ≤ e) (h3 : e ≤ r.length) (h : e - m < m - s) : rotF (s + (e - m)) m e (swrF z s m (e - m) r) = rotF s m e r := by
  apply extD (z := z)
  · rw [rot_len (by omega) h2 (by rw [swr_len]; exact h3), rot_len h1 h2 h3, swr_len]
  · intro k _
    rw [rot_get (by omega) h2 (by rw [swr_len]; exact h3), rot_get h1 h2 h3, swr_get (by omega) (by omega)]
    congr 1
    have h4 := rotK_c (s + (e - m)) m e k
    have h5 := swrK_c s m (e - m) (rotK (s + (e - m)) m e k)
    have h6 := rotK_c s m e k
    omega
theorem rot_step2 {s m e : Nat} {r : List α} (h1 : s ≤ m) (h2 : m ≤ e) (h3 : e ≤ r.length) (h : m - s < e - m) : rotF s m (e - (m - s)) (swrF z s (e - (m - s)) (m - s) r) = rotF s m e r := by
  apply extD (z := z)
  · rw [rot_len h1 (by omega) (by rw [swr_len]; omega), rot_len h1 h2 h3, swr_len]
  · intro k _
    rw [rot_get h1 (by omega) (by rw [swr_len]; omega), rot_get h1 h2 h3, swr_get (by omega) (by omega)]
    congr 1
    have h4 := rotK_c s m (e - (m - s)) k
    have h5 := swrK_c s (e - (m - s)) (m - s) (rotK s m (e - (m - s)) k)
    have h6 := rotK_c s m e k
    omega
theorem rot_fin {s m e : Nat} {r : List α} (h1 : s ≤ m) (h2 : m ≤ e) (h3 : e ≤ r.length) (h : m - s = e - m) : swrF z s m (m - s) r = rotF s m e r := by
  apply extD (z := z)
  · rw [rot_len h1 h2 h3, swr_len]
  · intro k _
    rw [rot_get h1 h2 h3, swr_get (by omega) (by omega)]
    congr 1
    have h5 := swrK_c s m (m - s) k
    have h6 := rotK_c s m e k
    omega
theorem swr_succ {a b i : Nat} {xs : List α} (h : a + i < b) (h2 : b + i < xs.length) : swp z (a + i) (b + i) (swrF z a b i xs) = swrF z a b (i + 1) xs := by
  apply extD (z := z)
  · rw [swp_len, swr_len, swr_len]
  · intro k _
    rw [swp_get (by rw [swr_len]; omega) (by rw [swr_len]; omega), swr_get (by omega) (by omega), swr_get (by omega) (by omega), swr_get (by omega) (by omega), swr_get (by omega) (by omega)]
    split
    · congr 1; unfold swrK; repeat' split
      all_goals omega
    · split
      · congr 1; unfold swrK; repeat' split
        all_goals omega
      · congr 1; unfold swrK; repeat' split
        all_goals omega
theorem swr_zero {a b : Nat} {xs : List α} (h : a ≤ b) (h2 : b ≤ xs.length) : swrF z a b 0 xs = xs := by
  apply extD (z := z)
  · rw [swr_len]
  · intro k _
    rw [swr_get h (by omega)]
    congr 1; unfold swrK; repeat' split
    all_goals omega
theorem rot_up {a k : Nat} {xs : List α} (h : a ≤ k) (h2 : k + 2 ≤ xs.length) : swp z k (k + 1) (rotF a (a + 1) (k + 1) xs) = rotF a (a + 1) (k + 2) xs := by
  apply extD (z := z)
  · rw [swp_len, rot_len (by omega) (by omega) (by omega), rot_len (by omega) (by omega) (by omega)]
  · intro j _
    rw [swp_get (by rw [rot_len (by omega) (by omega) (by omega)]; omega) (by rw [rot_len (by omega) (by omega) (by omega)]; omega), rot_get (by omega) (by omega) (by omega), rot_get (by omega) (by omega) (by omega), rot_get (by omega) (by omega) (by omega), rot_get (by omega) (by omega) (by omega)]
    split
    · congr 1; unfold rotK; repeat' split
      all_goals omega
    · split
      · congr 1; unfold rotK; repeat' split
        all_goals omega
      · congr 1; unfold rotK; repeat' split
        all_goals omega
theorem rot_dn {m k : Nat} {xs : List α} (h : k + 1 ≤ m) (h2 : m + 1 ≤ xs.length) : swp z (k + 1) k (rotF (k + 1) m (m + 1) xs) = rotF k m (m + 1) xs := by
  apply extD (z := z)
  · rw [swp_len, rot_len (by omega) (by omega) (by omega), rot_len (by omega) (by omega) (by omega)]
  · intro j _
    rw [swp_get (by rw [rot_len (by omega) (by omega) (by omega)]; omega) (by rw [rot_len (by omega) (by omega) (by omega)]; omega), rot_get (by omega) (by omega) (by omega), rot_get (by omega) (by omega) (by omega), rot_get (by omega) (by omega) (by omega), rot_get (by omega) (by omega) (by omega)]
    split
    · congr 1; unfold rotK; repeat' split
      all_goals omega
    · split
      · congr 1; unfold rotK; repeat' split
        all_goals omega
      · congr 1; unfold rotK; repeat' split
        all_goals omega
theorem rot_id (z : α) {a b : Nat} {xs : List α} (h : a ≤ b) (h2 : b ≤ xs.length) : rotF a a b xs = xs ∧ rotF a b b xs = xs := by
  constructor <;> apply extD (z := z)
  · rw [rot_len (by omega) (by omega) (by omega)]
  · intro j _
    rw [rot_get (by omega) (by omega) (by omega)]
    congr 1; unfold rotK; repeat' split
    all_goals omega
  · rw [rot_len (by omega) (by omega) (by omega)]
  · intro j _
    rw [rot_get (by omega) (by omega) (by omega)]
    congr 1; unfold rotK; repeat' split
    all_goals omega
theorem merge_one (ho : Ord lt) {a i b : Nat} {xs : List α} (h1 : a + 1 ≤ i) (h2 : i ≤ b) (h3 : b ≤ xs.length) (hs : UpOn lt z (a + 1) b xs)
    (hl : ∀ k, a + 1 ≤ k → k < i → lt (xs.getD k z) (xs.getD a z) = true) (hr : ∀ k, i ≤ k → k < b → lt (xs.getD k z) (xs.getD a z) = false) : rotF a (a + 1) i xs = segS lt a b xs := by
  refine seg_unique (z := z) ho (by omega) h3 ((rot_seg (by omega) (by omega) (by omega)).mono (Nat.le_refl _) h2) fun p q hp hpq hq => ?_
  rw [rot_get (by omega) h1 (by omega), rot_get (by omega) h1 (by omega)]
  have e1 : rotK a (a + 1) i p = if p < i - 1 then p + 1 else if p = i - 1 then a else p := by 
    have := rotK_c a (a + 1) i p
    repeat' split
    all_goals omega
  have e2 : rotK a (a + 1) i q = if q < i - 1 then q + 1 else if q = i - 1 then a else q := by 
    have := rotK_c a (a + 1) i q
    repeat' split
    all_goals omega
  rw [e1, e2]
  by_cases c1 : q < i - 1
  · rw [if_pos c1, if_pos (by omega)]; exact hs _ _ (by omega) (by omega) (by omega)
  · rw [if_neg c1]
    by_cases c2 : q = i - 1
    · rw [if_pos c2, if_pos (by omega)]; exact ho.asym (hl _ (by omega) (by omega))
    · rw [if_neg c2]
      by_cases c3 : p < i - 1
      · rw [if_pos c3]; exact hs _ _ (by omega) (by omega) (by omega)
      · rw [if_neg c3]
        by_cases c4 : p = i - 1
        · rw [if_pos c4]; exact hr _ (by omega) (by omega)
        · rw [if_neg c4]; exact hs _ _ (by omega) (by omega) (by omega)
theorem merge_last (ho : Ord lt) {a i m : Nat} {xs : List α} (h1 : a ≤ i) (h2 : i ≤ m) (h3 : m + 1 ≤ xs.length) (hs : UpOn lt z a m xs)
    (hl : ∀ k, a ≤ k → k < i → lt (xs.getD m z) (xs.getD k z) = false) (hr : ∀ k, i ≤ k → k < m → lt (xs.getD m z) (xs.getD k z) = true) : rotF i m (m + 1) xs = segS lt a (m + 1) xs := by
  refine seg_unique (z := z) ho (by omega) h3 ((rot_seg h2 (by omega) (by omega)).mono h1 (Nat.le_refl _)) fun p q hp hpq hq => ?_
  rw [rot_get h2 (by omega) (by omega), rot_get h2 (by omega) (by omega)]
  have e1 : rotK i m (m + 1) p = if p < i then p else if p = i then m else p - 1 := by 
    have := rotK_c i m (m + 1) p
    repeat' split
    all_goals omega
  have e2 : rotK i m (m + 1) q = if q < i then q else if q = i then m else q - 1 := by 
    have := rotK_c i m (m + 1) q
    repeat' split
    all_goals omega
  rw [e1, e2]
  by_cases c1 : q < i
  · rw [if_pos c1, if_pos (by omega)]; exact hs _ _ (by omega) (by omega) (by omega)
  · rw [if_neg c1]
    by_cases c2 : q = i
    · rw [if_pos c2, if_pos (by omega)]; exact hl _ (by omega) (by omega)
    · rw [if_neg c2]
      by_cases c3 : p < i
      · rw [if_pos c3]; exact hs _ _ (by omega) (by omega) (by omega)
      · rw [if_neg c3]
        by_cases c4 : p = i
        · rw [if_pos c4]; exact ho.asym (hr _ (by omega) (by omega))
        · rw [if_neg c4]; exact hs _ _ (by omega) (by omega) (by omega)
theorem PSeg.from_ {a b : Nat} {xs r : List α} (h : PSeg z a b xs r) (hab : a ≤ b) (hb : b ≤ xs.length) {k : Nat} (h1 : a ≤ k) (h2 : k < b) : ∃ j, a ≤ j ∧ j < b ∧ r.getD k z = xs.getD j z := by
  have hl := h.len
  have e := seg_get (z := z) (xs := r) (show k - a < b - a by omega)
  rw [show a + (k - a) = k by omega] at e
  have hm : r.getD k z ∈ St.seg a b r := by
    rw [← e, getD_lt (by rw [seg_len hab (by omega)]; omega)]
    exact List.getElem_mem _
  have hm2 := (h.seg hab).mem_iff.1 hm
  obtain ⟨j, hj, ej⟩ := List.getElem_of_mem hm2
  rw [seg_len hab hb] at hj
  have e2 := seg_get (z := z) (xs := xs) hj
  rw [getD_lt (by rw [seg_len hab hb]; exact hj), ej] at e2
  exact ⟨a + j, by omega, by omega, e2⟩
structure CutI (lt : α → α → Bool) (z : α) (a m b : Nat) (xs : List α) (s r st : Nat) : Prop where
  lo : s ≤ st
  hi : st ≤ r
  l : ∀ c, s ≤ c → c < st → lt (xs.getD ((a + b) / 2 + m - 1 - c) z) (xs.getD c z) = false
  g : ∀ c, st ≤ c → c < r → lt (xs.getD ((a + b) / 2 + m - 1 - c) z) (xs.getD c z) = true
def cutS (a m b : Nat) : Nat := if m > (a + b) / 2 then (a + b) / 2 + m - b else a
def cutR (a m b : Nat) : Nat := if m > (a + b) / 2 then (a + b) / 2 else m
theorem cut_b {a m b st : Nat} (h1 : a < m) (h2 : m < b) (h3 : cutS a m b ≤ st) (h4 : st ≤ cutR a m b) : a ≤ st ∧ st ≤ m ∧ m ≤ (a + b) / 2 + m - st ∧ (a + b) / 2 + m - st ≤ b ∧ st ≤ (a + b) / 2 ∧ (a + b) / 2 ≤ (a + b) / 2 + m - st := by
  unfold cutS at h3; unfold cutR at h4
  split at h3
  · rename_i h; rw [if_pos h] at h4; omega
  · rename_i h; rw [if_neg h] at h4; omega
theorem cut_ok (ho : Ord lt) {a m b st : Nat} {xs : List α} (h1 : a < m) (h2 : m < b) (h3 : b ≤ xs.length) (hs1 : UpOn lt z a m xs) (hs2 : UpOn lt z m b xs) (hc : CutI lt z a m b xs (cutS a m b) (cutR a m b) st) :
    UpOn lt z a st (rotF st m ((a + b) / 2 + m - st) xs) ∧ UpOn lt z st ((a + b) / 2) (rotF st m ((a + b) / 2 + m - st) xs) ∧ UpOn lt z ((a + b) / 2) ((a + b) / 2 + m - st) (rotF st m ((a + b) / 2 + m - st) xs) ∧ UpOn lt z ((a + b) / 2 + m - st) b (rotF st m ((a + b) / 2 + m - st) xs) ∧
    (∀ p q, a ≤ p → p < (a + b) / 2 → (a + b) / 2 ≤ q → q < b → lt ((rotF st m ((a + b) / 2 + m - st) xs).getD q z) ((rotF st m ((a + b) / 2 + m - st) xs).getD p z) = false) := by
  obtain ⟨k1, k2, k3, k4, k5, k6⟩ := cut_b h1 h2 hc.lo hc.hi
  have hl := hc.l
  have hg := hc.g
  have c1 := hc.lo
  have c2 := hc.hi
  have hS : cutS a m b = (a + b) / 2 + m - b ∧ cutR a m b = (a + b) / 2 ∧ m > (a + b) / 2 ∨ cutS a m b = a ∧ cutR a m b = m ∧ m ≤ (a + b) / 2 := by
    unfold cutS cutR
    split
    · exact .inl ⟨rfl, rfl, by assumption⟩
    · exact .inr ⟨rfl, rfl, by omega⟩
  generalize hM : (a + b) / 2 = mid at *
  generalize cutS a m b = s0 at *
  generalize cutR a m b = r0 at *
  have g : ∀ k, (rotF st m (mid + m - st) xs).getD k z = xs.getD (if k < st then k else if k < mid then k + (m - st) else if k < mid + m - st then k - (mid - st) else k) z := fun k => by
    rw [rot_get k2 k3 (by omega)]
    congr 1
    unfold rotK
    repeat' split
    all_goals omega
  refine ⟨fun p q hp hpq hq => ?_, fun p q hp hpq hq => ?_, fun p q hp hpq hq => ?_, fun p q hp hpq hq => ?_, fun p q hp hpm hq hqb => ?_⟩
  · rw [g, g, if_pos (by omega), if_pos (by omega)]; exact hs1 _ _ hp hpq (by omega)
  · rw [g, g, if_neg (by omega), if_pos (by omega), if_neg (by omega), if_pos (by omega)]; exact hs2 _ _ (by omega) (by omega) (by omega)
  · rw [g, g, if_neg (by omega), if_neg (by omega), if_pos (by omega), if_neg (by omega), if_neg (by omega), if_pos (by omega)]; exact hs1 _ _ (by omega) (by omega) (by omega)
  · rw [g, g, if_neg (by omega), if_neg (by omega), if_neg (by omega), if_neg (by omega), if_neg (by omega), if_neg (by omega)]; exact hs2 _ _ (by omega) (by omega) (by omega)
  · rw [g, g, if_neg (by omega), if_neg (by omega)]
    by_cases d1 : p < st
    · rw [if_pos d1]
      by_cases d2 : q < mid + m - st
      · rw [if_pos d2]; exact hs1 _ _ hp (by omega) (by omega)
      · rw [if_neg d2]
        -- xs[p] ≤ xs[st-1] ≤ xs[end] ≤ xs[q]
        have e1 := hl (st - 1) (by omega) (by omega)
        rw [show mid + m - 1 - (st - 1) = mid + m - st by omega] at e1
        have e2 : lt (xs.getD (mid + m - st) z) (xs.getD p z) = false := by
          by_cases e : p = st - 1
          · rw [e]; exact e1
          · exact ho.le (hs1 p (st - 1) hp (by omega) (by omega)) e1
        by_cases e : q = mid + m - st
        · rw [e]; exact e2
        · exact ho.le e2 (hs2 _ _ (by omega) (by omega) (by omega))
    · rw [if_neg d1, if_pos hpm]
      by_cases d2 : q < mid + m - st
      · rw [if_pos d2]
        -- xs[p'] ≤ xs[end-1] < xs[st] ≤ xs[q']
        have e1 := ho.asym (hg st (Nat.le_refl _) (by omega))
        rw [show mid + m - 1 - st = mid + m - st - 1 by omega] at e1
        have e2 : lt (xs.getD st z) (xs.getD (p + (m - st)) z) = false := by
          by_cases e : p + (m - st) = mid + m - st - 1
          · rw [e]; exact e1
          · exact ho.le (hs2 _ _ (by omega) (by omega) (by omega)) e1
        by_cases e : q - (mid - st) = st
        · rw [e]; exact e2
        · exact ho.le e2 (hs1 _ _ k1 (by omega) (by omega))
      · rw [if_neg d2]; exact hs2 _ _ (by omega) (by omega) (by omega)
theorem UpOn.seg_of {a b p q : Nat} {xs r : List α} (h : UpOn lt z p q xs) (hs : PSeg z a b xs r) (hd : q ≤ a ∨ b ≤ p) : UpOn lt z p q r := fun i j h1 h2 h3 => by
  rw [hs.e j (by omega), hs.e i (by omega)]; exact h i j h1 h2 h3
theorem halves (ho : Ord lt) {a mid b : Nat} {xs r1 : List α} (h1 : a ≤ mid) (h2 : mid ≤ b) (h3 : b ≤ xs.length) (hp : PSeg z a b xs r1)
    (hc : ∀ p q, a ≤ p → p < mid → mid ≤ q → q < b → lt (r1.getD q z) (r1.getD p z) = false) : segS lt mid b (segS lt a mid r1) = segS lt a b xs := by
  have hl := hp.len
  obtain ⟨p1, u1⟩ := segS_ok (z := z) ho h1 (show mid ≤ r1.length by omega)
  have hl2 := p1.len
  obtain ⟨p2, u2⟩ := segS_ok (z := z) ho h2 (show b ≤ (segS lt a mid r1).length by omega)
  refine seg_unique (z := z) ho (by omega) h3 ((hp.trans (p1.mono (Nat.le_refl _) h2)).trans (p2.mono h1 (Nat.le_refl _))) fun p q hp1 hpq hq => ?_
  by_cases c1 : q < mid
  · exact (u1.seg_of p2 (.inl (Nat.le_refl _))) p q hp1 hpq c1
  · by_cases c2 : mid ≤ p
    · exact u2 p q c2 hpq hq
    · obtain ⟨j, j1, j2, j3⟩ := p2.from_ h2 (by omega) (show mid ≤ q by omega) hq
      rw [j3, p2.e p (by omega), p1.e j (by omega)]
      obtain ⟨i, i1, i2, i3⟩ := p1.from_ h1 (by omega) hp1 (show p < mid by omega)
      rw [i3]
      exact hc i j i1 i2 j1 j2
theorem seg_same (ho : Ord lt) {a b : Nat} {xs : List α} (hab : a ≤ b) (hb : b ≤ xs.length) (hu : UpOn lt z a b xs) : segS lt a b xs = xs :=
  (seg_unique (z := z) ho hab hb (PSeg.refl a b xs) hu).symm
theorem UpOn.nil {a b : Nat} {xs : List α} (h : b ≤ a) : UpOn lt z a b xs := fun p q _ _ _ => by omega
theorem merge_all (ho : Ord lt) {a m b st : Nat} {xs : List α} (h1 : a < m) (h2 : m < b) (h3 : b ≤ xs.length) (hs1 : UpOn lt z a m xs) (hs2 : UpOn lt z m b xs) (hc : CutI lt z a m b xs (cutS a m b) (cutR a m b) st) {r1 r2 r3 : List α}
    (e1 : r1 = if st < m ∧ m < (a + b) / 2 + m - st then rotF st m ((a + b) / 2 + m - st) xs else xs)
    (e2 : r2 = if a < st ∧ st < (a + b) / 2 then segS lt a ((a + b) / 2) r1 else r1)
    (e3 : r3 = if (a + b) / 2 < (a + b) / 2 + m - st ∧ (a + b) / 2 + m - st < b then segS lt ((a + b) / 2) b r2 else r2) : r3 = segS lt a b xs := by
  obtain ⟨k1, k2, k3, k4, k5, k6⟩ := cut_b h1 h2 hc.lo hc.hi
  obtain ⟨u1, u2, u3, u4, hx⟩ := cut_ok ho h1 h2 h3 hs1 hs2 hc
  generalize hM : (a + b) / 2 = mid at *
  have er : r1 = rotF st m (mid + m - st) xs := by
    rw [e1]
    split
    · rfl
    · by_cases c : st = m
      · rw [c, (rot_id (z := z) (by omega) (by omega)).1]
      · have c2 : mid + m - st = m := by omega
        rw [c2, (rot_id (z := z) k2 (by omega)).2]
  rw [← er] at u1 u2 u3 u4 hx
  have hp : PSeg z a b xs r1 := by rw [er]; exact (rot_seg k2 k3 (by omega)).mono k1 k4
  have hl := hp.len
  have er2 : r2 = segS lt a mid r1 := by
    rw [e2]
    split
    · rfl
    · refine (seg_same (z := z) ho (by omega) (by omega) ?_).symm
      by_cases c : st ≤ a
      · have : st = a := by omega
        rw [← this]; exact u2
      · have : st = mid := by omega
        rw [← this]; exact u1
  obtain ⟨p1, v1⟩ := segS_ok (z := z) ho (show a ≤ mid by omega) (show mid ≤ r1.length by omega)
  have hl2 := p1.len
  have er3 : r3 = segS lt mid b r2 := by
    rw [e3]
    split
    · rfl
    · refine (seg_same (z := z) ho (by omega) (by rw [er2]; omega) ?_).symm
      rw [er2]
      by_cases c : mid + m - st ≤ mid
      · have : mid + m - st = mid := by omega
        rw [this] at u4
        exact u4.seg_of p1 (.inr (Nat.le_refl _))
      · have : mid + m - st = b := by omega
        rw [this] at u3
        exact u3.seg_of p1 (.inr (Nat.le_refl _))
  rw [er3, er2]
  exact halves ho (by omega) (by omega) h3 hp hx
end Go.Proofs.St
set_option maxRecDepth 100000
namespace Go.Proofs.YtkimpfoimblhjaaDoor.Ad
open Go Go.Eng Go.Lb Go.Ad Lb Go.Proofs.St
abbrev E {α : Type} (a : α) : Prop := Wr (a = a)
theorem E_iff {α : Type} (a : α) : E a ↔ True := ⟨fun _ => trivial, fun _ => ⟨rfl⟩⟩
def cmpI (a b : Int) : Int := bif decide (a < b) then -1 else bif decide (a > b) then 1 else 0
def cmpL : List Int → List Int → Int
  | [], [] => 0
  | [], _ :: _ => -1
  | _ :: _, [] => 1
  | x :: r, y :: s => bif decide (cmpI x y = 0) then cmpL r s else cmpI x y
def orF : List Int → Int
  | [] => 0
  | x :: r => bif decide (x = 0) then orF r else x
def gsL (g : G8) : List Int := [g.1, g.2.1, g.2.2.1, g.2.2.2.1, g.2.2.2.2.1, g.2.2.2.2.2.1, g.2.2.2.2.2.2.1, g.2.2.2.2.2.2.2.1]
def cmpA (a b : Ad) : Int := orF [cmpI a.1 b.1, cmpL (gsL a.2.1) (gsL b.2.1), cmpI a.2.2.1 b.2.2.1]
def ltA (a b : Ad) : Bool := decide (cmpA a b < 0)
abbrev zA : Ad := Ty.zero AdT
abbrev I16 : Ty := .int .u16
def cCmp8 : Contract := conD (.cons I8 (.cons I8 .unit)) (.cons I64 .unit) (fun _ => true) fun x => (cmpI x.1 x.2.1, ())
def cCmp16 : Contract := conD (.cons U16 (.cons U16 .unit)) (.cons I64 .unit) (fun _ => true) fun x => (cmpI x.1 x.2.1, ())
def cCmp64 : Contract := conD (.cons I64 (.cons I64 .unit)) (.cons I64 .unit) (fun _ => true) fun x => (cmpI x.1 x.2.1, ())
def cOrC : Contract := conD (.cons (.sl I64) .unit) (.cons I64 .unit) (fun x => decide (List.length (α := Int) x.1 ≤ 1000)) fun x => (orF x.1, ())
def cCmpL : Contract := conD (.cons (.sl U16) (.cons (.sl U16) .unit)) (.cons I64 .unit) (fun x => decide (List.length (α := Int) x.1 ≤ 1000) && decide (List.length (α := Int) x.2.1 ≤ 1000)) fun x => (cmpL x.1 x.2.1, ())
def cComp : Contract := conD (.cons AdT (.cons AdT .unit)) (.cons I64 .unit) (fun _ => true) fun x => (cmpA x.1 x.2.1, ())
structure OrI (l : List Int) (i : Int) : Prop where
  i0 : 0 ≤ i
  i1 : i ≤ l.length
  e : orF (l.drop i.toNat) = orF l
def orA : LoopAnn where
  α := Int
  keep := [0, 3, 6, 7]
  okeep := []
  nxt := 9000
  env := fun _ i => [(8, .dat I64 i)]
  own := fun _ _ => []
  inv := fun s i => OrI (bDat (.sl I64) s 6).out i
  mu := fun s i => List.length (α := Int) (bDat (.sl I64) s 6).out - i.toNat
  pick := some fun _ s => (bDat I64 s 8).out
structure LxI (l m : List Int) (i : Int) : Prop where
  i0 : 0 ≤ i
  i1 : i ≤ l.length
  i2 : i ≤ m.length
  e : cmpL (l.drop i.toNat) (m.drop i.toNat) = cmpL l m
def lxA : LoopAnn where
  α := Int
  keep := [0, 1, 9, 10]
  okeep := []
  nxt := 9000
  env := fun _ i => [(11, .dat I64 i)]
  own := fun _ _ => []
  inv := fun s i => LxI (bDat (.sl U16) s 0).out (bDat (.sl U16) s 1).out i
  mu := fun s i => List.length (α := Int) (bDat (.sl U16) s 0).out - i.toNat
  pick := some fun _ s => (bDat I64 s 11).out
abbrev Big : Nat := 100000
def mcR (a : Ty) (pre : List Ad → a.El → Prop) (F : List Ad → a.El → List Ad) : MCon := { e := 26, t := AdT, a := a, fns := [71], pre := pre, F := F, eats := false }
abbrev Z3 : Ty := .cons I64 (.cons I64 (.cons I64 .unit))
structure SwP (xs : List Ad) (a b n : Int) : Prop where
  a0 : 0 ≤ a
  n0 : 0 ≤ n
  ab : a + n ≤ b
  bl : b + n ≤ xs.length
  l : xs.length ≤ Big
def cSwr : MCon := mcR Z3 (fun xs y => SwP xs y.1 y.2.1 y.2.2.1) fun xs y => swrF zA (Int.toNat y.1) (Int.toNat y.2.1) (Int.toNat y.2.2.1) xs
structure RoP (xs : List Ad) (a m b : Int) : Prop where
  a0 : 0 ≤ a
  am : a < m
  mb : m < b
  bl : b ≤ xs.length
  l : xs.length ≤ Big
def cRotM : MCon := mcR Z3 (fun xs y => RoP xs y.1 y.2.1 y.2.2.1) fun xs y => rotF (Int.toNat y.1) (Int.toNat y.2.1) (Int.toNat y.2.2.1) xs
structure InP (xs : List Ad) (a b : Int) : Prop where
  a0 : 0 ≤ a
  ab : a ≤ b
  bl : b ≤ xs.length
  l : xs.length ≤ Big
def cInsM : MCon := mcR (.cons I64 (.cons I64 .unit)) (fun xs y => InP xs y.1 y.2.1) fun xs y => segS ltA (Int.toNat y.1) (Int.toNat y.2.1) xs
structure MeP (k : Nat) (xs : List Ad) (a m b : Int) : Prop where
  a0 : 0 ≤ a
  am : a < m
  mb : m < b
  bl : b ≤ xs.length
  l : xs.length ≤ Big
  u1 : UpOn ltA zA a.toNat m.toNat xs
  u2 : UpOn ltA zA m.toNat b.toNat xs
  k : b - a ≤ k
def cSym (k : Nat) : MCon := mcR Z3 (fun xs y => MeP k xs y.1 y.2.1 y.2.2.1) fun xs y => segS ltA (Int.toNat y.1) (Int.toNat y.2.2.1) xs
def cSta : MCon := mcR (.cons I64 .unit) (fun xs y => y.1 = xs.length ∧ xs.length ≤ 60) fun xs _ => srt ltA xs
def cSort : MCon := mcR .unit (fun xs _ => xs.length ≤ 60) fun xs _ => srt ltA xs
abbrev rowO (r : List Ad) : Own := [(0, .row 26 AdT r)]
structure SwI (n i : Int) : Prop where
  i0 : 0 ≤ i
  i1 : i ≤ n
def swA : LoopAnn where
  α := Int
  keep := [0, 1, 2, 3, 4]
  okeep := []
  nxt := 9000
  env := fun _ i => [(10, .dat I64 i)]
  own := fun s i => rowO (swrF zA (bDat I64 s 1).out.toNat (bDat I64 s 2).out.toNat i.toNat (bRow AdT s 0).out)
  inv := fun s i => SwI (bDat I64 s 3).out i
  mu := fun s i => ((bDat I64 s 3).out - i).toNat
  pick := some fun _ s => (bDat I64 s 10).out
structure RoI (xs : List Ad) (a m b : Int) (x : Int × Int × List Ad) : Prop where
  i0 : 1 ≤ x.1
  i1 : x.1 ≤ m - a
  j0 : 1 ≤ x.2.1
  j1 : x.2.1 ≤ b - m
  l : x.2.2.length = xs.length
  e : rotF (m - x.1).toNat m.toNat (m + x.2.1).toNat x.2.2 = rotF a.toNat m.toNat b.toNat xs
def roA : LoopAnn where
  α := Int × Int × List Ad
  keep := [0, 1, 2, 3, 4]
  okeep := []
  nxt := 9000
  env := fun _ x => [(10, .dat I64 x.1), (11, .dat I64 x.2.1)]
  own := fun _ x => rowO x.2.2
  inv := fun s x => RoI (bRow AdT s 0).out (bDat I64 s 1).out (bDat I64 s 2).out (bDat I64 s 3).out x
  mu := fun _ x => (x.1 + x.2.1).toNat
  pick := some fun _ s => ((bDat I64 s 10).out, (bDat I64 s 11).out, (bRow AdT s 0).out)
structure IoI (xs : List Ad) (a b : Int) (x : Int × List Ad) : Prop where
  i0 : a + 1 ≤ x.1
  i1 : x.1 ≤ b ∨ x.1 = a + 1
  p : PSeg zA a.toNat b.toNat xs x.2
  u : UpOn ltA zA a.toNat x.1.toNat x.2
def ioA : LoopAnn where
  α := Int × List Ad
  keep := [0, 1, 2, 3]
  okeep := []
  nxt := 9000
  env := fun _ x => [(8, .dat I64 x.1)]
  own := fun _ x => rowO x.2
  inv := fun s x => IoI (bRow AdT s 0).out (bDat I64 s 1).out (bDat I64 s 2).out x
  mu := fun s x => ((bDat I64 s 2).out - x.1).toNat
  pick := some fun _ s => ((bDat I64 s 8).out, (bRow AdT s 0).out)
structure IiI (xs : List Ad) (a i : Int) (x : Int × List Ad) : Prop where
  j0 : a ≤ x.1
  j1 : x.1 ≤ i
  p : PSeg zA a.toNat (i.toNat + 1) xs x.2
  u : ∀ p q, a.toNat ≤ p → p < q → q ≤ i.toNat → q ≠ x.1.toNat → ltA (x.2.getD q zA) (x.2.getD p zA) = false
def iiA : LoopAnn where
  α := Int × List Ad
  keep := [0, 1, 2, 3, 8]
  okeep := []
  nxt := 9000
  env := fun _ x => [(9, .dat I64 x.1)]
  own := fun _ x => rowO x.2
  inv := fun s x => IiI (bRow AdT s 0).out (bDat I64 s 1).out (bDat I64 s 8).out x
  mu := fun s x => (x.1 - (bDat I64 s 1).out).toNat
  pick := some fun _ s => ((bDat I64 s 9).out, (bRow AdT s 0).out)
structure S1I (xs : List Ad) (a m b : Int) (x : Int × Int) : Prop where
  i0 : m ≤ x.1
  ij : x.1 ≤ x.2
  j1 : x.2 ≤ b
  l : ∀ k, m.toNat ≤ k → k < x.1.toNat → ltA (xs.getD k zA) (xs.getD a.toNat zA) = true
  g : ∀ k, x.2.toNat ≤ k → k < b.toNat → ltA (xs.getD k zA) (xs.getD a.toNat zA) = false
def s1A : LoopAnn where
  α := Int × Int
  keep := [0, 1, 2, 3, 4]
  okeep := [0]
  nxt := 9000
  env := fun _ x => [(10, .dat I64 x.1), (11, .dat I64 x.2)]
  own := fun _ _ => []
  inv := fun s x => S1I (bRow AdT s 0).out (bDat I64 s 1).out (bDat I64 s 2).out (bDat I64 s 3).out x
  mu := fun _ x => (x.2 - x.1).toNat
  pick := some fun _ s => ((bDat I64 s 10).out, (bDat I64 s 11).out)
structure U1I (a i k : Int) : Prop where
  k0 : a ≤ k
  k1 : k ≤ i - 1
def u1A : LoopAnn where
  α := Int
  keep := [0, 1, 2, 3, 4, 10]
  okeep := []
  nxt := 9000
  env := fun _ k => [(13, .dat I64 k)]
  own := fun s k => rowO (rotF (bDat I64 s 1).out.toNat ((bDat I64 s 1).out.toNat + 1) (k.toNat + 1) (bRow AdT s 0).out)
  inv := fun s k => U1I (bDat I64 s 1).out (bDat I64 s 10).out k
  mu := fun s k => ((bDat I64 s 10).out - k).toNat
  pick := some fun _ s => (bDat I64 s 13).out
structure S2I (xs : List Ad) (a m : Int) (x : Int × Int) : Prop where
  i0 : a ≤ x.1
  ij : x.1 ≤ x.2
  j1 : x.2 ≤ m
  l : ∀ k, a.toNat ≤ k → k < x.1.toNat → ltA (xs.getD m.toNat zA) (xs.getD k zA) = false
  g : ∀ k, x.2.toNat ≤ k → k < m.toNat → ltA (xs.getD m.toNat zA) (xs.getD k zA) = true
def s2A : LoopAnn where
  α := Int × Int
  keep := [0, 1, 2, 3, 4]
  okeep := [0]
  nxt := 9000
  env := fun _ x => [(14, .dat I64 x.1), (15, .dat I64 x.2)]
  own := fun _ _ => []
  inv := fun s x => S2I (bRow AdT s 0).out (bDat I64 s 1).out (bDat I64 s 2).out x
  mu := fun _ x => (x.2 - x.1).toNat
  pick := some fun _ s => ((bDat I64 s 14).out, (bDat I64 s 15).out)
structure U2I (m i k : Int) : Prop where
  k0 : i ≤ k
  k1 : k ≤ m
def u2A : LoopAnn where
  α := Int
  keep := [0, 1, 2, 3, 4, 14]
  okeep := []
  nxt := 9000
  env := fun _ k => [(17, .dat I64 k)]
  own := fun s k => rowO (rotF k.toNat (bDat I64 s 2).out.toNat ((bDat I64 s 2).out.toNat + 1) (bRow AdT s 0).out)
  inv := fun s k => U2I (bDat I64 s 2).out (bDat I64 s 14).out k
  mu := fun s k => (k - (bDat I64 s 14).out).toNat
  pick := some fun _ s => (bDat I64 s 17).out
def cutA : LoopAnn where
  α := Int × Int
  keep := [0, 1, 2, 3, 4, 18, 19]
  okeep := [0]
  nxt := 9000
  env := fun _ x => [(20, .dat I64 x.1), (21, .dat I64 x.2)]
  own := fun _ _ => []
  inv := fun s x => x.1 = (cutS (bDat I64 s 1).out.toNat (bDat I64 s 2).out.toNat (bDat I64 s 3).out.toNat : Int) ∧ x.2 = (cutR (bDat I64 s 1).out.toNat (bDat I64 s 2).out.toNat (bDat I64 s 3).out.toNat : Int)
  mu := fun _ _ => 0
  pick := some fun _ s => ((bDat I64 s 20).out, (bDat I64 s 21).out)
structure S3I (xs : List Ad) (a m b : Int) (x : Int × Int) : Prop where
  i0 : (cutS a.toNat m.toNat b.toNat : Int) ≤ x.1
  ij : x.1 ≤ x.2
  j1 : x.2 ≤ cutR a.toNat m.toNat b.toNat
  l : ∀ c, cutS a.toNat m.toNat b.toNat ≤ c → c < x.1.toNat → ltA (xs.getD ((a.toNat + b.toNat) / 2 + m.toNat - 1 - c) zA) (xs.getD c zA) = false
  g : ∀ c, x.2.toNat ≤ c → c < cutR a.toNat m.toNat b.toNat → ltA (xs.getD ((a.toNat + b.toNat) / 2 + m.toNat - 1 - c) zA) (xs.getD c zA) = true
def s3A : LoopAnn where
  α := Int × Int
  keep := [0, 1, 2, 3, 4, 18, 19, 22]
  okeep := [0]
  nxt := 9000
  env := fun _ x => [(20, .dat I64 x.1), (21, .dat I64 x.2)]
  own := fun _ _ => []
  inv := fun s x => S3I (bRow AdT s 0).out (bDat I64 s 1).out (bDat I64 s 2).out (bDat I64 s 3).out x
  mu := fun _ x => (x.2 - x.1).toNat
  pick := some fun _ s => ((bDat I64 s 20).out, (bDat I64 s 21).out)
def Bls (k e : Nat) (r : List Ad) : Prop := ∀ p q, p < q → q < e → p / k = q / k → ltA (r.getD q zA) (r.getD p zA) = false
structure T1I (xs : List Ad) (n : Int) (x : Int × Int × List Ad) : Prop where
  a : x.1 = 0 ∨ x.1 = 20 ∨ x.1 = 40 ∨ x.1 = 60
  b : x.2.1 = x.1 + 20
  an : x.1 ≤ n
  p : x.2.2.Perm xs
  u : Bls 20 x.1.toNat x.2.2
def t1A : LoopAnn where
  α := Int × Int × List Ad
  keep := [0, 1, 2, 6]
  okeep := []
  nxt := 9000
  env := fun _ x => [(7, .dat I64 x.1), (8, .dat I64 x.2.1)]
  own := fun _ x => rowO x.2.2
  inv := fun s x => T1I (bRow AdT s 0).out (bDat I64 s 1).out x
  mu := fun _ x => (60 - x.1).toNat
  pick := some fun _ s => ((bDat I64 s 7).out, (bDat I64 s 8).out, (bRow AdT s 0).out)
structure T2I (xs : List Ad) (n : Int) (x : Int × List Ad) : Prop where
  a : x.1 = 20 ∨ x.1 = 40 ∨ x.1 = 80
  p : x.2.Perm xs
  u : Bls x.1.toNat n.toNat x.2
def t2A : LoopAnn where
  α := Int × List Ad
  keep := [0, 1, 2]
  okeep := []
  nxt := 9000
  env := fun _ x => [(6, .dat I64 x.1)]
  own := fun _ x => rowO x.2
  inv := fun s x => T2I (bRow AdT s 0).out (bDat I64 s 1).out x
  mu := fun _ x => (80 - x.1).toNat
  pick := some fun _ s => ((bDat I64 s 6).out, (bRow AdT s 0).out)
structure T3I (xs : List Ad) (n k : Int) (x : Int × Int × List Ad) : Prop where
  a : x.1 = 0 ∨ x.1 = 2 * k
  b : x.2.1 = x.1 + 2 * k
  an : x.1 ≤ n
  p : x.2.2.Perm xs
  u : UpOn ltA zA 0 x.1.toNat x.2.2
  v : Bls k.toNat n.toNat x.2.2
def t3A : LoopAnn where
  α := Int × Int × List Ad
  keep := [0, 1, 2, 6]
  okeep := []
  nxt := 9000
  env := fun _ x => [(7, .dat I64 x.1), (8, .dat I64 x.2.1)]
  own := fun _ x => rowO x.2.2
  inv := fun s x => T3I (bRow AdT s 0).out (bDat I64 s 1).out (bDat I64 s 6).out x
  mu := fun _ x => (100 - x.1).toNat
  pick := some fun _ s => ((bDat I64 s 7).out, (bDat I64 s 8).out, (bRow AdT s 0).out)
end Go.Proofs.YtkimpfoimblhjaaDoor.Ad
namespace Go.Proofs.YtkimpfoimblhjaaDoor.Ad
open Go Go.Eng Go.Lb Go.Ad Lb Go.Proofs.St
set_option maxRecDepth 100000
noncomputable def g96 : Cfg := { tab := Tb.tab, cons := [], inls := [(117, Tryd.f117)], loops := [], cuts := [], unroll := false, arrs := [], keys := [] }
noncomputable def g118 : Cfg := { tab := Tb.tab, cons := [], inls := [(135, Tryd.f135)], loops := [], cuts := [], unroll := false, arrs := [], keys := [] }
noncomputable def g98 : Cfg := { tab := Tb.tab, cons := [], inls := [(119, Tryd.f119)], loops := [], cuts := [], unroll := false, arrs := [], keys := [] }
noncomputable def g95 : Cfg := { tab := Tb.tab, cons := [], inls := [], loops := [(3, orA)], cuts := [], unroll := false, arrs := [], keys := [] }
noncomputable def g97 : Cfg := { tab := Tb.tab, cons := [(118, cCmp16)], inls := [], loops := [(2, lxA)], cuts := [], unroll := false, arrs := [], keys := [] }
noncomputable def g71 : Cfg := { tab := Tb.tab, cons := [(95, cOrC), (96, cCmp8), (97, cCmpL), (98, cCmp64)], inls := [], loops := [], cuts := [], unroll := false, arrs := [], keys := [] }
end Go.Proofs.YtkimpfoimblhjaaDoor.Ad
namespace Go.Proofs.YtkimpfoimblhjaaDoor.Ad
open Go Go.Eng Go.Lb Go.Ad Lb Go.Proofs.St
set_option maxRecDepth 100000
theorem v96_eq : vcFn g96 300 Tryd.f96 cCmp8 = ( ∀ (x : Int × Int × Unit), E true → bcase (!decide (x.1 = x.1)) (bcase (!decide (x.2.1 = x.2.1)) (((0 : Int), ()) = (cmpI x.1 x.2.1, ())) (((-1 : Int), ()) = (cmpI x.1 x.2.1, ()))) (bcase (!decide (x.2.1 = x.2.1)) (((1 :
  Int), ()) = (cmpI x.1 x.2.1, ())) (bcase (decide (x.1 < x.2.1)) (((-1 : Int), ()) = (cmpI x.1 x.2.1, ())) (bcase (decide (x.1 > x.2.1)) (((1 : Int), ()) = (cmpI x.1 x.2.1, ())) (((0 : Int), ()) = (cmpI x.1 x.2.1,
  ())))))) := by kernel_rfl
theorem v118_eq : vcFn g118 300 Tryd.f118 cCmp16 = ( ∀ (x : Int × Int × Unit), E true → bcase (!decide (x.1 = x.1)) (bcase (!decide (x.2.1 = x.2.1)) (((0 : Int), ()) = (cmpI x.1 x.2.1, ())) (((-1 : Int), ()) = (cmpI x.1 x.2.1, ()))) (bcase (!decide (x.2.1 = x.2.1)) (((1 :
  Int), ()) = (cmpI x.1 x.2.1, ())) (bcase (decide (x.1 < x.2.1)) (((-1 : Int), ()) = (cmpI x.1 x.2.1, ())) (bcase (decide (x.1 > x.2.1)) (((1 : Int), ()) = (cmpI x.1 x.2.1, ())) (((0 : Int), ()) = (cmpI x.1 x.2.1,
  ())))))) := by kernel_rfl
theorem v98_eq : vcFn g98 300 Tryd.f98 cCmp64 = ( ∀ (x : Int × Int × Unit), E true → bcase (!decide (x.1 = x.1)) (bcase (!decide (x.2.1 = x.2.1)) (((0 : Int), ()) = (cmpI x.1 x.2.1, ())) (((-1 : Int), ()) = (cmpI x.1 x.2.1, ()))) (bcase (!decide (x.2.1 = x.2.1)) (((1 :
  Int), ()) = (cmpI x.1 x.2.1, ())) (bcase (decide (x.1 < x.2.1)) (((-1 : Int), ()) = (cmpI x.1 x.2.1, ())) (bcase (decide (x.1 > x.2.1)) (((1 : Int), ()) = (cmpI x.1 x.2.1, ())) (((0 : Int), ()) = (cmpI x.1 x.2.1,
  ())))))) := by kernel_rfl
theorem v95_eq : vcFn g95 300 Tryd.f95 cOrC.T = ( ∀ (x : List Int × Unit), Wr (typedB (Ty.cons (Ty.sl I64) Ty.unit) x = true ∧ decide (List.length x.1 ≤ (1000 : Nat)) = true) → (Wr (OrI x.1 (0 : Int)) ∧ E ((0 : Int)) ∧ E x.1 ∧ E ((0 : Int)) ∧ E x.1 ∧ E ((↑(List.length
  x.1) : Int))) ∧ ∀ (x_1 : Int), Wr (OrI x.1 x_1) → bcase (decide (x_1 < (↑(List.length x.1) : Int))) (Wr ((0 : Int) ≤ x_1) ∧ Wr (x_1 < (↑(List.length x.1) : Int)) ∧ E true ∧ bcase (!decide (List.getD x.1 (Int.toNat x_1)
  (0 : Int) = (0 : Int))) ((List.getD x.1 (Int.toNat x_1) (0 : Int), ()) = (orF x.1, ())) (Wr (OrI x.1 (IntKind.wrap IntKind.i64 (x_1 + (1 : Int)))) ∧ Wr (List.length x.1 - Int.toNat (IntKind.wrap IntKind.i64 (x_1 + (1 :
  Int))) < List.length x.1 - Int.toNat x_1) ∧ E (IntKind.wrap IntKind.i64 (x_1 + (1 : Int))) ∧ E x.1 ∧ E ((0 : Int)) ∧ E x.1 ∧ E ((↑(List.length x.1) : Int)))) (((0 : Int), ()) = (orF x.1, ()))) := by kernel_rfl
theorem v97_eq : vcFn g97 300 Tryd.f97 cCmpL.T = ( ∀ (x : List Int × List Int × Unit), Wr (typedB (Ty.cons (Ty.sl U16) (Ty.cons (Ty.sl U16) Ty.unit)) x = true ∧ (decide (List.length x.1 ≤ (1000 : Nat)) && decide (List.length x.2.1 ≤ (1000 : Nat))) = true) → (Wr (LxI x.1
  x.2.1 (0 : Int)) ∧ E ((0 : Int)) ∧ E x.1 ∧ E x.2.1 ∧ E x.1 ∧ E ((↑(List.length x.1) : Int))) ∧ ∀ (x_1 : Int), Wr (LxI x.1 x.2.1 x_1) → bcase (decide (x_1 < (↑(List.length x.1) : Int))) (Wr ((0 : Int) ≤ x_1) ∧ Wr (x_1 <
  (↑(List.length x.1) : Int)) ∧ E true ∧ bcase (decide (x_1 ≥ (↑(List.length x.2.1) : Int))) (((1 : Int), ()) = (cmpL x.1 x.2.1, ())) (Wr ((0 : Int) ≤ x_1) ∧ Wr (x_1 < (↑(List.length x.2.1) : Int)) ∧ E true ∧ E true ∧
  bcase (!decide (cmpI (List.getD x.1 (Int.toNat x_1) (0 : Int)) (List.getD x.2.1 (Int.toNat x_1) (0 : Int)) = (0 : Int))) ((cmpI (List.getD x.1 (Int.toNat x_1) (0 : Int)) (List.getD x.2.1 (Int.toNat x_1) (0 : Int)), ())
  = (cmpL x.1 x.2.1, ())) (Wr (LxI x.1 x.2.1 (IntKind.wrap IntKind.i64 (x_1 + (1 : Int)))) ∧ Wr (List.length x.1 - Int.toNat (IntKind.wrap IntKind.i64 (x_1 + (1 : Int))) < List.length x.1 - Int.toNat x_1) ∧ E
  (IntKind.wrap IntKind.i64 (x_1 + (1 : Int))) ∧ E x.1 ∧ E x.2.1 ∧ E x.1 ∧ E ((↑(List.length x.1) : Int))))) (bcase (decide ((↑(List.length x.1) : Int) < (↑(List.length x.2.1) : Int))) (((-1 : Int), ()) = (cmpL x.1 x.2.1,
  ())) (((0 : Int), ()) = (cmpL x.1 x.2.1, ())))) := by kernel_rfl
theorem v71_eq : vcFn g71 300 Tryd.f71 cComp.T = ( ∀ (x : (Ad) × (Ad) × Unit), Wr (typedB (Ty.cons AdT (Ty.cons AdT Ty.unit)) x = true ∧ true = true) → E true ∧ Wr ((0 : Int) ≤ (0 : Int)) ∧ Wr ((0 : Int) ≤ (↑(8 : Nat) : Int)) ∧ Wr ((↑(8 : Nat) : Int) ≤ (↑(8 : Nat) :
  Int)) ∧ Wr ((0 : Int) ≤ (0 : Int)) ∧ Wr ((0 : Int) ≤ (↑(8 : Nat) : Int)) ∧ Wr ((↑(8 : Nat) : Int) ≤ (↑(8 : Nat) : Int)) ∧ Wr ((decide (List.length (List.drop (Int.toNat (0 : Int)) (List.take (Int.toNat (↑(8 : Nat) :
  Int)) (x.1.2.1.1 :: x.1.2.1.2.1 :: x.1.2.1.2.2.1 :: x.1.2.1.2.2.2.1 :: x.1.2.1.2.2.2.2.1 :: x.1.2.1.2.2.2.2.2.1 :: x.1.2.1.2.2.2.2.2.2.1 :: x.1.2.1.2.2.2.2.2.2.2.1 :: nilL Int))) ≤ (1000 : Nat)) && decide (List.length
  (List.drop (Int.toNat (0 : Int)) (List.take (Int.toNat (↑(8 : Nat) : Int)) (x.2.1.2.1.1 :: x.2.1.2.1.2.1 :: x.2.1.2.1.2.2.1 :: x.2.1.2.1.2.2.2.1 :: x.2.1.2.1.2.2.2.2.1 :: x.2.1.2.1.2.2.2.2.2.1 :: x.2.1.2.1.2.2.2.2.2.2.1
  :: x.2.1.2.1.2.2.2.2.2.2.2.1 :: nilL Int))) ≤ (1000 : Nat))) = true) ∧ E true ∧ Wr (decide (List.length (cmpI x.1.1 x.2.1.1 :: cmpL (List.drop (Int.toNat (0 : Int)) (List.take (Int.toNat (↑(8 : Nat) : Int)) (x.1.2.1.1
  :: x.1.2.1.2.1 :: x.1.2.1.2.2.1 :: x.1.2.1.2.2.2.1 :: x.1.2.1.2.2.2.2.1 :: x.1.2.1.2.2.2.2.2.1 :: x.1.2.1.2.2.2.2.2.2.1 :: x.1.2.1.2.2.2.2.2.2.2.1 :: nilL Int))) (List.drop (Int.toNat (0 : Int)) (List.take (Int.toNat
  (↑(8 : Nat) : Int)) (x.2.1.2.1.1 :: x.2.1.2.1.2.1 :: x.2.1.2.1.2.2.1 :: x.2.1.2.1.2.2.2.1 :: x.2.1.2.1.2.2.2.2.1 :: x.2.1.2.1.2.2.2.2.2.1 :: x.2.1.2.1.2.2.2.2.2.2.1 :: x.2.1.2.1.2.2.2.2.2.2.2.1 :: nilL Int))) :: cmpI
  x.1.2.2.1 x.2.1.2.2.1 :: nilL Int) ≤ (1000 : Nat)) = true) ∧ (orF (cmpI x.1.1 x.2.1.1 :: cmpL (List.drop (Int.toNat (0 : Int)) (List.take (Int.toNat (↑(8 : Nat) : Int)) (x.1.2.1.1 :: x.1.2.1.2.1 :: x.1.2.1.2.2.1 ::
  x.1.2.1.2.2.2.1 :: x.1.2.1.2.2.2.2.1 :: x.1.2.1.2.2.2.2.2.1 :: x.1.2.1.2.2.2.2.2.2.1 :: x.1.2.1.2.2.2.2.2.2.2.1 :: nilL Int))) (List.drop (Int.toNat (0 : Int)) (List.take (Int.toNat (↑(8 : Nat) : Int)) (x.2.1.2.1.1 ::
  x.2.1.2.1.2.1 :: x.2.1.2.1.2.2.1 :: x.2.1.2.1.2.2.2.1 :: x.2.1.2.1.2.2.2.2.1 :: x.2.1.2.1.2.2.2.2.2.1 :: x.2.1.2.1.2.2.2.2.2.2.1 :: x.2.1.2.1.2.2.2.2.2.2.2.1 :: nilL Int))) :: cmpI x.1.2.2.1 x.2.1.2.2.1 :: nilL Int),
  ()) = (cmpA x.1 x.2.1, ())) := by kernel_rfl
end Go.Proofs.YtkimpfoimblhjaaDoor.Ad
set_option linter.all false
namespace Go.Proofs.YtkimpfoimblhjaaDoor.Ad
open Go Go.Eng Go.Lb Go.Ad Lb Go.Proofs.St
set_option maxRecDepth 100000
theorem wrapS {n : Int} (h0 : -9000000000000000000 ≤ n) (h1 : n ≤ 9000000000000000000) : IntKind.wrap .i64 n = n := by
  simp [IntKind.wrap, IntKind.signed, IntKind.bits]; omega
theorem getD0 {l : List Int} {i : Nat} (h : i < l.length) : l.drop i = l.getD i 0 :: l.drop (i + 1) := by
  rw [List.drop_eq_getElem_cons h, List.getD_eq_getElem?_getD, List.getElem?_eq_getElem h]; rfl
theorem v96 : Vc g96 300 Tryd.f96 cCmp8 := by
  constructor
  rw [v96_eq]
  simp only [Wr_iff, E_iff, bcase_iff, true_and, and_true, decide_eq_true_eq, decide_eq_false_iff_not, Bool.and_eq_true, Bool.and_eq_false_iff, Bool.or_eq_true, Bool.or_eq_false_iff, Bool.not_eq_true', Bool.not_eq_false', Option.map_some, Option.getD_some, Option.isSome_some, Option.isSome_map, imp_self, nilL, noneO]
  rintro ⟨a, b, ⟨⟩⟩ -
  dsimp only
  unfold cmpI
  refine ⟨fun h => absurd trivial h, fun _ => ⟨fun h => absurd trivial h, fun _ => ⟨fun h => ?_, fun h => ⟨fun h2 => ?_, fun h2 => ?_⟩⟩⟩⟩
  · rw [decide_eq_true h]; rfl
  · rw [decide_eq_false h, decide_eq_true h2]; rfl
  · rw [decide_eq_false h, decide_eq_false h2]; rfl
theorem v118 : Vc g118 300 Tryd.f118 cCmp16 := by
  constructor
  rw [v118_eq]
  simp only [Wr_iff, E_iff, bcase_iff, true_and, and_true, decide_eq_true_eq, decide_eq_false_iff_not, Bool.and_eq_true, Bool.and_eq_false_iff, Bool.or_eq_true, Bool.or_eq_false_iff, Bool.not_eq_true', Bool.not_eq_false', Option.map_some, Option.getD_some, Option.isSome_some, Option.isSome_map, imp_self, nilL, noneO]
  rintro ⟨a, b, ⟨⟩⟩ -
  dsimp only
  unfold cmpI
  refine ⟨fun h => absurd trivial h, fun _ => ⟨fun h => absurd trivial h, fun _ => ⟨fun h => ?_, fun h => ⟨fun h2 => ?_, fun h2 => ?_⟩⟩⟩⟩
  · rw [decide_eq_true h]; rfl
  · rw [decide_eq_false h, decide_eq_true h2]; rfl
  · rw [decide_eq_false h, decide_eq_false h2]; rfl
theorem v98 : Vc g98 300 Tryd.f98 cCmp64 := by
  constructor
  rw [v98_eq]
  simp only [Wr_iff, E_iff, bcase_iff, true_and, and_true, decide_eq_true_eq, decide_eq_false_iff_not, Bool.and_eq_true, Bool.and_eq_false_iff, Bool.or_eq_true, Bool.or_eq_false_iff, Bool.not_eq_true', Bool.not_eq_false', Option.map_some, Option.getD_some, Option.isSome_some, Option.isSome_map, imp_self, nilL, noneO]
  rintro ⟨a, b, ⟨⟩⟩ -
  dsimp only
  unfold cmpI
  refine ⟨fun h => absurd trivial h, fun _ => ⟨fun h => absurd trivial h, fun _ => ⟨fun h => ?_, fun h => ⟨fun h2 => ?_, fun h2 => ?_⟩⟩⟩⟩
  · rw [decide_eq_true h]; rfl
  · rw [decide_eq_false h, decide_eq_true h2]; rfl
  · rw [decide_eq_false h, decide_eq_false h2]; rfl
theorem v95 : Vc g95 300 Tryd.f95 cOrC.T := by
  constructor
  rw [v95_eq]
  simp only [Wr_iff, E_iff, bcase_iff, true_and, and_true, decide_eq_true_eq, decide_eq_false_iff_not, Bool.and_eq_true, Bool.and_eq_false_iff, Bool.or_eq_true, Bool.or_eq_false_iff, Bool.not_eq_true', Bool.not_eq_false', Option.map_some, Option.getD_some, Option.isSome_some, Option.isSome_map, imp_self, nilL, noneO]
  rintro ⟨l, ⟨⟩⟩ ⟨-, hl⟩
  dsimp only at *
  refine ⟨⟨Int.le_refl _, by omega, rfl⟩, fun i hx => ⟨fun hi => ?_, fun hi => ?_⟩⟩
  · have h0 := hx.i0
    have hlt : i.toNat < l.length := by omega
    have e1 : IntKind.wrap .i64 (i + 1) = i + 1 := wrapS (by omega) (by omega)
    have e2 : (i + 1).toNat = i.toNat + 1 := by omega
    have he := hx.e
    rw [getD0 hlt] at he
    rw [e1]
    refine ⟨h0, hi, fun h => ?_, fun h => ⟨⟨by omega, by omega, ?_⟩, by omega⟩⟩
    · rw [← he, orF, decide_eq_false h]; rfl
    · rw [e2, ← he, orF, decide_eq_true h]; rfl
  · have he := hx.e
    have := hx.i0
    rw [List.drop_eq_nil_of_le (by omega)] at he
    rw [← he]; rfl
theorem v97 : Vc g97 300 Tryd.f97 cCmpL.T := by
  constructor
  rw [v97_eq]
  simp only [Wr_iff, E_iff, bcase_iff, true_and, and_true, decide_eq_true_eq, decide_eq_false_iff_not, Bool.and_eq_true, Bool.and_eq_false_iff, Bool.or_eq_true, Bool.or_eq_false_iff, Bool.not_eq_true', Bool.not_eq_false', Option.map_some, Option.getD_some, Option.isSome_some, Option.isSome_map, imp_self, nilL, noneO]
  rintro ⟨l, m, ⟨⟩⟩ ⟨-, hl, hm⟩
  dsimp only at *
  refine ⟨⟨Int.le_refl _, by omega, by omega, rfl⟩, fun i hx => ⟨fun hi => ?_, fun hi => ⟨fun hs => ?_, fun hs => ?_⟩⟩⟩
  · have h0 := hx.i0
    have hlt : i.toNat < l.length := by omega
    have e1 : IntKind.wrap .i64 (i + 1) = i + 1 := wrapS (by omega) (by omega)
    have e2 : (i + 1).toNat = i.toNat + 1 := by omega
    have he := hx.e
    have h2 := hx.i2
    rw [getD0 hlt] at he
    rw [e1]
    refine ⟨h0, hi, fun h => ?_, fun h => ?_⟩
    · rw [List.drop_eq_nil_of_le (show m.length ≤ i.toNat by omega)] at he
      rw [← he]; rfl
    · have hlm : i.toNat < m.length := by omega
      rw [getD0 hlm] at he
      refine ⟨h0, by omega, fun h => ?_, fun h => ⟨⟨by omega, by omega, by omega, ?_⟩, by omega⟩⟩
      · rw [← he, cmpL, decide_eq_false h]; rfl
      · rw [e2, ← he, cmpL, decide_eq_true h]; rfl
  · have he := hx.e
    have := hx.i0
    have h2 := hx.i2
    have h1 := hx.i1
    rw [List.drop_eq_nil_of_le (show l.length ≤ i.toNat by omega)] at he
    have hlm : i.toNat < m.length := by omega
    rw [getD0 hlm] at he
    rw [← he]; rfl
  · have he := hx.e
    have := hx.i0
    have h2 := hx.i2
    have h1 := hx.i1
    rw [List.drop_eq_nil_of_le (show l.length ≤ i.toNat by omega), List.drop_eq_nil_of_le (show m.length ≤ i.toNat by omega)] at he
    rw [← he]; rfl
theorem v71 : Vc g71 300 Tryd.f71 cComp.T := by
  constructor
  rw [v71_eq]
  simp only [Wr_iff, E_iff, bcase_iff, true_and, and_true, decide_eq_true_eq, decide_eq_false_iff_not, Bool.and_eq_true, Bool.and_eq_false_iff, Bool.or_eq_true, Bool.or_eq_false_iff, Bool.not_eq_true', Bool.not_eq_false', Option.map_some, Option.getD_some, Option.isSome_some, Option.isSome_map, imp_self, nilL, noneO]
  rintro ⟨⟨f, ⟨a1, a2, a3, a4, a5, a6, a7, a8, ⟨⟩⟩, p, ⟨⟩⟩, ⟨f', ⟨b1, b2, b3, b4, b5, b6, b7, b8, ⟨⟩⟩, p', ⟨⟩⟩, ⟨⟩⟩ -
  dsimp only
  exact ⟨by decide, by decide, by decide, by decide, by decide, by decide, ⟨by show 8 ≤ 1000; decide, by show 8 ≤ 1000; decide⟩, by show 3 ≤ 1000; decide, rfl⟩
end Go.Proofs.YtkimpfoimblhjaaDoor.Ad
namespace Go.Proofs.YtkimpfoimblhjaaDoor.Ad
open Go Go.Eng Go.Lb Go.Ad Lb Go.Proofs.St
set_option maxRecDepth 100000
theorem val96 : Valid Tryd.prog (fun _ => True) 96 cCmp8 := mkValid (fun _ _ _ _ => trivial) Tb.mix Tb.tab_ok Tb.eqs_ok g96 rfl allV_nil (allI_cons Tryd.func117 (by kernel_rfl) allI_nil) Tryd.func96 (by kernel_rfl) v96
theorem val118 : Valid Tryd.prog (fun _ => True) 118 cCmp16 := mkValid (fun _ _ _ _ => trivial) Tb.mix Tb.tab_ok Tb.eqs_ok g118 rfl allV_nil (allI_cons Tryd.func135 (by kernel_rfl) allI_nil) Tryd.func118 (by kernel_rfl) v118
theorem val98 : Valid Tryd.prog (fun _ => True) 98 cCmp64 := mkValid (fun _ _ _ _ => trivial) Tb.mix Tb.tab_ok Tb.eqs_ok g98 rfl allV_nil (allI_cons Tryd.func119 (by kernel_rfl) allI_nil) Tryd.func98 (by kernel_rfl) v98
theorem val95 : Valid Tryd.prog (fun _ => True) 95 cOrC := Valid.T (mkValid (fun _ _ _ _ => trivial) Tb.mix Tb.tab_ok Tb.eqs_ok g95 rfl allV_nil allI_nil Tryd.func95 (by kernel_rfl) v95)
theorem val97 : Valid Tryd.prog (fun _ => True) 97 cCmpL := Valid.T (mkValid (fun _ _ _ _ => trivial) Tb.mix Tb.tab_ok Tb.eqs_ok g97 rfl (allV_cons val118 allV_nil) allI_nil Tryd.func97 (by kernel_rfl) v97)
theorem val71 : Valid Tryd.prog (fun _ => True) 71 cComp := Valid.T (mkValid (fun _ _ _ _ => trivial) Tb.mix Tb.tab_ok Tb.eqs_ok g71 rfl (allV_cons val95 (allV_cons val96 (allV_cons val97 (allV_cons val98 allV_nil)))) allI_nil Tryd.func71 (by kernel_rfl) v71)
end Go.Proofs.YtkimpfoimblhjaaDoor.Ad
namespace Go.Proofs.YtkimpfoimblhjaaDoor.Ad
open Go Go.Eng Go.Lb Go.Ad Lb Go.Proofs.St
set_option maxRecDepth 100000
noncomputable def g149 : Cfg := { tab := Tb.tab, cons := [(71, cComp)], mcons := [], inls := [], loops := [(1500001, swA)], cuts := [], unroll := false, arrs := [], keys := [] }
noncomputable def g136 : Cfg := { tab := Tb.tab, cons := [(71, cComp)], mcons := [(149, cSwr)], inls := [], loops := [(1370002, roA)], cuts := [], unroll := false, arrs := [], keys := [] }
noncomputable def g120 : Cfg := { tab := Tb.tab, cons := [(71, cComp)], mcons := [], inls := [], loops := [(1210001, ioA), (1210004, iiA)], cuts := [], unroll := false, arrs := [], keys := [] }
noncomputable def g121 (k : Nat) : Cfg := { tab := Tb.tab, cons := [(71, cComp)], mcons := [(136, cRotM), (121, cSym k)], inls := [], loops := [(1220003, s1A), (1220009, u1A), (1220015, s2A), (1220021, u2A), (1220033, s3A)], cuts := [(1220032, cutA)], unroll := false, arrs := [], keys := [] }
noncomputable def g99 : Cfg := { tab := Tb.tab, cons := [(71, cComp)], mcons := [(120, cInsM), (121, cSym 100)], inls := [], loops := [(1000002, t1A), (1000007, t2A), (1000009, t3A)], cuts := [], unroll := false, arrs := [], keys := [] }
noncomputable def g73 : Cfg := { tab := Tb.tab, cons := [(71, cComp)], mcons := [(99, cSta)], inls := [], loops := [], cuts := [], unroll := false, arrs := [], keys := [] }
end Go.Proofs.YtkimpfoimblhjaaDoor.Ad

/-
  A text of mine, of several parts: AdP7, AdV, StPlain, StMerge, StDef, SaCfg, SaVc, SaP, SaV, SrCfg, SrVc, SrQ, SrP, StP, StV, AmDef, AmV, SoDef4, SbCfg, SbVc, SbP, SbV.
-/
import Derived.Test.YtkimpfoimblhjaaDoorAta
import Derived.Test.YtkimpfoimblhjaaDoorAtb
import Derived.Test.YtkimpfoimblhjaaDoorAtc
import Derived.Test.YtkimpfoimblhjaaDoorAtd
import Derived.Test.YtkimpfoimblhjaaDoorAte
set_option linter.all false
set_option linter.all false
namespace Go.Proofs.YtkimpfoimblhjaaDoor.Ad
open Go Go.Eng Go.Lb Go.Ad Lb
set_option maxRecDepth 100000
set_option maxHeartbeats 4000000
def digs : ByteArray := ByteArray.mk (List.toArray ((48 : UInt8) :: (49 : UInt8) :: (50 : UInt8) :: (51 : UInt8) :: (52 : UInt8) :: (53 : UInt8) :: (54 : UInt8) :: (55 : UInt8) :: (56 : UInt8) :: (57 : UInt8) :: (97 : UInt8) :: (98 : UInt8) :: (99 : UInt8) :: (100 : UInt8) :: (101 : UInt8) :: (102 : UInt8) :: (103 : UInt8) :: (104 : UInt8) :: (105 : UInt8) :: (106 : UInt8) :: (107 : UInt8) :: (108 : UInt8) :: (109 : UInt8) :: (110 : UInt8) :: (111 : UInt8) :: (112 : UInt8) :: (113 : UInt8) :: (114 : UInt8) :: (115 : UInt8) :: (116 : UInt8) :: (117 : UInt8) :: (118 : UInt8) :: (119 : UInt8) :: (120 : UInt8) :: (121 : UInt8) :: (122 : UInt8) :: nilL UInt8))
theorem digs_size : digs.size = 36 := rfl
theorem digs_all : ((List.range 16).all fun k => decide (byteAt digs k = ((hexD k).toNat : Int))) = true := by decide +kernel
theorem digs_at {k : Nat} (h : k < 16) : byteAt digs k = ((hexD k).toNat : Int) := by
  have := List.all_eq_true.1 digs_all k (List.mem_range.2 h)
  exact of_decide_eq_true this
theorem digs_I {u : Int} (h0 : 0 ≤ u) (h : u < 16) : byteAt digs u.toNat = ((hexD u.toNat).toNat : Int) := digs_at (by omega)
theorem and15 {u : Int} (h0 : 0 ≤ u) (h : u < 65536) : andI .u64 u (IntKind.wrap .u64 (IntKind.wrap .u64 16 - 1)) = u % 16 := by
  obtain ⟨a, rfl⟩ : ∃ a : Nat, u = a := ⟨u.toNat, by omega⟩
  have e : IntKind.wrap .u64 (IntKind.wrap .u64 16 - 1) = 15 := by decide
  have e1 : (BitVec.ofInt (IntKind.bits .u64) (a : Int)).toNat = a := by
    rw [BitVec.toNat_ofInt]
    show ((a : Int) % 18446744073709551616).toNat = a
    omega
  have e2 : (BitVec.ofInt (IntKind.bits .u64) 15).toNat = 15 := rfl
  have e3 : a &&& 15 = a % 16 := Nat.and_two_pow_sub_one_eq_mod (n := 4) a
  rw [e]
  unfold andI
  rw [BitVec.toNat_and, e1, e2, e3]
  have : IntKind.wrap .u64 ((a % 16 : Nat) : Int) = ((a % 16 : Nat) : Int) := by
    simp [IntKind.wrap, IntKind.signed, IntKind.bits]; omega
  rw [this]
  omega
theorem wu64 {n : Int} (h0 : 0 ≤ n) (h1 : n < 65536) : IntKind.wrap .u64 n = n := by
  simp [IntKind.wrap, IntKind.signed, IntKind.bits]; omega
theorem ctz16 : IntKind.wrap .u64 (ctzZ (IntKind.wrap .u64 16)) = 4 := by decide +kernel
theorem shr4 {u : Int} (h0 : 0 ≤ u) : Int.fdiv u (2 ^ min (Int.toNat (IntKind.wrap .u64 (ctzZ (IntKind.wrap .u64 16)))) (IntKind.bits .u64)) = u / 16 := by
  rw [ctz16]
  have e : (2 : Int) ^ min (Int.toNat 4) (IntKind.bits .u64) = 16 := rfl
  rw [e, Int.fdiv_eq_ediv_of_nonneg _ (by omega)]
theorem byteL_set {xs : List Int} {i : Int} {b : UInt8} (i0 : 1 ≤ i) (i1 : i ≤ xs.length) : byteL (xs.set (i - 1).toNat (b.toNat : Int)) (i - 1) = b :: byteL xs i := by
  unfold byteL
  have e : i.toNat = (i - 1).toNat + 1 := by omega
  rw [List.drop_eq_getElem_cons (by rw [List.length_set]; omega), List.getElem_set_self, List.drop_set_of_lt (by omega), List.map_cons, e, Int.toNat_natCast, UInt8.ofNat_toNat]
theorem hexF_big {k : Nat} {u : Nat} (h : 16 ≤ u) : hexF (k + 1) u = hexF k (u / 16) ++ [hexD (u % 16)] := by
  rw [hexF, show decide (u < 16) = false from decide_eq_false (by omega), cond_false]
theorem hexF_small {k : Nat} {u : Nat} (h : u < 16) : hexF (k + 1) u = [hexD u] := by
  rw [hexF, show decide (u < 16) = true from decide_eq_true h, cond_true]
theorem bits_zero {u : Int} (h0 : 0 ≤ u) (h1 : u < 65536) : BitsI u u 65 (List.replicate 65 0) := by
  refine ⟨h0, by omega, by omega, List.length_replicate .., h1, ?_⟩
  show hexF 4 u.toNat ++ [] = _
  rw [List.append_nil]
theorem bits_lo {u0 u i : Int} {xs : List Int} (h : BitsI u0 u i xs) (hu : u ≥ 16) : 63 ≤ i := by
  have i0 := h.i0
  have u1 := h.u1
  rcases Int.lt_or_le i 63 with c | c
  · have e : i = 62 := by omega
    rw [e] at u1
    have : (16 : Int) ^ (62 - 61 : Int).toNat = 16 := rfl
    omega
  · exact c
theorem bits_lt {u0 u i : Int} {xs : List Int} (h : BitsI u0 u i xs) : u < 65536 := by
  have i0 := h.i0
  have i1 := h.i1
  have u1 := h.u1
  have : ∀ q : Fin 5, (16 : Int) ^ q.val ≤ 65536 := by decide
  have := this ⟨(i - 61).toNat, by omega⟩
  simp only at this
  omega
theorem bits_on {u0 u i : Int} {xs : List Int} (h : BitsI u0 u i xs) (hu : u ≥ 16) : BitsI u0 (u / 16) (i - 1) (xs.set (i - 1).toNat ((hexD (u % 16).toNat).toNat : Int)) := by
  have i0 := bits_lo h hu
  obtain ⟨v0, _, i1, l, u1, a⟩ := h
  obtain ⟨k, hk⟩ : ∃ k, (i - 61).toNat = k + 1 := ⟨(i - 62).toNat, by omega⟩
  have hk' : (i - 1 - 61).toNat = k := by omega
  rw [hk] at u1 a
  refine ⟨by omega, by omega, by omega, by rw [List.length_set]; exact l, ?_, ?_⟩
  · rw [hk']
    rw [Int.pow_succ] at u1
    omega
  · rw [hk', byteL_set (by omega) (by omega), ← a, hexF_big (by omega), List.append_assoc]
    have e1 : (u / 16).toNat = u.toNat / 16 := by omega
    have e2 : (u % 16).toNat = u.toNat % 16 := by omega
    rw [e1, e2]
    rfl
theorem bits_fin {u0 u i : Int} {xs : List Int} (h : BitsI u0 u i xs) (hu : ¬ u ≥ 16) : byteL (xs.set (i - 1).toNat ((hexD u.toNat).toNat : Int)) (i - 1) = hexF 4 u0.toNat := by
  obtain ⟨v0, i0, i1, l, u1, a⟩ := h
  obtain ⟨k, hk⟩ : ∃ k, (i - 61).toNat = k + 1 := ⟨(i - 62).toNat, by omega⟩
  rw [hk, hexF_small (by omega)] at a
  rw [byteL_set (by omega) (by omega), ← a]
  rfl
theorem str_byteL (xs : List Int) (i : Int) (h : xs.length = 65) : strI (List.drop i.toNat (List.take (Int.toNat ((65 : Nat) : Int)) xs)) = ofL (byteL xs i) := by
  rw [List.take_of_length_le (by show xs.length ≤ 65; omega)]
  rfl
theorem v54 : Vc g54 300 Tryd.f54 cHexes.T := by
  constructor
  rw [v54_eq]
  rw [show (ByteArray.mk (List.toArray ((48 : UInt8) :: (49 : UInt8) :: (50 : UInt8) :: (51 : UInt8) :: (52 : UInt8) :: (53 : UInt8) :: (54 : UInt8) :: (55 : UInt8) :: (56 : UInt8) :: (57 : UInt8) :: (97 : UInt8) :: (98 : UInt8) :: (99 : UInt8) :: (100 : UInt8) :: (101 : UInt8) :: (102 : UInt8) :: (103 : UInt8) :: (104 : UInt8) :: (105 : UInt8) :: (106 : UInt8) :: (107 : UInt8) :: (108 : UInt8) :: (109 : UInt8) :: (110 : UInt8) :: (111 : UInt8) :: (112 : UInt8) :: (113 : UInt8) :: (114 : UInt8) :: (115 : UInt8) :: (116 : UInt8) :: (117 : UInt8) :: (118 : UInt8) :: (119 : UInt8) :: (120 : UInt8) :: (121 : UInt8) :: (122 : UInt8) :: nilL UInt8)) : ByteArray) = digs from rfl]
  intro x hx
  have hl : x.1.length ≤ 8 := of_decide_eq_true hx.out.2
  have hr : ∀ n ∈ x.1, inR n := by
    have h1 : (decide (x.1.length ≤ maxLen) && x.1.all (typedB U16) && true) = true := hx.out.1
    rw [Bool.and_true, Bool.and_eq_true] at h1
    intro n hn
    have h2 := List.all_eq_true.1 h1.2 n hn
    exact typU16 (of_decide_eq_true h2)
  clear hx
  generalize x.fst = l at *
  have mx : maxLen = 9223372036854775807 := rfl
  have e65 : ((65 : Nat) : Int) = 65 := rfl
  refine ⟨⟨⟨MapI.zero _ _⟩, by repeat' (first | exact ⟨rfl⟩ | apply And.intro)⟩, fun y hy => (bcase_iff _ _ _).2 ⟨fun h => ?_, fun h => ?_⟩⟩
  · have hy := hy.out
    have hlt : y.2 < l.length := of_decide_eq_true h
    have hy0 := hy.i0
    refine ⟨⟨hy0⟩, ⟨hlt⟩, ?_⟩
    have hn : inR (l.getD y.2.toNat 0) := hr _ (getD_mem hy0 hlt)
    have hon := hy.on (z := 0) (by omega) hlt
    generalize l.getD y.2.toNat 0 = n at hn hon ⊢
    obtain ⟨n0, n1⟩ := hn
    have w1 : IntKind.wrap .i64 n = n := w64 n0 (by omega)
    have w2 : IntKind.wrap .u64 n = n := wu64 n0 n1
    rw [w1, w2]
    refine ⟨⟨rfl⟩, (bcase_iff _ _ _).2 ⟨fun hneg => absurd (of_decide_eq_true hneg) (by omega), fun hneg => ?_⟩⟩
    refine ⟨⟨by decide⟩, ⟨⟨bits_zero n0 n1⟩, by repeat' (first | exact ⟨rfl⟩ | exact ⟨by decide⟩ | apply And.intro)⟩, fun z hz => ?_⟩
    have hz := hz.out
    have v0 := hz.v0
    have vt := bits_lt hz
    have q0 := hz.i0
    have q1 := hz.i1
    have ql := hz.l
    have wz : IntKind.wrap .i64 (z.2.1 - 1) = z.2.1 - 1 := w64 (by omega) (by omega)
    rw [and15 v0 vt, shr4 v0, wz, digs_I (u := z.1 % 16) (by omega) (by omega), digs_size, ctz16]
    refine (bcase_iff _ _ _).2 ⟨fun hb => ?_, fun hb => ?_⟩
    · have hb : z.1 ≥ 16 := of_decide_eq_true hb
      have i63 := bits_lo hz hb
      refine ⟨⟨by omega⟩, ⟨by omega⟩, ⟨ql⟩, ⟨by omega⟩, ⟨by omega⟩, ⟨by omega⟩, ⟨bits_on hz hb⟩, ⟨by omega⟩, by repeat' (first | exact ⟨rfl⟩ | exact ⟨by rw [List.length_set]; omega⟩ | apply And.intro)⟩
    · have hb : ¬ z.1 ≥ 16 := of_decide_eq_false hb
      have hf := bits_fin hz hb
      rw [digs_I v0 (by omega)]
      refine ⟨⟨v0⟩, ⟨by omega⟩, ⟨ql⟩, ⟨by omega⟩, ⟨by omega⟩, ?_⟩
      refine (bcase_iff _ _ _).2 ⟨fun hneg => absurd (of_decide_eq_true hneg) (by omega), fun hneg => ?_⟩
      rw [str_byteL _ _ (by rw [List.length_set]; exact ql), hf]
      have hle : y.1.length ≤ 8 := by rw [hy.a, List.length_map, List.length_take]; omega
      have e1 : ∀ b : ByteArray, (b :: nilL ByteArray).length = 1 := fun _ => rfl
      refine ⟨⟨by omega⟩, ⟨by omega⟩, ⟨by omega⟩, ⟨by rw [List.length_set]; exact ql⟩, ⟨by rw [List.length_drop, List.length_take, List.length_set, mx]; omega⟩, ⟨by rw [e1]; omega⟩, ⟨hon.1⟩, ⟨hon.2⟩, by repeat' (first | exact ⟨rfl⟩ | apply And.intro)⟩
  · have hf := hy.out.fin (of_decide_eq_false h)
    have e58 : (ByteArray.mk (List.toArray ((58 : UInt8) :: nilL UInt8)) : ByteArray) = ofL [58] := rfl
    have ej : joinL y.1 (ofL [58]) = hexesL l := by
      unfold joinL hexesL
      rw [hf, bytesL_ofL, List.map_map]
      congr 1
    have hh := hexesL_len hl
    rw [e58]
    refine ⟨⟨?_⟩, ?_⟩
    · rw [ej, Bool.and_eq_true, decide_eq_true_eq, decide_eq_true_eq, hf, List.length_map]
      omega
    · unfold joinS
      rw [ej]
      rfl
end Go.Proofs.YtkimpfoimblhjaaDoor.Ad
namespace Go.Proofs.YtkimpfoimblhjaaDoor.Ad
open Go Go.Eng Go.Lb Go.Ad Lb
set_option maxRecDepth 100000
theorem val15 : Valid Tryd.prog GA 15 cMay := mkValid gas Tb.mix Tb.tab_ok Tb.eqs_ok g15 rfl allV_nil allI_nil Tryd.func15 (by kernel_rfl) v15
theorem val53 : Valid Tryd.prog GA 53 cLong := mkValid gas Tb.mix Tb.tab_ok Tb.eqs_ok g53 rfl allV_nil allI_nil Tryd.func53 (by kernel_rfl) v53
theorem val54 : Valid Tryd.prog GA 54 cHexes := Valid.T (mkValid gas Tb.mix Tb.tab_ok Tb.eqs_ok g54 rfl (allV_cons valJoin (allV_cons valTZ allV_nil)) (allI_cons Tryd.func82 (by kernel_rfl) (allI_cons Tryd.func102 (by kernel_rfl) (allI_cons Tryd.func126 (by kernel_rfl) (allI_cons Tryd.func140 (by kernel_rfl) allI_nil)))) Tryd.func54 (by kernel_rfl) v54)
theorem val17 : Valid Tryd.prog GA 17 cText := Valid.T (mkValid gas Tb.mix Tb.tab_ok Tb.eqs_ok g17 rfl (allV_cons val15 (allV_cons valItoa (allV_cons valJoin (allV_cons val53 (allV_cons val54 allV_nil))))) allI_nil Tryd.func17 (by kernel_rfl) v17)
theorem val56 : Valid Tryd.prog GA 56 cNum := mkValid gas Tb.mix Tb.tab_ok Tb.eqs_ok g56 rfl allV_nil allI_nil Tryd.func56 (by kernel_rfl) v56
theorem val105 : Valid Tryd.prog GA 105 cGrp := mkValid gas Tb.mix Tb.tab_ok Tb.eqs_ok g105 rfl allV_nil allI_nil Tryd.func105 (by kernel_rfl) v105
theorem val85 : Valid Tryd.prog GA 85 cSide := mkValid gas Tb.mix Tb.tab_ok Tb.eqs_ok g85 rfl (allV_cons valSplitS (allV_cons val105 allV_nil)) allI_nil Tryd.func85 (by kernel_rfl) v85
theorem val57 : Valid Tryd.prog GA 57 cFour := mkValid gas Tb.mix Tb.tab_ok Tb.eqs_ok g57 rfl (allV_cons val56 (allV_cons valSplitS allV_nil)) allI_nil Tryd.func57 (by kernel_rfl) v57
theorem val58 : Valid Tryd.prog GA 58 cSix := mkValid gas Tb.mix Tb.tab_ok Tb.eqs_ok g58 rfl (allV_cons valCut (allV_cons val85 allV_nil)) allI_nil Tryd.func58 (by kernel_rfl) v58
theorem val18 : Valid Tryd.prog GA 18 cParse := mkValid gas Tb.mix Tb.tab_ok Tb.eqs_ok g18 rfl (allV_cons valLast (allV_cons val56 (allV_cons val57 (allV_cons val58 allV_nil)))) allI_nil Tryd.func18 (by kernel_rfl) v18
theorem val19 : Valid Tryd.prog GA 19 cGreat := mkValid gas Tb.mix Tb.tab_ok Tb.eqs_ok g19 rfl allV_nil allI_nil Tryd.func19 (by kernel_rfl) v19
theorem val20 : Valid Tryd.prog GA 20 cOf := mkValid gas Tb.mix Tb.tab_ok Tb.eqs_ok g20 rfl allV_nil allI_nil Tryd.func20 (by kernel_rfl) v20
theorem val25 : Valid Tryd.prog GA 25 cSameA := mkValid gas Tb.mix Tb.tab_ok Tb.eqs_ok g25 rfl allV_nil allI_nil Tryd.func25 (by kernel_rfl) v25
end Go.Proofs.YtkimpfoimblhjaaDoor.Ad
set_option linter.all false
namespace Go.Proofs.St
variable {α : Type}
structure Ord (lt : α → α → Bool) : Prop where
  irr : ∀ a, lt a a = false
  tr : ∀ a b c, lt a b = true → lt b c = true → lt a c = true
  tri : ∀ a b, lt a b = false → lt b a = false → a = b
variable {lt : α → α → Bool}
theorem Ord.le (h : Ord lt) {a b c : α} (h1 : lt b a = false) (h2 : lt c b = false) : lt c a = false := by
  cases h3 : lt c a with
  | false => rfl
  | true =>
    cases h4 : lt a b with
    | true => rw [h.tr _ _ _ h3 h4] at h2; cases h2
    | false => rw [h.tri _ _ h4 h1] at h3; rw [h3] at h2; cases h2
theorem Ord.asym (h : Ord lt) {a b : α} (h1 : lt a b = true) : lt b a = false := by
  cases h2 : lt b a with
  | false => rfl
  | true => have := h.tr _ _ _ h1 h2; rw [h.irr] at this; cases this
def ins (lt : α → α → Bool) (x : α) : List α → List α
  | [] => [x]
  | y :: r => bif lt x y then x :: y :: r else y :: ins lt x r
def srt (lt : α → α → Bool) (l : List α) : List α := l.foldl (fun o x => ins lt x o) []
abbrev Up (lt : α → α → Bool) (l : List α) : Prop := l.Pairwise fun a b => lt b a = false
theorem ins_perm (x : α) : ∀ l : List α, (ins lt x l).Perm (x :: l)
  | [] => .refl _
  | y :: r => by
    unfold ins
    cases lt x y with
    | true => exact .refl _
    | false => exact ((ins_perm x r).cons y).trans (.swap _ _ _)
theorem ins_up (h : Ord lt) (x : α) : ∀ {l : List α}, Up lt l → Up lt (ins lt x l)
  | [], _ => List.pairwise_singleton _ _
  | y :: r, hl => by
    obtain ⟨h1, h2⟩ := List.pairwise_cons.1 hl
    unfold ins
    cases hx : lt x y with
    | true =>
      refine List.pairwise_cons.2 ⟨fun a ha => ?_, hl⟩
      rcases List.mem_cons.1 ha with rfl | ha
      · exact h.asym hx
      · exact h.le (h.asym hx) (h1 a ha)
    | false =>
      refine List.pairwise_cons.2 ⟨fun a ha => ?_, ins_up h x h2⟩
      rcases List.mem_cons.1 ((ins_perm x r).mem_iff.1 ha) with rfl | ha
      · exact hx
      · exact h1 a ha
theorem fold_perm : ∀ (l o : List α), (l.foldl (fun o x => ins lt x o) o).Perm (l ++ o)
  | [], o => .refl _
  | x :: r, o => (fold_perm r (ins lt x o)).trans (((List.Perm.append_left r (ins_perm x o))).trans List.perm_middle)
theorem fold_up (h : Ord lt) : ∀ (l : List α) {o : List α}, Up lt o → Up lt (l.foldl (fun o x => ins lt x o) o)
  | [], o, ho => ho
  | x :: r, o, ho => fold_up h r (ins_up h x ho)
theorem srt_perm (l : List α) : (srt lt l).Perm l := by
  have := fold_perm (lt := lt) l []
  rwa [List.append_nil] at this
theorem srt_up (h : Ord lt) (l : List α) : Up lt (srt lt l) := fold_up h l List.Pairwise.nil
theorem up_unique (h : Ord lt) : ∀ {l r : List α}, l.Perm r → Up lt l → Up lt r → l = r
  | [], r, hp, _, _ => (List.nil_perm.1 hp).symm ▸ rfl
  | a :: l, [], hp, _, _ => by cases List.perm_nil.1 hp
  | a :: l, b :: r, hp, hl, hr => by
    obtain ⟨a1, a2⟩ := List.pairwise_cons.1 hl
    obtain ⟨b1, b2⟩ := List.pairwise_cons.1 hr
    have e : a = b := by
      rcases List.mem_cons.1 (hp.mem_iff.1 (List.mem_cons_self (a := a) (l := l))) with e | hm
      · exact e
      · rcases List.mem_cons.1 (hp.mem_iff.2 (List.mem_cons_self (a := b) (l := r))) with e | hm'
        · exact e.symm
        · exact h.tri _ _ (b1 a hm) (a1 b hm')
    subst e
    rw [up_unique h (List.Perm.cons_inv hp) a2 b2]
section
variable {z : α}
theorem getD_lt {l : List α} {k : Nat} (h : k < l.length) : l.getD k z = l[k] := by
  rw [List.getD_eq_getElem?_getD, List.getElem?_eq_getElem h]; rfl
theorem extD {r s : List α} (h : r.length = s.length) (h2 : ∀ k, k < r.length → r.getD k z = s.getD k z) : r = s := by
  apply List.ext_getElem h
  intro k h3 h4
  have := h2 k h3
  rwa [getD_lt h3, getD_lt h4] at this
def UpOn (lt : α → α → Bool) (z : α) (a b : Nat) (r : List α) : Prop := ∀ p q, a ≤ p → p < q → q < b → lt (r.getD q z) (r.getD p z) = false
structure PSeg (z : α) (a b : Nat) (xs r : List α) : Prop where
  p : r.Perm xs
  e : ∀ k, (k < a ∨ b ≤ k) → r.getD k z = xs.getD k z
theorem PSeg.refl (a b : Nat) (xs : List α) : PSeg z a b xs xs := ⟨.refl _, fun _ _ => rfl⟩
theorem PSeg.trans {a b : Nat} {xs r s : List α} (h : PSeg z a b xs r) (k : PSeg z a b r s) : PSeg z a b xs s := ⟨k.p.trans h.p, fun i hi => (k.e i hi).trans (h.e i hi)⟩
theorem PSeg.mono {a b a' b' : Nat} {xs r : List α} (h : PSeg z a b xs r) (ha : a' ≤ a) (hb : b ≤ b') : PSeg z a' b' xs r := ⟨h.p, fun i hi => h.e i (by omega)⟩
theorem PSeg.len {a b : Nat} {xs r : List α} (h : PSeg z a b xs r) : r.length = xs.length := h.p.length_eq
def seg (a b : Nat) (xs : List α) : List α := (xs.drop a).take (b - a)
theorem cut3 {a b : Nat} (h : a ≤ b) (xs : List α) : xs.take a ++ (seg a b xs ++ xs.drop b) = xs := by
  unfold seg
  have h1 : xs.drop b = (xs.drop a).drop (b - a) := by rw [List.drop_drop]; congr 1; omega
  rw [h1, List.take_append_drop, List.take_append_drop]
theorem seg_len {a b : Nat} {xs : List α} (h : a ≤ b) (hb : b ≤ xs.length) : (seg a b xs).length = b - a := by
  unfold seg; rw [List.length_take, List.length_drop]; omega
theorem seg_get {a b k : Nat} {xs : List α} (h : k < b - a) : (seg a b xs).getD k z = xs.getD (a + k) z := by
  unfold seg
  rw [List.getD_eq_getElem?_getD, List.getD_eq_getElem?_getD, List.getElem?_take, if_pos h, List.getElem?_drop]
theorem take_eq {a : Nat} {xs r : List α} (hl : r.length = xs.length) (h : ∀ k, k < a → r.getD k z = xs.getD k z) : r.take a = xs.take a := by
  apply extD (z := z)
  · rw [List.length_take, List.length_take, hl]
  · intro k hk
    rw [List.length_take] at hk
    rw [List.getD_eq_getElem?_getD, List.getD_eq_getElem?_getD, List.getElem?_take, List.getElem?_take, if_pos (by omega), if_pos (by omega), ← List.getD_eq_getElem?_getD, ← List.getD_eq_getElem?_getD]
    exact h k (by omega)
theorem drop_eq {b : Nat} {xs r : List α} (hl : r.length = xs.length) (h : ∀ k, b ≤ k → r.getD k z = xs.getD k z) : r.drop b = xs.drop b := by
  apply extD (z := z)
  · rw [List.length_drop, List.length_drop, hl]
  · intro k hk
    rw [List.getD_eq_getElem?_getD, List.getD_eq_getElem?_getD, List.getElem?_drop, List.getElem?_drop, ← List.getD_eq_getElem?_getD, ← List.getD_eq_getElem?_getD]
    exact h _ (by omega)
theorem PSeg.seg {a b : Nat} {xs r : List α} (h : PSeg z a b xs r) (hab : a ≤ b) : (seg a b r).Perm (seg a b xs) := by
  have h1 := cut3 hab r
  have h2 := cut3 hab xs
  have hp := h.p
  rw [← h1, ← h2, take_eq h.len (fun k hk => h.e k (.inl hk)), drop_eq h.len (fun k hk => h.e k (.inr hk))] at hp
  exact (List.perm_append_right_iff _).1 ((List.perm_append_left_iff _).1 hp)
def segS (lt : α → α → Bool) (a b : Nat) (xs : List α) : List α := xs.take a ++ (srt lt (seg a b xs) ++ xs.drop b)
theorem up_of {a b : Nat} {r : List α} (hab : a ≤ b) (hb : b ≤ r.length) (h : UpOn lt z a b r) : Up lt (seg a b r) := by
  unfold Up
  rw [List.pairwise_iff_getElem]
  intro i j hi hj hij
  rw [seg_len hab hb] at hi hj
  have h1 := seg_get (z := z) (xs := r) hi
  have h2 := seg_get (z := z) (xs := r) hj
  rw [getD_lt (by rw [seg_len hab hb]; exact hi)] at h1
  rw [getD_lt (by rw [seg_len hab hb]; exact hj)] at h2
  rw [h1, h2]
  exact h _ _ (by omega) (by omega) (by omega)
theorem seg_unique (ho : Ord lt) {a b : Nat} {xs r : List α} (hab : a ≤ b) (hb : b ≤ xs.length) (h : PSeg z a b xs r) (hu : UpOn lt z a b r) : r = segS lt a b xs := by
  have hl := h.len
  rw [← cut3 hab r, take_eq hl (fun k hk => h.e k (.inl hk)), drop_eq hl (fun k hk => h.e k (.inr hk))]
  unfold segS
  rw [up_unique ho ((h.seg hab).trans (srt_perm (lt := lt) _).symm) (up_of hab (by omega) hu) (srt_up ho _)]
theorem segS_len {a b : Nat} {xs : List α} (hab : a ≤ b) (hb : b ≤ xs.length) : (segS lt a b xs).length = xs.length := by
  unfold segS
  rw [List.length_append, List.length_append, (srt_perm (lt := lt) _).length_eq, seg_len hab hb, List.length_take, List.length_drop]; omega
theorem segS_mid {a b : Nat} {xs : List α} (hab : a ≤ b) (hb : b ≤ xs.length) {k : Nat} (h1 : a ≤ k) (h2 : k < b) : (segS lt a b xs).getD k z = (srt lt (seg a b xs)).getD (k - a) z := by
  unfold segS
  have hs : (srt lt (seg a b xs)).length = b - a := by rw [(srt_perm (lt := lt) _).length_eq, seg_len hab hb]
  rw [List.getD_eq_getElem?_getD, List.getElem?_append_right (by rw [List.length_take]; omega), List.getElem?_append_left (by rw [hs, List.length_take]; omega), List.length_take, List.getD_eq_getElem?_getD, Nat.min_eq_left (by omega)]
theorem segS_ok (ho : Ord lt) {a b : Nat} {xs : List α} (hab : a ≤ b) (hb : b ≤ xs.length) : PSeg z a b xs (segS lt a b xs) ∧ UpOn lt z a b (segS lt a b xs) := by
  have hs : (srt lt (seg a b xs)).length = b - a := by rw [(srt_perm (lt := lt) _).length_eq, seg_len hab hb]
  refine ⟨⟨?_, fun k hk => ?_⟩, fun p q h1 h2 h3 => ?_⟩
  · have := cut3 hab xs
    conv => rhs; rw [← this]
    exact List.Perm.append_left _ (List.Perm.append_right _ (srt_perm (lt := lt) _))
  · unfold segS
    rcases hk with hk | hk
    · rw [List.getD_eq_getElem?_getD, List.getElem?_append_left (by rw [List.length_take]; omega), List.getElem?_take, if_pos hk, List.getD_eq_getElem?_getD]
    · rw [List.getD_eq_getElem?_getD, List.getElem?_append_right (by rw [List.length_take]; omega), List.getElem?_append_right (by rw [hs, List.length_take]; omega), hs, List.length_take, List.getElem?_drop, List.getD_eq_getElem?_getD]
      congr 2; omega
  · rw [segS_mid hab hb (by omega) (by omega), segS_mid hab hb (by omega) (by omega)]
    have hu := srt_up ho (seg a b xs)
    unfold Up at hu
    rw [List.pairwise_iff_getElem] at hu
    rw [getD_lt (by rw [hs]; omega), getD_lt (by rw [hs]; omega)]
    exact hu _ _ _ _ (by omega)
theorem segS_all {xs : List α} : segS lt 0 xs.length xs = srt lt xs := by
  unfold segS seg; simp
def swp (z : α) (i j : Nat) (r : List α) : List α := (r.set i (r.getD j z)).set j (r.getD i z)
theorem swp_len (i j : Nat) (r : List α) : (swp z i j r).length = r.length := by unfold swp; simp
theorem swp_get {i j : Nat} {r : List α} (hi : i < r.length) (hj : j < r.length) (k : Nat) : (swp z i j r).getD k z = if k = j then r.getD i z else if k = i then r.getD j z else r.getD k z := by
  unfold swp
  by_cases h1 : k = j
  · subst h1
    rw [if_pos rfl, List.getD_eq_getElem?_getD, List.getElem?_set_self (by simpa using hj)]; rfl
  · rw [if_neg h1, List.getD_eq_getElem?_getD, List.getElem?_set_ne (fun e => h1 e.symm)]
    by_cases h2 : k = i
    · subst h2
      rw [if_pos rfl, List.getElem?_set_self hi]; rfl
    · rw [if_neg h2, List.getElem?_set_ne (fun e => h2 e.symm), List.getD_eq_getElem?_getD]
theorem swp_perm {i j : Nat} {r : List α} (hi : i < r.length) (hj : j < r.length) : (swp z i j r).Perm r := by
  unfold swp
  rw [getD_lt hi, getD_lt hj]
  exact List.set_set_perm hi hj
theorem swp_seg {a b i j : Nat} {r : List α} (hb : b ≤ r.length) (hi : a ≤ i) (hi2 : i < b) (hj : a ≤ j) (hj2 : j < b) : PSeg z a b r (swp z i j r) :=
  ⟨swp_perm (by omega) (by omega), fun k hk => by rw [swp_get (by omega) (by omega), if_neg (by omega), if_neg (by omega)]⟩
end
end Go.Proofs.St
set_option linter.all false
namespace Go.Proofs.St
variable {α : Type} {lt : α → α → Bool} {z : α}
def rotK (a m b k : Nat) : Nat := if a ≤ k ∧ k < b then (if k < a + (b - m) then k + (m - a) else k - (b - m)) else k
def rotF (a m b : Nat) (xs : List α) : List α := xs.take a ++ (seg m b xs ++ (seg a m xs ++ xs.drop b))
def swrK (a b n k : Nat) : Nat := if a ≤ k ∧ k < a + n then k + (b - a) else if b ≤ k ∧ k < b + n then k - (b - a) else k
def swrF (z : α) (a b n : Nat) (xs : List α) : List α := (List.range xs.length).map fun k => xs.getD (swrK a b n k) z
theorem rotK_c (a m b k : Nat) : (a ≤ k ∧ k < b ∧ k < a + (b - m) ∧ rotK a m b k = k + (m - a)) ∨ (a ≤ k ∧ k < b ∧ a + (b - m) ≤ k ∧ rotK a m b k = k - (b - m)) ∨ ((k < a ∨ b ≤ k) ∧ rotK a m b k = k) := by
  unfold rotK
  split
  · split <;> omega
  · omega
theorem swrK_c (a b n k : Nat) : (a ≤ k ∧ k < a + n ∧ swrK a b n k = k + (b - a)) ∨ ((k < a ∨ a + n ≤ k) ∧ b ≤ k ∧ k < b + n ∧ swrK a b n k = k - (b - a)) ∨ ((k < a ∨ a + n ≤ k) ∧ (k < b ∨ b + n ≤ k) ∧ swrK a b n k = k) := by
  unfold swrK
  split
  · omega
  · split <;> omega
theorem rot_len {a m b : Nat} {xs : List α} (h1 : a ≤ m) (h2 : m ≤ b) (h3 : b ≤ xs.length) : (rotF a m b xs).length = xs.length := by
  unfold rotF
  rw [List.length_append, List.length_append, List.length_append, seg_len h2 h3, seg_len h1 (by omega), List.length_take, List.length_drop]; omega
theorem rot_get {a m b : Nat} {xs : List α} (h1 : a ≤ m) (h2 : m ≤ b) (h3 : b ≤ xs.length) (k : Nat) : (rotF a m b xs).getD k z = xs.getD (rotK a m b k) z := by
  have l1 : (xs.take a).length = a := by rw [List.length_take]; omega
  have l2 := seg_len h2 h3
  have l3 := seg_len h1 (show m ≤ xs.length by omega)
  unfold rotF rotK
  by_cases c1 : k < a
  · rw [if_neg (by omega), List.getD_eq_getElem?_getD, List.getElem?_append_left (by omega), List.getElem?_take, if_pos c1, List.getD_eq_getElem?_getD]
  · rw [List.getD_eq_getElem?_getD, List.getElem?_append_right (by omega), l1]
    by_cases c2 : k < a + (b - m)
    · rw [List.getElem?_append_left (by omega), if_pos (by omega), if_pos c2, ← List.getD_eq_getElem?_getD, seg_get (by omega)]
      congr 1; omega
    · rw [List.getElem?_append_right (by omega), l2]
      by_cases c3 : k < b
      · rw [List.getElem?_append_left (by omega), if_pos (by omega), if_neg c2, ← List.getD_eq_getElem?_getD, seg_get (by omega)]
        congr 1; omega
      · rw [List.getElem?_append_right (by omega), l3, if_neg (by omega), List.getElem?_drop, List.getD_eq_getElem?_getD]
        congr 2; omega
theorem swr_len (a b n : Nat) (xs : List α) : (swrF z a b n xs).length = xs.length := by unfold swrF; simp
theorem swr_get {a b n : Nat} {xs : List α} (h : a ≤ b) (h2 : b + n ≤ xs.length) (k : Nat) : (swrF z a b n xs).getD k z = xs.getD (swrK a b n k) z := by
  unfold swrF
  by_cases hk : k < xs.length
  · rw [getD_lt (by simpa using hk)]; simp
  · rw [List.getD_eq_getElem?_getD, List.getElem?_eq_none (by simp; omega), List.getD_eq_getElem?_getD, List.getElem?_eq_none (by unfold swrK; rw [if_neg (by omega), if_neg (by omega)]; omega)]
theorem rot_seg {a m b : Nat} {xs : List α} (h1 : a ≤ m) (h2 : m ≤ b) (h3 : b ≤ xs.length) : PSeg z a b xs (rotF a m b xs) := by
  refine ⟨?_, fun k hk => by rw [rot_get h1 h2 h3, rotK, if_neg (by omega)]⟩
  have e := cut3 (show a ≤ b by omega) xs
  have e2 : seg a b xs = seg a m xs ++ seg m b xs := by
    have := List.take_append_drop (m - a) (seg a b xs)
    rw [← this]
    congr 1
    · unfold seg; rw [List.take_take, Nat.min_eq_left (by omega)]
    · unfold seg; rw [List.drop_take, List.drop_drop]
      rw [show a + (m - a) = m by omega, show b - a - (m - a) = b - m by omega]
  unfold rotF
  conv => rhs; rw [← e, e2]
  refine List.Perm.append_left _ ?_
  rw [← List.append_assoc]
  exact List.Perm.append_right _ List.perm_append_comm
theorem rot_step1 {s m e : Nat} {r : List α} (h1 : s ≤ m) (h2 : m ≤ e) (h3 : e ≤ r.length) (h : e - m < m - s) : rotF (s + (e - m)) m e (swrF z s m (e - m) r) = rotF s m e r := by
  apply extD (z := z)
  · rw [rot_len (by omega) h2 (by rw [swr_len]; exact h3), rot_len h1 h2 h3, swr_len]
  · intro k _
    rw [rot_get (by omega) h2 (by rw [swr_len]; exact h3), rot_get h1 h2 h3, swr_get (by omega) (by omega)]
    congr 1
    have h4 := rotK_c (s + (e - m)) m e k
    have h5 := swrK_c s m (e - m) (rotK (s + (e - m)) m e k)
    have h6 := rotK_c s m e k
    omega
theorem rot_step2 {s m e : Nat} {r : List α} (h1 : s ≤ m) (h2 : m ≤ e) (h3 : e ≤ r.length) (h : m - s < e - m) : rotF s m (e - (m - s)) (swrF z s (e - (m - s)) (m - s) r) = rotF s m e r := by
  apply extD (z := z)
  · rw [rot_len h1 (by omega) (by rw [swr_len]; omega), rot_len h1 h2 h3, swr_len]
  · intro k _
    rw [rot_get h1 (by omega) (by rw [swr_len]; omega), rot_get h1 h2 h3, swr_get (by omega) (by omega)]
    congr 1
    have h4 := rotK_c s m (e - (m - s)) k
    have h5 := swrK_c s (e - (m - s)) (m - s) (rotK s m (e - (m - s)) k)
    have h6 := rotK_c s m e k
    omega
theorem rot_fin {s m e : Nat} {r : List α} (h1 : s ≤ m) (h2 : m ≤ e) (h3 : e ≤ r.length) (h : m - s = e - m) : swrF z s m (m - s) r = rotF s m e r := by
  apply extD (z := z)
  · rw [rot_len h1 h2 h3, swr_len]
  · intro k _
    rw [rot_get h1 h2 h3, swr_get (by omega) (by omega)]
    congr 1
    have h5 := swrK_c s m (m - s) k
    have h6 := rotK_c s m e k
    omega
theorem swr_succ {a b i : Nat} {xs : List α} (h : a + i < b) (h2 : b + i < xs.length) : swp z (a + i) (b + i) (swrF z a b i xs) = swrF z a b (i + 1) xs := by
  apply extD (z := z)
  · rw [swp_len, swr_len, swr_len]
  · intro k _
    rw [swp_get (by rw [swr_len]; omega) (by rw [swr_len]; omega), swr_get (by omega) (by omega), swr_get (by omega) (by omega), swr_get (by omega) (by omega), swr_get (by omega) (by omega)]
    split
    · congr 1; unfold swrK; repeat' split
      all_goals omega
    · split
      · congr 1; unfold swrK; repeat' split
        all_goals omega
      · congr 1; unfold swrK; repeat' split
        all_goals omega
theorem swr_zero {a b : Nat} {xs : List α} (h : a ≤ b) (h2 : b ≤ xs.length) : swrF z a b 0 xs = xs := by
  apply extD (z := z)
  · rw [swr_len]
  · intro k _
    rw [swr_get h (by omega)]
    congr 1; unfold swrK; repeat' split
    all_goals omega
theorem rot_up {a k : Nat} {xs : List α} (h : a ≤ k) (h2 : k + 2 ≤ xs.length) : swp z k (k + 1) (rotF a (a + 1) (k + 1) xs) = rotF a (a + 1) (k + 2) xs := by
  apply extD (z := z)
  · rw [swp_len, rot_len (by omega) (by omega) (by omega), rot_len (by omega) (by omega) (by omega)]
  · intro j _
    rw [swp_get (by rw [rot_len (by omega) (by omega) (by omega)]; omega) (by rw [rot_len (by omega) (by omega) (by omega)]; omega), rot_get (by omega) (by omega) (by omega), rot_get (by omega) (by omega) (by omega), rot_get (by omega) (by omega) (by omega), rot_get (by omega) (by omega) (by omega)]
    split
    · congr 1; unfold rotK; repeat' split
      all_goals omega
    · split
      · congr 1; unfold rotK; repeat' split
        all_goals omega
      · congr 1; unfold rotK; repeat' split
        all_goals omega
theorem rot_dn {m k : Nat} {xs : List α} (h : k + 1 ≤ m) (h2 : m + 1 ≤ xs.length) : swp z (k + 1) k (rotF (k + 1) m (m + 1) xs) = rotF k m (m + 1) xs := by
  apply extD (z := z)
  · rw [swp_len, rot_len (by omega) (by omega) (by omega), rot_len (by omega) (by omega) (by omega)]
  · intro j _
    rw [swp_get (by rw [rot_len (by omega) (by omega) (by omega)]; omega) (by rw [rot_len (by omega) (by omega) (by omega)]; omega), rot_get (by omega) (by omega) (by omega), rot_get (by omega) (by omega) (by omega), rot_get (by omega) (by omega) (by omega), rot_get (by omega) (by omega) (by omega)]
    split
    · congr 1; unfold rotK; repeat' split
      all_goals omega
    · split
      · congr 1; unfold rotK; repeat' split
        all_goals omega
      · congr 1; unfold rotK; repeat' split
        all_goals omega
theorem rot_id (z : α) {a b : Nat} {xs : List α} (h : a ≤ b) (h2 : b ≤ xs.length) : rotF a a b xs = xs ∧ rotF a b b xs = xs := by
  constructor <;> apply extD (z := z)
  · rw [rot_len (by omega) (by omega) (by omega)]
  · intro j _
    rw [rot_get (by omega) (by omega) (by omega)]
    congr 1; unfold rotK; repeat' split
    all_goals omega
  · rw [rot_len (by omega) (by omega) (by omega)]
  · intro j _
    rw [rot_get (by omega) (by omega) (by omega)]
    congr 1; unfold rotK; repeat' split
    all_goals omega
theorem merge_one (ho : Ord lt) {a i b : Nat} {xs : List α} (h1 : a + 1 ≤ i) (h2 : i ≤ b) (h3 : b ≤ xs.length) (hs : UpOn lt z (a + 1) b xs)
    (hl : ∀ k, a + 1 ≤ k → k < i → lt (xs.getD k z) (xs.getD a z) = true) (hr : ∀ k, i ≤ k → k < b → lt (xs.getD k z) (xs.getD a z) = false) : rotF a (a + 1) i xs = segS lt a b xs := by
  refine seg_unique (z := z) ho (by omega) h3 ((rot_seg (by omega) (by omega) (by omega)).mono (Nat.le_refl _) h2) fun p q hp hpq hq => ?_
  rw [rot_get (by omega) h1 (by omega), rot_get (by omega) h1 (by omega)]
  have e1 : rotK a (a + 1) i p = if p < i - 1 then p + 1 else if p = i - 1 then a else p := by 
    have := rotK_c a (a + 1) i p
    repeat' split
    all_goals omega
  have e2 : rotK a (a + 1) i q = if q < i - 1 then q + 1 else if q = i - 1 then a else q := by 
    have := rotK_c a (a + 1) i q
    repeat' split
    all_goals omega
  rw [e1, e2]
  by_cases c1 : q < i - 1
  · rw [if_pos c1, if_pos (by omega)]; exact hs _ _ (by omega) (by omega) (by omega)
  · rw [if_neg c1]
    by_cases c2 : q = i - 1
    · rw [if_pos c2, if_pos (by omega)]; exact ho.asym (hl _ (by omega) (by omega))
    · rw [if_neg c2]
      by_cases c3 : p < i - 1
      · rw [if_pos c3]; exact hs _ _ (by omega) (by omega) (by omega)
      · rw [if_neg c3]
        by_cases c4 : p = i - 1
        · rw [if_pos c4]; exact hr _ (by omega) (by omega)
        · rw [if_neg c4]; exact hs _ _ (by omega) (by omega) (by omega)
theorem merge_last (ho : Ord lt) {a i m : Nat} {xs : List α} (h1 : a ≤ i) (h2 : i ≤ m) (h3 : m + 1 ≤ xs.length) (hs : UpOn lt z a m xs)
    (hl : ∀ k, a ≤ k → k < i → lt (xs.getD m z) (xs.getD k z) = false) (hr : ∀ k, i ≤ k → k < m → lt (xs.getD m z) (xs.getD k z) = true) : rotF i m (m + 1) xs = segS lt a (m + 1) xs := by
  refine seg_unique (z := z) ho (by omega) h3 ((rot_seg h2 (by omega) (by omega)).mono h1 (Nat.le_refl _)) fun p q hp hpq hq => ?_
  rw [rot_get h2 (by omega) (by omega), rot_get h2 (by omega) (by omega)]
  have e1 : rotK i m (m + 1) p = if p < i then p else if p = i then m else p - 1 := by 
    have := rotK_c i m (m + 1) p
    repeat' split
    all_goals omega
  have e2 : rotK i m (m + 1) q = if q < i then q else if q = i then m else q - 1 := by 
    have := rotK_c i m (m + 1) q
    repeat' split
    all_goals omega
  rw [e1, e2]
  by_cases c1 : q < i
  · rw [if_pos c1, if_pos (by omega)]; exact hs _ _ (by omega) (by omega) (by omega)
  · rw [if_neg c1]
    by_cases c2 : q = i
    · rw [if_pos c2, if_pos (by omega)]; exact hl _ (by omega) (by omega)
    · rw [if_neg c2]
      by_cases c3 : p < i
      · rw [if_pos c3]; exact hs _ _ (by omega) (by omega) (by omega)
      · rw [if_neg c3]
        by_cases c4 : p = i
        · rw [if_pos c4]; exact ho.asym (hr _ (by omega) (by omega))
        · rw [if_neg c4]; exact hs _ _ (by omega) (by omega) (by omega)
theorem PSeg.from_ {a b : Nat} {xs r : List α} (h : PSeg z a b xs r) (hab : a ≤ b) (hb : b ≤ xs.length) {k : Nat} (h1 : a ≤ k) (h2 : k < b) : ∃ j, a ≤ j ∧ j < b ∧ r.getD k z = xs.getD j z := by
  have hl := h.len
  have e := seg_get (z := z) (xs := r) (show k - a < b - a by omega)
  rw [show a + (k - a) = k by omega] at e
  have hm : r.getD k z ∈ St.seg a b r := by
    rw [← e, getD_lt (by rw [seg_len hab (by omega)]; omega)]
    exact List.getElem_mem _
  have hm2 := (h.seg hab).mem_iff.1 hm
  obtain ⟨j, hj, ej⟩ := List.getElem_of_mem hm2
  rw [seg_len hab hb] at hj
  have e2 := seg_get (z := z) (xs := xs) hj
  rw [getD_lt (by rw [seg_len hab hb]; exact hj), ej] at e2
  exact ⟨a + j, by omega, by omega, e2⟩
structure CutI (lt : α → α → Bool) (z : α) (a m b : Nat) (xs : List α) (s r st : Nat) : Prop where
  lo : s ≤ st
  hi : st ≤ r
  l : ∀ c, s ≤ c → c < st → lt (xs.getD ((a + b) / 2 + m - 1 - c) z) (xs.getD c z) = false
  g : ∀ c, st ≤ c → c < r → lt (xs.getD ((a + b) / 2 + m - 1 - c) z) (xs.getD c z) = true
def cutS (a m b : Nat) : Nat := if m > (a + b) / 2 then (a + b) / 2 + m - b else a
def cutR (a m b : Nat) : Nat := if m > (a + b) / 2 then (a + b) / 2 else m
theorem cut_b {a m b st : Nat} (h1 : a < m) (h2 : m < b) (h3 : cutS a m b ≤ st) (h4 : st ≤ cutR a m b) : a ≤ st ∧ st ≤ m ∧ m ≤ (a + b) / 2 + m - st ∧ (a + b) / 2 + m - st ≤ b ∧ st ≤ (a + b) / 2 ∧ (a + b) / 2 ≤ (a + b) / 2 + m - st := by
  unfold cutS at h3; unfold cutR at h4
  split at h3
  · rename_i h; rw [if_pos h] at h4; omega
  · rename_i h; rw [if_neg h] at h4; omega
theorem cut_ok (ho : Ord lt) {a m b st : Nat} {xs : List α} (h1 : a < m) (h2 : m < b) (h3 : b ≤ xs.length) (hs1 : UpOn lt z a m xs) (hs2 : UpOn lt z m b xs) (hc : CutI lt z a m b xs (cutS a m b) (cutR a m b) st) :
    UpOn lt z a st (rotF st m ((a + b) / 2 + m - st) xs) ∧ UpOn lt z st ((a + b) / 2) (rotF st m ((a + b) / 2 + m - st) xs) ∧ UpOn lt z ((a + b) / 2) ((a + b) / 2 + m - st) (rotF st m ((a + b) / 2 + m - st) xs) ∧ UpOn lt z ((a + b) / 2 + m - st) b (rotF st m ((a + b) / 2 + m - st) xs) ∧
    (∀ p q, a ≤ p → p < (a + b) / 2 → (a + b) / 2 ≤ q → q < b → lt ((rotF st m ((a + b) / 2 + m - st) xs).getD q z) ((rotF st m ((a + b) / 2 + m - st) xs).getD p z) = false) := by
  obtain ⟨k1, k2, k3, k4, k5, k6⟩ := cut_b h1 h2 hc.lo hc.hi
  have hl := hc.l
  have hg := hc.g
  have c1 := hc.lo
  have c2 := hc.hi
  have hS : cutS a m b = (a + b) / 2 + m - b ∧ cutR a m b = (a + b) / 2 ∧ m > (a + b) / 2 ∨ cutS a m b = a ∧ cutR a m b = m ∧ m ≤ (a + b) / 2 := by
    unfold cutS cutR
    split
    · exact .inl ⟨rfl, rfl, by assumption⟩
    · exact .inr ⟨rfl, rfl, by omega⟩
  generalize hM : (a + b) / 2 = mid at *
  generalize cutS a m b = s0 at *
  generalize cutR a m b = r0 at *
  have g : ∀ k, (rotF st m (mid + m - st) xs).getD k z = xs.getD (if k < st then k else if k < mid then k + (m - st) else if k < mid + m - st then k - (mid - st) else k) z := fun k => by
    rw [rot_get k2 k3 (by omega)]
    congr 1
    unfold rotK
    repeat' split
    all_goals omega
  refine ⟨fun p q hp hpq hq => ?_, fun p q hp hpq hq => ?_, fun p q hp hpq hq => ?_, fun p q hp hpq hq => ?_, fun p q hp hpm hq hqb => ?_⟩
  · rw [g, g, if_pos (by omega), if_pos (by omega)]; exact hs1 _ _ hp hpq (by omega)
  · rw [g, g, if_neg (by omega), if_pos (by omega), if_neg (by omega), if_pos (by omega)]; exact hs2 _ _ (by omega) (by omega) (by omega)
  · rw [g, g, if_neg (by omega), if_neg (by omega), if_pos (by omega), if_neg (by omega), if_neg (by omega), if_pos (by omega)]; exact hs1 _ _ (by omega) (by omega) (by omega)
  · rw [g, g, if_neg (by omega), if_neg (by omega), if_neg (by omega), if_neg (by omega), if_neg (by omega), if_neg (by omega)]; exact hs2 _ _ (by omega) (by omega) (by omega)
  · rw [g, g, if_neg (by omega), if_neg (by omega)]
    by_cases d1 : p < st
    · rw [if_pos d1]
      by_cases d2 : q < mid + m - st
      · rw [if_pos d2]; exact hs1 _ _ hp (by omega) (by omega)
      · rw [if_neg d2]
        -- xs[p] ≤ xs[st-1] ≤ xs[end] ≤ xs[q]
        have e1 := hl (st - 1) (by omega) (by omega)
        rw [show mid + m - 1 - (st - 1) = mid + m - st by omega] at e1
        have e2 : lt (xs.getD (mid + m - st) z) (xs.getD p z) = false := by
          by_cases e : p = st - 1
          · rw [e]; exact e1
          · exact ho.le (hs1 p (st - 1) hp (by omega) (by omega)) e1
        by_cases e : q = mid + m - st
        · rw [e]; exact e2
        · exact ho.le e2 (hs2 _ _ (by omega) (by omega) (by omega))
    · rw [if_neg d1, if_pos hpm]
      by_cases d2 : q < mid + m - st
      · rw [if_pos d2]
        -- xs[p'] ≤ xs[end-1] < xs[st] ≤ xs[q']
        have e1 := ho.asym (hg st (Nat.le_refl _) (by omega))
        rw [show mid + m - 1 - st = mid + m - st - 1 by omega] at e1
        have e2 : lt (xs.getD st z) (xs.getD (p + (m - st)) z) = false := by
          by_cases e : p + (m - st) = mid + m - st - 1
          · rw [e]; exact e1
          · exact ho.le (hs2 _ _ (by omega) (by omega) (by omega)) e1
        by_cases e : q - (mid - st) = st
        · rw [e]; exact e2
        · exact ho.le e2 (hs1 _ _ k1 (by omega) (by omega))
      · rw [if_neg d2]; exact hs2 _ _ (by omega) (by omega) (by omega)
theorem UpOn.seg_of {a b p q : Nat} {xs r : List α} (h : UpOn lt z p q xs) (hs : PSeg z a b xs r) (hd : q ≤ a ∨ b ≤ p) : UpOn lt z p q r := fun i j h1 h2 h3 => by
  rw [hs.e j (by omega), hs.e i (by omega)]; exact h i j h1 h2 h3
theorem halves (ho : Ord lt) {a mid b : Nat} {xs r1 : List α} (h1 : a ≤ mid) (h2 : mid ≤ b) (h3 : b ≤ xs.length) (hp : PSeg z a b xs r1)
    (hc : ∀ p q, a ≤ p → p < mid → mid ≤ q → q < b → lt (r1.getD q z) (r1.getD p z) = false) : segS lt mid b (segS lt a mid r1) = segS lt a b xs := by
  have hl := hp.len
  obtain ⟨p1, u1⟩ := segS_ok (z := z) ho h1 (show mid ≤ r1.length by omega)
  have hl2 := p1.len
  obtain ⟨p2, u2⟩ := segS_ok (z := z) ho h2 (show b ≤ (segS lt a mid r1).length by omega)
  refine seg_unique (z := z) ho (by omega) h3 ((hp.trans (p1.mono (Nat.le_refl _) h2)).trans (p2.mono h1 (Nat.le_refl _))) fun p q hp1 hpq hq => ?_
  by_cases c1 : q < mid
  · exact (u1.seg_of p2 (.inl (Nat.le_refl _))) p q hp1 hpq c1
  · by_cases c2 : mid ≤ p
    · exact u2 p q c2 hpq hq
    · obtain ⟨j, j1, j2, j3⟩ := p2.from_ h2 (by omega) (show mid ≤ q by omega) hq
      rw [j3, p2.e p (by omega), p1.e j (by omega)]
      obtain ⟨i, i1, i2, i3⟩ := p1.from_ h1 (by omega) hp1 (show p < mid by omega)
      rw [i3]
      exact hc i j i1 i2 j1 j2
theorem seg_same (ho : Ord lt) {a b : Nat} {xs : List α} (hab : a ≤ b) (hb : b ≤ xs.length) (hu : UpOn lt z a b xs) : segS lt a b xs = xs :=
  (seg_unique (z := z) ho hab hb (PSeg.refl a b xs) hu).symm
theorem UpOn.nil {a b : Nat} {xs : List α} (h : b ≤ a) : UpOn lt z a b xs := fun p q _ _ _ => by omega
theorem merge_all (ho : Ord lt) {a m b st : Nat} {xs : List α} (h1 : a < m) (h2 : m < b) (h3 : b ≤ xs.length) (hs1 : UpOn lt z a m xs) (hs2 : UpOn lt z m b xs) (hc : CutI lt z a m b xs (cutS a m b) (cutR a m b) st) {r1 r2 r3 : List α}
    (e1 : r1 = if st < m ∧ m < (a + b) / 2 + m - st then rotF st m ((a + b) / 2 + m - st) xs else xs)
    (e2 : r2 = if a < st ∧ st < (a + b) / 2 then segS lt a ((a + b) / 2) r1 else r1)
    (e3 : r3 = if (a + b) / 2 < (a + b) / 2 + m - st ∧ (a + b) / 2 + m - st < b then segS lt ((a + b) / 2) b r2 else r2) : r3 = segS lt a b xs := by
  obtain ⟨k1, k2, k3, k4, k5, k6⟩ := cut_b h1 h2 hc.lo hc.hi
  obtain ⟨u1, u2, u3, u4, hx⟩ := cut_ok ho h1 h2 h3 hs1 hs2 hc
  generalize hM : (a + b) / 2 = mid at *
  have er : r1 = rotF st m (mid + m - st) xs := by
    rw [e1]
    split
    · rfl
    · by_cases c : st = m
      · rw [c, (rot_id (z := z) (by omega) (by omega)).1]
      · have c2 : mid + m - st = m := by omega
        rw [c2, (rot_id (z := z) k2 (by omega)).2]
  rw [← er] at u1 u2 u3 u4 hx
  have hp : PSeg z a b xs r1 := by rw [er]; exact (rot_seg k2 k3 (by omega)).mono k1 k4
  have hl := hp.len
  have er2 : r2 = segS lt a mid r1 := by
    rw [e2]
    split
    · rfl
    · refine (seg_same (z := z) ho (by omega) (by omega) ?_).symm
      by_cases c : st ≤ a
      · have : st = a := by omega
        rw [← this]; exact u2
      · have : st = mid := by omega
        rw [← this]; exact u1
  obtain ⟨p1, v1⟩ := segS_ok (z := z) ho (show a ≤ mid by omega) (show mid ≤ r1.length by omega)
  have hl2 := p1.len
  have er3 : r3 = segS lt mid b r2 := by
    rw [e3]
    split
    · rfl
    · refine (seg_same (z := z) ho (by omega) (by rw [er2]; omega) ?_).symm
      rw [er2]
      by_cases c : mid + m - st ≤ mid
      · have : mid + m - st = mid := by omega
        rw [this] at u4
        exact u4.seg_of p1 (.inr (Nat.le_refl _))
      · have : mid + m - st = b := by omega
        rw [this] at u3
        exact u3.seg_of p1 (.inr (Nat.le_refl _))
  rw [er3, er2]
  exact halves ho (by omega) (by omega) h3 hp hx
end Go.Proofs.St
set_option maxRecDepth 100000
namespace Go.Proofs.YtkimpfoimblhjaaDoor.Ad
open Go Go.Eng Go.Lb Go.Ad Lb Go.Proofs.St
abbrev E {α : Type} (a : α) : Prop := Wr (a = a)
theorem E_iff {α : Type} (a : α) : E a ↔ True := ⟨fun _ => trivial, fun _ => ⟨rfl⟩⟩
def cmpI (a b : Int) : Int := bif decide (a < b) then -1 else bif decide (a > b) then 1 else 0
def cmpL : List Int → List Int → Int
  | [], [] => 0
  | [], _ :: _ => -1
  | _ :: _, [] => 1
  | x :: r, y :: s => bif decide (cmpI x y = 0) then cmpL r s else cmpI x y
def orF : List Int → Int
  | [] => 0
  | x :: r => bif decide (x = 0) then orF r else x
def gsL (g : G8) : List Int := [g.1, g.2.1, g.2.2.1, g.2.2.2.1, g.2.2.2.2.1, g.2.2.2.2.2.1, g.2.2.2.2.2.2.1, g.2.2.2.2.2.2.2.1]
def cmpA (a b : Ad) : Int := orF [cmpI a.1 b.1, cmpL (gsL a.2.1) (gsL b.2.1), cmpI a.2.2.1 b.2.2.1]
def ltA (a b : Ad) : Bool := decide (cmpA a b < 0)
abbrev zA : Ad := Ty.zero AdT
abbrev I16 : Ty := .int .u16
def cCmp8 : Contract := conD (.cons I8 (.cons I8 .unit)) (.cons I64 .unit) (fun _ => true) fun x => (cmpI x.1 x.2.1, ())
def cCmp16 : Contract := conD (.cons U16 (.cons U16 .unit)) (.cons I64 .unit) (fun _ => true) fun x => (cmpI x.1 x.2.1, ())
def cCmp64 : Contract := conD (.cons I64 (.cons I64 .unit)) (.cons I64 .unit) (fun _ => true) fun x => (cmpI x.1 x.2.1, ())
def cOrC : Contract := conD (.cons (.sl I64) .unit) (.cons I64 .unit) (fun x => decide (List.length (α := Int) x.1 ≤ 1000)) fun x => (orF x.1, ())
def cCmpL : Contract := conD (.cons (.sl U16) (.cons (.sl U16) .unit)) (.cons I64 .unit) (fun x => decide (List.length (α := Int) x.1 ≤ 1000) && decide (List.length (α := Int) x.2.1 ≤ 1000)) fun x => (cmpL x.1 x.2.1, ())
def cComp : Contract := conD (.cons AdT (.cons AdT .unit)) (.cons I64 .unit) (fun _ => true) fun x => (cmpA x.1 x.2.1, ())
structure OrI (l : List Int) (i : Int) : Prop where
  i0 : 0 ≤ i
  i1 : i ≤ l.length
  e : orF (l.drop i.toNat) = orF l
def orA : LoopAnn where
  α := Int
  keep := [0, 3, 6, 7]
  okeep := []
  nxt := 9000
  env := fun _ i => [(8, .dat I64 i)]
  own := fun _ _ => []
  inv := fun s i => OrI (bDat (.sl I64) s 6).out i
  mu := fun s i => List.length (α := Int) (bDat (.sl I64) s 6).out - i.toNat
  pick := some fun _ s => (bDat I64 s 8).out
structure LxI (l m : List Int) (i : Int) : Prop where
  i0 : 0 ≤ i
  i1 : i ≤ l.length
  i2 : i ≤ m.length
  e : cmpL (l.drop i.toNat) (m.drop i.toNat) = cmpL l m
def lxA : LoopAnn where
  α := Int
  keep := [0, 1, 9, 10]
  okeep := []
  nxt := 9000
  env := fun _ i => [(11, .dat I64 i)]
  own := fun _ _ => []
  inv := fun s i => LxI (bDat (.sl U16) s 0).out (bDat (.sl U16) s 1).out i
  mu := fun s i => List.length (α := Int) (bDat (.sl U16) s 0).out - i.toNat
  pick := some fun _ s => (bDat I64 s 11).out
abbrev Big : Nat := 100000
def mcR (a : Ty) (pre : List Ad → a.El → Prop) (F : List Ad → a.El → List Ad) : MCon := { e := 26, t := AdT, a := a, fns := [71], pre := pre, F := F, eats := false }
abbrev Z3 : Ty := .cons I64 (.cons I64 (.cons I64 .unit))
structure SwP (xs : List Ad) (a b n : Int) : Prop where
  a0 : 0 ≤ a
  n0 : 0 ≤ n
  ab : a + n ≤ b
  bl : b + n ≤ xs.length
  l : xs.length ≤ Big
def cSwr : MCon := mcR Z3 (fun xs y => SwP xs y.1 y.2.1 y.2.2.1) fun xs y => swrF zA (Int.toNat y.1) (Int.toNat y.2.1) (Int.toNat y.2.2.1) xs
structure RoP (xs : List Ad) (a m b : Int) : Prop where
  a0 : 0 ≤ a
  am : a < m
  mb : m < b
  bl : b ≤ xs.length
  l : xs.length ≤ Big
def cRotM : MCon := mcR Z3 (fun xs y => RoP xs y.1 y.2.1 y.2.2.1) fun xs y => rotF (Int.toNat y.1) (Int.toNat y.2.1) (Int.toNat y.2.2.1) xs
structure InP (xs : List Ad) (a b : Int) : Prop where
  a0 : 0 ≤ a
  ab : a ≤ b
  bl : b ≤ xs.length
  l : xs.length ≤ Big
def cInsM : MCon := mcR (.cons I64 (.cons I64 .unit)) (fun xs y => InP xs y.1 y.2.1) fun xs y => segS ltA (Int.toNat y.1) (Int.toNat y.2.1) xs
structure MeP (k : Nat) (xs : List Ad) (a m b : Int) : Prop where
  a0 : 0 ≤ a
  am : a < m
  mb : m < b
  bl : b ≤ xs.length
  l : xs.length ≤ Big
  u1 : UpOn ltA zA a.toNat m.toNat xs
  u2 : UpOn ltA zA m.toNat b.toNat xs
  k : b - a ≤ k
def cSym (k : Nat) : MCon := mcR Z3 (fun xs y => MeP k xs y.1 y.2.1 y.2.2.1) fun xs y => segS ltA (Int.toNat y.1) (Int.toNat y.2.2.1) xs
def cSta : MCon := mcR (.cons I64 .unit) (fun xs y => y.1 = xs.length ∧ xs.length ≤ 60) fun xs _ => srt ltA xs
def cSort : MCon := mcR .unit (fun xs _ => xs.length ≤ 60) fun xs _ => srt ltA xs
abbrev rowO (r : List Ad) : Own := [(0, .row 26 AdT r)]
structure SwI (n i : Int) : Prop where
  i0 : 0 ≤ i
  i1 : i ≤ n
def swA : LoopAnn where
  α := Int
  keep := [0, 1, 2, 3, 4]
  okeep := []
  nxt := 9000
  env := fun _ i => [(10, .dat I64 i)]
  own := fun s i => rowO (swrF zA (bDat I64 s 1).out.toNat (bDat I64 s 2).out.toNat i.toNat (bRow AdT s 0).out)
  inv := fun s i => SwI (bDat I64 s 3).out i
  mu := fun s i => ((bDat I64 s 3).out - i).toNat
  pick := some fun _ s => (bDat I64 s 10).out
structure RoI (xs : List Ad) (a m b : Int) (x : Int × Int × List Ad) : Prop where
  i0 : 1 ≤ x.1
  i1 : x.1 ≤ m - a
  j0 : 1 ≤ x.2.1
  j1 : x.2.1 ≤ b - m
  l : x.2.2.length = xs.length
  e : rotF (m - x.1).toNat m.toNat (m + x.2.1).toNat x.2.2 = rotF a.toNat m.toNat b.toNat xs
def roA : LoopAnn where
  α := Int × Int × List Ad
  keep := [0, 1, 2, 3, 4]
  okeep := []
  nxt := 9000
  env := fun _ x => [(10, .dat I64 x.1), (11, .dat I64 x.2.1)]
  own := fun _ x => rowO x.2.2
  inv := fun s x => RoI (bRow AdT s 0).out (bDat I64 s 1).out (bDat I64 s 2).out (bDat I64 s 3).out x
  mu := fun _ x => (x.1 + x.2.1).toNat
  pick := some fun _ s => ((bDat I64 s 10).out, (bDat I64 s 11).out, (bRow AdT s 0).out)
structure IoI (xs : List Ad) (a b : Int) (x : Int × List Ad) : Prop where
  i0 : a + 1 ≤ x.1
  i1 : x.1 ≤ b ∨ x.1 = a + 1
  p : PSeg zA a.toNat b.toNat xs x.2
  u : UpOn ltA zA a.toNat x.1.toNat x.2
def ioA : LoopAnn where
  α := Int × List Ad
  keep := [0, 1, 2, 3]
  okeep := []
  nxt := 9000
  env := fun _ x => [(8, .dat I64 x.1)]
  own := fun _ x => rowO x.2
  inv := fun s x => IoI (bRow AdT s 0).out (bDat I64 s 1).out (bDat I64 s 2).out x
  mu := fun s x => ((bDat I64 s 2).out - x.1).toNat
  pick := some fun _ s => ((bDat I64 s 8).out, (bRow AdT s 0).out)
structure IiI (xs : List Ad) (a i : Int) (x : Int × List Ad) : Prop where
  j0 : a ≤ x.1
  j1 : x.1 ≤ i
  p : PSeg zA a.toNat (i.toNat + 1) xs x.2
  u : ∀ p q, a.toNat ≤ p → p < q → q ≤ i.toNat → q ≠ x.1.toNat → ltA (x.2.getD q zA) (x.2.getD p zA) = false
def iiA : LoopAnn where
  α := Int × List Ad
  keep := [0, 1, 2, 3, 8]
  okeep := []
  nxt := 9000
  env := fun _ x => [(9, .dat I64 x.1)]
  own := fun _ x => rowO x.2
  inv := fun s x => IiI (bRow AdT s 0).out (bDat I64 s 1).out (bDat I64 s 8).out x
  mu := fun s x => (x.1 - (bDat I64 s 1).out).toNat
  pick := some fun _ s => ((bDat I64 s 9).out, (bRow AdT s 0).out)
structure S1I (xs : List Ad) (a m b : Int) (x : Int × Int) : Prop where
  i0 : m ≤ x.1
  ij : x.1 ≤ x.2
  j1 : x.2 ≤ b
  l : ∀ k, m.toNat ≤ k → k < x.1.toNat → ltA (xs.getD k zA) (xs.getD a.toNat zA) = true
  g : ∀ k, x.2.toNat ≤ k → k < b.toNat → ltA (xs.getD k zA) (xs.getD a.toNat zA) = false
def s1A : LoopAnn where
  α := Int × Int
  keep := [0, 1, 2, 3, 4]
  okeep := [0]
  nxt := 9000
  env := fun _ x => [(10, .dat I64 x.1), (11, .dat I64 x.2)]
  own := fun _ _ => []
  inv := fun s x => S1I (bRow AdT s 0).out (bDat I64 s 1).out (bDat I64 s 2).out (bDat I64 s 3).out x
  mu := fun _ x => (x.2 - x.1).toNat
  pick := some fun _ s => ((bDat I64 s 10).out, (bDat I64 s 11).out)
structure U1I (a i k : Int) : Prop where
  k0 : a ≤ k
  k1 : k ≤ i - 1
def u1A : LoopAnn where
  α := Int
  keep := [0, 1, 2, 3, 4, 10]
  okeep := []
  nxt := 9000
  env := fun _ k => [(13, .dat I64 k)]
  own := fun s k => rowO (rotF (bDat I64 s 1).out.toNat ((bDat I64 s 1).out.toNat + 1) (k.toNat + 1) (bRow AdT s 0).out)
  inv := fun s k => U1I (bDat I64 s 1).out (bDat I64 s 10).out k
  mu := fun s k => ((bDat I64 s 10).out - k).toNat
  pick := some fun _ s => (bDat I64 s 13).out
structure S2I (xs : List Ad) (a m : Int) (x : Int × Int) : Prop where
  i0 : a ≤ x.1
  ij : x.1 ≤ x.2
  j1 : x.2 ≤ m
  l : ∀ k, a.toNat ≤ k → k < x.1.toNat → ltA (xs.getD m.toNat zA) (xs.getD k zA) = false
  g : ∀ k, x.2.toNat ≤ k → k < m.toNat → ltA (xs.getD m.toNat zA) (xs.getD k zA) = true
def s2A : LoopAnn where
  α := Int × Int
  keep := [0, 1, 2, 3, 4]
  okeep := [0]
  nxt := 9000
  env := fun _ x => [(14, .dat I64 x.1), (15, .dat I64 x.2)]
  own := fun _ _ => []
  inv := fun s x => S2I (bRow AdT s 0).out (bDat I64 s 1).out (bDat I64 s 2).out x
  mu := fun _ x => (x.2 - x.1).toNat
  pick := some fun _ s => ((bDat I64 s 14).out, (bDat I64 s 15).out)
structure U2I (m i k : Int) : Prop where
  k0 : i ≤ k
  k1 : k ≤ m
def u2A : LoopAnn where
  α := Int
  keep := [0, 1, 2, 3, 4, 14]
  okeep := []
  nxt := 9000
  env := fun _ k => [(17, .dat I64 k)]
  own := fun s k => rowO (rotF k.toNat (bDat I64 s 2).out.toNat ((bDat I64 s 2).out.toNat + 1) (bRow AdT s 0).out)
  inv := fun s k => U2I (bDat I64 s 2).out (bDat I64 s 14).out k
  mu := fun s k => (k - (bDat I64 s 14).out).toNat
  pick := some fun _ s => (bDat I64 s 17).out
def cutA : LoopAnn where
  α := Int × Int
  keep := [0, 1, 2, 3, 4, 18, 19]
  okeep := [0]
  nxt := 9000
  env := fun _ x => [(20, .dat I64 x.1), (21, .dat I64 x.2)]
  own := fun _ _ => []
  inv := fun s x => x.1 = (cutS (bDat I64 s 1).out.toNat (bDat I64 s 2).out.toNat (bDat I64 s 3).out.toNat : Int) ∧ x.2 = (cutR (bDat I64 s 1).out.toNat (bDat I64 s 2).out.toNat (bDat I64 s 3).out.toNat : Int)
  mu := fun _ _ => 0
  pick := some fun _ s => ((bDat I64 s 20).out, (bDat I64 s 21).out)
structure S3I (xs : List Ad) (a m b : Int) (x : Int × Int) : Prop where
  i0 : (cutS a.toNat m.toNat b.toNat : Int) ≤ x.1
  ij : x.1 ≤ x.2
  j1 : x.2 ≤ cutR a.toNat m.toNat b.toNat
  l : ∀ c, cutS a.toNat m.toNat b.toNat ≤ c → c < x.1.toNat → ltA (xs.getD ((a.toNat + b.toNat) / 2 + m.toNat - 1 - c) zA) (xs.getD c zA) = false
  g : ∀ c, x.2.toNat ≤ c → c < cutR a.toNat m.toNat b.toNat → ltA (xs.getD ((a.toNat + b.toNat) / 2 + m.toNat - 1 - c) zA) (xs.getD c zA) = true
def s3A : LoopAnn where
  α := Int × Int
  keep := [0, 1, 2, 3, 4, 18, 19, 22]
  okeep := [0]
  nxt := 9000
  env := fun _ x => [(20, .dat I64 x.1), (21, .dat I64 x.2)]
  own := fun _ _ => []
  inv := fun s x => S3I (bRow AdT s 0).out (bDat I64 s 1).out (bDat I64 s 2).out (bDat I64 s 3).out x
  mu := fun _ x => (x.2 - x.1).toNat
  pick := some fun _ s => ((bDat I64 s 20).out, (bDat I64 s 21).out)
def Bls (k e : Nat) (r : List Ad) : Prop := ∀ p q, p < q → q < e → p / k = q / k → ltA (r.getD q zA) (r.getD p zA) = false
structure T1I (xs : List Ad) (n : Int) (x : Int × Int × List Ad) : Prop where
  a : x.1 = 0 ∨ x.1 = 20 ∨ x.1 = 40 ∨ x.1 = 60
  b : x.2.1 = x.1 + 20
  an : x.1 ≤ n
  p : x.2.2.Perm xs
  u : Bls 20 x.1.toNat x.2.2
def t1A : LoopAnn where
  α := Int × Int × List Ad
  keep := [0, 1, 2, 6]
  okeep := []
  nxt := 9000
  env := fun _ x => [(7, .dat I64 x.1), (8, .dat I64 x.2.1)]
  own := fun _ x => rowO x.2.2
  inv := fun s x => T1I (bRow AdT s 0).out (bDat I64 s 1).out x
  mu := fun _ x => (60 - x.1).toNat
  pick := some fun _ s => ((bDat I64 s 7).out, (bDat I64 s 8).out, (bRow AdT s 0).out)
structure T2I (xs : List Ad) (n : Int) (x : Int × List Ad) : Prop where
  a : x.1 = 20 ∨ x.1 = 40 ∨ x.1 = 80
  p : x.2.Perm xs
  u : Bls x.1.toNat n.toNat x.2
def t2A : LoopAnn where
  α := Int × List Ad
  keep := [0, 1, 2]
  okeep := []
  nxt := 9000
  env := fun _ x => [(6, .dat I64 x.1)]
  own := fun _ x => rowO x.2
  inv := fun s x => T2I (bRow AdT s 0).out (bDat I64 s 1).out x
  mu := fun _ x => (80 - x.1).toNat
  pick := some fun _ s => ((bDat I64 s 6).out, (bRow AdT s 0).out)
structure T3I (xs : List Ad) (n k : Int) (x : Int × Int × List Ad) : Prop where
  a : x.1 = 0 ∨ x.1 = 2 * k
  b : x.2.1 = x.1 + 2 * k
  an : x.1 ≤ n
  p : x.2.2.Perm xs
  u : UpOn ltA zA 0 x.1.toNat x.2.2
  v : Bls k.toNat n.toNat x.2.2
def t3A : LoopAnn where
  α := Int × Int × List Ad
  keep := [0, 1, 2, 6]
  okeep := []
  nxt := 9000
  env := fun _ x => [(7, .dat I64 x.1), (8, .dat I64 x.2.1)]
  own := fun _ x => rowO x.2.2
  inv := fun s x => T3I (bRow AdT s 0).out (bDat I64 s 1).out (bDat I64 s 6).out x
  mu := fun _ x => (100 - x.1).toNat
  pick := some fun _ s => ((bDat I64 s 7).out, (bDat I64 s 8).out, (bRow AdT s 0).out)
end Go.Proofs.YtkimpfoimblhjaaDoor.Ad
namespace Go.Proofs.YtkimpfoimblhjaaDoor.Ad
open Go Go.Eng Go.Lb Go.Ad Lb Go.Proofs.St
set_option maxRecDepth 100000
noncomputable def g96 : Cfg := { tab := Tb.tab, cons := [], inls := [(117, Tryd.f117)], loops := [], cuts := [], unroll := false, arrs := [], keys := [] }
noncomputable def g118 : Cfg := { tab := Tb.tab, cons := [], inls := [(135, Tryd.f135)], loops := [], cuts := [], unroll := false, arrs := [], keys := [] }
noncomputable def g98 : Cfg := { tab := Tb.tab, cons := [], inls := [(119, Tryd.f119)], loops := [], cuts := [], unroll := false, arrs := [], keys := [] }
noncomputable def g95 : Cfg := { tab := Tb.tab, cons := [], inls := [], loops := [(3, orA)], cuts := [], unroll := false, arrs := [], keys := [] }
noncomputable def g97 : Cfg := { tab := Tb.tab, cons := [(118, cCmp16)], inls := [], loops := [(2, lxA)], cuts := [], unroll := false, arrs := [], keys := [] }
noncomputable def g71 : Cfg := { tab := Tb.tab, cons := [(95, cOrC), (96, cCmp8), (97, cCmpL), (98, cCmp64)], inls := [], loops := [], cuts := [], unroll := false, arrs := [], keys := [] }
end Go.Proofs.YtkimpfoimblhjaaDoor.Ad
namespace Go.Proofs.YtkimpfoimblhjaaDoor.Ad
open Go Go.Eng Go.Lb Go.Ad Lb Go.Proofs.St
set_option maxRecDepth 100000
theorem v96_eq : vcFn g96 300 Tryd.f96 cCmp8 = ( ∀ (x : Int × Int × Unit), E true → bcase (!decide (x.1 = x.1)) (bcase (!decide (x.2.1 = x.2.1)) (((0 : Int), ()) = (cmpI x.1 x.2.1, ())) (((-1 : Int), ()) = (cmpI x.1 x.2.1, ()))) (bcase (!decide (x.2.1 = x.2.1)) (((1 :
  Int), ()) = (cmpI x.1 x.2.1, ())) (bcase (decide (x.1 < x.2.1)) (((-1 : Int), ()) = (cmpI x.1 x.2.1, ())) (bcase (decide (x.1 > x.2.1)) (((1 : Int), ()) = (cmpI x.1 x.2.1, ())) (((0 : Int), ()) = (cmpI x.1 x.2.1,
  ())))))) := by kernel_rfl
theorem v118_eq : vcFn g118 300 Tryd.f118 cCmp16 = ( ∀ (x : Int × Int × Unit), E true → bcase (!decide (x.1 = x.1)) (bcase (!decide (x.2.1 = x.2.1)) (((0 : Int), ()) = (cmpI x.1 x.2.1, ())) (((-1 : Int), ()) = (cmpI x.1 x.2.1, ()))) (bcase (!decide (x.2.1 = x.2.1)) (((1 :
  Int), ()) = (cmpI x.1 x.2.1, ())) (bcase (decide (x.1 < x.2.1)) (((-1 : Int), ()) = (cmpI x.1 x.2.1, ())) (bcase (decide (x.1 > x.2.1)) (((1 : Int), ()) = (cmpI x.1 x.2.1, ())) (((0 : Int), ()) = (cmpI x.1 x.2.1,
  ())))))) := by kernel_rfl
theorem v98_eq : vcFn g98 300 Tryd.f98 cCmp64 = ( ∀ (x : Int × Int × Unit), E true → bcase (!decide (x.1 = x.1)) (bcase (!decide (x.2.1 = x.2.1)) (((0 : Int), ()) = (cmpI x.1 x.2.1, ())) (((-1 : Int), ()) = (cmpI x.1 x.2.1, ()))) (bcase (!decide (x.2.1 = x.2.1)) (((1 :
  Int), ()) = (cmpI x.1 x.2.1, ())) (bcase (decide (x.1 < x.2.1)) (((-1 : Int), ()) = (cmpI x.1 x.2.1, ())) (bcase (decide (x.1 > x.2.1)) (((1 : Int), ()) = (cmpI x.1 x.2.1, ())) (((0 : Int), ()) = (cmpI x.1 x.2.1,
  ())))))) := by kernel_rfl
theorem v95_eq : vcFn g95 300 Tryd.f95 cOrC.T = ( ∀ (x : List Int × Unit), Wr (typedB (Ty.cons (Ty.sl I64) Ty.unit) x = true ∧ decide (List.length x.1 ≤ (1000 : Nat)) = true) → (Wr (OrI x.1 (0 : Int)) ∧ E ((0 : Int)) ∧ E x.1 ∧ E ((0 : Int)) ∧ E x.1 ∧ E ((↑(List.length
  x.1) : Int))) ∧ ∀ (x_1 : Int), Wr (OrI x.1 x_1) → bcase (decide (x_1 < (↑(List.length x.1) : Int))) (Wr ((0 : Int) ≤ x_1) ∧ Wr (x_1 < (↑(List.length x.1) : Int)) ∧ E true ∧ bcase (!decide (List.getD x.1 (Int.toNat x_1)
  (0 : Int) = (0 : Int))) ((List.getD x.1 (Int.toNat x_1) (0 : Int), ()) = (orF x.1, ())) (Wr (OrI x.1 (IntKind.wrap IntKind.i64 (x_1 + (1 : Int)))) ∧ Wr (List.length x.1 - Int.toNat (IntKind.wrap IntKind.i64 (x_1 + (1 :
  Int))) < List.length x.1 - Int.toNat x_1) ∧ E (IntKind.wrap IntKind.i64 (x_1 + (1 : Int))) ∧ E x.1 ∧ E ((0 : Int)) ∧ E x.1 ∧ E ((↑(List.length x.1) : Int)))) (((0 : Int), ()) = (orF x.1, ()))) := by kernel_rfl
theorem v97_eq : vcFn g97 300 Tryd.f97 cCmpL.T = ( ∀ (x : List Int × List Int × Unit), Wr (typedB (Ty.cons (Ty.sl U16) (Ty.cons (Ty.sl U16) Ty.unit)) x = true ∧ (decide (List.length x.1 ≤ (1000 : Nat)) && decide (List.length x.2.1 ≤ (1000 : Nat))) = true) → (Wr (LxI x.1
  x.2.1 (0 : Int)) ∧ E ((0 : Int)) ∧ E x.1 ∧ E x.2.1 ∧ E x.1 ∧ E ((↑(List.length x.1) : Int))) ∧ ∀ (x_1 : Int), Wr (LxI x.1 x.2.1 x_1) → bcase (decide (x_1 < (↑(List.length x.1) : Int))) (Wr ((0 : Int) ≤ x_1) ∧ Wr (x_1 <
  (↑(List.length x.1) : Int)) ∧ E true ∧ bcase (decide (x_1 ≥ (↑(List.length x.2.1) : Int))) (((1 : Int), ()) = (cmpL x.1 x.2.1, ())) (Wr ((0 : Int) ≤ x_1) ∧ Wr (x_1 < (↑(List.length x.2.1) : Int)) ∧ E true ∧ E true ∧
  bcase (!decide (cmpI (List.getD x.1 (Int.toNat x_1) (0 : Int)) (List.getD x.2.1 (Int.toNat x_1) (0 : Int)) = (0 : Int))) ((cmpI (List.getD x.1 (Int.toNat x_1) (0 : Int)) (List.getD x.2.1 (Int.toNat x_1) (0 : Int)), ())
  = (cmpL x.1 x.2.1, ())) (Wr (LxI x.1 x.2.1 (IntKind.wrap IntKind.i64 (x_1 + (1 : Int)))) ∧ Wr (List.length x.1 - Int.toNat (IntKind.wrap IntKind.i64 (x_1 + (1 : Int))) < List.length x.1 - Int.toNat x_1) ∧ E
  (IntKind.wrap IntKind.i64 (x_1 + (1 : Int))) ∧ E x.1 ∧ E x.2.1 ∧ E x.1 ∧ E ((↑(List.length x.1) : Int))))) (bcase (decide ((↑(List.length x.1) : Int) < (↑(List.length x.2.1) : Int))) (((-1 : Int), ()) = (cmpL x.1 x.2.1,
  ())) (((0 : Int), ()) = (cmpL x.1 x.2.1, ())))) := by kernel_rfl
theorem v71_eq : vcFn g71 300 Tryd.f71 cComp.T = ( ∀ (x : (Ad) × (Ad) × Unit), Wr (typedB (Ty.cons AdT (Ty.cons AdT Ty.unit)) x = true ∧ true = true) → E true ∧ Wr ((0 : Int) ≤ (0 : Int)) ∧ Wr ((0 : Int) ≤ (↑(8 : Nat) : Int)) ∧ Wr ((↑(8 : Nat) : Int) ≤ (↑(8 : Nat) :
  Int)) ∧ Wr ((0 : Int) ≤ (0 : Int)) ∧ Wr ((0 : Int) ≤ (↑(8 : Nat) : Int)) ∧ Wr ((↑(8 : Nat) : Int) ≤ (↑(8 : Nat) : Int)) ∧ Wr ((decide (List.length (List.drop (Int.toNat (0 : Int)) (List.take (Int.toNat (↑(8 : Nat) :
  Int)) (x.1.2.1.1 :: x.1.2.1.2.1 :: x.1.2.1.2.2.1 :: x.1.2.1.2.2.2.1 :: x.1.2.1.2.2.2.2.1 :: x.1.2.1.2.2.2.2.2.1 :: x.1.2.1.2.2.2.2.2.2.1 :: x.1.2.1.2.2.2.2.2.2.2.1 :: nilL Int))) ≤ (1000 : Nat)) && decide (List.length
  (List.drop (Int.toNat (0 : Int)) (List.take (Int.toNat (↑(8 : Nat) : Int)) (x.2.1.2.1.1 :: x.2.1.2.1.2.1 :: x.2.1.2.1.2.2.1 :: x.2.1.2.1.2.2.2.1 :: x.2.1.2.1.2.2.2.2.1 :: x.2.1.2.1.2.2.2.2.2.1 :: x.2.1.2.1.2.2.2.2.2.2.1
  :: x.2.1.2.1.2.2.2.2.2.2.2.1 :: nilL Int))) ≤ (1000 : Nat))) = true) ∧ E true ∧ Wr (decide (List.length (cmpI x.1.1 x.2.1.1 :: cmpL (List.drop (Int.toNat (0 : Int)) (List.take (Int.toNat (↑(8 : Nat) : Int)) (x.1.2.1.1
  :: x.1.2.1.2.1 :: x.1.2.1.2.2.1 :: x.1.2.1.2.2.2.1 :: x.1.2.1.2.2.2.2.1 :: x.1.2.1.2.2.2.2.2.1 :: x.1.2.1.2.2.2.2.2.2.1 :: x.1.2.1.2.2.2.2.2.2.2.1 :: nilL Int))) (List.drop (Int.toNat (0 : Int)) (List.take (Int.toNat
  (↑(8 : Nat) : Int)) (x.2.1.2.1.1 :: x.2.1.2.1.2.1 :: x.2.1.2.1.2.2.1 :: x.2.1.2.1.2.2.2.1 :: x.2.1.2.1.2.2.2.2.1 :: x.2.1.2.1.2.2.2.2.2.1 :: x.2.1.2.1.2.2.2.2.2.2.1 :: x.2.1.2.1.2.2.2.2.2.2.2.1 :: nilL Int))) :: cmpI
  x.1.2.2.1 x.2.1.2.2.1 :: nilL Int) ≤ (1000 : Nat)) = true) ∧ (orF (cmpI x.1.1 x.2.1.1 :: cmpL (List.drop (Int.toNat (0 : Int)) (List.take (Int.toNat (↑(8 : Nat) : Int)) (x.1.2.1.1 :: x.1.2.1.2.1 :: x.1.2.1.2.2.1 ::
  x.1.2.1.2.2.2.1 :: x.1.2.1.2.2.2.2.1 :: x.1.2.1.2.2.2.2.2.1 :: x.1.2.1.2.2.2.2.2.2.1 :: x.1.2.1.2.2.2.2.2.2.2.1 :: nilL Int))) (List.drop (Int.toNat (0 : Int)) (List.take (Int.toNat (↑(8 : Nat) : Int)) (x.2.1.2.1.1 ::
  x.2.1.2.1.2.1 :: x.2.1.2.1.2.2.1 :: x.2.1.2.1.2.2.2.1 :: x.2.1.2.1.2.2.2.2.1 :: x.2.1.2.1.2.2.2.2.2.1 :: x.2.1.2.1.2.2.2.2.2.2.1 :: x.2.1.2.1.2.2.2.2.2.2.2.1 :: nilL Int))) :: cmpI x.1.2.2.1 x.2.1.2.2.1 :: nilL Int),
  ()) = (cmpA x.1 x.2.1, ())) := by kernel_rfl
end Go.Proofs.YtkimpfoimblhjaaDoor.Ad
set_option linter.all false
namespace Go.Proofs.YtkimpfoimblhjaaDoor.Ad
open Go Go.Eng Go.Lb Go.Ad Lb Go.Proofs.St
set_option maxRecDepth 100000
theorem wrapS {n : Int} (h0 : -9000000000000000000 ≤ n) (h1 : n ≤ 9000000000000000000) : IntKind.wrap .i64 n = n := by
  simp [IntKind.wrap, IntKind.signed, IntKind.bits]; omega
theorem getD0 {l : List Int} {i : Nat} (h : i < l.length) : l.drop i = l.getD i 0 :: l.drop (i + 1) := by
  rw [List.drop_eq_getElem_cons h, List.getD_eq_getElem?_getD, List.getElem?_eq_getElem h]; rfl
theorem v96 : Vc g96 300 Tryd.f96 cCmp8 := by
  constructor
  rw [v96_eq]
  simp only [Wr_iff, E_iff, bcase_iff, true_and, and_true, decide_eq_true_eq, decide_eq_false_iff_not, Bool.and_eq_true, Bool.and_eq_false_iff, Bool.or_eq_true, Bool.or_eq_false_iff, Bool.not_eq_true', Bool.not_eq_false', Option.map_some, Option.getD_some, Option.isSome_some, Option.isSome_map, imp_self, nilL, noneO]
  rintro ⟨a, b, ⟨⟩⟩ -
  dsimp only
  unfold cmpI
  refine ⟨fun h => absurd trivial h, fun _ => ⟨fun h => absurd trivial h, fun _ => ⟨fun h => ?_, fun h => ⟨fun h2 => ?_, fun h2 => ?_⟩⟩⟩⟩
  · rw [decide_eq_true h]; rfl
  · rw [decide_eq_false h, decide_eq_true h2]; rfl
  · rw [decide_eq_false h, decide_eq_false h2]; rfl
theorem v118 : Vc g118 300 Tryd.f118 cCmp16 := by
  constructor
  rw [v118_eq]
  simp only [Wr_iff, E_iff, bcase_iff, true_and, and_true, decide_eq_true_eq, decide_eq_false_iff_not, Bool.and_eq_true, Bool.and_eq_false_iff, Bool.or_eq_true, Bool.or_eq_false_iff, Bool.not_eq_true', Bool.not_eq_false', Option.map_some, Option.getD_some, Option.isSome_some, Option.isSome_map, imp_self, nilL, noneO]
  rintro ⟨a, b, ⟨⟩⟩ -
  dsimp only
  unfold cmpI
  refine ⟨fun h => absurd trivial h, fun _ => ⟨fun h => absurd trivial h, fun _ => ⟨fun h => ?_, fun h => ⟨fun h2 => ?_, fun h2 => ?_⟩⟩⟩⟩
  · rw [decide_eq_true h]; rfl
  · rw [decide_eq_false h, decide_eq_true h2]; rfl
  · rw [decide_eq_false h, decide_eq_false h2]; rfl
theorem v98 : Vc g98 300 Tryd.f98 cCmp64 := by
  constructor
  rw [v98_eq]
  simp only [Wr_iff, E_iff, bcase_iff, true_and, and_true, decide_eq_true_eq, decide_eq_false_iff_not, Bool.and_eq_true, Bool.and_eq_false_iff, Bool.or_eq_true, Bool.or_eq_false_iff, Bool.not_eq_true', Bool.not_eq_false', Option.map_some, Option.getD_some, Option.isSome_some, Option.isSome_map, imp_self, nilL, noneO]
  rintro ⟨a, b, ⟨⟩⟩ -
  dsimp only
  unfold cmpI
  refine ⟨fun h => absurd trivial h, fun _ => ⟨fun h => absurd trivial h, fun _ => ⟨fun h => ?_, fun h => ⟨fun h2 => ?_, fun h2 => ?_⟩⟩⟩⟩
  · rw [decide_eq_true h]; rfl
  · rw [decide_eq_false h, decide_eq_true h2]; rfl
  · rw [decide_eq_false h, decide_eq_false h2]; rfl
theorem v95 : Vc g95 300 Tryd.f95 cOrC.T := by
  constructor
  rw [v95_eq]
  simp only [Wr_iff, E_iff, bcase_iff, true_and, and_true, decide_eq_true_eq, decide_eq_false_iff_not, Bool.and_eq_true, Bool.and_eq_false_iff, Bool.or_eq_true, Bool.or_eq_false_iff, Bool.not_eq_true', Bool.not_eq_false', Option.map_some, Option.getD_some, Option.isSome_some, Option.isSome_map, imp_self, nilL, noneO]
  rintro ⟨l, ⟨⟩⟩ ⟨-, hl⟩
  dsimp only at *
  refine ⟨⟨Int.le_refl _, by omega, rfl⟩, fun i hx => ⟨fun hi => ?_, fun hi => ?_⟩⟩
  · have h0 := hx.i0
    have hlt : i.toNat < l.length := by omega
    have e1 : IntKind.wrap .i64 (i + 1) = i + 1 := wrapS (by omega) (by omega)
    have e2 : (i + 1).toNat = i.toNat + 1 := by omega
    have he := hx.e
    rw [getD0 hlt] at he
    rw [e1]
    refine ⟨h0, hi, fun h => ?_, fun h => ⟨⟨by omega, by omega, ?_⟩, by omega⟩⟩
    · rw [← he, orF, decide_eq_false h]; rfl
    · rw [e2, ← he, orF, decide_eq_true h]; rfl
  · have he := hx.e
    have := hx.i0
    rw [List.drop_eq_nil_of_le (by omega)] at he
    rw [← he]; rfl
theorem v97 : Vc g97 300 Tryd.f97 cCmpL.T := by
  constructor
  rw [v97_eq]
  simp only [Wr_iff, E_iff, bcase_iff, true_and, and_true, decide_eq_true_eq, decide_eq_false_iff_not, Bool.and_eq_true, Bool.and_eq_false_iff, Bool.or_eq_true, Bool.or_eq_false_iff, Bool.not_eq_true', Bool.not_eq_false', Option.map_some, Option.getD_some, Option.isSome_some, Option.isSome_map, imp_self, nilL, noneO]
  rintro ⟨l, m, ⟨⟩⟩ ⟨-, hl, hm⟩
  dsimp only at *
  refine ⟨⟨Int.le_refl _, by omega, by omega, rfl⟩, fun i hx => ⟨fun hi => ?_, fun hi => ⟨fun hs => ?_, fun hs => ?_⟩⟩⟩
  · have h0 := hx.i0
    have hlt : i.toNat < l.length := by omega
    have e1 : IntKind.wrap .i64 (i + 1) = i + 1 := wrapS (by omega) (by omega)
    have e2 : (i + 1).toNat = i.toNat + 1 := by omega
    have he := hx.e
    have h2 := hx.i2
    rw [getD0 hlt] at he
    rw [e1]
    refine ⟨h0, hi, fun h => ?_, fun h => ?_⟩
    · rw [List.drop_eq_nil_of_le (show m.length ≤ i.toNat by omega)] at he
      rw [← he]; rfl
    · have hlm : i.toNat < m.length := by omega
      rw [getD0 hlm] at he
      refine ⟨h0, by omega, fun h => ?_, fun h => ⟨⟨by omega, by omega, by omega, ?_⟩, by omega⟩⟩
      · rw [← he, cmpL, decide_eq_false h]; rfl
      · rw [e2, ← he, cmpL, decide_eq_true h]; rfl
  · have he := hx.e
    have := hx.i0
    have h2 := hx.i2
    have h1 := hx.i1
    rw [List.drop_eq_nil_of_le (show l.length ≤ i.toNat by omega)] at he
    have hlm : i.toNat < m.length := by omega
    rw [getD0 hlm] at he
    rw [← he]; rfl
  · have he := hx.e
    have := hx.i0
    have h2 := hx.i2
    have h1 := hx.i1
    rw [List.drop_eq_nil_of_le (show l.length ≤ i.toNat by omega), List.drop_eq_nil_of_le (show m.length ≤ i.toNat by omega)] at he
    rw [← he]; rfl
theorem v71 : Vc g71 300 Tryd.f71 cComp.T := by
  constructor
  rw [v71_eq]
  simp only [Wr_iff, E_iff, bcase_iff, true_and, and_true, decide_eq_true_eq, decide_eq_false_iff_not, Bool.and_eq_true, Bool.and_eq_false_iff, Bool.or_eq_true, Bool.or_eq_false_iff, Bool.not_eq_true', Bool.not_eq_false', Option.map_some, Option.getD_some, Option.isSome_some, Option.isSome_map, imp_self, nilL, noneO]
  rintro ⟨⟨f, ⟨a1, a2, a3, a4, a5, a6, a7, a8, ⟨⟩⟩, p, ⟨⟩⟩, ⟨f', ⟨b1, b2, b3, b4, b5, b6, b7, b8, ⟨⟩⟩, p', ⟨⟩⟩, ⟨⟩⟩ -
  dsimp only
  exact ⟨by decide, by decide, by decide, by decide, by decide, by decide, ⟨by show 8 ≤ 1000; decide, by show 8 ≤ 1000; decide⟩, by show 3 ≤ 1000; decide, rfl⟩
end Go.Proofs.YtkimpfoimblhjaaDoor.Ad
namespace Go.Proofs.YtkimpfoimblhjaaDoor.Ad
open Go Go.Eng Go.Lb Go.Ad Lb Go.Proofs.St
set_option maxRecDepth 100000
theorem val96 : Valid Tryd.prog (fun _ => True) 96 cCmp8 := mkValid (fun _ _ _ _ => trivial) Tb.mix Tb.tab_ok Tb.eqs_ok g96 rfl allV_nil (allI_cons Tryd.func117 (by kernel_rfl) allI_nil) Tryd.func96 (by kernel_rfl) v96
theorem val118 : Valid Tryd.prog (fun _ => True) 118 cCmp16 := mkValid (fun _ _ _ _ => trivial) Tb.mix Tb.tab_ok Tb.eqs_ok g118 rfl allV_nil (allI_cons Tryd.func135 (by kernel_rfl) allI_nil) Tryd.func118 (by kernel_rfl) v118
theorem val98 : Valid Tryd.prog (fun _ => True) 98 cCmp64 := mkValid (fun _ _ _ _ => trivial) Tb.mix Tb.tab_ok Tb.eqs_ok g98 rfl allV_nil (allI_cons Tryd.func119 (by kernel_rfl) allI_nil) Tryd.func98 (by kernel_rfl) v98
theorem val95 : Valid Tryd.prog (fun _ => True) 95 cOrC := Valid.T (mkValid (fun _ _ _ _ => trivial) Tb.mix Tb.tab_ok Tb.eqs_ok g95 rfl allV_nil allI_nil Tryd.func95 (by kernel_rfl) v95)
theorem val97 : Valid Tryd.prog (fun _ => True) 97 cCmpL := Valid.T (mkValid (fun _ _ _ _ => trivial) Tb.mix Tb.tab_ok Tb.eqs_ok g97 rfl (allV_cons val118 allV_nil) allI_nil Tryd.func97 (by kernel_rfl) v97)
theorem val71 : Valid Tryd.prog (fun _ => True) 71 cComp := Valid.T (mkValid (fun _ _ _ _ => trivial) Tb.mix Tb.tab_ok Tb.eqs_ok g71 rfl (allV_cons val95 (allV_cons val96 (allV_cons val97 (allV_cons val98 allV_nil)))) allI_nil Tryd.func71 (by kernel_rfl) v71)
end Go.Proofs.YtkimpfoimblhjaaDoor.Ad
namespace Go.Proofs.YtkimpfoimblhjaaDoor.Ad
open Go Go.Eng Go.Lb Go.Ad Lb Go.Proofs.St
set_option maxRecDepth 100000
noncomputable def g149 : Cfg := { tab := Tb.tab, cons := [(71, cComp)], mcons := [], inls := [], loops := [(1500001, swA)], cuts := [], unroll := false, arrs := [], keys := [] }
noncomputable def g136 : Cfg := { tab := Tb.tab, cons := [(71, cComp)], mcons := [(149, cSwr)], inls := [], loops := [(1370002, roA)], cuts := [], unroll := false, arrs := [], keys := [] }
noncomputable def g120 : Cfg := { tab := Tb.tab, cons := [(71, cComp)], mcons := [], inls := [], loops := [(1210001, ioA), (1210004, iiA)], cuts := [], unroll := false, arrs := [], keys := [] }
noncomputable def g121 (k : Nat) : Cfg := { tab := Tb.tab, cons := [(71, cComp)], mcons := [(136, cRotM), (121, cSym k)], inls := [], loops := [(1220003, s1A), (1220009, u1A), (1220015, s2A), (1220021, u2A), (1220033, s3A)], cuts := [(1220032, cutA)], unroll := false, arrs := [], keys := [] }
noncomputable def g99 : Cfg := { tab := Tb.tab, cons := [(71, cComp)], mcons := [(120, cInsM), (121, cSym 100)], inls := [], loops := [(1000002, t1A), (1000007, t2A), (1000009, t3A)], cuts := [], unroll := false, arrs := [], keys := [] }
noncomputable def g73 : Cfg := { tab := Tb.tab, cons := [(71, cComp)], mcons := [(99, cSta)], inls := [], loops := [], cuts := [], unroll := false, arrs := [], keys := [] }
end Go.Proofs.YtkimpfoimblhjaaDoor.Ad
namespace Go.Proofs.YtkimpfoimblhjaaDoor.Ad
open Go Go.Eng Go.Lb Go.Ad Lb Go.Proofs.St
set_option maxRecDepth 100000
theorem m149_eq : vcFnM g149 149 400 Tryd.f149 cSwr = ( ∀ (xs : List (Ad)) (y : Int × Int × Int × Unit), Wr (SwP xs y.1 y.2.1 y.2.2.1) → (Wr (SwI y.2.2.1 (0 : Int)) ∧ E ((0 : Int)) ∧ E y.1 ∧ E y.2.1 ∧ E y.2.2.1 ∧ Wr (xs = swrF zA (Int.toNat y.1) (Int.toNat y.2.1) (Int.toNat
  (0 : Int)) xs)) ∧ ∀ (x : Int), Wr (SwI y.2.2.1 x) → bcase (decide (x < y.2.2.1)) (Wr ((0 : Int) ≤ IntKind.wrap IntKind.i64 (y.2.1 + x)) ∧ Wr (IntKind.wrap IntKind.i64 (y.2.1 + x) < (↑(List.length (swrF zA (Int.toNat
  y.1) (Int.toNat y.2.1) (Int.toNat x) xs)) : Int)) ∧ Wr ((0 : Int) ≤ IntKind.wrap IntKind.i64 (y.1 + x)) ∧ Wr (IntKind.wrap IntKind.i64 (y.1 + x) < (↑(List.length (swrF zA (Int.toNat y.1) (Int.toNat y.2.1) (Int.toNat x)
  xs)) : Int)) ∧ Wr ((0 : Int) ≤ IntKind.wrap IntKind.i64 (y.1 + x)) ∧ Wr (IntKind.wrap IntKind.i64 (y.1 + x) < (↑(List.length (swrF zA (Int.toNat y.1) (Int.toNat y.2.1) (Int.toNat x) xs)) : Int)) ∧ Wr ((0 : Int) ≤
  IntKind.wrap IntKind.i64 (y.2.1 + x)) ∧ Wr (IntKind.wrap IntKind.i64 (y.2.1 + x) < (↑(List.length (List.set (swrF zA (Int.toNat y.1) (Int.toNat y.2.1) (Int.toNat x) xs) (Int.toNat (IntKind.wrap IntKind.i64 (y.1 + x)))
  (List.getD (swrF zA (Int.toNat y.1) (Int.toNat y.2.1) (Int.toNat x) xs) (Int.toNat (IntKind.wrap IntKind.i64 (y.2.1 + x))) (Ty.zero AdT)))) : Int)) ∧ Wr (SwI y.2.2.1 (IntKind.wrap IntKind.i64 (x + (1 : Int)))) ∧ Wr
  (Int.toNat (y.2.2.1 - IntKind.wrap IntKind.i64 (x + (1 : Int))) < Int.toNat (y.2.2.1 - x)) ∧ E (IntKind.wrap IntKind.i64 (x + (1 : Int))) ∧ E y.1 ∧ E y.2.1 ∧ E y.2.2.1 ∧ Wr (List.set (List.set (swrF zA (Int.toNat y.1)
  (Int.toNat y.2.1) (Int.toNat x) xs) (Int.toNat (IntKind.wrap IntKind.i64 (y.1 + x))) (List.getD (swrF zA (Int.toNat y.1) (Int.toNat y.2.1) (Int.toNat x) xs) (Int.toNat (IntKind.wrap IntKind.i64 (y.2.1 + x))) (Ty.zero
  AdT))) (Int.toNat (IntKind.wrap IntKind.i64 (y.2.1 + x))) (List.getD (swrF zA (Int.toNat y.1) (Int.toNat y.2.1) (Int.toNat x) xs) (Int.toNat (IntKind.wrap IntKind.i64 (y.1 + x))) (Ty.zero AdT)) = swrF zA (Int.toNat y.1)
  (Int.toNat y.2.1) (Int.toNat (IntKind.wrap IntKind.i64 (x + (1 : Int)))) xs)) (swrF zA (Int.toNat y.1) (Int.toNat y.2.1) (Int.toNat x) xs = swrF zA (Int.toNat y.1) (Int.toNat y.2.1) (Int.toNat y.2.2.1) xs)) := by kernel_rfl
theorem m136_eq : vcFnM g136 136 400 Tryd.f136 cRotM = ( ∀ (xs : List (Ad)) (y : Int × Int × Int × Unit), Wr (RoP xs y.1 y.2.1 y.2.2.1) → (Wr (RoI xs y.1 y.2.1 y.2.2.1 (IntKind.wrap IntKind.i64 (y.2.1 - y.1), IntKind.wrap IntKind.i64 (y.2.2.1 - y.2.1), xs)) ∧ E (IntKind.wrap
  IntKind.i64 (y.2.1 - y.1)) ∧ E (IntKind.wrap IntKind.i64 (y.2.2.1 - y.2.1)) ∧ E y.1 ∧ E y.2.1 ∧ E y.2.2.1 ∧ E xs) ∧ ∀ (x : Int × Int × List (Ad)), Wr (RoI xs y.1 y.2.1 y.2.2.1 x) → bcase (!decide (x.1 = x.2.1)) (bcase
  (decide (x.1 > x.2.1)) (Wr (SwP x.2.2 (IntKind.wrap IntKind.i64 (y.2.1 - x.1)) y.2.1 x.2.1) ∧ Wr (RoI xs y.1 y.2.1 y.2.2.1 (IntKind.wrap IntKind.i64 (x.1 - x.2.1), x.2.1, swrF zA (Int.toNat (IntKind.wrap IntKind.i64
  (y.2.1 - x.1))) (Int.toNat y.2.1) (Int.toNat x.2.1) x.2.2)) ∧ Wr (Int.toNat (IntKind.wrap IntKind.i64 (x.1 - x.2.1) + x.2.1) < Int.toNat (x.1 + x.2.1)) ∧ E (IntKind.wrap IntKind.i64 (x.1 - x.2.1)) ∧ E x.2.1 ∧ E y.1 ∧ E
  y.2.1 ∧ E y.2.2.1 ∧ E (swrF zA (Int.toNat (IntKind.wrap IntKind.i64 (y.2.1 - x.1))) (Int.toNat y.2.1) (Int.toNat x.2.1) x.2.2)) (Wr (SwP x.2.2 (IntKind.wrap IntKind.i64 (y.2.1 - x.1)) (IntKind.wrap IntKind.i64
  (IntKind.wrap IntKind.i64 (y.2.1 + x.2.1) - x.1)) x.1) ∧ Wr (RoI xs y.1 y.2.1 y.2.2.1 (x.1, IntKind.wrap IntKind.i64 (x.2.1 - x.1), swrF zA (Int.toNat (IntKind.wrap IntKind.i64 (y.2.1 - x.1))) (Int.toNat (IntKind.wrap
  IntKind.i64 (IntKind.wrap IntKind.i64 (y.2.1 + x.2.1) - x.1))) (Int.toNat x.1) x.2.2)) ∧ Wr (Int.toNat (x.1 + IntKind.wrap IntKind.i64 (x.2.1 - x.1)) < Int.toNat (x.1 + x.2.1)) ∧ E x.1 ∧ E (IntKind.wrap IntKind.i64
  (x.2.1 - x.1)) ∧ E y.1 ∧ E y.2.1 ∧ E y.2.2.1 ∧ E (swrF zA (Int.toNat (IntKind.wrap IntKind.i64 (y.2.1 - x.1))) (Int.toNat (IntKind.wrap IntKind.i64 (IntKind.wrap IntKind.i64 (y.2.1 + x.2.1) - x.1))) (Int.toNat x.1)
  x.2.2))) (Wr (SwP x.2.2 (IntKind.wrap IntKind.i64 (y.2.1 - x.1)) y.2.1 x.1) ∧ swrF zA (Int.toNat (IntKind.wrap IntKind.i64 (y.2.1 - x.1))) (Int.toNat y.2.1) (Int.toNat x.1) x.2.2 = rotF (Int.toNat y.1) (Int.toNat y.2.1)
  (Int.toNat y.2.2.1) xs)) := by kernel_rfl
theorem m120_eq : vcFnM g120 120 400 Tryd.f120 cInsM = ( ∀ (xs : List (Ad)) (y : Int × Int × Unit), Wr (InP xs y.1 y.2.1) → (Wr (IoI xs y.1 y.2.1 (IntKind.wrap IntKind.i64 (y.1 + (1 : Int)), xs)) ∧ E (IntKind.wrap IntKind.i64 (y.1 + (1 : Int))) ∧ E y.1 ∧ E y.2.1 ∧ E xs) ∧ ∀ (x
  : Int × List (Ad)), Wr (IoI xs y.1 y.2.1 x) → bcase (decide (x.1 < y.2.1)) ((Wr (IiI x.2 y.1 x.1 x) ∧ E x.1 ∧ E y.1 ∧ E y.2.1 ∧ E x.1 ∧ E x.2) ∧ ∀ (x_1 : Int × List (Ad)), Wr (IiI x.2 y.1 x.1 x_1) → Wr (decide (x_1.1 >
  y.1) = true → (0 : Int) ≤ x_1.1) ∧ Wr (decide (x_1.1 > y.1) = true → x_1.1 < (↑(List.length x_1.2) : Int)) ∧ Wr (decide (x_1.1 > y.1) = true → (0 : Int) ≤ IntKind.wrap IntKind.i64 (x_1.1 - (1 : Int))) ∧ Wr (decide
  (x_1.1 > y.1) = true → IntKind.wrap IntKind.i64 (x_1.1 - (1 : Int)) < (↑(List.length x_1.2) : Int)) ∧ Wr (decide (x_1.1 > y.1) = true → true = true) ∧ bcase (decide (x_1.1 > y.1) && decide (cmpA (List.getD x_1.2
  (Int.toNat x_1.1) (Ty.zero AdT)) (List.getD x_1.2 (Int.toNat (IntKind.wrap IntKind.i64 (x_1.1 - (1 : Int)))) (Ty.zero AdT)) < (0 : Int))) (Wr ((0 : Int) ≤ IntKind.wrap IntKind.i64 (x_1.1 - (1 : Int))) ∧ Wr (IntKind.wrap
  IntKind.i64 (x_1.1 - (1 : Int)) < (↑(List.length x_1.2) : Int)) ∧ Wr ((0 : Int) ≤ x_1.1) ∧ Wr (x_1.1 < (↑(List.length x_1.2) : Int)) ∧ Wr ((0 : Int) ≤ x_1.1) ∧ Wr (x_1.1 < (↑(List.length x_1.2) : Int)) ∧ Wr ((0 : Int) ≤
  IntKind.wrap IntKind.i64 (x_1.1 - (1 : Int))) ∧ Wr (IntKind.wrap IntKind.i64 (x_1.1 - (1 : Int)) < (↑(List.length (List.set x_1.2 (Int.toNat x_1.1) (List.getD x_1.2 (Int.toNat (IntKind.wrap IntKind.i64 (x_1.1 - (1 :
  Int)))) (Ty.zero AdT)))) : Int)) ∧ Wr (IiI x.2 y.1 x.1 (IntKind.wrap IntKind.i64 (x_1.1 - (1 : Int)), List.set (List.set x_1.2 (Int.toNat x_1.1) (List.getD x_1.2 (Int.toNat (IntKind.wrap IntKind.i64 (x_1.1 - (1 :
  Int)))) (Ty.zero AdT))) (Int.toNat (IntKind.wrap IntKind.i64 (x_1.1 - (1 : Int)))) (List.getD x_1.2 (Int.toNat x_1.1) (Ty.zero AdT)))) ∧ Wr (Int.toNat (IntKind.wrap IntKind.i64 (x_1.1 - (1 : Int)) - y.1) < Int.toNat
  (x_1.1 - y.1)) ∧ E (IntKind.wrap IntKind.i64 (x_1.1 - (1 : Int))) ∧ E y.1 ∧ E y.2.1 ∧ E x.1 ∧ E (List.set (List.set x_1.2 (Int.toNat x_1.1) (List.getD x_1.2 (Int.toNat (IntKind.wrap IntKind.i64 (x_1.1 - (1 : Int))))
  (Ty.zero AdT))) (Int.toNat (IntKind.wrap IntKind.i64 (x_1.1 - (1 : Int)))) (List.getD x_1.2 (Int.toNat x_1.1) (Ty.zero AdT)))) (Wr (IoI xs y.1 y.2.1 (IntKind.wrap IntKind.i64 (x.1 + (1 : Int)), x_1.2)) ∧ Wr (Int.toNat
  (y.2.1 - IntKind.wrap IntKind.i64 (x.1 + (1 : Int))) < Int.toNat (y.2.1 - x.1)) ∧ E (IntKind.wrap IntKind.i64 (x.1 + (1 : Int))) ∧ E y.1 ∧ E y.2.1 ∧ E x_1.2)) (x.2 = segS ltA (Int.toNat y.1) (Int.toNat y.2.1) xs)) := by kernel_rfl
theorem m121_eq (k : Nat) : vcFnM (g121 k) 121 400 Tryd.f121 (cSym (k + 1)) = ( ∀ (xs : List (Ad)) (y : Int × Int × Int × Unit), Wr (MeP (k + (1 : Nat)) xs y.1 y.2.1 y.2.2.1) → bcase (decide (IntKind.wrap IntKind.i64 (y.2.1 - y.1) = (1 : Int))) ((Wr (S1I xs y.1 y.2.1 y.2.2.1 (y.2.1, y.2.2.1)) ∧ E
  y.2.1 ∧ E y.2.2.1 ∧ E y.1 ∧ E y.2.1 ∧ E y.2.2.1 ∧ E xs) ∧ ∀ (x : Int × Int), Wr (S1I xs y.1 y.2.1 y.2.2.1 x) → bcase (decide (x.1 < x.2)) (Wr ((0 : Int) ≤ (1 : Int)) ∧ Wr ((0 : Int) ≤ IntKind.wrap IntKind.i64 (Int.fdiv
  (IntKind.wrap IntKind.u64 (IntKind.wrap IntKind.i64 (x.1 + x.2))) ((2 : Int) ^ Min.min (Int.toNat (1 : Int)) (IntKind.bits IntKind.u64)))) ∧ Wr (IntKind.wrap IntKind.i64 (Int.fdiv (IntKind.wrap IntKind.u64 (IntKind.wrap
  IntKind.i64 (x.1 + x.2))) ((2 : Int) ^ Min.min (Int.toNat (1 : Int)) (IntKind.bits IntKind.u64))) < (↑(List.length xs) : Int)) ∧ Wr ((0 : Int) ≤ y.1) ∧ Wr (y.1 < (↑(List.length xs) : Int)) ∧ E true ∧ bcase (decide (cmpA
  (List.getD xs (Int.toNat (IntKind.wrap IntKind.i64 (Int.fdiv (IntKind.wrap IntKind.u64 (IntKind.wrap IntKind.i64 (x.1 + x.2))) ((2 : Int) ^ Min.min (Int.toNat (1 : Int)) (IntKind.bits IntKind.u64))))) (Ty.zero AdT))
  (List.getD xs (Int.toNat y.1) (Ty.zero AdT)) < (0 : Int))) (Wr (S1I xs y.1 y.2.1 y.2.2.1 (IntKind.wrap IntKind.i64 (IntKind.wrap IntKind.i64 (Int.fdiv (IntKind.wrap IntKind.u64 (IntKind.wrap IntKind.i64 (x.1 + x.2)))
  ((2 : Int) ^ Min.min (Int.toNat (1 : Int)) (IntKind.bits IntKind.u64))) + (1 : Int)), x.2)) ∧ Wr (Int.toNat (x.2 - IntKind.wrap IntKind.i64 (IntKind.wrap IntKind.i64 (Int.fdiv (IntKind.wrap IntKind.u64 (IntKind.wrap
  IntKind.i64 (x.1 + x.2))) ((2 : Int) ^ Min.min (Int.toNat (1 : Int)) (IntKind.bits IntKind.u64))) + (1 : Int))) < Int.toNat (x.2 - x.1)) ∧ E (IntKind.wrap IntKind.i64 (IntKind.wrap IntKind.i64 (Int.fdiv (IntKind.wrap
  IntKind.u64 (IntKind.wrap IntKind.i64 (x.1 + x.2))) ((2 : Int) ^ Min.min (Int.toNat (1 : Int)) (IntKind.bits IntKind.u64))) + (1 : Int))) ∧ E x.2 ∧ E y.1 ∧ E y.2.1 ∧ E y.2.2.1 ∧ E xs) (Wr (S1I xs y.1 y.2.1 y.2.2.1 (x.1,
  IntKind.wrap IntKind.i64 (Int.fdiv (IntKind.wrap IntKind.u64 (IntKind.wrap IntKind.i64 (x.1 + x.2))) ((2 : Int) ^ Min.min (Int.toNat (1 : Int)) (IntKind.bits IntKind.u64))))) ∧ Wr (Int.toNat (IntKind.wrap IntKind.i64
  (Int.fdiv (IntKind.wrap IntKind.u64 (IntKind.wrap IntKind.i64 (x.1 + x.2))) ((2 : Int) ^ Min.min (Int.toNat (1 : Int)) (IntKind.bits IntKind.u64))) - x.1) < Int.toNat (x.2 - x.1)) ∧ E x.1 ∧ E (IntKind.wrap IntKind.i64
  (Int.fdiv (IntKind.wrap IntKind.u64 (IntKind.wrap IntKind.i64 (x.1 + x.2))) ((2 : Int) ^ Min.min (Int.toNat (1 : Int)) (IntKind.bits IntKind.u64)))) ∧ E y.1 ∧ E y.2.1 ∧ E y.2.2.1 ∧ E xs)) ((Wr (U1I y.1 x.1 y.1) ∧ E y.1
  ∧ E y.1 ∧ E y.2.1 ∧ E y.2.2.1 ∧ E x.1 ∧ Wr (xs = rotF (Int.toNat y.1) (Int.toNat y.1 + (1 : Nat)) (Int.toNat y.1 + (1 : Nat)) xs)) ∧ ∀ (x_1 : Int), Wr (U1I y.1 x.1 x_1) → bcase (decide (x_1 < IntKind.wrap IntKind.i64
  (x.1 - (1 : Int)))) (Wr ((0 : Int) ≤ IntKind.wrap IntKind.i64 (x_1 + (1 : Int))) ∧ Wr (IntKind.wrap IntKind.i64 (x_1 + (1 : Int)) < (↑(List.length (rotF (Int.toNat y.1) (Int.toNat y.1 + (1 : Nat)) (Int.toNat x_1 + (1 :
  Nat)) xs)) : Int)) ∧ Wr ((0 : Int) ≤ x_1) ∧ Wr (x_1 < (↑(List.length (rotF (Int.toNat y.1) (Int.toNat y.1 + (1 : Nat)) (Int.toNat x_1 + (1 : Nat)) xs)) : Int)) ∧ Wr ((0 : Int) ≤ x_1) ∧ Wr (x_1 < (↑(List.length (rotF
  (Int.toNat y.1) (Int.toNat y.1 + (1 : Nat)) (Int.toNat x_1 + (1 : Nat)) xs)) : Int)) ∧ Wr ((0 : Int) ≤ IntKind.wrap IntKind.i64 (x_1 + (1 : Int))) ∧ Wr (IntKind.wrap IntKind.i64 (x_1 + (1 : Int)) < (↑(List.length
  (List.set (rotF (Int.toNat y.1) (Int.toNat y.1 + (1 : Nat)) (Int.toNat x_1 + (1 : Nat)) xs) (Int.toNat x_1) (List.getD (rotF (Int.toNat y.1) (Int.toNat y.1 + (1 : Nat)) (Int.toNat x_1 + (1 : Nat)) xs) (Int.toNat
  (IntKind.wrap IntKind.i64 (x_1 + (1 : Int)))) (Ty.zero AdT)))) : Int)) ∧ Wr (U1I y.1 x.1 (IntKind.wrap IntKind.i64 (x_1 + (1 : Int)))) ∧ Wr (Int.toNat (x.1 - IntKind.wrap IntKind.i64 (x_1 + (1 : Int))) < Int.toNat (x.1
  - x_1)) ∧ E (IntKind.wrap IntKind.i64 (x_1 + (1 : Int))) ∧ E y.1 ∧ E y.2.1 ∧ E y.2.2.1 ∧ E x.1 ∧ Wr (List.set (List.set (rotF (Int.toNat y.1) (Int.toNat y.1 + (1 : Nat)) (Int.toNat x_1 + (1 : Nat)) xs) (Int.toNat x_1)
  (List.getD (rotF (Int.toNat y.1) (Int.toNat y.1 + (1 : Nat)) (Int.toNat x_1 + (1 : Nat)) xs) (Int.toNat (IntKind.wrap IntKind.i64 (x_1 + (1 : Int)))) (Ty.zero AdT))) (Int.toNat (IntKind.wrap IntKind.i64 (x_1 + (1 :
  Int)))) (List.getD (rotF (Int.toNat y.1) (Int.toNat y.1 + (1 : Nat)) (Int.toNat x_1 + (1 : Nat)) xs) (Int.toNat x_1) (Ty.zero AdT)) = rotF (Int.toNat y.1) (Int.toNat y.1 + (1 : Nat)) (Int.toNat (IntKind.wrap IntKind.i64
  (x_1 + (1 : Int))) + (1 : Nat)) xs)) (rotF (Int.toNat y.1) (Int.toNat y.1 + (1 : Nat)) (Int.toNat x_1 + (1 : Nat)) xs = segS ltA (Int.toNat y.1) (Int.toNat y.2.2.1) xs))) (bcase (decide (IntKind.wrap IntKind.i64
  (y.2.2.1 - y.2.1) = (1 : Int))) ((Wr (S2I xs y.1 y.2.1 (y.1, y.2.1)) ∧ E y.1 ∧ E y.2.1 ∧ E y.1 ∧ E y.2.1 ∧ E y.2.2.1 ∧ E xs) ∧ ∀ (x : Int × Int), Wr (S2I xs y.1 y.2.1 x) → bcase (decide (x.1 < x.2)) (Wr ((0 : Int) ≤ (1
  : Int)) ∧ Wr ((0 : Int) ≤ y.2.1) ∧ Wr (y.2.1 < (↑(List.length xs) : Int)) ∧ Wr ((0 : Int) ≤ IntKind.wrap IntKind.i64 (Int.fdiv (IntKind.wrap IntKind.u64 (IntKind.wrap IntKind.i64 (x.1 + x.2))) ((2 : Int) ^ Min.min
  (Int.toNat (1 : Int)) (IntKind.bits IntKind.u64)))) ∧ Wr (IntKind.wrap IntKind.i64 (Int.fdiv (IntKind.wrap IntKind.u64 (IntKind.wrap IntKind.i64 (x.1 + x.2))) ((2 : Int) ^ Min.min (Int.toNat (1 : Int)) (IntKind.bits
  IntKind.u64))) < (↑(List.length xs) : Int)) ∧ E true ∧ bcase (!decide (cmpA (List.getD xs (Int.toNat y.2.1) (Ty.zero AdT)) (List.getD xs (Int.toNat (IntKind.wrap IntKind.i64 (Int.fdiv (IntKind.wrap IntKind.u64
  (IntKind.wrap IntKind.i64 (x.1 + x.2))) ((2 : Int) ^ Min.min (Int.toNat (1 : Int)) (IntKind.bits IntKind.u64))))) (Ty.zero AdT)) < (0 : Int))) (Wr (S2I xs y.1 y.2.1 (IntKind.wrap IntKind.i64 (IntKind.wrap IntKind.i64
  (Int.fdiv (IntKind.wrap IntKind.u64 (IntKind.wrap IntKind.i64 (x.1 + x.2))) ((2 : Int) ^ Min.min (Int.toNat (1 : Int)) (IntKind.bits IntKind.u64))) + (1 : Int)), x.2)) ∧ Wr (Int.toNat (x.2 - IntKind.wrap IntKind.i64
  (IntKind.wrap IntKind.i64 (Int.fdiv (IntKind.wrap IntKind.u64 (IntKind.wrap IntKind.i64 (x.1 + x.2))) ((2 : Int) ^ Min.min (Int.toNat (1 : Int)) (IntKind.bits IntKind.u64))) + (1 : Int))) < Int.toNat (x.2 - x.1)) ∧ E
  (IntKind.wrap IntKind.i64 (IntKind.wrap IntKind.i64 (Int.fdiv (IntKind.wrap IntKind.u64 (IntKind.wrap IntKind.i64 (x.1 + x.2))) ((2 : Int) ^ Min.min (Int.toNat (1 : Int)) (IntKind.bits IntKind.u64))) + (1 : Int))) ∧ E
  x.2 ∧ E y.1 ∧ E y.2.1 ∧ E y.2.2.1 ∧ E xs) (Wr (S2I xs y.1 y.2.1 (x.1, IntKind.wrap IntKind.i64 (Int.fdiv (IntKind.wrap IntKind.u64 (IntKind.wrap IntKind.i64 (x.1 + x.2))) ((2 : Int) ^ Min.min (Int.toNat (1 : Int))
  (IntKind.bits IntKind.u64))))) ∧ Wr (Int.toNat (IntKind.wrap IntKind.i64 (Int.fdiv (IntKind.wrap IntKind.u64 (IntKind.wrap IntKind.i64 (x.1 + x.2))) ((2 : Int) ^ Min.min (Int.toNat (1 : Int)) (IntKind.bits
  IntKind.u64))) - x.1) < Int.toNat (x.2 - x.1)) ∧ E x.1 ∧ E (IntKind.wrap IntKind.i64 (Int.fdiv (IntKind.wrap IntKind.u64 (IntKind.wrap IntKind.i64 (x.1 + x.2))) ((2 : Int) ^ Min.min (Int.toNat (1 : Int)) (IntKind.bits
  IntKind.u64)))) ∧ E y.1 ∧ E y.2.1 ∧ E y.2.2.1 ∧ E xs)) ((Wr (U2I y.2.1 x.1 y.2.1) ∧ E y.2.1 ∧ E y.1 ∧ E y.2.1 ∧ E y.2.2.1 ∧ E x.1 ∧ Wr (xs = rotF (Int.toNat y.2.1) (Int.toNat y.2.1) (Int.toNat y.2.1 + (1 : Nat)) xs)) ∧
  ∀ (x_1 : Int), Wr (U2I y.2.1 x.1 x_1) → bcase (decide (x_1 > x.1)) (Wr ((0 : Int) ≤ IntKind.wrap IntKind.i64 (x_1 - (1 : Int))) ∧ Wr (IntKind.wrap IntKind.i64 (x_1 - (1 : Int)) < (↑(List.length (rotF (Int.toNat x_1)
  (Int.toNat y.2.1) (Int.toNat y.2.1 + (1 : Nat)) xs)) : Int)) ∧ Wr ((0 : Int) ≤ x_1) ∧ Wr (x_1 < (↑(List.length (rotF (Int.toNat x_1) (Int.toNat y.2.1) (Int.toNat y.2.1 + (1 : Nat)) xs)) : Int)) ∧ Wr ((0 : Int) ≤ x_1) ∧
  Wr (x_1 < (↑(List.length (rotF (Int.toNat x_1) (Int.toNat y.2.1) (Int.toNat y.2.1 + (1 : Nat)) xs)) : Int)) ∧ Wr ((0 : Int) ≤ IntKind.wrap IntKind.i64 (x_1 - (1 : Int))) ∧ Wr (IntKind.wrap IntKind.i64 (x_1 - (1 : Int))
  < (↑(List.length (List.set (rotF (Int.toNat x_1) (Int.toNat y.2.1) (Int.toNat y.2.1 + (1 : Nat)) xs) (Int.toNat x_1) (List.getD (rotF (Int.toNat x_1) (Int.toNat y.2.1) (Int.toNat y.2.1 + (1 : Nat)) xs) (Int.toNat
  (IntKind.wrap IntKind.i64 (x_1 - (1 : Int)))) (Ty.zero AdT)))) : Int)) ∧ Wr (U2I y.2.1 x.1 (IntKind.wrap IntKind.i64 (x_1 - (1 : Int)))) ∧ Wr (Int.toNat (IntKind.wrap IntKind.i64 (x_1 - (1 : Int)) - x.1) < Int.toNat
  (x_1 - x.1)) ∧ E (IntKind.wrap IntKind.i64 (x_1 - (1 : Int))) ∧ E y.1 ∧ E y.2.1 ∧ E y.2.2.1 ∧ E x.1 ∧ Wr (List.set (List.set (rotF (Int.toNat x_1) (Int.toNat y.2.1) (Int.toNat y.2.1 + (1 : Nat)) xs) (Int.toNat x_1)
  (List.getD (rotF (Int.toNat x_1) (Int.toNat y.2.1) (Int.toNat y.2.1 + (1 : Nat)) xs) (Int.toNat (IntKind.wrap IntKind.i64 (x_1 - (1 : Int)))) (Ty.zero AdT))) (Int.toNat (IntKind.wrap IntKind.i64 (x_1 - (1 : Int))))
  (List.getD (rotF (Int.toNat x_1) (Int.toNat y.2.1) (Int.toNat y.2.1 + (1 : Nat)) xs) (Int.toNat x_1) (Ty.zero AdT)) = rotF (Int.toNat (IntKind.wrap IntKind.i64 (x_1 - (1 : Int)))) (Int.toNat y.2.1) (Int.toNat y.2.1 + (1
  : Nat)) xs)) (rotF (Int.toNat x_1) (Int.toNat y.2.1) (Int.toNat y.2.1 + (1 : Nat)) xs = segS ltA (Int.toNat y.1) (Int.toNat y.2.2.1) xs))) (Wr ((0 : Int) ≤ (1 : Int)) ∧ bcase (decide (y.2.1 > IntKind.wrap IntKind.i64
  (Int.fdiv (IntKind.wrap IntKind.u64 (IntKind.wrap IntKind.i64 (y.1 + y.2.2.1))) ((2 : Int) ^ Min.min (Int.toNat (1 : Int)) (IntKind.bits IntKind.u64))))) (Wr (IntKind.wrap IntKind.i64 (IntKind.wrap IntKind.i64
  (IntKind.wrap IntKind.i64 (Int.fdiv (IntKind.wrap IntKind.u64 (IntKind.wrap IntKind.i64 (y.1 + y.2.2.1))) ((2 : Int) ^ Min.min (Int.toNat (1 : Int)) (IntKind.bits IntKind.u64))) + y.2.1) - y.2.2.1) = (↑(cutS (Int.toNat
  y.1) (Int.toNat y.2.1) (Int.toNat y.2.2.1)) : Int) ∧ IntKind.wrap IntKind.i64 (Int.fdiv (IntKind.wrap IntKind.u64 (IntKind.wrap IntKind.i64 (y.1 + y.2.2.1))) ((2 : Int) ^ Min.min (Int.toNat (1 : Int)) (IntKind.bits
  IntKind.u64))) = (↑(cutR (Int.toNat y.1) (Int.toNat y.2.1) (Int.toNat y.2.2.1)) : Int)) ∧ E (IntKind.wrap IntKind.i64 (IntKind.wrap IntKind.i64 (IntKind.wrap IntKind.i64 (Int.fdiv (IntKind.wrap IntKind.u64 (IntKind.wrap
  IntKind.i64 (y.1 + y.2.2.1))) ((2 : Int) ^ Min.min (Int.toNat (1 : Int)) (IntKind.bits IntKind.u64))) + y.2.1) - y.2.2.1)) ∧ E (IntKind.wrap IntKind.i64 (Int.fdiv (IntKind.wrap IntKind.u64 (IntKind.wrap IntKind.i64 (y.1
  + y.2.2.1))) ((2 : Int) ^ Min.min (Int.toNat (1 : Int)) (IntKind.bits IntKind.u64)))) ∧ E y.1 ∧ E y.2.1 ∧ E y.2.2.1 ∧ E (IntKind.wrap IntKind.i64 (Int.fdiv (IntKind.wrap IntKind.u64 (IntKind.wrap IntKind.i64 (y.1 +
  y.2.2.1))) ((2 : Int) ^ Min.min (Int.toNat (1 : Int)) (IntKind.bits IntKind.u64)))) ∧ E (IntKind.wrap IntKind.i64 (IntKind.wrap IntKind.i64 (Int.fdiv (IntKind.wrap IntKind.u64 (IntKind.wrap IntKind.i64 (y.1 + y.2.2.1)))
  ((2 : Int) ^ Min.min (Int.toNat (1 : Int)) (IntKind.bits IntKind.u64))) + y.2.1)) ∧ E xs) (Wr (y.1 = (↑(cutS (Int.toNat y.1) (Int.toNat y.2.1) (Int.toNat y.2.2.1)) : Int) ∧ y.2.1 = (↑(cutR (Int.toNat y.1) (Int.toNat
  y.2.1) (Int.toNat y.2.2.1)) : Int)) ∧ E y.1 ∧ E y.2.1 ∧ E y.1 ∧ E y.2.1 ∧ E y.2.2.1 ∧ E (IntKind.wrap IntKind.i64 (Int.fdiv (IntKind.wrap IntKind.u64 (IntKind.wrap IntKind.i64 (y.1 + y.2.2.1))) ((2 : Int) ^ Min.min
  (Int.toNat (1 : Int)) (IntKind.bits IntKind.u64)))) ∧ E (IntKind.wrap IntKind.i64 (IntKind.wrap IntKind.i64 (Int.fdiv (IntKind.wrap IntKind.u64 (IntKind.wrap IntKind.i64 (y.1 + y.2.2.1))) ((2 : Int) ^ Min.min (Int.toNat
  (1 : Int)) (IntKind.bits IntKind.u64))) + y.2.1)) ∧ E xs) ∧ ∀ (x : Int × Int), Wr (x.1 = (↑(cutS (Int.toNat y.1) (Int.toNat y.2.1) (Int.toNat y.2.2.1)) : Int) ∧ x.2 = (↑(cutR (Int.toNat y.1) (Int.toNat y.2.1) (Int.toNat
  y.2.2.1)) : Int)) → (Wr (S3I xs y.1 y.2.1 y.2.2.1 x) ∧ E x.1 ∧ E x.2 ∧ E y.1 ∧ E y.2.1 ∧ E y.2.2.1 ∧ E (IntKind.wrap IntKind.i64 (Int.fdiv (IntKind.wrap IntKind.u64 (IntKind.wrap IntKind.i64 (y.1 + y.2.2.1))) ((2 : Int)
  ^ Min.min (Int.toNat (1 : Int)) (IntKind.bits IntKind.u64)))) ∧ E (IntKind.wrap IntKind.i64 (IntKind.wrap IntKind.i64 (Int.fdiv (IntKind.wrap IntKind.u64 (IntKind.wrap IntKind.i64 (y.1 + y.2.2.1))) ((2 : Int) ^ Min.min
  (Int.toNat (1 : Int)) (IntKind.bits IntKind.u64))) + y.2.1)) ∧ E (IntKind.wrap IntKind.i64 (IntKind.wrap IntKind.i64 (IntKind.wrap IntKind.i64 (Int.fdiv (IntKind.wrap IntKind.u64 (IntKind.wrap IntKind.i64 (y.1 +
  y.2.2.1))) ((2 : Int) ^ Min.min (Int.toNat (1 : Int)) (IntKind.bits IntKind.u64))) + y.2.1) - (1 : Int))) ∧ E xs) ∧ ∀ (x : Int × Int), Wr (S3I xs y.1 y.2.1 y.2.2.1 x) → bcase (decide (x.1 < x.2)) (Wr ((0 : Int) ≤ (1 :
  Int)) ∧ Wr ((0 : Int) ≤ IntKind.wrap IntKind.i64 (IntKind.wrap IntKind.i64 (IntKind.wrap IntKind.i64 (IntKind.wrap IntKind.i64 (Int.fdiv (IntKind.wrap IntKind.u64 (IntKind.wrap IntKind.i64 (y.1 + y.2.2.1))) ((2 : Int) ^
  Min.min (Int.toNat (1 : Int)) (IntKind.bits IntKind.u64))) + y.2.1) - (1 : Int)) - IntKind.wrap IntKind.i64 (Int.fdiv (IntKind.wrap IntKind.u64 (IntKind.wrap IntKind.i64 (x.1 + x.2))) ((2 : Int) ^ Min.min (Int.toNat (1
  : Int)) (IntKind.bits IntKind.u64))))) ∧ Wr (IntKind.wrap IntKind.i64 (IntKind.wrap IntKind.i64 (IntKind.wrap IntKind.i64 (IntKind.wrap IntKind.i64 (Int.fdiv (IntKind.wrap IntKind.u64 (IntKind.wrap IntKind.i64 (y.1 +
  y.2.2.1))) ((2 : Int) ^ Min.min (Int.toNat (1 : Int)) (IntKind.bits IntKind.u64))) + y.2.1) - (1 : Int)) - IntKind.wrap IntKind.i64 (Int.fdiv (IntKind.wrap IntKind.u64 (IntKind.wrap IntKind.i64 (x.1 + x.2))) ((2 : Int)
  ^ Min.min (Int.toNat (1 : Int)) (IntKind.bits IntKind.u64)))) < (↑(List.length xs) : Int)) ∧ Wr ((0 : Int) ≤ IntKind.wrap IntKind.i64 (Int.fdiv (IntKind.wrap IntKind.u64 (IntKind.wrap IntKind.i64 (x.1 + x.2))) ((2 :
  Int) ^ Min.min (Int.toNat (1 : Int)) (IntKind.bits IntKind.u64)))) ∧ Wr (IntKind.wrap IntKind.i64 (Int.fdiv (IntKind.wrap IntKind.u64 (IntKind.wrap IntKind.i64 (x.1 + x.2))) ((2 : Int) ^ Min.min (Int.toNat (1 : Int))
  (IntKind.bits IntKind.u64))) < (↑(List.length xs) : Int)) ∧ E true ∧ bcase (!decide (cmpA (List.getD xs (Int.toNat (IntKind.wrap IntKind.i64 (IntKind.wrap IntKind.i64 (IntKind.wrap IntKind.i64 (IntKind.wrap IntKind.i64
  (Int.fdiv (IntKind.wrap IntKind.u64 (IntKind.wrap IntKind.i64 (y.1 + y.2.2.1))) ((2 : Int) ^ Min.min (Int.toNat (1 : Int)) (IntKind.bits IntKind.u64))) + y.2.1) - (1 : Int)) - IntKind.wrap IntKind.i64 (Int.fdiv
  (IntKind.wrap IntKind.u64 (IntKind.wrap IntKind.i64 (x.1 + x.2))) ((2 : Int) ^ Min.min (Int.toNat (1 : Int)) (IntKind.bits IntKind.u64)))))) (Ty.zero AdT)) (List.getD xs (Int.toNat (IntKind.wrap IntKind.i64 (Int.fdiv
  (IntKind.wrap IntKind.u64 (IntKind.wrap IntKind.i64 (x.1 + x.2))) ((2 : Int) ^ Min.min (Int.toNat (1 : Int)) (IntKind.bits IntKind.u64))))) (Ty.zero AdT)) < (0 : Int))) (Wr (S3I xs y.1 y.2.1 y.2.2.1 (IntKind.wrap
  IntKind.i64 (IntKind.wrap IntKind.i64 (Int.fdiv (IntKind.wrap IntKind.u64 (IntKind.wrap IntKind.i64 (x.1 + x.2))) ((2 : Int) ^ Min.min (Int.toNat (1 : Int)) (IntKind.bits IntKind.u64))) + (1 : Int)), x.2)) ∧ Wr
  (Int.toNat (x.2 - IntKind.wrap IntKind.i64 (IntKind.wrap IntKind.i64 (Int.fdiv (IntKind.wrap IntKind.u64 (IntKind.wrap IntKind.i64 (x.1 + x.2))) ((2 : Int) ^ Min.min (Int.toNat (1 : Int)) (IntKind.bits IntKind.u64))) +
  (1 : Int))) < Int.toNat (x.2 - x.1)) ∧ E (IntKind.wrap IntKind.i64 (IntKind.wrap IntKind.i64 (Int.fdiv (IntKind.wrap IntKind.u64 (IntKind.wrap IntKind.i64 (x.1 + x.2))) ((2 : Int) ^ Min.min (Int.toNat (1 : Int))
  (IntKind.bits IntKind.u64))) + (1 : Int))) ∧ E x.2 ∧ E y.1 ∧ E y.2.1 ∧ E y.2.2.1 ∧ E (IntKind.wrap IntKind.i64 (Int.fdiv (IntKind.wrap IntKind.u64 (IntKind.wrap IntKind.i64 (y.1 + y.2.2.1))) ((2 : Int) ^ Min.min
  (Int.toNat (1 : Int)) (IntKind.bits IntKind.u64)))) ∧ E (IntKind.wrap IntKind.i64 (IntKind.wrap IntKind.i64 (Int.fdiv (IntKind.wrap IntKind.u64 (IntKind.wrap IntKind.i64 (y.1 + y.2.2.1))) ((2 : Int) ^ Min.min (Int.toNat
  (1 : Int)) (IntKind.bits IntKind.u64))) + y.2.1)) ∧ E (IntKind.wrap IntKind.i64 (IntKind.wrap IntKind.i64 (IntKind.wrap IntKind.i64 (Int.fdiv (IntKind.wrap IntKind.u64 (IntKind.wrap IntKind.i64 (y.1 + y.2.2.1))) ((2 :
  Int) ^ Min.min (Int.toNat (1 : Int)) (IntKind.bits IntKind.u64))) + y.2.1) - (1 : Int))) ∧ E xs) (Wr (S3I xs y.1 y.2.1 y.2.2.1 (x.1, IntKind.wrap IntKind.i64 (Int.fdiv (IntKind.wrap IntKind.u64 (IntKind.wrap IntKind.i64
  (x.1 + x.2))) ((2 : Int) ^ Min.min (Int.toNat (1 : Int)) (IntKind.bits IntKind.u64))))) ∧ Wr (Int.toNat (IntKind.wrap IntKind.i64 (Int.fdiv (IntKind.wrap IntKind.u64 (IntKind.wrap IntKind.i64 (x.1 + x.2))) ((2 : Int) ^
  Min.min (Int.toNat (1 : Int)) (IntKind.bits IntKind.u64))) - x.1) < Int.toNat (x.2 - x.1)) ∧ E x.1 ∧ E (IntKind.wrap IntKind.i64 (Int.fdiv (IntKind.wrap IntKind.u64 (IntKind.wrap IntKind.i64 (x.1 + x.2))) ((2 : Int) ^
  Min.min (Int.toNat (1 : Int)) (IntKind.bits IntKind.u64)))) ∧ E y.1 ∧ E y.2.1 ∧ E y.2.2.1 ∧ E (IntKind.wrap IntKind.i64 (Int.fdiv (IntKind.wrap IntKind.u64 (IntKind.wrap IntKind.i64 (y.1 + y.2.2.1))) ((2 : Int) ^
  Min.min (Int.toNat (1 : Int)) (IntKind.bits IntKind.u64)))) ∧ E (IntKind.wrap IntKind.i64 (IntKind.wrap IntKind.i64 (Int.fdiv (IntKind.wrap IntKind.u64 (IntKind.wrap IntKind.i64 (y.1 + y.2.2.1))) ((2 : Int) ^ Min.min
  (Int.toNat (1 : Int)) (IntKind.bits IntKind.u64))) + y.2.1)) ∧ E (IntKind.wrap IntKind.i64 (IntKind.wrap IntKind.i64 (IntKind.wrap IntKind.i64 (Int.fdiv (IntKind.wrap IntKind.u64 (IntKind.wrap IntKind.i64 (y.1 +
  y.2.2.1))) ((2 : Int) ^ Min.min (Int.toNat (1 : Int)) (IntKind.bits IntKind.u64))) + y.2.1) - (1 : Int))) ∧ E xs)) (bcase (decide (x.1 < y.2.1) && decide (y.2.1 < IntKind.wrap IntKind.i64 (IntKind.wrap IntKind.i64
  (IntKind.wrap IntKind.i64 (Int.fdiv (IntKind.wrap IntKind.u64 (IntKind.wrap IntKind.i64 (y.1 + y.2.2.1))) ((2 : Int) ^ Min.min (Int.toNat (1 : Int)) (IntKind.bits IntKind.u64))) + y.2.1) - x.1))) (Wr (RoP xs x.1 y.2.1
  (IntKind.wrap IntKind.i64 (IntKind.wrap IntKind.i64 (IntKind.wrap IntKind.i64 (Int.fdiv (IntKind.wrap IntKind.u64 (IntKind.wrap IntKind.i64 (y.1 + y.2.2.1))) ((2 : Int) ^ Min.min (Int.toNat (1 : Int)) (IntKind.bits
  IntKind.u64))) + y.2.1) - x.1))) ∧ bcase (decide (y.1 < x.1) && decide (x.1 < IntKind.wrap IntKind.i64 (Int.fdiv (IntKind.wrap IntKind.u64 (IntKind.wrap IntKind.i64 (y.1 + y.2.2.1))) ((2 : Int) ^ Min.min (Int.toNat (1 :
  Int)) (IntKind.bits IntKind.u64))))) (Wr (MeP k (rotF (Int.toNat x.1) (Int.toNat y.2.1) (Int.toNat (IntKind.wrap IntKind.i64 (IntKind.wrap IntKind.i64 (IntKind.wrap IntKind.i64 (Int.fdiv (IntKind.wrap IntKind.u64
  (IntKind.wrap IntKind.i64 (y.1 + y.2.2.1))) ((2 : Int) ^ Min.min (Int.toNat (1 : Int)) (IntKind.bits IntKind.u64))) + y.2.1) - x.1))) xs) y.1 x.1 (IntKind.wrap IntKind.i64 (Int.fdiv (IntKind.wrap IntKind.u64
  (IntKind.wrap IntKind.i64 (y.1 + y.2.2.1))) ((2 : Int) ^ Min.min (Int.toNat (1 : Int)) (IntKind.bits IntKind.u64))))) ∧ bcase (decide (IntKind.wrap IntKind.i64 (Int.fdiv (IntKind.wrap IntKind.u64 (IntKind.wrap
  IntKind.i64 (y.1 + y.2.2.1))) ((2 : Int) ^ Min.min (Int.toNat (1 : Int)) (IntKind.bits IntKind.u64))) < IntKind.wrap IntKind.i64 (IntKind.wrap IntKind.i64 (IntKind.wrap IntKind.i64 (Int.fdiv (IntKind.wrap IntKind.u64
  (IntKind.wrap IntKind.i64 (y.1 + y.2.2.1))) ((2 : Int) ^ Min.min (Int.toNat (1 : Int)) (IntKind.bits IntKind.u64))) + y.2.1) - x.1)) && decide (IntKind.wrap IntKind.i64 (IntKind.wrap IntKind.i64 (IntKind.wrap
  IntKind.i64 (Int.fdiv (IntKind.wrap IntKind.u64 (IntKind.wrap IntKind.i64 (y.1 + y.2.2.1))) ((2 : Int) ^ Min.min (Int.toNat (1 : Int)) (IntKind.bits IntKind.u64))) + y.2.1) - x.1) < y.2.2.1)) (Wr (MeP k (segS ltA
  (Int.toNat y.1) (Int.toNat (IntKind.wrap IntKind.i64 (Int.fdiv (IntKind.wrap IntKind.u64 (IntKind.wrap IntKind.i64 (y.1 + y.2.2.1))) ((2 : Int) ^ Min.min (Int.toNat (1 : Int)) (IntKind.bits IntKind.u64))))) (rotF
  (Int.toNat x.1) (Int.toNat y.2.1) (Int.toNat (IntKind.wrap IntKind.i64 (IntKind.wrap IntKind.i64 (IntKind.wrap IntKind.i64 (Int.fdiv (IntKind.wrap IntKind.u64 (IntKind.wrap IntKind.i64 (y.1 + y.2.2.1))) ((2 : Int) ^
  Min.min (Int.toNat (1 : Int)) (IntKind.bits IntKind.u64))) + y.2.1) - x.1))) xs)) (IntKind.wrap IntKind.i64 (Int.fdiv (IntKind.wrap IntKind.u64 (IntKind.wrap IntKind.i64 (y.1 + y.2.2.1))) ((2 : Int) ^ Min.min (Int.toNat
  (1 : Int)) (IntKind.bits IntKind.u64)))) (IntKind.wrap IntKind.i64 (IntKind.wrap IntKind.i64 (IntKind.wrap IntKind.i64 (Int.fdiv (IntKind.wrap IntKind.u64 (IntKind.wrap IntKind.i64 (y.1 + y.2.2.1))) ((2 : Int) ^ Min.min
  (Int.toNat (1 : Int)) (IntKind.bits IntKind.u64))) + y.2.1) - x.1)) y.2.2.1) ∧ segS ltA (Int.toNat (IntKind.wrap IntKind.i64 (Int.fdiv (IntKind.wrap IntKind.u64 (IntKind.wrap IntKind.i64 (y.1 + y.2.2.1))) ((2 : Int) ^
  Min.min (Int.toNat (1 : Int)) (IntKind.bits IntKind.u64))))) (Int.toNat y.2.2.1) (segS ltA (Int.toNat y.1) (Int.toNat (IntKind.wrap IntKind.i64 (Int.fdiv (IntKind.wrap IntKind.u64 (IntKind.wrap IntKind.i64 (y.1 +
  y.2.2.1))) ((2 : Int) ^ Min.min (Int.toNat (1 : Int)) (IntKind.bits IntKind.u64))))) (rotF (Int.toNat x.1) (Int.toNat y.2.1) (Int.toNat (IntKind.wrap IntKind.i64 (IntKind.wrap IntKind.i64 (IntKind.wrap IntKind.i64
  (Int.fdiv (IntKind.wrap IntKind.u64 (IntKind.wrap IntKind.i64 (y.1 + y.2.2.1))) ((2 : Int) ^ Min.min (Int.toNat (1 : Int)) (IntKind.bits IntKind.u64))) + y.2.1) - x.1))) xs)) = segS ltA (Int.toNat y.1) (Int.toNat
  y.2.2.1) xs) (segS ltA (Int.toNat y.1) (Int.toNat (IntKind.wrap IntKind.i64 (Int.fdiv (IntKind.wrap IntKind.u64 (IntKind.wrap IntKind.i64 (y.1 + y.2.2.1))) ((2 : Int) ^ Min.min (Int.toNat (1 : Int)) (IntKind.bits
  IntKind.u64))))) (rotF (Int.toNat x.1) (Int.toNat y.2.1) (Int.toNat (IntKind.wrap IntKind.i64 (IntKind.wrap IntKind.i64 (IntKind.wrap IntKind.i64 (Int.fdiv (IntKind.wrap IntKind.u64 (IntKind.wrap IntKind.i64 (y.1 +
  y.2.2.1))) ((2 : Int) ^ Min.min (Int.toNat (1 : Int)) (IntKind.bits IntKind.u64))) + y.2.1) - x.1))) xs) = segS ltA (Int.toNat y.1) (Int.toNat y.2.2.1) xs)) (bcase (decide (IntKind.wrap IntKind.i64 (Int.fdiv
  (IntKind.wrap IntKind.u64 (IntKind.wrap IntKind.i64 (y.1 + y.2.2.1))) ((2 : Int) ^ Min.min (Int.toNat (1 : Int)) (IntKind.bits IntKind.u64))) < IntKind.wrap IntKind.i64 (IntKind.wrap IntKind.i64 (IntKind.wrap
  IntKind.i64 (Int.fdiv (IntKind.wrap IntKind.u64 (IntKind.wrap IntKind.i64 (y.1 + y.2.2.1))) ((2 : Int) ^ Min.min (Int.toNat (1 : Int)) (IntKind.bits IntKind.u64))) + y.2.1) - x.1)) && decide (IntKind.wrap IntKind.i64
  (IntKind.wrap IntKind.i64 (IntKind.wrap IntKind.i64 (Int.fdiv (IntKind.wrap IntKind.u64 (IntKind.wrap IntKind.i64 (y.1 + y.2.2.1))) ((2 : Int) ^ Min.min (Int.toNat (1 : Int)) (IntKind.bits IntKind.u64))) + y.2.1) - x.1)
  < y.2.2.1)) (Wr (MeP k (rotF (Int.toNat x.1) (Int.toNat y.2.1) (Int.toNat (IntKind.wrap IntKind.i64 (IntKind.wrap IntKind.i64 (IntKind.wrap IntKind.i64 (Int.fdiv (IntKind.wrap IntKind.u64 (IntKind.wrap IntKind.i64 (y.1
  + y.2.2.1))) ((2 : Int) ^ Min.min (Int.toNat (1 : Int)) (IntKind.bits IntKind.u64))) + y.2.1) - x.1))) xs) (IntKind.wrap IntKind.i64 (Int.fdiv (IntKind.wrap IntKind.u64 (IntKind.wrap IntKind.i64 (y.1 + y.2.2.1))) ((2 :
  Int) ^ Min.min (Int.toNat (1 : Int)) (IntKind.bits IntKind.u64)))) (IntKind.wrap IntKind.i64 (IntKind.wrap IntKind.i64 (IntKind.wrap IntKind.i64 (Int.fdiv (IntKind.wrap IntKind.u64 (IntKind.wrap IntKind.i64 (y.1 +
  y.2.2.1))) ((2 : Int) ^ Min.min (Int.toNat (1 : Int)) (IntKind.bits IntKind.u64))) + y.2.1) - x.1)) y.2.2.1) ∧ segS ltA (Int.toNat (IntKind.wrap IntKind.i64 (Int.fdiv (IntKind.wrap IntKind.u64 (IntKind.wrap IntKind.i64
  (y.1 + y.2.2.1))) ((2 : Int) ^ Min.min (Int.toNat (1 : Int)) (IntKind.bits IntKind.u64))))) (Int.toNat y.2.2.1) (rotF (Int.toNat x.1) (Int.toNat y.2.1) (Int.toNat (IntKind.wrap IntKind.i64 (IntKind.wrap IntKind.i64
  (IntKind.wrap IntKind.i64 (Int.fdiv (IntKind.wrap IntKind.u64 (IntKind.wrap IntKind.i64 (y.1 + y.2.2.1))) ((2 : Int) ^ Min.min (Int.toNat (1 : Int)) (IntKind.bits IntKind.u64))) + y.2.1) - x.1))) xs) = segS ltA
  (Int.toNat y.1) (Int.toNat y.2.2.1) xs) (rotF (Int.toNat x.1) (Int.toNat y.2.1) (Int.toNat (IntKind.wrap IntKind.i64 (IntKind.wrap IntKind.i64 (IntKind.wrap IntKind.i64 (Int.fdiv (IntKind.wrap IntKind.u64 (IntKind.wrap
  IntKind.i64 (y.1 + y.2.2.1))) ((2 : Int) ^ Min.min (Int.toNat (1 : Int)) (IntKind.bits IntKind.u64))) + y.2.1) - x.1))) xs = segS ltA (Int.toNat y.1) (Int.toNat y.2.2.1) xs))) (bcase (decide (y.1 < x.1) && decide (x.1 <
  IntKind.wrap IntKind.i64 (Int.fdiv (IntKind.wrap IntKind.u64 (IntKind.wrap IntKind.i64 (y.1 + y.2.2.1))) ((2 : Int) ^ Min.min (Int.toNat (1 : Int)) (IntKind.bits IntKind.u64))))) (Wr (MeP k xs y.1 x.1 (IntKind.wrap
  IntKind.i64 (Int.fdiv (IntKind.wrap IntKind.u64 (IntKind.wrap IntKind.i64 (y.1 + y.2.2.1))) ((2 : Int) ^ Min.min (Int.toNat (1 : Int)) (IntKind.bits IntKind.u64))))) ∧ bcase (decide (IntKind.wrap IntKind.i64 (Int.fdiv
  (IntKind.wrap IntKind.u64 (IntKind.wrap IntKind.i64 (y.1 + y.2.2.1))) ((2 : Int) ^ Min.min (Int.toNat (1 : Int)) (IntKind.bits IntKind.u64))) < IntKind.wrap IntKind.i64 (IntKind.wrap IntKind.i64 (IntKind.wrap
  IntKind.i64 (Int.fdiv (IntKind.wrap IntKind.u64 (IntKind.wrap IntKind.i64 (y.1 + y.2.2.1))) ((2 : Int) ^ Min.min (Int.toNat (1 : Int)) (IntKind.bits IntKind.u64))) + y.2.1) - x.1)) && decide (IntKind.wrap IntKind.i64
  (IntKind.wrap IntKind.i64 (IntKind.wrap IntKind.i64 (Int.fdiv (IntKind.wrap IntKind.u64 (IntKind.wrap IntKind.i64 (y.1 + y.2.2.1))) ((2 : Int) ^ Min.min (Int.toNat (1 : Int)) (IntKind.bits IntKind.u64))) + y.2.1) - x.1)
  < y.2.2.1)) (Wr (MeP k (segS ltA (Int.toNat y.1) (Int.toNat (IntKind.wrap IntKind.i64 (Int.fdiv (IntKind.wrap IntKind.u64 (IntKind.wrap IntKind.i64 (y.1 + y.2.2.1))) ((2 : Int) ^ Min.min (Int.toNat (1 : Int))
  (IntKind.bits IntKind.u64))))) xs) (IntKind.wrap IntKind.i64 (Int.fdiv (IntKind.wrap IntKind.u64 (IntKind.wrap IntKind.i64 (y.1 + y.2.2.1))) ((2 : Int) ^ Min.min (Int.toNat (1 : Int)) (IntKind.bits IntKind.u64))))
  (IntKind.wrap IntKind.i64 (IntKind.wrap IntKind.i64 (IntKind.wrap IntKind.i64 (Int.fdiv (IntKind.wrap IntKind.u64 (IntKind.wrap IntKind.i64 (y.1 + y.2.2.1))) ((2 : Int) ^ Min.min (Int.toNat (1 : Int)) (IntKind.bits
  IntKind.u64))) + y.2.1) - x.1)) y.2.2.1) ∧ segS ltA (Int.toNat (IntKind.wrap IntKind.i64 (Int.fdiv (IntKind.wrap IntKind.u64 (IntKind.wrap IntKind.i64 (y.1 + y.2.2.1))) ((2 : Int) ^ Min.min (Int.toNat (1 : Int))
  (IntKind.bits IntKind.u64))))) (Int.toNat y.2.2.1) (segS ltA (Int.toNat y.1) (Int.toNat (IntKind.wrap IntKind.i64 (Int.fdiv (IntKind.wrap IntKind.u64 (IntKind.wrap IntKind.i64 (y.1 + y.2.2.1))) ((2 : Int) ^ Min.min
  (Int.toNat (1 : Int)) (IntKind.bits IntKind.u64))))) xs) = segS ltA (Int.toNat y.1) (Int.toNat y.2.2.1) xs) (segS ltA (Int.toNat y.1) (Int.toNat (IntKind.wrap IntKind.i64 (Int.fdiv (IntKind.wrap IntKind.u64
  (IntKind.wrap IntKind.i64 (y.1 + y.2.2.1))) ((2 : Int) ^ Min.min (Int.toNat (1 : Int)) (IntKind.bits IntKind.u64))))) xs = segS ltA (Int.toNat y.1) (Int.toNat y.2.2.1) xs)) (bcase (decide (IntKind.wrap IntKind.i64
  (Int.fdiv (IntKind.wrap IntKind.u64 (IntKind.wrap IntKind.i64 (y.1 + y.2.2.1))) ((2 : Int) ^ Min.min (Int.toNat (1 : Int)) (IntKind.bits IntKind.u64))) < IntKind.wrap IntKind.i64 (IntKind.wrap IntKind.i64 (IntKind.wrap
  IntKind.i64 (Int.fdiv (IntKind.wrap IntKind.u64 (IntKind.wrap IntKind.i64 (y.1 + y.2.2.1))) ((2 : Int) ^ Min.min (Int.toNat (1 : Int)) (IntKind.bits IntKind.u64))) + y.2.1) - x.1)) && decide (IntKind.wrap IntKind.i64
  (IntKind.wrap IntKind.i64 (IntKind.wrap IntKind.i64 (Int.fdiv (IntKind.wrap IntKind.u64 (IntKind.wrap IntKind.i64 (y.1 + y.2.2.1))) ((2 : Int) ^ Min.min (Int.toNat (1 : Int)) (IntKind.bits IntKind.u64))) + y.2.1) - x.1)
  < y.2.2.1)) (Wr (MeP k xs (IntKind.wrap IntKind.i64 (Int.fdiv (IntKind.wrap IntKind.u64 (IntKind.wrap IntKind.i64 (y.1 + y.2.2.1))) ((2 : Int) ^ Min.min (Int.toNat (1 : Int)) (IntKind.bits IntKind.u64)))) (IntKind.wrap
  IntKind.i64 (IntKind.wrap IntKind.i64 (IntKind.wrap IntKind.i64 (Int.fdiv (IntKind.wrap IntKind.u64 (IntKind.wrap IntKind.i64 (y.1 + y.2.2.1))) ((2 : Int) ^ Min.min (Int.toNat (1 : Int)) (IntKind.bits IntKind.u64))) +
  y.2.1) - x.1)) y.2.2.1) ∧ segS ltA (Int.toNat (IntKind.wrap IntKind.i64 (Int.fdiv (IntKind.wrap IntKind.u64 (IntKind.wrap IntKind.i64 (y.1 + y.2.2.1))) ((2 : Int) ^ Min.min (Int.toNat (1 : Int)) (IntKind.bits
  IntKind.u64))))) (Int.toNat y.2.2.1) xs = segS ltA (Int.toNat y.1) (Int.toNat y.2.2.1) xs) (xs = segS ltA (Int.toNat y.1) (Int.toNat y.2.2.1) xs))))))) := by kernel_rfl
theorem m99_eq : vcFnM g99 99 400 Tryd.f99 cSta = ( ∀ (xs : List (Ad)) (y : Int × Unit), Wr (y.1 = (↑(List.length xs) : Int) ∧ List.length xs ≤ (60 : Nat)) → (Wr (T1I xs y.1 ((0 : Int), (20 : Int), xs)) ∧ E ((0 : Int)) ∧ E ((20 : Int)) ∧ E y.1 ∧ E ((20 : Int)) ∧ E xs) ∧ ∀
  (x : Int × Int × List (Ad)), Wr (T1I xs y.1 x) → bcase (decide (x.2.1 ≤ y.1)) (Wr (InP x.2.2 x.1 x.2.1) ∧ Wr (T1I xs y.1 (x.2.1, IntKind.wrap IntKind.i64 (x.2.1 + (20 : Int)), segS ltA (Int.toNat x.1) (Int.toNat x.2.1)
  x.2.2)) ∧ Wr (Int.toNat ((60 : Int) - x.2.1) < Int.toNat ((60 : Int) - x.1)) ∧ E x.2.1 ∧ E (IntKind.wrap IntKind.i64 (x.2.1 + (20 : Int))) ∧ E y.1 ∧ E ((20 : Int)) ∧ E (segS ltA (Int.toNat x.1) (Int.toNat x.2.1) x.2.2))
  (Wr (InP x.2.2 x.1 y.1) ∧ (Wr (T2I (segS ltA (Int.toNat x.1) (Int.toNat y.1) x.2.2) y.1 ((20 : Int), segS ltA (Int.toNat x.1) (Int.toNat y.1) x.2.2)) ∧ E ((20 : Int)) ∧ E y.1 ∧ E (segS ltA (Int.toNat x.1) (Int.toNat
  y.1) x.2.2)) ∧ ∀ (x_1 : Int × List (Ad)), Wr (T2I (segS ltA (Int.toNat x.1) (Int.toNat y.1) x.2.2) y.1 x_1) → bcase (decide (x_1.1 < y.1)) ((Wr (T3I x_1.2 y.1 x_1.1 ((0 : Int), IntKind.wrap IntKind.i64 ((2 : Int) *
  x_1.1), x_1.2)) ∧ E ((0 : Int)) ∧ E (IntKind.wrap IntKind.i64 ((2 : Int) * x_1.1)) ∧ E y.1 ∧ E x_1.1 ∧ E x_1.2) ∧ ∀ (x_2 : Int × Int × List (Ad)), Wr (T3I x_1.2 y.1 x_1.1 x_2) → bcase (decide (x_2.2.1 ≤ y.1)) (Wr (MeP
  (100 : Nat) x_2.2.2 x_2.1 (IntKind.wrap IntKind.i64 (x_2.1 + x_1.1)) x_2.2.1) ∧ Wr (T3I x_1.2 y.1 x_1.1 (x_2.2.1, IntKind.wrap IntKind.i64 (x_2.2.1 + IntKind.wrap IntKind.i64 ((2 : Int) * x_1.1)), segS ltA (Int.toNat
  x_2.1) (Int.toNat x_2.2.1) x_2.2.2)) ∧ Wr (Int.toNat ((100 : Int) - x_2.2.1) < Int.toNat ((100 : Int) - x_2.1)) ∧ E x_2.2.1 ∧ E (IntKind.wrap IntKind.i64 (x_2.2.1 + IntKind.wrap IntKind.i64 ((2 : Int) * x_1.1))) ∧ E y.1
  ∧ E x_1.1 ∧ E (segS ltA (Int.toNat x_2.1) (Int.toNat x_2.2.1) x_2.2.2)) (bcase (decide (IntKind.wrap IntKind.i64 (x_2.1 + x_1.1) < y.1)) (Wr (MeP (100 : Nat) x_2.2.2 x_2.1 (IntKind.wrap IntKind.i64 (x_2.1 + x_1.1)) y.1)
  ∧ Wr (T2I (segS ltA (Int.toNat x.1) (Int.toNat y.1) x.2.2) y.1 (IntKind.wrap IntKind.i64 (x_1.1 * (2 : Int)), segS ltA (Int.toNat x_2.1) (Int.toNat y.1) x_2.2.2)) ∧ Wr (Int.toNat ((80 : Int) - IntKind.wrap IntKind.i64
  (x_1.1 * (2 : Int))) < Int.toNat ((80 : Int) - x_1.1)) ∧ E (IntKind.wrap IntKind.i64 (x_1.1 * (2 : Int))) ∧ E y.1 ∧ E (segS ltA (Int.toNat x_2.1) (Int.toNat y.1) x_2.2.2)) (Wr (T2I (segS ltA (Int.toNat x.1) (Int.toNat
  y.1) x.2.2) y.1 (IntKind.wrap IntKind.i64 (x_1.1 * (2 : Int)), x_2.2.2)) ∧ Wr (Int.toNat ((80 : Int) - IntKind.wrap IntKind.i64 (x_1.1 * (2 : Int))) < Int.toNat ((80 : Int) - x_1.1)) ∧ E (IntKind.wrap IntKind.i64 (x_1.1
  * (2 : Int))) ∧ E y.1 ∧ E x_2.2.2))) (x_1.2 = srt ltA xs))) := by kernel_rfl
theorem m73_eq : vcFnM g73 73 400 Tryd.f73 cSort = ( ∀ (xs : List (Ad)) (y : Unit), Wr (List.length xs ≤ (60 : Nat)) → Wr ((↑(List.length xs) : Int) = (↑(List.length xs) : Int) ∧ List.length xs ≤ (60 : Nat)) ∧ srt ltA xs = srt ltA xs) := by kernel_rfl
end Go.Proofs.YtkimpfoimblhjaaDoor.Ad
set_option linter.all false
namespace Go.Proofs.YtkimpfoimblhjaaDoor.Ad
open Go Go.Eng Go.Lb Go.Ad Lb Go.Proofs.St
set_option maxRecDepth 100000
theorem cmpI_c (a b : Int) : (a < b ∧ cmpI a b = -1) ∨ (a = b ∧ cmpI a b = 0) ∨ (b < a ∧ cmpI a b = 1) := by
  unfold cmpI
  by_cases h : a < b
  · rw [decide_eq_true h]; exact .inl ⟨h, rfl⟩
  · rw [decide_eq_false h]
    by_cases h2 : a > b
    · rw [decide_eq_true h2]; exact .inr (.inr ⟨h2, rfl⟩)
    · rw [decide_eq_false h2]; exact .inr (.inl ⟨by omega, rfl⟩)
theorem cmpL_self : ∀ l : List Int, cmpL l l = 0
  | [] => rfl
  | x :: r => by
    have := cmpI_c x x
    unfold cmpL
    rw [decide_eq_true (by omega)]; exact cmpL_self r
theorem cmpL_neg : ∀ l m : List Int, cmpL m l = - cmpL l m
  | [], [] => rfl
  | [], _ :: _ => rfl
  | _ :: _, [] => rfl
  | x :: r, y :: s => by
    have h1 := cmpI_c x y
    have h2 := cmpI_c y x
    unfold cmpL
    by_cases h : cmpI x y = 0
    · rw [decide_eq_true h, decide_eq_true (show cmpI y x = 0 by omega)]; exact cmpL_neg r s
    · rw [decide_eq_false h, decide_eq_false (show ¬ cmpI y x = 0 by omega)]
      show cmpI y x = - cmpI x y
      omega
theorem cmpL_eq : ∀ {l m : List Int}, cmpL l m = 0 → l = m
  | [], [], _ => rfl
  | [], _ :: _, h => by cases h
  | _ :: _, [], h => by cases h
  | x :: r, y :: s, h => by
    have h1 := cmpI_c x y
    unfold cmpL at h
    by_cases h2 : cmpI x y = 0
    · rw [decide_eq_true h2] at h
      rw [cmpL_eq (l := r) (m := s) h, show x = y by omega]
    · rw [decide_eq_false h2] at h
      exact absurd h h2
theorem cmpL_tr : ∀ {l m n : List Int}, cmpL l m < 0 → cmpL m n < 0 → cmpL l n < 0
  | [], [], _, h, _ => by simp [cmpL] at h
  | _ :: _, [], _, h, _ => by simp [cmpL] at h
  | [], _ :: _, [], _, h => by simp [cmpL] at h
  | [], _ :: _, _ :: _, _, _ => by simp [cmpL]
  | _ :: _, _ :: _, [], _, h => by simp [cmpL] at h
  | x :: r, y :: s, z :: t, h, k => by
    have h1 := cmpI_c x y
    have h2 := cmpI_c y z
    have h3 := cmpI_c x z
    unfold cmpL at h k ⊢
    by_cases c1 : cmpI x y = 0
    · rw [decide_eq_true c1] at h
      by_cases c2 : cmpI y z = 0
      · rw [decide_eq_true c2] at k
        rw [decide_eq_true (show cmpI x z = 0 by omega)]
        exact cmpL_tr (l := r) (m := s) (n := t) h k
      · rw [decide_eq_false c2] at k
        have k : cmpI y z < 0 := k
        rw [decide_eq_false (show ¬ cmpI x z = 0 by omega)]
        show cmpI x z < 0
        omega
    · rw [decide_eq_false c1] at h
      have h : cmpI x y < 0 := h
      by_cases c2 : cmpI y z = 0
      · rw [decide_eq_false (show ¬ cmpI x z = 0 by omega)]
        show cmpI x z < 0
        omega
      · rw [decide_eq_false c2] at k
        have k : cmpI y z < 0 := k
        rw [decide_eq_false (show ¬ cmpI x z = 0 by omega)]
        show cmpI x z < 0
        omega
theorem cmpL_snoc : ∀ {l m : List Int} (p q : Int), l.length = m.length → cmpL (l ++ [p]) (m ++ [q]) = orF [cmpL l m, cmpI p q]
  | [], [], p, q, _ => by
    have h := cmpI_c p q
    show (bif decide (cmpI p q = 0) then 0 else cmpI p q) = (bif decide (cmpI p q = 0) then 0 else cmpI p q)
    rfl
  | [], _ :: _, _, _, h => by simp at h
  | _ :: _, [], _, _, h => by simp at h
  | x :: r, y :: s, p, q, h => by
    have ih := cmpL_snoc (l := r) (m := s) p q (by simpa using h)
    show (bif decide (cmpI x y = 0) then cmpL (r ++ [p]) (s ++ [q]) else cmpI x y) = orF [(bif decide (cmpI x y = 0) then cmpL r s else cmpI x y), cmpI p q]
    by_cases c : cmpI x y = 0
    · rw [decide_eq_true c]; exact ih
    · rw [decide_eq_false c]
      show cmpI x y = (bif decide (cmpI x y = 0) then _ else cmpI x y)
      rw [decide_eq_false c]; rfl
def keyA (a : Ad) : List Int := a.1 :: (gsL a.2.1 ++ [a.2.2.1])
theorem cmpA_key (a b : Ad) : cmpA a b = cmpL (keyA a) (keyA b) := by
  unfold cmpA keyA
  show (bif decide (cmpI a.1 b.1 = 0) then orF [cmpL (gsL a.2.1) (gsL b.2.1), cmpI a.2.2.1 b.2.2.1] else cmpI a.1 b.1) = (bif decide (cmpI a.1 b.1 = 0) then cmpL (gsL a.2.1 ++ [a.2.2.1]) (gsL b.2.1 ++ [b.2.2.1]) else cmpI a.1 b.1)
  rw [cmpL_snoc (l := gsL a.2.1) (m := gsL b.2.1) a.2.2.1 b.2.2.1 (by rfl)]
theorem keyA_inj {a b : Ad} (h : keyA a = keyA b) : a = b := by
  obtain ⟨f, ⟨a1, a2, a3, a4, a5, a6, a7, a8, ⟨⟩⟩, p, ⟨⟩⟩ := a
  obtain ⟨f', ⟨b1, b2, b3, b4, b5, b6, b7, b8, ⟨⟩⟩, p', ⟨⟩⟩ := b
  unfold keyA gsL at h
  simp only [List.cons_append, List.nil_append, List.cons.injEq, and_true] at h
  obtain ⟨rfl, rfl, rfl, rfl, rfl, rfl, rfl, rfl, rfl, rfl⟩ := h
  rfl
theorem ordA : Ord ltA := by
  refine ⟨fun a => ?_, fun a b c h k => ?_, fun a b h k => ?_⟩
  · unfold ltA; rw [cmpA_key, cmpL_self]; rfl
  · unfold ltA at *
    rw [cmpA_key] at *
    exact decide_eq_true (cmpL_tr (of_decide_eq_true h) (of_decide_eq_true k))
  · unfold ltA at *
    rw [cmpA_key] at *
    have h := of_decide_eq_false h
    have k := of_decide_eq_false k
    have e := cmpL_neg (keyA a) (keyA b)
    exact keyA_inj (cmpL_eq (by omega))
end Go.Proofs.YtkimpfoimblhjaaDoor.Ad
set_option linter.all false
namespace Go.Proofs.YtkimpfoimblhjaaDoor.Ad
open Go Go.Eng Go.Lb Go.Ad Lb Go.Proofs.St
set_option maxRecDepth 100000
set_option maxHeartbeats 4000000
theorem m149 : VcM g149 149 400 Tryd.f149 cSwr := by
  constructor
  rw [m149_eq]
  simp only [Wr_iff, E_iff, bcase_iff, true_and, and_true, decide_eq_true_eq, decide_eq_false_iff_not, Bool.and_eq_true, Bool.and_eq_false_iff, Bool.or_eq_true, Bool.or_eq_false_iff, Bool.not_eq_true', Bool.not_eq_false', Option.map_some, Option.getD_some, Option.isSome_some, Option.isSome_map, imp_self, nilL, noneO]
  rintro xs ⟨a, b, n, ⟨⟩⟩ ⟨a0, n0, ab, bl, hl⟩
  dsimp only [Big] at a0 n0 ab bl hl ⊢
  refine ⟨⟨⟨Int.le_refl _, n0⟩, (swr_zero (by omega) (by omega)).symm⟩, fun x hx => ⟨fun hi => ?_, fun hi => ?_⟩⟩
  · have x0 := hx.i0
    have e1 : IntKind.wrap .i64 (a + x) = a + x := wrapS (by omega) (by omega)
    have e2 : IntKind.wrap .i64 (b + x) = b + x := wrapS (by omega) (by omega)
    have e3 : IntKind.wrap .i64 (x + 1) = x + 1 := wrapS (by omega) (by omega)
    have e := swr_succ (z := zA) (a := a.toNat) (b := b.toNat) (i := x.toNat) (xs := xs) (by omega) (by omega)
    rw [e1, e2, e3, List.length_set, swr_len]
    rw [show a.toNat + x.toNat = (a + x).toNat by omega, show b.toNat + x.toNat = (b + x).toNat by omega, show x.toNat + 1 = (x + 1).toNat by omega] at e
    exact ⟨by omega, by omega, by omega, by omega, by omega, by omega, by omega, by omega, ⟨by omega, by omega⟩, by omega, e⟩
  · have := hx.i1
    rw [show x = n by omega]
theorem m136 : VcM g136 136 400 Tryd.f136 cRotM := by
  constructor
  rw [m136_eq]
  simp only [Wr_iff, E_iff, bcase_iff, true_and, and_true, decide_eq_true_eq, decide_eq_false_iff_not, Bool.and_eq_true, Bool.and_eq_false_iff, Bool.or_eq_true, Bool.or_eq_false_iff, Bool.not_eq_true', Bool.not_eq_false', Option.map_some, Option.getD_some, Option.isSome_some, Option.isSome_map, imp_self, nilL, noneO]
  rintro xs ⟨a, m, b, ⟨⟩⟩ ⟨a0, am, mb, bl, hl⟩
  dsimp only [Big] at a0 am mb bl hl ⊢
  have e1 : IntKind.wrap .i64 (m - a) = m - a := wrapS (by omega) (by omega)
  have e2 : IntKind.wrap .i64 (b - m) = b - m := wrapS (by omega) (by omega)
  rw [e1, e2]
  refine ⟨⟨by show 1 ≤ m - a; omega, Int.le_refl _, by show 1 ≤ b - m; omega, Int.le_refl _, rfl, ?_⟩, fun x hx => ?_⟩
  · show rotF (m - (m - a)).toNat m.toNat (m + (b - m)).toNat xs = _
    rw [show m - (m - a) = a by omega, show m + (b - m) = b by omega]
  obtain ⟨i, j, r⟩ := x
  obtain ⟨i0, i1, j0, j1, rl, he⟩ := hx
  dsimp only at i0 i1 j0 j1 rl he ⊢
  have w1 : IntKind.wrap .i64 (m - i) = m - i := wrapS (by omega) (by omega)
  have w2 : IntKind.wrap .i64 (i - j) = i - j := wrapS (by omega) (by omega)
  have w3 : IntKind.wrap .i64 (m + j) = m + j := wrapS (by omega) (by omega)
  have w4 : IntKind.wrap .i64 (m + j - i) = m + j - i := wrapS (by omega) (by omega)
  have w5 : IntKind.wrap .i64 (j - i) = j - i := wrapS (by omega) (by omega)
  rw [w1, w2, w3, w4, w5]
  refine ⟨fun hne => ⟨fun hg => ⟨⟨by omega, by omega, by omega, by omega, by show r.length ≤ 100000; omega⟩, ⟨by show 1 ≤ i - j; omega, by show i - j ≤ m - a; omega, j0, j1, by rw [swr_len]; exact rl, ?_⟩, by omega⟩, fun hg => ⟨⟨by omega, by omega, by omega, by omega, by show r.length ≤ 100000; omega⟩, ⟨i0, i1, by show 1 ≤ j - i; omega, by show j - i ≤ b - m; omega, by rw [swr_len]; exact rl, ?_⟩, by omega⟩⟩, fun he' => ⟨⟨by omega, by omega, by omega, by omega, by show r.length ≤ 100000; omega⟩, ?_⟩⟩
  · show rotF (m - (i - j)).toNat m.toNat (m + j).toNat (swrF zA (m - i).toNat m.toNat j.toNat r) = _
    have h := rot_step1 (z := zA) (s := (m - i).toNat) (m := m.toNat) (e := (m + j).toNat) (r := r) (by omega) (by omega) (by omega) (by omega)
    rw [show (m + j).toNat - m.toNat = j.toNat by omega, show (m - i).toNat + j.toNat = (m - (i - j)).toNat by omega] at h
    rw [h]; exact he
  · show rotF (m - i).toNat m.toNat (m + (j - i)).toNat (swrF zA (m - i).toNat (m + j - i).toNat i.toNat r) = _
    have h := rot_step2 (z := zA) (s := (m - i).toNat) (m := m.toNat) (e := (m + j).toNat) (r := r) (by omega) (by omega) (by omega) (by omega)
    rw [show m.toNat - (m - i).toNat = i.toNat by omega, show (m + j).toNat - i.toNat = (m + j - i).toNat by omega] at h
    rw [show m + (j - i) = m + j - i by omega, h]; exact he
  · have h := rot_fin (z := zA) (s := (m - i).toNat) (m := m.toNat) (e := (m + j).toNat) (r := r) (by omega) (by omega) (by omega) (by omega)
    rw [show m.toNat - (m - i).toNat = i.toNat by omega] at h
    rw [h]; exact he
theorem m120 : VcM g120 120 400 Tryd.f120 cInsM := by
  constructor
  rw [m120_eq]
  simp only [Wr_iff, E_iff, bcase_iff, true_and, and_true, decide_eq_true_eq, decide_eq_false_iff_not, Bool.and_eq_true, Bool.and_eq_false_iff, Bool.or_eq_true, Bool.or_eq_false_iff, Bool.not_eq_true', Bool.not_eq_false', Option.map_some, Option.getD_some, Option.isSome_some, Option.isSome_map, imp_self, nilL, noneO]
  rintro xs ⟨a, b, ⟨⟩⟩ ⟨a0, ab, bl, hl⟩
  dsimp only [Big] at a0 ab bl hl ⊢
  have e1 : IntKind.wrap .i64 (a + 1) = a + 1 := wrapS (by omega) (by omega)
  rw [e1]
  refine ⟨⟨Int.le_refl _, .inr rfl, PSeg.refl _ _ _, fun p q h1 h2 h3 => ?_⟩, fun x hx => ?_⟩
  · have h3 : q < (a + 1).toNat := h3
    omega
  obtain ⟨i, r⟩ := x
  obtain ⟨i0, i1, hp, hu⟩ := hx
  dsimp only at i0 i1 hp hu ⊢
  have rl := hp.len
  refine ⟨fun hi => ⟨⟨by show a ≤ i; omega, Int.le_refl _, PSeg.refl _ _ _, fun p q h1 h2 h3 h4 => hu p q h1 h2 ?_⟩, fun x1 hx1 => ?_⟩, fun hi => ?_⟩
  · have h4 : q ≠ i.toNat := h4
    omega
  · obtain ⟨j, r'⟩ := x1
    obtain ⟨j0, j1, hp1, hu1⟩ := hx1
    dsimp only at j0 j1 hp1 hu1 ⊢
    have rl1 := hp1.len
    have w1 : IntKind.wrap .i64 (j - 1) = j - 1 := wrapS (by omega) (by omega)
    have w2 : IntKind.wrap .i64 (i + 1) = i + 1 := wrapS (by omega) (by omega)
    rw [w1, w2]
    have lt_of : ∀ {x y : Ad}, cmpA x y < 0 → ltA x y = true := fun h => decide_eq_true h
    have nlt_of : ∀ {x y : Ad}, ¬ cmpA x y < 0 → ltA x y = false := fun h => decide_eq_false h
    refine ⟨fun h => by omega, fun h => by omega, fun h => by omega, fun h => by omega, fun _ => trivial, fun h => ?_, fun h => ?_⟩
    · obtain ⟨hj, hc⟩ := h
      have hlt := lt_of hc
      rw [List.length_set]
      refine ⟨by omega, by omega, by omega, by omega, by omega, by omega, by omega, by omega, ?_, by omega⟩
      have hs : PSeg zA a.toNat (i.toNat + 1) r' (swp zA j.toNat (j - 1).toNat r') := swp_seg (by omega) (by omega) (by omega) (by omega) (by omega)
      refine ⟨by show a ≤ j - 1; omega, by show j - 1 ≤ i; omega, hp1.trans hs, fun p q h1 h2 h3 h4 => ?_⟩
      have h4 : q ≠ (j - 1).toNat := h4
      have g := fun k => swp_get (z := zA) (i := j.toNat) (j := (j - 1).toNat) (r := r') (by omega) (by omega) k
      show ltA ((swp zA j.toNat (j - 1).toNat r').getD q zA) ((swp zA j.toNat (j - 1).toNat r').getD p zA) = false
      rw [g, g, if_neg h4]
      by_cases c1 : q = j.toNat
      · rw [if_pos c1]
        by_cases c2 : p = (j - 1).toNat
        · rw [if_pos c2]; exact ordA.asym hlt
        · rw [if_neg c2, if_neg (by omega)]
          exact hu1 p (j - 1).toNat h1 (by omega) (by omega) (by omega)
      · rw [if_neg c1]
        by_cases c2 : p = (j - 1).toNat
        · rw [if_pos c2]; exact hu1 j.toNat q (by omega) (by omega) h3 c1
        · rw [if_neg c2]
          by_cases c3 : p = j.toNat
          · rw [if_pos c3]; exact hu1 (j - 1).toNat q (by omega) (by omega) h3 c1
          · rw [if_neg c3]; exact hu1 p q h1 h2 h3 c1
    · refine ⟨⟨by show a + 1 ≤ i + 1; omega, .inl (by show i + 1 ≤ b; omega), hp.trans (hp1.mono (Nat.le_refl _) (by omega)), fun p q h1 h2 h3 => ?_⟩, by omega⟩
      have h3 : q < (i + 1).toNat := h3
      by_cases c1 : q = j.toNat
      · have hj : a < j := by omega
        have hn : ltA (r'.getD j.toNat zA) (r'.getD (j - 1).toNat zA) = false := by
          rcases h with h | h
          · omega
          · exact nlt_of h
        show ltA (r'.getD q zA) (r'.getD p zA) = false
        rw [c1]
        by_cases c2 : p = (j - 1).toNat
        · rw [c2]; exact hn
        · exact ordA.le (hu1 p (j - 1).toNat h1 (by omega) (by omega) (by omega)) hn
      · exact hu1 p q h1 h2 (by omega) c1
  · refine seg_unique ordA (by omega) (by omega) hp fun p q h1 h2 h3 => ?_
    exact hu p q h1 h2 (by omega)
theorem Bls.of_seg {k : Nat} {a e : Nat} {r : List Ad} (ha : a ≤ e) (he : e ≤ r.length) (h : Bls k a r) (hk : ∀ p q, p < q → q < e → p / k = q / k → a ≤ q → a ≤ p) : Bls k e (segS ltA a e r) := fun p q h1 h2 h3 => by
  obtain ⟨p1, u1⟩ := segS_ok (z := zA) ordA ha he
  by_cases c : a ≤ q
  · exact u1 p q (hk p q h1 h2 h3 c) h1 h2
  · rw [p1.e q (by omega), p1.e p (by omega)]
    exact h p q h1 (by omega) h3
theorem divK {k : Int} (hk : k = 20 ∨ k = 40 ∨ k = 80) {p q : Nat} (h20 : k = 20 → p / 20 = q / 20) (h40 : k = 40 → p / 40 = q / 40) (h80 : k = 80 → p / 80 = q / 80) : p / k.toNat = q / k.toNat := by
  rcases hk with rfl | rfl | rfl
  · exact h20 rfl
  · exact h40 rfl
  · exact h80 rfl
theorem getD_out {r : List Ad} {k : Nat} (h : r.length ≤ k) : r.getD k zA = zA := by
  rw [List.getD_eq_getElem?_getD, List.getElem?_eq_none h]; rfl
theorem m99 : VcM g99 99 400 Tryd.f99 cSta := by
  constructor
  rw [m99_eq]
  simp only [Wr_iff, E_iff, bcase_iff, true_and, and_true, decide_eq_true_eq, decide_eq_false_iff_not, Bool.and_eq_true, Bool.and_eq_false_iff, Bool.or_eq_true, Bool.or_eq_false_iff, Bool.not_eq_true', Bool.not_eq_false', Option.map_some, Option.getD_some, Option.isSome_some, Option.isSome_map, imp_self, nilL, noneO]
  rintro xs ⟨n, ⟨⟩⟩ ⟨hn, hl⟩
  dsimp only at hn hl ⊢
  refine ⟨⟨.inl rfl, rfl, by show 0 ≤ n; omega, .refl _, fun p q h1 h2 h3 => by have h2 : q < 0 := h2; omega⟩, fun x hx => ?_⟩
  obtain ⟨a, b, r⟩ := x
  obtain ⟨ha, hb, han, hp, hu⟩ := hx
  dsimp only at ha hb han hp hu ⊢
  subst hb
  have rl := hp.length_eq
  refine ⟨fun hi => ?_, fun hi => ?_⟩
  · have w1 : IntKind.wrap .i64 (a + 20 + 20) = a + 20 + 20 := wrapS (by omega) (by omega)
    rw [w1]
    have hs := (segS_ok (z := zA) ordA (a := a.toNat) (b := (a + 20).toNat) (xs := r) (by omega) (by omega)).1
    refine ⟨⟨by omega, by omega, by omega, by show r.length ≤ 100000; omega⟩, ⟨?_, rfl, hi, hs.p.trans hp, ?_⟩, by omega⟩
    · show a + 20 = 0 ∨ a + 20 = 20 ∨ a + 20 = 40 ∨ a + 20 = 60
      omega
    · refine Bls.of_seg (by omega) (by omega) hu fun p q h1 h2 h3 h4 => ?_
      rcases ha with rfl | rfl | rfl | rfl <;> omega
  · have hs := (segS_ok (z := zA) ordA (a := a.toNat) (b := n.toNat) (xs := r) (by omega) (by omega)).1
    have hB : Bls 20 n.toNat (segS ltA a.toNat n.toNat r) := by
      refine Bls.of_seg (by omega) (by omega) hu fun p q h1 h2 h3 h4 => ?_
      rcases ha with rfl | rfl | rfl | rfl <;> omega
    have hp0 : (segS ltA a.toNat n.toNat r).Perm xs := hs.p.trans hp
    generalize segS ltA a.toNat n.toNat r = r0 at hp0 hB ⊢
    clear hs
    refine ⟨⟨by omega, by omega, by omega, by show r.length ≤ 100000; omega⟩, ⟨.inl rfl, .refl _, hB⟩, fun x1 hx1 => ?_⟩
    obtain ⟨k, r1⟩ := x1
    obtain ⟨hk, hp1, hu1⟩ := hx1
    dsimp only at hk hp1 hu1 ⊢
    have rl0 := hp0.length_eq
    have rl1 := hp1.length_eq
    refine ⟨fun hi1 => ?_, fun hi1 => ?_⟩
    · have w1 : IntKind.wrap .i64 (2 * k) = 2 * k := wrapS (by omega) (by omega)
      have w2 : IntKind.wrap .i64 (k * 2) = 2 * k := by rw [Int.mul_comm]; exact w1
      rw [w1, w2]
      refine ⟨⟨.inl rfl, by show 2 * k = 0 + 2 * k; omega, by show 0 ≤ n; omega, .refl _, fun p q h1 h2 h3 => by have h3 : q < 0 := h3; omega, hu1⟩, fun x2 hx2 => ?_⟩
      obtain ⟨a2, b2, r2⟩ := x2
      obtain ⟨ha2, hb2, han2, hp2, hu2, hv2⟩ := hx2
      dsimp only at ha2 hb2 han2 hp2 hu2 hv2 ⊢
      subst hb2
      have rl2 := hp2.length_eq
      have w3 : IntKind.wrap .i64 (a2 + k) = a2 + k := wrapS (by omega) (by omega)
      have w4 : IntKind.wrap .i64 (a2 + 2 * k + 2 * k) = a2 + 2 * k + 2 * k := wrapS (by omega) (by omega)
      rw [w3, w4]
      refine ⟨fun hi2 => ?_, fun hi2 => ⟨fun hi3 => ?_, fun hi3 => ?_⟩⟩
      · have ha0 : a2 = 0 := by omega
        subst ha0
        have hs := segS_ok (z := zA) ordA (a := Int.toNat 0) (b := (0 + 2 * k).toNat) (xs := r2) (by omega) (by omega)
        refine ⟨⟨by omega, by omega, by omega, by omega, by show r2.length ≤ 100000; omega, fun p q h1 h2 h3 => hv2 p q h2 (by omega) ?_, fun p q h1 h2 h3 => hv2 p q h2 (by omega) ?_, by omega⟩, ⟨.inr (by show 0 + 2 * k = 2 * k; omega), rfl, hi2, hs.1.p.trans hp2, hs.2, fun p q h1 h2 h3 => ?_⟩, by omega⟩
        · exact divK hk (fun e => by omega) (fun e => by omega) (fun e => by omega)
        · exact divK hk (fun e => by omega) (fun e => by omega) (fun e => by omega)
        · by_cases c : q < (0 + 2 * k).toNat
          · exact hs.2 p q (by omega) h1 c
          · have hpc : (0 + 2 * k).toNat ≤ p := by
              rcases hk with h | h | h
              · rw [show k.toNat = 20 by omega] at h3; omega
              · rw [show k.toNat = 40 by omega] at h3; omega
              · omega
            show ltA ((segS ltA (Int.toNat 0) (0 + 2 * k).toNat r2).getD q zA) ((segS ltA (Int.toNat 0) (0 + 2 * k).toNat r2).getD p zA) = false
            rw [hs.1.e q (by omega), hs.1.e p (by omega)]
            exact hv2 p q h1 h2 h3
      · have hs := segS_ok (z := zA) ordA (a := a2.toNat) (b := n.toNat) (xs := r2) (by omega) (by omega)
        refine ⟨⟨by omega, by omega, by omega, by omega, by show r2.length ≤ 100000; omega, fun p q h1 h2 h3 => hv2 p q h2 (by omega) ?_, fun p q h1 h2 h3 => hv2 p q h2 (by omega) ?_, by omega⟩, ⟨?_, (hs.1.p.trans hp2).trans hp1, fun p q h1 h2 h3 => ?_⟩, by omega⟩
        · exact divK hk (fun e => by omega) (fun e => by omega) (fun e => by omega)
        · exact divK hk (fun e => by omega) (fun e => by omega) (fun e => by omega)
        · show 2 * k = 20 ∨ 2 * k = 40 ∨ 2 * k = 80
          omega
        · have h3 : p / (2 * k).toNat = q / (2 * k).toNat := h3
          show ltA ((segS ltA a2.toNat n.toNat r2).getD q zA) ((segS ltA a2.toNat n.toNat r2).getD p zA) = false
          by_cases c : q < a2.toNat
          · rw [hs.1.e q (by omega), hs.1.e p (by omega)]
            exact hu2 p q (Nat.zero_le _) h1 c
          · exact hs.2 p q (by
              rcases hk with h | h | h
              · rw [show (2 * k).toNat = 40 by omega] at h3; omega
              · rw [show (2 * k).toNat = 80 by omega] at h3; omega
              · rw [show (2 * k).toNat = 160 by omega] at h3; omega) h1 h2
      · refine ⟨⟨?_, hp2.trans hp1, fun p q h1 h2 h3 => ?_⟩, by omega⟩
        · show 2 * k = 20 ∨ 2 * k = 40 ∨ 2 * k = 80
          omega
        · have h3 : p / (2 * k).toNat = q / (2 * k).toNat := h3
          show ltA (r2.getD q zA) (r2.getD p zA) = false
          by_cases c : q < a2.toNat
          · exact hu2 p q (Nat.zero_le _) h1 c
          · exact hv2 p q h1 h2 (by
              rcases hk with h | h | h
              · rw [show (2 * k).toNat = 40 by omega] at h3; rw [show k.toNat = 20 by omega]; omega
              · rw [show (2 * k).toNat = 80 by omega] at h3; rw [show k.toNat = 40 by omega]; omega
              · rw [show (2 * k).toNat = 160 by omega] at h3; rw [show k.toNat = 80 by omega]; omega)
    · have hps : PSeg zA 0 xs.length xs r1 := ⟨hp1.trans hp0, fun j hj => by
        rw [getD_out (by omega), getD_out (by omega)]⟩
      rw [← segS_all]
      refine seg_unique ordA (Nat.zero_le _) (Nat.le_refl _) hps fun p q h1 h2 h3 => hu1 p q h2 (by omega) ?_
      exact divK hk (fun e => by omega) (fun e => by omega) (fun e => by omega)
theorem m73 : VcM g73 73 400 Tryd.f73 cSort := by
  constructor
  rw [m73_eq]
  simp only [Wr_iff, E_iff, bcase_iff, true_and, and_true, decide_eq_true_eq, decide_eq_false_iff_not, Bool.and_eq_true, Bool.and_eq_false_iff, Bool.or_eq_true, Bool.or_eq_false_iff, Bool.not_eq_true', Bool.not_eq_false', Option.map_some, Option.getD_some, Option.isSome_some, Option.isSome_map, imp_self, nilL, noneO]
  intro _ _
  trivial
end Go.Proofs.YtkimpfoimblhjaaDoor.Ad
set_option linter.all false
namespace Go.Proofs.YtkimpfoimblhjaaDoor.Ad
open Go Go.Eng Go.Lb Go.Ad Lb Go.Proofs.St
set_option maxRecDepth 100000
set_option maxHeartbeats 4000000
theorem half_id {n : Int} (h0 : 0 ≤ n) (h1 : n ≤ 1000000) : IntKind.wrap .i64 (Int.fdiv (IntKind.wrap .u64 (IntKind.wrap .i64 n)) ((2 : Int) ^ min (Int.toNat 1) (IntKind.bits .u64))) = n / 2 := by
  rw [show IntKind.wrap .i64 n = n from wrapS (by omega) (by omega), show IntKind.wrap .u64 n = n by simp [IntKind.wrap, IntKind.signed, IntKind.bits]; omega]
  show IntKind.wrap .i64 (Int.fdiv n 2) = n / 2
  rw [Int.fdiv_eq_ediv_of_nonneg _ (by decide)]
  exact wrapS (by omega) (by omega)
theorem lt_of {x y : Ad} (h : cmpA x y < 0) : ltA x y = true := decide_eq_true h
theorem nlt_of {x y : Ad} (h : ¬ cmpA x y < 0) : ltA x y = false := decide_eq_false h
theorem up_lt {a b : Nat} {xs : List Ad} (hu : UpOn ltA zA a b xs) {k h : Nat} {y : Ad} (h1 : a ≤ k) (h2 : k ≤ h) (h3 : h < b) (hl : ltA (xs.getD h zA) y = true) : ltA (xs.getD k zA) y = true := by
  by_cases e : k = h
  · rw [e]; exact hl
  · cases hk : ltA (xs.getD k zA) y with
    | true => rfl
    | false =>
      -- y ≤ xs[k] ≤ xs[h], and xs[h] < y
      have := ordA.le hk (hu k h h1 (by omega) h3)
      rw [hl] at this; cases this
theorem up_nlt {a b : Nat} {xs : List Ad} (hu : UpOn ltA zA a b xs) {k h : Nat} {y : Ad} (h1 : a ≤ h) (h2 : h ≤ k) (h3 : k < b) (hl : ltA (xs.getD h zA) y = false) : ltA (xs.getD k zA) y = false := by
  by_cases e : k = h
  · rw [e]; exact hl
  · exact ordA.le hl (hu h k h1 (by omega) h3)
theorem lo_nlt {a b : Nat} {xs : List Ad} (hu : UpOn ltA zA a b xs) {k h : Nat} {y : Ad} (h1 : a ≤ k) (h2 : k ≤ h) (h3 : h < b) (hl : ltA y (xs.getD h zA) = false) : ltA y (xs.getD k zA) = false := by
  by_cases e : k = h
  · rw [e]; exact hl
  · exact ordA.le (hu k h h1 (by omega) h3) hl
theorem lo_lt {a b : Nat} {xs : List Ad} (hu : UpOn ltA zA a b xs) {k h : Nat} {y : Ad} (h1 : a ≤ h) (h2 : h ≤ k) (h3 : k < b) (hl : ltA y (xs.getD h zA) = true) : ltA y (xs.getD k zA) = true := by
  cases hk : ltA y (xs.getD k zA) with
  | true => rfl
  | false => have := lo_nlt hu h1 h2 h3 hk; rw [hl] at this; cases this
theorem m121 (k : Nat) : VcM (g121 k) 121 400 Tryd.f121 (cSym (k + 1)) := by
  constructor
  rw [m121_eq]
  simp only [Wr_iff, E_iff, bcase_iff, true_and, and_true, decide_eq_true_eq, decide_eq_false_iff_not, Bool.and_eq_true, Bool.and_eq_false_iff, Bool.or_eq_true, Bool.or_eq_false_iff, Bool.not_eq_true', Bool.not_eq_false', Option.map_some, Option.getD_some, Option.isSome_some, Option.isSome_map, imp_self, nilL, noneO]
  rintro xs ⟨a, m, b, ⟨⟩⟩ ⟨a0, am, mb, bl, hl, u1, u2, hk⟩
  dsimp only [Big] at a0 am mb bl hl u1 u2 hk ⊢
  have w1 : IntKind.wrap .i64 (m - a) = m - a := wrapS (by omega) (by omega)
  have w2 : IntKind.wrap .i64 (b - m) = b - m := wrapS (by omega) (by omega)
  have w3 : IntKind.wrap .i64 (Int.fdiv (IntKind.wrap .u64 (IntKind.wrap .i64 (a + b))) ((2 : Int) ^ min (Int.toNat 1) (IntKind.bits .u64))) = (a + b) / 2 := half_id (by omega) (by omega)
  have w4 : IntKind.wrap .i64 ((a + b) / 2 + m) = (a + b) / 2 + m := wrapS (by omega) (by omega)
  have w5 : IntKind.wrap .i64 ((a + b) / 2 + m - 1) = (a + b) / 2 + m - 1 := wrapS (by omega) (by omega)
  have w6 : IntKind.wrap .i64 ((a + b) / 2 + m - b) = (a + b) / 2 + m - b := wrapS (by omega) (by omega)
  rw [w1, w2, w3, w4, w5, w6]
  refine ⟨fun h1 => ⟨⟨Int.le_refl _, by show m ≤ b; omega, Int.le_refl _, fun k h2 h3 => ?_, fun k h2 h3 => ?_⟩, fun x hx => ?_⟩, fun h1 => ⟨fun h2 => ⟨⟨Int.le_refl _, by show a ≤ m; omega, Int.le_refl _, fun k h2 h3 => ?_, fun k h2 h3 => ?_⟩, fun x hx => ?_⟩, fun h2 => ⟨by decide, ⟨fun hm => ?_, fun hm => ?_⟩, fun x hx => ?_⟩⟩⟩
  · have h3 : k < m.toNat := h3
    omega
  · have h2 : b.toNat ≤ k := h2
    omega
  · -- one ahead of many
    obtain ⟨i, j⟩ := x
    obtain ⟨i0, ij, j1, hL, hG⟩ := hx
    dsimp only at i0 ij j1 hL hG ⊢
    have hma : m.toNat = a.toNat + 1 := by omega
    refine ⟨fun hi => ?_, fun hi => ⟨⟨⟨Int.le_refl _, by show a ≤ i - 1; omega⟩, (rot_id zA (by omega) (by omega)).2.symm⟩, fun y hy => ⟨fun hi2 => ?_, fun hi2 => ?_⟩⟩⟩
    · have w7 : IntKind.wrap .i64 (Int.fdiv (IntKind.wrap .u64 (IntKind.wrap .i64 (i + j))) ((2 : Int) ^ min (Int.toNat 1) (IntKind.bits .u64))) = (i + j) / 2 := half_id (by omega) (by omega)
      have w8 : IntKind.wrap .i64 ((i + j) / 2 + 1) = (i + j) / 2 + 1 := wrapS (by omega) (by omega)
      rw [w7, w8]
      refine ⟨by decide, by omega, by omega, by omega, by omega, fun hc => ⟨⟨by show m ≤ (i + j) / 2 + 1; omega, by show (i + j) / 2 + 1 ≤ j; omega, j1, fun k h2 h3 => ?_, hG⟩, by omega⟩, fun hc => ⟨⟨i0, by show i ≤ (i + j) / 2; omega, by show (i + j) / 2 ≤ b; omega, hL, fun k h2 h3 => ?_⟩, by omega⟩⟩
      · have h3 : k < ((i + j) / 2 + 1).toNat := h3
        exact up_lt u2 h2 (show k ≤ ((i + j) / 2).toNat by omega) (by omega) (lt_of hc)
      · have h2 : ((i + j) / 2).toNat ≤ k := h2
        exact up_nlt u2 (show m.toNat ≤ ((i + j) / 2).toNat by omega) h2 h3 (nlt_of hc)
    · obtain ⟨y0, y1⟩ := hy
      have w7 : IntKind.wrap .i64 (i - 1) = i - 1 := wrapS (by omega) (by omega)
      rw [w7] at hi2
      have w8 : IntKind.wrap .i64 (y + 1) = y + 1 := wrapS (by omega) (by omega)
      have e := rot_up (z := zA) (a := a.toNat) (k := y.toNat) (xs := xs) (by omega) (by omega)
      rw [w8, List.length_set, rot_len (by omega) (by omega) (by omega)]
      rw [show y.toNat + 2 = (y + 1).toNat + 1 by omega] at e
      rw [show swp zA y.toNat (y.toNat + 1) (rotF a.toNat (a.toNat + 1) (y.toNat + 1) xs) = swp zA y.toNat (y + 1).toNat (rotF a.toNat (a.toNat + 1) (y.toNat + 1) xs) by rw [show y.toNat + 1 = (y + 1).toNat by omega]] at e
      exact ⟨by omega, by omega, by omega, by omega, by omega, by omega, by omega, by omega, ⟨by omega, by omega⟩, by omega, e⟩
    · obtain ⟨y0, y1⟩ := hy
      have w7 : IntKind.wrap .i64 (i - 1) = i - 1 := wrapS (by omega) (by omega)
      rw [w7] at hi2
      rw [show y.toNat + 1 = i.toNat by omega]
      rw [hma] at u2 hL
      exact merge_one ordA (by omega) (by omega) (by omega) u2 hL fun k h3 h4 => hG k (by omega) h4
  · have h3 : k < a.toNat := h3
    omega
  · have h2 : m.toNat ≤ k := h2
    omega
  · -- many ahead of one
    obtain ⟨i, j⟩ := x
    obtain ⟨i0, ij, j1, hL, hG⟩ := hx
    dsimp only at i0 ij j1 hL hG ⊢
    have hmb : b.toNat = m.toNat + 1 := by omega
    refine ⟨fun hi => ?_, fun hi => ⟨⟨⟨by show i ≤ m; omega, Int.le_refl _⟩, (rot_id zA (by omega) (by omega)).1.symm⟩, fun y hy => ⟨fun hi2 => ?_, fun hi2 => ?_⟩⟩⟩
    · have w7 : IntKind.wrap .i64 (Int.fdiv (IntKind.wrap .u64 (IntKind.wrap .i64 (i + j))) ((2 : Int) ^ min (Int.toNat 1) (IntKind.bits .u64))) = (i + j) / 2 := half_id (by omega) (by omega)
      have w8 : IntKind.wrap .i64 ((i + j) / 2 + 1) = (i + j) / 2 + 1 := wrapS (by omega) (by omega)
      rw [w7, w8]
      refine ⟨by decide, by omega, by omega, by omega, by omega, fun hc => ⟨⟨by show a ≤ (i + j) / 2 + 1; omega, by show (i + j) / 2 + 1 ≤ j; omega, j1, fun k h2 h3 => ?_, hG⟩, by omega⟩, fun hc => ⟨⟨i0, by show i ≤ (i + j) / 2; omega, by show (i + j) / 2 ≤ m; omega, hL, fun k h2 h3 => ?_⟩, by omega⟩⟩
      · have h3 : k < ((i + j) / 2 + 1).toNat := h3
        exact lo_nlt u1 h2 (show k ≤ ((i + j) / 2).toNat by omega) (by omega) (nlt_of hc)
      · have h2 : ((i + j) / 2).toNat ≤ k := h2
        exact lo_lt u1 (show a.toNat ≤ ((i + j) / 2).toNat by omega) h2 h3 (lt_of hc)
    · obtain ⟨y0, y1⟩ := hy
      have w8 : IntKind.wrap .i64 (y - 1) = y - 1 := wrapS (by omega) (by omega)
      have e := rot_dn (z := zA) (m := m.toNat) (k := (y - 1).toNat) (xs := xs) (by omega) (by omega)
      rw [show (y - 1).toNat + 1 = y.toNat by omega] at e
      rw [w8, List.length_set, rot_len (by omega) (by omega) (by omega)]
      exact ⟨by omega, by omega, by omega, by omega, by omega, by omega, by omega, by omega, ⟨by omega, by omega⟩, by omega, e⟩
    · obtain ⟨y0, y1⟩ := hy
      rw [show y.toNat = i.toNat by omega, hmb]
      exact merge_last ordA (by omega) (by omega) (by omega) u1 hL fun k h3 h4 => hG k (by omega) h4
  · rw [cutS, cutR, if_pos (by omega), if_pos (by omega)]
    omega
  · rw [cutS, cutR, if_neg (by omega), if_neg (by omega)]
    omega
  · -- in two
    obtain ⟨s0, r0⟩ := x
    obtain ⟨rfl, rfl⟩ := hx
    have cS : (cutS a.toNat m.toNat b.toNat : Int) = if m > (a + b) / 2 then (a + b) / 2 + m - b else a := by
      unfold cutS; split <;> split <;> omega
    have cR : (cutR a.toNat m.toNat b.toNat : Int) = if m > (a + b) / 2 then (a + b) / 2 else m := by
      unfold cutR; split <;> split <;> omega
    have cSR : cutS a.toNat m.toNat b.toNat ≤ cutR a.toNat m.toNat b.toNat := by
      unfold cutS cutR; split <;> omega
    have cSa : (a : Int) ≤ cutS a.toNat m.toNat b.toNat := by rw [cS]; split <;> omega
    have cRm : (cutR a.toNat m.toNat b.toNat : Int) ≤ m := by rw [cR]; split <;> omega
    have cRh : (cutR a.toNat m.toNat b.toNat : Int) ≤ (a + b) / 2 := by rw [cR]; split <;> omega
    have cSb : (a + b) / 2 + m - b ≤ (cutS a.toNat m.toNat b.toNat : Int) := by rw [cS]; split <;> omega
    have hmid : (a.toNat + b.toNat) / 2 = ((a + b) / 2).toNat := by omega
    refine ⟨⟨Int.le_refl _, by show (cutS a.toNat m.toNat b.toNat : Int) ≤ cutR a.toNat m.toNat b.toNat; omega, Int.le_refl _, fun c h3 h4 => ?_, fun c h3 h4 => ?_⟩, fun x hx => ?_⟩
    · have h4 : c < Int.toNat (cutS a.toNat m.toNat b.toNat : Int) := h4
      omega
    · have h3 : Int.toNat (cutR a.toNat m.toNat b.toNat : Int) ≤ c := h3
      omega
    obtain ⟨i, j⟩ := x
    obtain ⟨i0, ij, j1, hL, hG⟩ := hx
    dsimp only at i0 ij j1 hL hG ⊢
    refine ⟨fun hi => ?_, fun hi => ?_⟩
    · have w7 : IntKind.wrap .i64 (Int.fdiv (IntKind.wrap .u64 (IntKind.wrap .i64 (i + j))) ((2 : Int) ^ min (Int.toNat 1) (IntKind.bits .u64))) = (i + j) / 2 := half_id (by omega) (by omega)
      have w8 : IntKind.wrap .i64 ((i + j) / 2 + 1) = (i + j) / 2 + 1 := wrapS (by omega) (by omega)
      have w9 : IntKind.wrap .i64 ((a + b) / 2 + m - 1 - (i + j) / 2) = (a + b) / 2 + m - 1 - (i + j) / 2 := wrapS (by omega) (by omega)
      rw [w7, w8, w9]
      have hp : ∀ c : Nat, cutS a.toNat m.toNat b.toNat ≤ c → c < cutR a.toNat m.toNat b.toNat → m.toNat ≤ (a.toNat + b.toNat) / 2 + m.toNat - 1 - c ∧ (a.toNat + b.toNat) / 2 + m.toNat - 1 - c < b.toNat := fun c h3 h4 => by omega
      have eh : ((a + b) / 2 + m - 1 - (i + j) / 2).toNat = (a.toNat + b.toNat) / 2 + m.toNat - 1 - ((i + j) / 2).toNat := by omega
      rw [eh]
      generalize hc0 : ((i + j) / 2).toNat = c0 at *
      refine ⟨by decide, by omega, by omega, by omega, by omega, fun hc => ⟨⟨by show _ ≤ (i + j) / 2 + 1; omega, by show (i + j) / 2 + 1 ≤ j; omega, j1, fun c h3 h4 => ?_, hG⟩, by omega⟩, fun hc => ⟨⟨i0, by show i ≤ (i + j) / 2; omega, by show (i + j) / 2 ≤ _; omega, hL, fun c h3 h4 => ?_⟩, by omega⟩⟩
      · have h4 : c < ((i + j) / 2 + 1).toNat := h4
        -- xs[c] ≤ xs[c0] ≤ xs[p - c0] ≤ xs[p - c]
        have q := lo_nlt u1 (show a.toNat ≤ c by omega) (show c ≤ c0 by omega) (by omega) (nlt_of hc)
        exact up_nlt u2 (hp c0 (by omega) (by omega)).1 (show (a.toNat + b.toNat) / 2 + m.toNat - 1 - c0 ≤ (a.toNat + b.toNat) / 2 + m.toNat - 1 - c by omega) (hp c h3 (by omega)).2 q
      · have h3 : ((i + j) / 2).toNat ≤ c := h3
        have q := lo_lt u1 (show a.toNat ≤ c0 by omega) (show c0 ≤ c by omega) (by omega) (lt_of hc)
        exact up_lt u2 (hp c (by omega) h4).1 (show (a.toNat + b.toNat) / 2 + m.toNat - 1 - c ≤ (a.toNat + b.toNat) / 2 + m.toNat - 1 - c0 by omega) (hp c0 (by omega) (by omega)).2 q
    · have hij : i = j := by omega
      subst hij
      have w7 : IntKind.wrap .i64 ((a + b) / 2 + m - i) = (a + b) / 2 + m - i := wrapS (by omega) (by omega)
      rw [w7]
      have hc : CutI ltA zA a.toNat m.toNat b.toNat xs (cutS a.toNat m.toNat b.toNat) (cutR a.toNat m.toNat b.toNat) i.toNat := ⟨by omega, by omega, hL, hG⟩
      have hA := merge_all (r1 := _) (r2 := _) (r3 := _) ordA (show a.toNat < m.toNat by omega) (show m.toNat < b.toNat by omega) (by omega) u1 u2 hc rfl rfl rfl
      obtain ⟨v1, v2, v3, v4, vx⟩ := cut_ok ordA (show a.toNat < m.toNat by omega) (show m.toNat < b.toNat by omega) (by omega) u1 u2 hc
      have e1 : (a.toNat + b.toNat) / 2 + m.toNat - i.toNat = ((a + b) / 2 + m - i).toNat := by omega
      rw [e1, hmid] at hA v2 v3
      rw [e1] at v1 v4
      clear vx
      obtain ⟨q1, q2, q3, q4, q5, q6⟩ := cut_b (show a.toNat < m.toNat by omega) (show m.toNat < b.toNat by omega) hc.lo hc.hi
      rw [hmid] at q5 q6 q3 q4
      generalize hen : (a + b) / 2 + m - i = en at *
      generalize hmd : (a + b) / 2 = mid at *
      have fin : ∀ r1 : List Ad, r1.length = xs.length → UpOn ltA zA a.toNat i.toNat r1 → UpOn ltA zA i.toNat mid.toNat r1 → UpOn ltA zA mid.toNat en.toNat r1 → UpOn ltA zA en.toNat b.toNat r1 →
          (if mid.toNat < en.toNat ∧ en.toNat < b.toNat then segS ltA mid.toNat b.toNat (if a.toNat < i.toNat ∧ i.toNat < mid.toNat then segS ltA a.toNat mid.toNat r1 else r1) else (if a.toNat < i.toNat ∧ i.toNat < mid.toNat then segS ltA a.toNat mid.toNat r1 else r1)) = segS ltA a.toNat b.toNat xs →
          (a < i ∧ i < mid → MeP k r1 a i mid ∧ (mid < en ∧ en < b → MeP k (segS ltA a.toNat mid.toNat r1) mid en b ∧ segS ltA mid.toNat b.toNat (segS ltA a.toNat mid.toNat r1) = segS ltA a.toNat b.toNat xs) ∧ (¬ mid < en ∨ ¬ en < b → segS ltA a.toNat mid.toNat r1 = segS ltA a.toNat b.toNat xs)) ∧
          (¬ a < i ∨ ¬ i < mid → (mid < en ∧ en < b → MeP k r1 mid en b ∧ segS ltA mid.toNat b.toNat r1 = segS ltA a.toNat b.toNat xs) ∧ (¬ mid < en ∨ ¬ en < b → r1 = segS ltA a.toNat b.toNat xs)) := by
        intro r1 rl x1 x2 x3 x4 hE
        obtain ⟨p1, z1⟩ := segS_ok (z := zA) ordA (a := a.toNat) (b := mid.toNat) (xs := r1) (by omega) (by omega)
        have pl := p1.len
        refine ⟨fun c2 => ⟨⟨a0, c2.1, c2.2, by omega, by show r1.length ≤ 100000; omega, x1, x2, by omega⟩, fun c3 => ⟨⟨by omega, c3.1, c3.2, by omega, by show (segS ltA a.toNat mid.toNat r1).length ≤ 100000; omega, x3.seg_of p1 (.inr (Nat.le_refl _)), x4.seg_of p1 (.inr (by omega)), by omega⟩, ?_⟩, fun c3 => ?_⟩, fun c2 => ⟨fun c3 => ⟨⟨by omega, c3.1, c3.2, by omega, by show r1.length ≤ 100000; omega, x3, x4, by omega⟩, ?_⟩, fun c3 => ?_⟩⟩
        · rw [if_pos (by omega), if_pos (by omega)] at hE; exact hE
        · rw [if_neg (by omega), if_pos (by omega)] at hE; exact hE
        · rw [if_pos (by omega), if_neg (by omega)] at hE; exact hE
        · rw [if_neg (by omega), if_neg (by omega)] at hE; exact hE
      refine ⟨fun c1 => ⟨⟨by omega, c1.1, c1.2, by omega, by show xs.length ≤ 100000; omega⟩, ?_⟩, fun c1 => ?_⟩
      · rw [if_pos (show i.toNat < m.toNat ∧ m.toNat < en.toNat by omega)] at hA
        exact fin _ (rot_len (by omega) (by omega) (by omega)) v1 v2 v3 v4 hA
      · rw [if_neg (show ¬ (i.toNat < m.toNat ∧ m.toNat < en.toNat) by omega)] at hA
        have eR : rotF i.toNat m.toNat en.toNat xs = xs := by
          by_cases c : i.toNat = m.toNat
          · rw [c]; exact (rot_id zA (by omega) (by omega)).1
          · rw [show en.toNat = m.toNat by omega]; exact (rot_id zA (by omega) (by omega)).2
        rw [eR] at v1 v2 v3 v4
        exact fin _ rfl v1 v2 v3 v4 hA
end Go.Proofs.YtkimpfoimblhjaaDoor.Ad
set_option linter.all false
namespace Go.Proofs.YtkimpfoimblhjaaDoor.Ad
open Go Go.Eng Go.Lb Go.Ad Lb Go.Proofs.St
set_option maxRecDepth 100000
abbrev TT : World → Prop := fun _ => True
theorem mval149 {G : World → Prop} : MValid Tryd.prog G 149 cSwr := mkValidR Tb.mix Tb.tab_ok Tb.eqs_ok (by kernel_rfl) g149 rfl allM_nil (allV_cons val71 allV_nil) allI_nil Tryd.func149 (by kernel_rfl) rfl rfl m149
theorem mval136 {G : World → Prop} : MValid Tryd.prog G 136 cRotM := mkValidR Tb.mix Tb.tab_ok Tb.eqs_ok (by kernel_rfl) g136 rfl (allM_cons (mval149 (G := TT)) allM_nil) (allV_cons val71 allV_nil) allI_nil Tryd.func136 (by kernel_rfl) rfl rfl m136
theorem mval120 {G : World → Prop} : MValid Tryd.prog G 120 cInsM := mkValidR Tb.mix Tb.tab_ok Tb.eqs_ok (by kernel_rfl) g120 rfl allM_nil (allV_cons val71 allV_nil) allI_nil Tryd.func120 (by kernel_rfl) rfl rfl m120
theorem mval121 : ∀ k : Nat, MValid Tryd.prog TT 121 (cSym k)
  | 0 => ⟨⟨Tryd.f121, Tryd.func121, by kernel_rfl, by kernel_rfl⟩, fun w _ base S v xs cs y ys _ _ _ _ _ _ _ hp => by
    have h1 := MeP.am hp
    have h2 := MeP.mb hp
    have h3 := MeP.k hp
    omega⟩
  | k + 1 => mkValidR Tb.mix Tb.tab_ok Tb.eqs_ok (by kernel_rfl) (g121 k) rfl (allM_cons (mval136 (G := TT)) (allM_cons (mval121 k) allM_nil)) (allV_cons val71 allV_nil) allI_nil Tryd.func121 (by kernel_rfl) rfl rfl (m121 k)
theorem mval99 {G : World → Prop} : MValid Tryd.prog G 99 cSta := mkValidR Tb.mix Tb.tab_ok Tb.eqs_ok (by kernel_rfl) g99 rfl (allM_cons (mval120 (G := TT)) (allM_cons (mval121 100) allM_nil)) (allV_cons val71 allV_nil) allI_nil Tryd.func99 (by kernel_rfl) rfl rfl m99
theorem mval73 {G : World → Prop} : MValid Tryd.prog G 73 cSort := mkValidR Tb.mix Tb.tab_ok Tb.eqs_ok (by kernel_rfl) g73 rfl (allM_cons (mval99 (G := TT)) allM_nil) (allV_cons val71 allV_nil) allI_nil Tryd.func73 (by kernel_rfl) rfl rfl m73
end Go.Proofs.YtkimpfoimblhjaaDoor.Ad
set_option maxRecDepth 100000
namespace Go.Proofs.YtkimpfoimblhjaaDoor.Ad
open Go Go.Eng Go.Lb Go.Ad Lb
def cWk : Contract := { a := .unit, r := .cons .bool .unit, pre := fun _ => True, F := fun _ => (true, ()) }
def cLw (a : Ty) : Contract := { a := a, r := .cons .bool .unit, pre := fun _ => True, F := fun _ => (true, ()) }
def lastI (l : List UInt8) : Int := match lastN 58 l with
  | none => -1
  | some k => (k : Int)
structure Cl8I (t : ByteArray) (a i : Int) : Prop where
  i0 : 0 ≤ i
  i1 : i ≤ t.size
  fa : a = lastI ((bytesL t).take i.toNat)
end Go.Proofs.YtkimpfoimblhjaaDoor.Ad
set_option linter.all false
namespace Go.Proofs.YtkimpfoimblhjaaDoor.Ad
open Go Go.Eng Go.Lb Go.Ad Lb
set_option maxRecDepth 100000
set_option maxHeartbeats 2000000
noncomputable def g16 : Cfg := { tab := Tb.tab, cons := [(17, cText), (18, cParse)], inls := [], loops := [], cuts := [], unroll := false, arrs := [] }
theorem v16_eq : vcFn g16 300 Tryd.f16 cWk = ( ∀ (x : Unit), Wr True → Wr (Bool.true = Bool.true) ∧ Wr (Go.Proofs.YtkimpfoimblhjaaDoor.Lb.szOk (ByteArray.mk (List.toArray ((91 : UInt8) :: (48 : UInt8) :: (58 : UInt8) :: (48 : UInt8) :: (58 : UInt8) :: (58 : UInt8) ::
  (49 : UInt8) :: (93 : UInt8) :: (58 : UInt8) :: (57 : UInt8) :: nilL UInt8))) = Bool.true) ∧ Wr (Bool.true = Bool.true) ∧ Wr (Go.Proofs.YtkimpfoimblhjaaDoor.Lb.szOk (ByteArray.mk (List.toArray ((49 : UInt8) :: (46 :
  UInt8) :: (50 : UInt8) :: (46 : UInt8) :: (51 : UInt8) :: (46 : UInt8) :: (48 : UInt8) :: (52 : UInt8) :: (58 : UInt8) :: (56 : UInt8) :: (48 : UInt8) :: nilL UInt8))) = Bool.true) ∧ (Decidable.decide (Go.Ad.text2 ((4 :
  Int), ((258 : Int), (772 : Int), (0 : Int), (0 : Int), (0 : Int), (0 : Int), (0 : Int), (0 : Int), ()), (80 : Int), ()) = (0 : Int)) && Decidable.decide (Go.Ad.text1 ((4 : Int), ((258 : Int), (772 : Int), (0 : Int), (0
  : Int), (0 : Int), (0 : Int), (0 : Int), (0 : Int), ()), (80 : Int), ()) = ByteArray.mk (List.toArray ((49 : UInt8) :: (46 : UInt8) :: (50 : UInt8) :: (46 : UInt8) :: (51 : UInt8) :: (46 : UInt8) :: (52 : UInt8) :: (58
  : UInt8) :: (56 : UInt8) :: (48 : UInt8) :: nilL UInt8))) && Decidable.decide (Go.Ad.parse2 (ByteArray.mk (List.toArray ((91 : UInt8) :: (48 : UInt8) :: (58 : UInt8) :: (48 : UInt8) :: (58 : UInt8) :: (58 : UInt8) ::
  (49 : UInt8) :: (93 : UInt8) :: (58 : UInt8) :: (57 : UInt8) :: nilL UInt8))) = (0 : Int)) && Decidable.decide ((Go.Ad.parse1 (ByteArray.mk (List.toArray ((91 : UInt8) :: (48 : UInt8) :: (58 : UInt8) :: (48 : UInt8) ::
  (58 : UInt8) :: (58 : UInt8) :: (49 : UInt8) :: (93 : UInt8) :: (58 : UInt8) :: (57 : UInt8) :: nilL UInt8)))).fst = (6 : Int)) && Decidable.decide ((Go.Ad.parse1 (ByteArray.mk (List.toArray ((91 : UInt8) :: (48 :
  UInt8) :: (58 : UInt8) :: (48 : UInt8) :: (58 : UInt8) :: (58 : UInt8) :: (49 : UInt8) :: (93 : UInt8) :: (58 : UInt8) :: (57 : UInt8) :: nilL UInt8)))).snd.fst.snd.snd.snd.snd.snd.snd.snd.fst = (1 : Int)) &&
  Decidable.decide ((Go.Ad.parse1 (ByteArray.mk (List.toArray ((91 : UInt8) :: (48 : UInt8) :: (58 : UInt8) :: (48 : UInt8) :: (58 : UInt8) :: (58 : UInt8) :: (49 : UInt8) :: (93 : UInt8) :: (58 : UInt8) :: (57 : UInt8)
  :: nilL UInt8)))).snd.snd.fst = (9 : Int)) && Decidable.decide (Go.Ad.text2 (Go.Ad.parse1 (ByteArray.mk (List.toArray ((91 : UInt8) :: (48 : UInt8) :: (58 : UInt8) :: (48 : UInt8) :: (58 : UInt8) :: (58 : UInt8) :: (49
  : UInt8) :: (93 : UInt8) :: (58 : UInt8) :: (57 : UInt8) :: nilL UInt8)))) = (0 : Int)) && Decidable.decide (Go.Ad.text1 (Go.Ad.parse1 (ByteArray.mk (List.toArray ((91 : UInt8) :: (48 : UInt8) :: (58 : UInt8) :: (48 :
  UInt8) :: (58 : UInt8) :: (58 : UInt8) :: (49 : UInt8) :: (93 : UInt8) :: (58 : UInt8) :: (57 : UInt8) :: nilL UInt8)))) = ByteArray.mk (List.toArray ((91 : UInt8) :: (58 : UInt8) :: (58 : UInt8) :: (49 : UInt8) :: (93
  : UInt8) :: (58 : UInt8) :: (57 : UInt8) :: nilL UInt8))) && Decidable.decide (Go.Ad.parse2 (ByteArray.mk (List.toArray ((49 : UInt8) :: (46 : UInt8) :: (50 : UInt8) :: (46 : UInt8) :: (51 : UInt8) :: (46 : UInt8) ::
  (48 : UInt8) :: (52 : UInt8) :: (58 : UInt8) :: (56 : UInt8) :: (48 : UInt8) :: nilL UInt8))) = (20 : Int)), ()) = (Bool.true, ())) := by kernel_rfl
theorem v16 : Vc g16 300 Tryd.f16 cWk := by
  constructor
  rw [v16_eq]
  intro x _
  repeat' (first | exact ⟨rfl⟩ | exact ⟨by decide⟩ | apply And.intro)
  decide +kernel
theorem val16 : Valid Tryd.prog GA 16 cWk := mkValid gas Tb.mix Tb.tab_ok Tb.eqs_ok g16 rfl (allV_cons val17 (allV_cons val18 allV_nil)) allI_nil Tryd.func16 (by kernel_rfl) v16
theorem join_snoc (q : List UInt8) (d : List UInt8) : ∀ (ps : List (List UInt8)), ps ≠ [] → Go.Lib.join (ps ++ [q]) d = Go.Lib.join ps d ++ (d ++ q)
  | [], h => absurd rfl h
  | [p], _ => by
    show Go.Lib.join (p :: q :: []) d = _
    rw [join_cc]
    simp [Go.Lib.join_one]
  | p :: r :: ps, _ => by
    show Go.Lib.join (p :: r :: (ps ++ [q])) d = _
    rw [join_cc, join_cc]
    have := join_snoc q d (r :: ps) (by simp)
    rw [List.cons_append] at this
    rw [this]
    simp
end Go.Proofs.YtkimpfoimblhjaaDoor.Ad
set_option maxRecDepth 100000
namespace Go.Proofs.YtkimpfoimblhjaaDoor.Ad
open Go Go.Eng Go.Lb Go.Ad Lb Go.Proofs.St
def cLessA : Contract := conD (.cons AdT (.cons AdT .unit)) (.cons .bool .unit) (fun _ => true) fun x => (ltA x.1 x.2.1, ())
def cSortedA : Contract := conD (.cons AdL .unit) (.cons AdL .unit) (fun x => decide (List.length (α := Ad) x.1 ≤ 60)) fun x => (srt ltA x.1, ())
def cntA (a : Ad) (l : List Ad) : Int := (l.countP fun y => Ty.eqb AdT y a : Nat)
def cCount : Contract := conD (.cons AdL (.cons AdT .unit)) (.cons I64 .unit) (fun x => decide (List.length (α := Ad) x.1 ≤ 1000)) fun x => (cntA x.2.1 x.1, ())
structure CnI (a : Ad) (l : List Ad) (i n : Int) : Prop where
  i0 : 0 ≤ i
  i1 : i ≤ l.length
  e : n = cntA a (l.take i.toNat)
def cnA : LoopAnn where
  α := Int × Int
  keep := [0, 3]
  okeep := [0]
  nxt := 9000
  env := fun _ x => [(6, .dat I64 x.1), (5, .dat I64 x.2)]
  own := fun _ _ => []
  inv := fun s x => CnI (cDat AdT s 3 0).out (bDat AdL s 0).out x.1 x.2
  mu := fun s x => List.length (α := Ad) (bDat AdL s 0).out - x.1.toNat
  pick := some fun _ s => ((bDat I64 s 6).out, (bDat I64 s 5).out)
abbrev aOrd : Ty := .cons AdT (.cons AdT (.cons AdT (.cons AdL .unit)))
structure OlI (n : Nat) (i : Int) : Prop where
  i0 : 0 ≤ i
  i1 : i ≤ n
def olA : LoopAnn where
  α := Int
  keep := [3, 12]
  okeep := []
  nxt := 9000
  env := fun _ i => [(13, .dat I64 i)]
  own := fun _ _ => []
  inv := fun s i => OlI (List.length (α := Ad) (bDat AdL s 12).out) i
  mu := fun s i => List.length (α := Ad) (bDat AdL s 12).out - i.toNat
  pick := some fun _ s => (bDat I64 s 13).out
structure N3I (l : List Bool) (i n : Int) : Prop where
  i0 : 0 ≤ i
  i1 : i ≤ l.length
  e : n = ((l.take i.toNat).countP id : Nat)
def n3A : LoopAnn where
  α := Int × Int
  keep := [3, 4, 5, 6, 27, 28]
  okeep := [0, 1, 2]
  nxt := 9000
  env := fun _ x => [(29, .dat I64 x.1), (9, .dat I64 x.2)]
  own := fun s _ => match Go.Eng.look s.env 27 with
    | .own o => [(o, lookO s.own o)]
    | _ => []
  inv := fun s x => N3I (bRow .bool s 27).out x.1 x.2
  mu := fun s x => (bRow .bool s 27).out.length - x.1.toNat
  pick := some fun _ s => ((bDat I64 s 29).out, (bDat I64 s 9).out)
end Go.Proofs.YtkimpfoimblhjaaDoor.Ad
namespace Go.Proofs.YtkimpfoimblhjaaDoor.Ad
open Go Go.Eng Go.Lb Go.Ad Lb Go.Proofs.St
set_option maxRecDepth 100000
noncomputable def g72 : Cfg := { tab := Tb.tab, cons := [], inls := [], loops := [], cuts := [], unroll := false, arrs := [], keys := [] }
noncomputable def g42 : Cfg := { tab := Tb.tab, cons := [(71, cComp)], inls := [], loops := [], cuts := [], unroll := false, arrs := [], keys := [] }
noncomputable def g43 : Cfg := { tab := Tb.tab, cons := [(72, (cClone 26 32 AdT))], mcons := [(73, cSort)], inls := [], loops := [], cuts := [], unroll := false, arrs := [], keys := [] }
noncomputable def g44 : Cfg := { tab := Tb.tab, cons := [], inls := [], loops := [(3, cnA)], cuts := [], unroll := false, arrs := [], keys := [] }
noncomputable def g13 : Cfg := { tab := Tb.tab, cons := [(16, cWk), (42, cLessA), (43, cSortedA), (44, cCount)], inls := [], loops := [(5, n3A), (16, olA)], cuts := [], unroll := false, arrs := [], keys := [] }
end Go.Proofs.YtkimpfoimblhjaaDoor.Ad
namespace Go.Proofs.YtkimpfoimblhjaaDoor.Ad
open Go Go.Eng Go.Lb Go.Ad Lb Go.Proofs.St
set_option maxRecDepth 100000
theorem v72_eq : vcFn g72 300 Tryd.f72 ((cClone 26 32 AdT)) = ( ∀ (x : List (Ad) × Unit), Wr (decide (List.length x.1 * (32 : Nat) ≤ (140737488355328 : Nat)) = true) → ∀ (b : Bool), Wr (b = true → x.1 = nilL (Ad)) → bcase b (x.1 = nilL (Ad)) (Wr ((List.length (nilL (Ad)) +
  List.length x.1) * (32 : Nat) ≤ (140737488355328 : Nat)) ∧ nilL (Ad) ++ x.1 = x.1)) := by kernel_rfl
theorem v42_eq : vcFn g42 300 Tryd.f42 cLessA = ( ∀ (x : (Ad) × (Ad) × Unit), E true → E true ∧ (decide (cmpA x.1 x.2.1 < (0 : Int)), ()) = (ltA x.1 x.2.1, ())) := by kernel_rfl
theorem v43_eq : vcFn g43 300 Tryd.f43 cSortedA.T = ( ∀ (x : List (Ad) × Unit), Wr (typedB (Ty.cons AdL Ty.unit) x = true ∧ decide (List.length x.1 ≤ (60 : Nat)) = true) → Wr (decide (List.length x.1 * (32 : Nat) ≤ (140737488355328 : Nat)) = true) ∧ Wr (List.length x.1 ≤
  (60 : Nat)) ∧ (srt ltA x.1, ()) = (srt ltA x.1, ())) := by kernel_rfl
theorem v44_eq : vcFn g44 300 Tryd.f44 cCount.T = ( ∀ (x : List (Ad) × (Ad) × Unit), Wr (typedB (Ty.cons AdL (Ty.cons AdT Ty.unit)) x = true ∧ decide (List.length x.1 ≤ (1000 : Nat)) = true) → (Wr (CnI x.2.1 x.1 (0 : Int) (0 : Int)) ∧ E ((0 : Int)) ∧ E ((0 : Int)) ∧ E x.1
  ∧ E x.2.1.1 ∧ E x.2.1.2.1.1 ∧ E x.2.1.2.1.2.1 ∧ E x.2.1.2.1.2.2.1 ∧ E x.2.1.2.1.2.2.2.1 ∧ E x.2.1.2.1.2.2.2.2.1 ∧ E x.2.1.2.1.2.2.2.2.2.1 ∧ E x.2.1.2.1.2.2.2.2.2.2.1 ∧ E x.2.1.2.1.2.2.2.2.2.2.2.1 ∧ E x.2.1.2.2.1) ∧ ∀
  (x_1 : Int × Int), Wr (CnI x.2.1 x.1 x_1.1 x_1.2) → bcase (decide (x_1.1 < (↑(List.length x.1) : Int))) (Wr ((0 : Int) ≤ x_1.1) ∧ Wr (x_1.1 < (↑(List.length x.1) : Int)) ∧ E true ∧ bcase (Ty.eqb AdT (List.getD x.1
  (Int.toNat x_1.1) (Ty.zero AdT)) x.2.1) (Wr (CnI x.2.1 x.1 (IntKind.wrap IntKind.i64 (x_1.1 + (1 : Int))) (IntKind.wrap IntKind.i64 (x_1.2 + (1 : Int)))) ∧ Wr (List.length x.1 - Int.toNat (IntKind.wrap IntKind.i64
  (x_1.1 + (1 : Int))) < List.length x.1 - Int.toNat x_1.1) ∧ E (IntKind.wrap IntKind.i64 (x_1.1 + (1 : Int))) ∧ E (IntKind.wrap IntKind.i64 (x_1.2 + (1 : Int))) ∧ E x.1 ∧ E x.2.1.1 ∧ E x.2.1.2.1.1 ∧ E x.2.1.2.1.2.1 ∧ E
  x.2.1.2.1.2.2.1 ∧ E x.2.1.2.1.2.2.2.1 ∧ E x.2.1.2.1.2.2.2.2.1 ∧ E x.2.1.2.1.2.2.2.2.2.1 ∧ E x.2.1.2.1.2.2.2.2.2.2.1 ∧ E x.2.1.2.1.2.2.2.2.2.2.2.1 ∧ E x.2.1.2.2.1) (Wr (CnI x.2.1 x.1 (IntKind.wrap IntKind.i64 (x_1.1 + (1
  : Int))) x_1.2) ∧ Wr (List.length x.1 - Int.toNat (IntKind.wrap IntKind.i64 (x_1.1 + (1 : Int))) < List.length x.1 - Int.toNat x_1.1) ∧ E (IntKind.wrap IntKind.i64 (x_1.1 + (1 : Int))) ∧ E x_1.2 ∧ E x.1 ∧ E x.2.1.1 ∧ E
  x.2.1.2.1.1 ∧ E x.2.1.2.1.2.1 ∧ E x.2.1.2.1.2.2.1 ∧ E x.2.1.2.1.2.2.2.1 ∧ E x.2.1.2.1.2.2.2.2.1 ∧ E x.2.1.2.1.2.2.2.2.2.1 ∧ E x.2.1.2.1.2.2.2.2.2.2.1 ∧ E x.2.1.2.1.2.2.2.2.2.2.2.1 ∧ E x.2.1.2.2.1)) ((x_1.2, ()) = (cntA
  x.2.1 x.1, ()))) := by kernel_rfl
theorem v13_eq : vcFn g13 300 Tryd.f13 ((cLw aOrd)).T = ( ∀ (x : (Ad) × (Ad) × (Ad) × List (Ad) × Unit), Wr (typedB aOrd x = true ∧ True) → bcase (decide ((↑(List.length x.2.2.2.1) : Int) > (40 : Int))) (Wr True ∧ (true, ()) = (true, ())) (E true ∧ E true ∧ (Wr (N3I (ltA x.1
  x.2.1 :: ltA x.2.1 x.1 :: Ty.eqb AdT x.1 x.2.1 :: nilL Bool) (0 : Int) (0 : Int)) ∧ E ((0 : Int)) ∧ E ((0 : Int)) ∧ E x.2.2.2.1 ∧ E ((↑(List.length (ltA x.1 x.2.1 :: ltA x.2.1 x.1 :: Ty.eqb AdT x.1 x.2.1 :: nilL Bool))
  : Int)) ∧ E (ltA x.1 x.2.1 :: ltA x.2.1 x.1 :: Ty.eqb AdT x.1 x.2.1 :: nilL Bool) ∧ E x.1.1 ∧ E x.1.2.1.1 ∧ E x.1.2.1.2.1 ∧ E x.1.2.1.2.2.1 ∧ E x.1.2.1.2.2.2.1 ∧ E x.1.2.1.2.2.2.2.1 ∧ E x.1.2.1.2.2.2.2.2.1 ∧ E
  x.1.2.1.2.2.2.2.2.2.1 ∧ E x.1.2.1.2.2.2.2.2.2.2.1 ∧ E x.1.2.2.1 ∧ E x.2.1.1 ∧ E x.2.1.2.1.1 ∧ E x.2.1.2.1.2.1 ∧ E x.2.1.2.1.2.2.1 ∧ E x.2.1.2.1.2.2.2.1 ∧ E x.2.1.2.1.2.2.2.2.1 ∧ E x.2.1.2.1.2.2.2.2.2.1 ∧ E
  x.2.1.2.1.2.2.2.2.2.2.1 ∧ E x.2.1.2.1.2.2.2.2.2.2.2.1 ∧ E x.2.1.2.2.1 ∧ E x.2.2.1.1 ∧ E x.2.2.1.2.1.1 ∧ E x.2.2.1.2.1.2.1 ∧ E x.2.2.1.2.1.2.2.1 ∧ E x.2.2.1.2.1.2.2.2.1 ∧ E x.2.2.1.2.1.2.2.2.2.1 ∧ E
  x.2.2.1.2.1.2.2.2.2.2.1 ∧ E x.2.2.1.2.1.2.2.2.2.2.2.1 ∧ E x.2.2.1.2.1.2.2.2.2.2.2.2.1 ∧ E x.2.2.1.2.2.1) ∧ ∀ (x_1 : Int × Int), Wr (N3I (ltA x.1 x.2.1 :: ltA x.2.1 x.1 :: Ty.eqb AdT x.1 x.2.1 :: nilL Bool) x_1.1 x_1.2)
  → bcase (decide (x_1.1 < (↑(List.length (ltA x.1 x.2.1 :: ltA x.2.1 x.1 :: Ty.eqb AdT x.1 x.2.1 :: nilL Bool)) : Int))) (Wr ((0 : Int) ≤ x_1.1) ∧ Wr (x_1.1 < (↑(List.length (ltA x.1 x.2.1 :: ltA x.2.1 x.1 :: Ty.eqb AdT
  x.1 x.2.1 :: nilL Bool)) : Int)) ∧ bcase (List.getD (ltA x.1 x.2.1 :: ltA x.2.1 x.1 :: Ty.eqb AdT x.1 x.2.1 :: nilL Bool) (Int.toNat x_1.1) false) (Wr (N3I (ltA x.1 x.2.1 :: ltA x.2.1 x.1 :: Ty.eqb AdT x.1 x.2.1 :: nilL
  Bool) (IntKind.wrap IntKind.i64 (x_1.1 + (1 : Int))) (IntKind.wrap IntKind.i64 (x_1.2 + (1 : Int)))) ∧ Wr (List.length (ltA x.1 x.2.1 :: ltA x.2.1 x.1 :: Ty.eqb AdT x.1 x.2.1 :: nilL Bool) - Int.toNat (IntKind.wrap
  IntKind.i64 (x_1.1 + (1 : Int))) < List.length (ltA x.1 x.2.1 :: ltA x.2.1 x.1 :: Ty.eqb AdT x.1 x.2.1 :: nilL Bool) - Int.toNat x_1.1) ∧ E (IntKind.wrap IntKind.i64 (x_1.1 + (1 : Int))) ∧ E (IntKind.wrap IntKind.i64
  (x_1.2 + (1 : Int))) ∧ E x.2.2.2.1 ∧ E ((↑(List.length (ltA x.1 x.2.1 :: ltA x.2.1 x.1 :: Ty.eqb AdT x.1 x.2.1 :: nilL Bool)) : Int)) ∧ E (ltA x.1 x.2.1 :: ltA x.2.1 x.1 :: Ty.eqb AdT x.1 x.2.1 :: nilL Bool) ∧ E x.1.1 ∧
  E x.1.2.1.1 ∧ E x.1.2.1.2.1 ∧ E x.1.2.1.2.2.1 ∧ E x.1.2.1.2.2.2.1 ∧ E x.1.2.1.2.2.2.2.1 ∧ E x.1.2.1.2.2.2.2.2.1 ∧ E x.1.2.1.2.2.2.2.2.2.1 ∧ E x.1.2.1.2.2.2.2.2.2.2.1 ∧ E x.1.2.2.1 ∧ E x.2.1.1 ∧ E x.2.1.2.1.1 ∧ E
  x.2.1.2.1.2.1 ∧ E x.2.1.2.1.2.2.1 ∧ E x.2.1.2.1.2.2.2.1 ∧ E x.2.1.2.1.2.2.2.2.1 ∧ E x.2.1.2.1.2.2.2.2.2.1 ∧ E x.2.1.2.1.2.2.2.2.2.2.1 ∧ E x.2.1.2.1.2.2.2.2.2.2.2.1 ∧ E x.2.1.2.2.1 ∧ E x.2.2.1.1 ∧ E x.2.2.1.2.1.1 ∧ E
  x.2.2.1.2.1.2.1 ∧ E x.2.2.1.2.1.2.2.1 ∧ E x.2.2.1.2.1.2.2.2.1 ∧ E x.2.2.1.2.1.2.2.2.2.1 ∧ E x.2.2.1.2.1.2.2.2.2.2.1 ∧ E x.2.2.1.2.1.2.2.2.2.2.2.1 ∧ E x.2.2.1.2.1.2.2.2.2.2.2.2.1 ∧ E x.2.2.1.2.2.1) (Wr (N3I (ltA x.1
  x.2.1 :: ltA x.2.1 x.1 :: Ty.eqb AdT x.1 x.2.1 :: nilL Bool) (IntKind.wrap IntKind.i64 (x_1.1 + (1 : Int))) x_1.2) ∧ Wr (List.length (ltA x.1 x.2.1 :: ltA x.2.1 x.1 :: Ty.eqb AdT x.1 x.2.1 :: nilL Bool) - Int.toNat
  (IntKind.wrap IntKind.i64 (x_1.1 + (1 : Int))) < List.length (ltA x.1 x.2.1 :: ltA x.2.1 x.1 :: Ty.eqb AdT x.1 x.2.1 :: nilL Bool) - Int.toNat x_1.1) ∧ E (IntKind.wrap IntKind.i64 (x_1.1 + (1 : Int))) ∧ E x_1.2 ∧ E
  x.2.2.2.1 ∧ E ((↑(List.length (ltA x.1 x.2.1 :: ltA x.2.1 x.1 :: Ty.eqb AdT x.1 x.2.1 :: nilL Bool)) : Int)) ∧ E (ltA x.1 x.2.1 :: ltA x.2.1 x.1 :: Ty.eqb AdT x.1 x.2.1 :: nilL Bool) ∧ E x.1.1 ∧ E x.1.2.1.1 ∧ E
  x.1.2.1.2.1 ∧ E x.1.2.1.2.2.1 ∧ E x.1.2.1.2.2.2.1 ∧ E x.1.2.1.2.2.2.2.1 ∧ E x.1.2.1.2.2.2.2.2.1 ∧ E x.1.2.1.2.2.2.2.2.2.1 ∧ E x.1.2.1.2.2.2.2.2.2.2.1 ∧ E x.1.2.2.1 ∧ E x.2.1.1 ∧ E x.2.1.2.1.1 ∧ E x.2.1.2.1.2.1 ∧ E
  x.2.1.2.1.2.2.1 ∧ E x.2.1.2.1.2.2.2.1 ∧ E x.2.1.2.1.2.2.2.2.1 ∧ E x.2.1.2.1.2.2.2.2.2.1 ∧ E x.2.1.2.1.2.2.2.2.2.2.1 ∧ E x.2.1.2.1.2.2.2.2.2.2.2.1 ∧ E x.2.1.2.2.1 ∧ E x.2.2.1.1 ∧ E x.2.2.1.2.1.1 ∧ E x.2.2.1.2.1.2.1 ∧ E
  x.2.2.1.2.1.2.2.1 ∧ E x.2.2.1.2.1.2.2.2.1 ∧ E x.2.2.1.2.1.2.2.2.2.1 ∧ E x.2.2.1.2.1.2.2.2.2.2.1 ∧ E x.2.2.1.2.1.2.2.2.2.2.2.1 ∧ E x.2.2.1.2.1.2.2.2.2.2.2.2.1 ∧ E x.2.2.1.2.2.1)) (Wr ((!!decide (x_1.2 = (1 : Int))) =
  true → true = true) ∧ Wr ((!!decide (x_1.2 = (1 : Int)) && ltA x.1 x.2.1) = true → true = true) ∧ Wr ((!!decide (x_1.2 = (1 : Int)) && (ltA x.1 x.2.1 && ltA x.2.1 x.2.2.1)) = true → true = true) ∧ bcase (!decide (x_1.2
  = (1 : Int)) || ltA x.1 x.2.1 && ltA x.2.1 x.2.2.1 && !ltA x.1 x.2.2.1) ((false, ()) = (true, ())) (Wr (decide (List.length x.2.2.2.1 ≤ (60 : Nat)) = true) ∧ bcase (!decide ((↑(List.length (srt ltA x.2.2.2.1)) : Int) =
  (↑(List.length x.2.2.2.1) : Int))) ((false, ()) = (true, ())) ((Wr (OlI (List.length (srt ltA x.2.2.2.1)) (0 : Int)) ∧ E ((0 : Int)) ∧ E x.2.2.2.1 ∧ E (srt ltA x.2.2.2.1)) ∧ ∀ (x_2 : Int), Wr (OlI (List.length (srt ltA
  x.2.2.2.1)) x_2) → bcase (decide (x_2 < (↑(List.length (srt ltA x.2.2.2.1)) : Int))) (Wr (decide (x_2 > (0 : Int)) = true → (0 : Int) ≤ x_2) ∧ Wr (decide (x_2 > (0 : Int)) = true → x_2 < (↑(List.length (srt ltA
  x.2.2.2.1)) : Int)) ∧ Wr (decide (x_2 > (0 : Int)) = true → true = true) ∧ Wr (decide (x_2 > (0 : Int)) = true → (0 : Int) ≤ IntKind.wrap IntKind.i64 (x_2 - (1 : Int))) ∧ Wr (decide (x_2 > (0 : Int)) = true →
  IntKind.wrap IntKind.i64 (x_2 - (1 : Int)) < (↑(List.length (srt ltA x.2.2.2.1)) : Int)) ∧ Wr (decide (x_2 > (0 : Int)) = true → true = true) ∧ Wr (decide (x_2 > (0 : Int)) = true → true = true) ∧ Wr ((!(decide (x_2 >
  (0 : Int)) && ltA (List.getD (srt ltA x.2.2.2.1) (Int.toNat x_2) (Ty.zero AdT)) (List.getD (srt ltA x.2.2.2.1) (Int.toNat (IntKind.wrap IntKind.i64 (x_2 - (1 : Int)))) (Ty.zero AdT)))) = true → (0 : Int) ≤ x_2) ∧ Wr
  ((!(decide (x_2 > (0 : Int)) && ltA (List.getD (srt ltA x.2.2.2.1) (Int.toNat x_2) (Ty.zero AdT)) (List.getD (srt ltA x.2.2.2.1) (Int.toNat (IntKind.wrap IntKind.i64 (x_2 - (1 : Int)))) (Ty.zero AdT)))) = true → x_2 <
  (↑(List.length (srt ltA x.2.2.2.1)) : Int)) ∧ Wr ((!(decide (x_2 > (0 : Int)) && ltA (List.getD (srt ltA x.2.2.2.1) (Int.toNat x_2) (Ty.zero AdT)) (List.getD (srt ltA x.2.2.2.1) (Int.toNat (IntKind.wrap IntKind.i64 (x_2
  - (1 : Int)))) (Ty.zero AdT)))) = true → true = true) ∧ Wr ((!(decide (x_2 > (0 : Int)) && ltA (List.getD (srt ltA x.2.2.2.1) (Int.toNat x_2) (Ty.zero AdT)) (List.getD (srt ltA x.2.2.2.1) (Int.toNat (IntKind.wrap
  IntKind.i64 (x_2 - (1 : Int)))) (Ty.zero AdT)))) = true → decide (List.length (srt ltA x.2.2.2.1) ≤ (1000 : Nat)) = true) ∧ Wr ((!(decide (x_2 > (0 : Int)) && ltA (List.getD (srt ltA x.2.2.2.1) (Int.toNat x_2) (Ty.zero
  AdT)) (List.getD (srt ltA x.2.2.2.1) (Int.toNat (IntKind.wrap IntKind.i64 (x_2 - (1 : Int)))) (Ty.zero AdT)))) = true → (0 : Int) ≤ x_2) ∧ Wr ((!(decide (x_2 > (0 : Int)) && ltA (List.getD (srt ltA x.2.2.2.1) (Int.toNat
  x_2) (Ty.zero AdT)) (List.getD (srt ltA x.2.2.2.1) (Int.toNat (IntKind.wrap IntKind.i64 (x_2 - (1 : Int)))) (Ty.zero AdT)))) = true → x_2 < (↑(List.length (srt ltA x.2.2.2.1)) : Int)) ∧ Wr ((!(decide (x_2 > (0 : Int))
  && ltA (List.getD (srt ltA x.2.2.2.1) (Int.toNat x_2) (Ty.zero AdT)) (List.getD (srt ltA x.2.2.2.1) (Int.toNat (IntKind.wrap IntKind.i64 (x_2 - (1 : Int)))) (Ty.zero AdT)))) = true → true = true) ∧ Wr ((!(decide (x_2 >
  (0 : Int)) && ltA (List.getD (srt ltA x.2.2.2.1) (Int.toNat x_2) (Ty.zero AdT)) (List.getD (srt ltA x.2.2.2.1) (Int.toNat (IntKind.wrap IntKind.i64 (x_2 - (1 : Int)))) (Ty.zero AdT)))) = true → decide (List.length
  x.2.2.2.1 ≤ (1000 : Nat)) = true) ∧ bcase (decide (x_2 > (0 : Int)) && ltA (List.getD (srt ltA x.2.2.2.1) (Int.toNat x_2) (Ty.zero AdT)) (List.getD (srt ltA x.2.2.2.1) (Int.toNat (IntKind.wrap IntKind.i64 (x_2 - (1 :
  Int)))) (Ty.zero AdT)) || !decide (cntA (List.getD (srt ltA x.2.2.2.1) (Int.toNat x_2) (Ty.zero AdT)) (srt ltA x.2.2.2.1) = cntA (List.getD (srt ltA x.2.2.2.1) (Int.toNat x_2) (Ty.zero AdT)) x.2.2.2.1)) ((false, ()) =
  (true, ())) (Wr (OlI (List.length (srt ltA x.2.2.2.1)) (IntKind.wrap IntKind.i64 (x_2 + (1 : Int)))) ∧ Wr (List.length (srt ltA x.2.2.2.1) - Int.toNat (IntKind.wrap IntKind.i64 (x_2 + (1 : Int))) < List.length (srt ltA
  x.2.2.2.1) - Int.toNat x_2) ∧ E (IntKind.wrap IntKind.i64 (x_2 + (1 : Int))) ∧ E x.2.2.2.1 ∧ E (srt ltA x.2.2.2.1))) (Wr True ∧ (true, ()) = (true, ()))))))) := by kernel_rfl
end Go.Proofs.YtkimpfoimblhjaaDoor.Ad
set_option linter.all false
namespace Go.Proofs.YtkimpfoimblhjaaDoor.Ad
open Go Go.Eng Go.Lb Go.Ad Lb Go.Proofs.St
set_option maxRecDepth 100000
set_option maxHeartbeats 4000000
theorem anyG {P : Program} {G : World → Prop} {g : FuncId} {c : Contract} (h : Valid P (fun _ => True) g c) : Valid P G g c := ⟨h.1, fun w _ => h.2 w trivial⟩
theorem eqAA (a b : Ad) : Ty.eqb AdT a b = decide (a = b) := by
  cases h : Ty.eqb AdT a b with
  | true => rw [eqb_eq AdT rfl a b h]; simp
  | false =>
    refine (decide_eq_false fun e => ?_).symm
    subst e
    obtain ⟨f, ⟨a1, a2, a3, a4, a5, a6, a7, a8, ⟨⟩⟩, p, ⟨⟩⟩ := a
    have : Ty.eqb AdT (f, (a1, a2, a3, a4, a5, a6, a7, a8, PUnit.unit), p, PUnit.unit) (f, (a1, a2, a3, a4, a5, a6, a7, a8, PUnit.unit), p, PUnit.unit) = true := by simp [Ty.eqb, Ty.arr]
    exact absurd (this.symm.trans h) (by decide)
theorem v72 : Vc g72 300 Tryd.f72 (cClone 26 32 AdT) := by
  constructor
  rw [v72_eq]
  simp only [Wr_iff, E_iff, bcase_iff, true_and, and_true, decide_eq_true_eq, decide_eq_false_iff_not, Bool.and_eq_true, Bool.and_eq_false_iff, Bool.or_eq_true, Bool.or_eq_false_iff, Bool.not_eq_true', Bool.not_eq_false', Option.map_some, Option.getD_some, Option.isSome_some, Option.isSome_map, imp_self, nilL, noneO]
  rintro ⟨l, ⟨⟩⟩ hl b hb
  dsimp only at *
  exact ⟨hb, fun _ => ⟨by simpa using hl, rfl⟩⟩
theorem v42 : Vc g42 300 Tryd.f42 cLessA := by
  constructor
  rw [v42_eq]
  simp only [Wr_iff, E_iff, bcase_iff, true_and, and_true, decide_eq_true_eq, decide_eq_false_iff_not, Bool.and_eq_true, Bool.and_eq_false_iff, Bool.or_eq_true, Bool.or_eq_false_iff, Bool.not_eq_true', Bool.not_eq_false', Option.map_some, Option.getD_some, Option.isSome_some, Option.isSome_map, imp_self, nilL, noneO]
  rintro ⟨a, b, ⟨⟩⟩ -
  rfl
theorem v43 : Vc g43 300 Tryd.f43 cSortedA.T := by
  constructor
  rw [v43_eq]
  simp only [Wr_iff, E_iff, bcase_iff, true_and, and_true, decide_eq_true_eq, decide_eq_false_iff_not, Bool.and_eq_true, Bool.and_eq_false_iff, Bool.or_eq_true, Bool.or_eq_false_iff, Bool.not_eq_true', Bool.not_eq_false', Option.map_some, Option.getD_some, Option.isSome_some, Option.isSome_map, imp_self, nilL, noneO]
  rintro ⟨l, ⟨⟩⟩ ⟨-, hl⟩
  dsimp only at *
  exact ⟨by omega, hl⟩
theorem countP_take {α : Type} {p : α → Bool} {z : α} {l : List α} {k : Nat} (h : k < l.length) : (((l.take (k + 1)).countP p : Nat) : Int) = ((l.take k).countP p : Nat) + if p (l.getD k z) = true then 1 else 0 := by
  rw [List.take_add_one, List.getElem?_eq_getElem h, List.countP_append, getD_lt h]
  show ((List.countP _ _ + List.countP _ [l[k]] : Nat) : Int) = _
  rw [List.countP_singleton]
  split <;> simp
theorem cnt_take {a : Ad} {l : List Ad} {k : Nat} (h : k < l.length) : cntA a (l.take (k + 1)) = cntA a (l.take k) + if Ty.eqb AdT (l.getD k zA) a = true then 1 else 0 :=
  countP_take (p := fun y => Ty.eqb AdT y a) (z := zA) h
theorem cnt_nn (a : Ad) (l : List Ad) (k : Nat) : 0 ≤ cntA a (l.take k) ∧ cntA a (l.take k) ≤ k := by
  unfold cntA
  have h1 : (l.take k).countP (fun y => Ty.eqb AdT y a) ≤ (l.take k).length := List.countP_le_length
  have h2 : (l.take k).length ≤ k := by rw [List.length_take]; omega
  omega
theorem v44 : Vc g44 300 Tryd.f44 cCount.T := by
  constructor
  rw [v44_eq]
  simp only [Wr_iff, E_iff, bcase_iff, true_and, and_true, decide_eq_true_eq, decide_eq_false_iff_not, Bool.and_eq_true, Bool.and_eq_false_iff, Bool.or_eq_true, Bool.or_eq_false_iff, Bool.not_eq_true', Bool.not_eq_false', Option.map_some, Option.getD_some, Option.isSome_some, Option.isSome_map, imp_self, nilL, noneO]
  rintro ⟨l, a, ⟨⟩⟩ ⟨-, hl⟩
  dsimp only at *
  refine ⟨⟨Int.le_refl _, by omega, rfl⟩, fun x hx => ⟨fun hi => ?_, fun hi => ?_⟩⟩
  · obtain ⟨i, n⟩ := x
    obtain ⟨i0, i1, he⟩ := hx
    dsimp only at i0 i1 he hi ⊢
    subst he
    have hlt : i.toNat < l.length := by omega
    have hc := cnt_nn a l i.toNat
    have w1 : IntKind.wrap .i64 (i + 1) = i + 1 := wrapS (by omega) (by omega)
    have w2 : IntKind.wrap .i64 (cntA a (l.take i.toNat) + 1) = cntA a (l.take i.toNat) + 1 := wrapS (by omega) (by omega)
    have ht := cnt_take (a := a) hlt
    rw [show i.toNat + 1 = (i + 1).toNat by omega] at ht
    rw [w1, w2]
    refine ⟨i0, hi, fun h => ⟨⟨by omega, by omega, ?_⟩, by omega⟩, fun h => ⟨⟨by omega, by omega, ?_⟩, by omega⟩⟩
    · exact (ht.trans (congrArg (cntA a (l.take i.toNat) + ·) (if_pos h))).symm
    · have h' : ¬ Ty.eqb AdT (l.getD i.toNat zA) a = true := by
        intro e
        have h2 : Ty.eqb AdT (l.getD i.toNat zA) a = false := h
        rw [h2] at e; cases e
      exact ((ht.trans (congrArg (cntA a (l.take i.toNat) + ·) (if_neg h'))).trans (Int.add_zero _)).symm
  · have := hx.i0
    rw [hx.e, List.take_of_length_le (by omega)]
theorem n3_take {l : List Bool} {k : Nat} (h : k < l.length) : (((l.take (k + 1)).countP id : Nat) : Int) = ((l.take k).countP id : Nat) + if l.getD k false = true then 1 else 0 :=
  countP_take (p := id) (z := false) h
theorem three (a b : Ad) : ([ltA a b, ltA b a, Ty.eqb AdT a b].countP id : Nat) = 1 := by
  rw [eqAA]
  by_cases e : a = b
  · subst e
    rw [ordA.irr, decide_eq_true rfl]; rfl
  · rw [decide_eq_false e]
    cases h : ltA a b with
    | true => rw [ordA.asym h]; rfl
    | false =>
      cases h2 : ltA b a with
      | true => rfl
      | false => exact absurd (ordA.tri _ _ h h2) e
theorem v13 : Vc g13 300 Tryd.f13 (cLw aOrd).T := by
  constructor
  rw [v13_eq]
  simp only [Wr_iff, E_iff, bcase_iff, true_and, and_true, decide_eq_true_eq, decide_eq_false_iff_not, Bool.and_eq_true, Bool.and_eq_false_iff, Bool.or_eq_true, Bool.or_eq_false_iff, Bool.not_eq_true', Bool.not_eq_false', Option.map_some, Option.getD_some, Option.isSome_some, Option.isSome_map, imp_self, nilL, noneO]
  rintro ⟨a, b, c, l, ⟨⟩⟩ -
  dsimp only at *
  have h3 := three a b
  refine ⟨fun _ => trivial, fun hl => ⟨?_, fun x hx => ?_⟩⟩
  · exact ⟨Int.le_refl _, by show (0 : Int) ≤ 3; omega, rfl⟩
  obtain ⟨i, n⟩ := x
  obtain ⟨i0, i1, he⟩ := hx
  dsimp only at i0 i1 he ⊢
  subst he
  generalize hB : [ltA a b, ltA b a, Ty.eqb AdT a b] = B at *
  have hBl : B.length = 3 := by rw [← hB]; rfl
  have sl : (srt ltA l).length = l.length := (srt_perm (lt := ltA) l).length_eq
  refine ⟨fun hi => ?_, fun hi => ⟨fun _ => trivial, fun _ => trivial, fun _ => trivial, fun h => ?_, fun h => ⟨by omega, fun h => ?_, fun _ => ⟨⟨Int.le_refl _, by omega⟩, fun y hy => ⟨fun hy2 => ?_, fun _ => trivial⟩⟩⟩⟩⟩
  · have hlt : i.toNat < B.length := by omega
    have ht := n3_take hlt
    have hc : (B.take i.toNat).countP id ≤ (B.take i.toNat).length := List.countP_le_length
    have hc2 : (B.take i.toNat).length ≤ 3 := by rw [List.length_take]; omega
    have w1 : IntKind.wrap .i64 (i + 1) = i + 1 := wrapS (by omega) (by omega)
    have w2 : IntKind.wrap .i64 (((B.take i.toNat).countP id : Nat) + 1) = ((B.take i.toNat).countP id : Nat) + 1 := wrapS (by omega) (by omega)
    rw [show i.toNat + 1 = (i + 1).toNat by omega] at ht
    rw [w1, w2]
    refine ⟨i0, hi, fun h => ⟨⟨by omega, by omega, ?_⟩, by omega⟩, fun h => ⟨⟨by omega, by omega, ?_⟩, by omega⟩⟩
    · rw [ht, if_pos h]
    · rw [ht, if_neg (by rw [h]; decide)]; omega
  · rw [List.take_of_length_le (by omega), h3] at h
    rcases h with h | ⟨⟨h, h2⟩, h4⟩
    · exact absurd rfl h
    · rw [ordA.tr _ _ _ h h2] at h4; cases h4
  · omega
  · have y0 := hy.i0
    have hlt : y.toNat < (srt ltA l).length := by omega
    have w1 : IntKind.wrap .i64 (y + 1) = y + 1 := wrapS (by omega) (by omega)
    have hcn : ∀ q : Ad, cntA q (srt ltA l) = cntA q l := fun q => congrArg (fun n : Nat => (n : Int)) ((srt_perm (lt := ltA) l).countP_eq fun y => Ty.eqb AdT y q)
    have w2 : 0 < y → IntKind.wrap .i64 (y - 1) = y - 1 := fun _ => wrapS (by omega) (by omega)
    rw [w1]
    refine ⟨fun _ => by omega, fun _ => hy2, fun _ => trivial, fun h => by rw [w2 h]; omega, fun h => by rw [w2 h]; omega, fun _ => trivial, fun _ => trivial, fun _ => y0, fun _ => hy2, fun _ => trivial, fun _ => by omega, fun _ => y0, fun _ => hy2, fun _ => trivial, fun _ => by omega, fun h => ?_, fun _ => ⟨⟨by omega, by omega⟩, by omega⟩⟩
    rcases h with ⟨h, h2⟩ | h
    · rw [w2 h] at h2
      have hu := srt_up ordA l
      unfold Up at hu
      rw [List.pairwise_iff_getElem] at hu
      have := hu (y - 1).toNat y.toNat (by omega) hlt (by omega)
      rw [← getD_lt (z := zA), ← getD_lt (z := zA)] at this
      rw [show ltA ((srt ltA l).getD y.toNat zA) ((srt ltA l).getD (y - 1).toNat zA) = true from h2] at this
      cases this
    · exact absurd (hcn _) h
end Go.Proofs.YtkimpfoimblhjaaDoor.Ad
namespace Go.Proofs.YtkimpfoimblhjaaDoor.Ad
open Go Go.Eng Go.Lb Go.Ad Lb Go.Proofs.St
set_option maxRecDepth 100000
theorem val72 : Valid Tryd.prog GA 72 ((cClone 26 32 AdT)) := mkValid gas Tb.mix Tb.tab_ok Tb.eqs_ok g72 rfl allV_nil allI_nil Tryd.func72 (by kernel_rfl) v72
theorem val42 : Valid Tryd.prog GA 42 cLessA := mkValid gas Tb.mix Tb.tab_ok Tb.eqs_ok g42 rfl (allV_cons (anyG val71) allV_nil) allI_nil Tryd.func42 (by kernel_rfl) v42
theorem val43 : Valid Tryd.prog GA 43 cSortedA := Valid.T (mkValidM gas Tb.mix Tb.tab_ok Tb.eqs_ok (by kernel_rfl) g43 rfl (allM_cons mval73 allM_nil) (allV_cons val72 allV_nil) allI_nil Tryd.func43 (by kernel_rfl) v43)
theorem val44 : Valid Tryd.prog GA 44 cCount := Valid.T (mkValid gas Tb.mix Tb.tab_ok Tb.eqs_ok g44 rfl allV_nil allI_nil Tryd.func44 (by kernel_rfl) v44)
theorem val13 : Valid Tryd.prog GA 13 ((cLw aOrd)) := Valid.T (mkValid gas Tb.mix Tb.tab_ok Tb.eqs_ok g13 rfl (allV_cons val16 (allV_cons val42 (allV_cons val43 (allV_cons val44 allV_nil)))) allI_nil Tryd.func13 (by kernel_rfl) v13)
end Go.Proofs.YtkimpfoimblhjaaDoor.Ad

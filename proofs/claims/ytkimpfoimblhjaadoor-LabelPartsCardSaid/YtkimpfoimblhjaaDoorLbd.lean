/-
  A text of mine, of several parts: LlLaw, LlCfg, LlVc, LlP, LlV.
-/
import Derived.Test.YtkimpfoimblhjaaDoorLba
import Derived.Test.YtkimpfoimblhjaaDoorLbb
import Derived.Test.YtkimpfoimblhjaaDoorLbc
set_option linter.all false
set_option linter.all false
namespace Go.Proofs.YtkimpfoimblhjaaDoor.Lb
open Go Go.Eng Go.Lb
set_option maxRecDepth 100000
set_option maxHeartbeats 1000000

def goodL (l : List UInt8) : Prop := ∀ q ∈ its l, goodIt q
theorem good_valid {l : List UInt8} (h : validL l = true) : goodL l := by
  have h' : validB (ofL l) = true := by unfold validB; rw [bytesL_ofL]; exact h
  have := valid_items h'
  rw [bytesL_ofL] at this
  exact this
/-! a small rune, written and read -/
theorem enc_small {c : Nat} (h : c ≤ 2047) : (c < 128 ∧ Go.Lib.encodeRune (c : Int) = [UInt8.ofNat c]) ∨ (128 ≤ c ∧ Go.Lib.encodeRune (c : Int) = [UInt8.ofNat (192 + c / 64), UInt8.ofNat (128 + c % 64)]) := by
  rcases Nat.lt_or_ge c 128 with h1 | h1
  · exact .inl ⟨h1, enc_one (by omega)⟩
  · exact .inr ⟨h1, enc_two h1 h⟩
theorem dec_enc {c : Nat} (h : c ≤ 2047) (r : List UInt8) : dec (Go.Lib.encodeRune (c : Int) ++ r) = some (c, (Go.Lib.encodeRune (c : Int)).length) := by
  rcases enc_small h with ⟨h1, e⟩ | ⟨h1, e⟩
  · rw [e]
    have hb : (UInt8.ofNat c).toNat = c := by rw [UInt8.toNat_ofNat']; omega
    show dec (UInt8.ofNat c :: r) = _
    rw [dec_ascii r (by omega), hb]
    rfl
  · rw [e]
    have hb : (UInt8.ofNat (192 + c / 64)).toNat = 192 + c / 64 := by rw [UInt8.toNat_ofNat']; omega
    have hb1 : (UInt8.ofNat (128 + c % 64)).toNat = 128 + c % 64 := by rw [UInt8.toNat_ofNat']; omega
    show dec (UInt8.ofNat (192 + c / 64) :: UInt8.ofNat (128 + c % 64) :: r) = _
    have hu : u2 (UInt8.ofNat (192 + c / 64)) (UInt8.ofNat (128 + c % 64)) = c := by
      unfold u2; rw [hb, hb1]; omega
    have hc : cont (UInt8.ofNat (128 + c % 64)) = true := by unfold cont; rw [hb1]; simp; omega
    unfold dec
    simp only
    rw [if_neg (by omega), if_pos (by omega), if_pos ⟨hc, by omega⟩, hu]
    rfl
theorem its_enc {c : Nat} (h : c ≤ 2047) (r : List UInt8) : its (Go.Lib.encodeRune (c : Int) ++ r) = (some c, Go.Lib.encodeRune (c : Int)) :: its r := by
  have hd := dec_enc h r
  have hne : Go.Lib.encodeRune (c : Int) ++ r ≠ [] := by rcases enc_small h with ⟨_, e⟩ | ⟨_, e⟩ <;> rw [e] <;> simp
  rw [its_cons hne]
  unfold hd1 wid
  rw [hd]
  simp
theorem foldC_le {c : Nat} (h : c ≤ 591) : foldC c ≤ 591 := by unfold foldC; split <;> omega
theorem foldC_twice (c : Nat) : foldC (foldC c) = foldC c := by
  unfold foldC
  split
  · rw [if_neg (by omega)]
  · rfl
theorem sign_all : ((List.range 592).all fun c => !isSign c || isSign (foldC c)) = true := by decide +kernel
theorem sign_fold {c : Nat} (h : isSign c = true) : isSign (foldC c) = true := by
  have hc : c ≤ 591 := by
    unfold isSign isLetter at h
    simp only [Bool.or_eq_true, Bool.and_eq_true, decide_eq_true_eq] at h
    omega
  have := List.all_eq_true.1 sign_all c (List.mem_range.2 (by omega))
  rw [h] at this
  simpa using this
def fIt (q : It) : It := (some (foldC (q.1.getD 0)), foldIt q)
theorem foldIt_some {q : It} {c : Nat} (h : q.1 = some c) : foldIt q = Go.Lib.encodeRune ((foldC c : Nat) : Int) := by unfold foldIt; rw [h]; rfl
theorem goodL_cons {l : List UInt8} (hl : l ≠ []) (h : goodL l) : goodIt (hd1 l) ∧ goodL (l.drop (wid l)) := by
  unfold goodL at h
  rw [its_cons hl] at h
  exact ⟨h _ List.mem_cons_self, fun q hq => h q (List.mem_cons_of_mem _ hq)⟩
theorem foldL_cons {l : List UInt8} (hl : l ≠ []) : foldL l = foldIt (hd1 l) ++ foldL (l.drop (wid l)) := by
  unfold foldL
  rw [its_cons hl, List.flatMap_cons]
theorem its_fold (l : List UInt8) (h : goodL l) : its (foldL l) = (its l).map fIt := by
  induction l using its_ind with
  | h0 => rfl
  | h1 l hl ih =>
    obtain ⟨h1, h2⟩ := goodL_cons hl h
    obtain ⟨c, hc, hle, _⟩ := good_le h1
    have := foldC_le hle
    rw [foldL_cons hl, foldIt_some hc, its_enc (by omega), ih h2, its_cons hl, List.map_cons]
    congr 1
    unfold fIt
    rw [foldIt_some hc, hc]
    rfl
theorem foldL_length (l : List UInt8) (h : goodL l) : (foldL l).length = l.length := by
  induction l using its_ind with
  | h0 => rfl
  | h1 l hl ih =>
    obtain ⟨h1, h2⟩ := goodL_cons hl h
    obtain ⟨c, hc, hle, _⟩ := good_le h1
    have hf := foldC_le hle
    obtain ⟨w, hd⟩ := hd1_some hc
    have hdw := (dec_w hd).2
    have hw : wid l = w := by unfold wid; rw [hd]
    have hwl := wid_le hl
    rw [foldL_cons hl, foldIt_some hc, List.length_append, ih h2, List.length_drop, hw]
    have hlen : (Go.Lib.encodeRune ((foldC c : Nat) : Int)).length = w := by
      have hcc : (c < 128 ∧ foldC c < 128) ∨ (128 ≤ c ∧ 128 ≤ foldC c) := by unfold foldC; split <;> omega
      rcases enc_small (c := foldC c) (by omega) with ⟨k1, e⟩ | ⟨k1, e⟩ <;> rw [e] <;> simp <;> omega
    rw [hlen]
    omega
theorem foldL_twice (l : List UInt8) (h : goodL l) : foldL (foldL l) = foldL l := by
  show (its (foldL l)).flatMap foldIt = (its l).flatMap foldIt
  rw [its_fold l h]
  unfold goodL at h
  generalize its l = I at h
  induction I with
  | nil => rfl
  | cons q I ih =>
    rw [List.map_cons, List.flatMap_cons, List.flatMap_cons, ih fun q hq => h q (List.mem_cons_of_mem _ hq)]
    congr 1
    obtain ⟨c, hc, _⟩ := h q List.mem_cons_self
    rw [foldIt_some (q := fIt q) (c := foldC c) (by unfold fIt; rw [hc]; rfl), foldIt_some hc, foldC_twice]
theorem vGo_fold : ∀ (I : List It) (st : Bool) (la la' : Nat), (∀ q ∈ I, goodIt q) → (la' = 45 ↔ la = 45) → vGo I st la = true → vGo (I.map fIt) st la' = true
  | [], st, la, la', _, h1, h => by
    rw [vGo] at h
    rw [List.map_nil, vGo]
    simp only [Bool.and_eq_true, decide_eq_true_eq] at h ⊢
    exact ⟨h.1, fun e => h.2 (h1.1 e)⟩
  | q :: I, st, la, la', hg, h1, h => by
    obtain ⟨c, hc, h46⟩ := hg q List.mem_cons_self
    have hg' : ∀ q ∈ I, goodIt q := fun q hq => hg q (List.mem_cons_of_mem _ hq)
    rw [vGo, hc] at h
    rw [List.map_cons, vGo]
    have e : (fIt q).1 = some (foldC c) := by unfold fIt; rw [hc]; rfl
    rw [e]
    simp only at h ⊢
    have hc46 : foldC c = 46 ↔ c = 46 := by unfold foldC; split <;> omega
    have hc45 : foldC c = 45 ↔ c = 45 := by unfold foldC; split <;> omega
    by_cases k : c = 46
    · rw [if_pos k] at h
      rw [if_pos (hc46.2 k)]
      split at h
      · cases h
      · rename_i hn
        simp only [Bool.or_eq_true, decide_eq_true_eq, not_or] at hn
        rw [if_neg (by
          simp only [Bool.or_eq_true, decide_eq_true_eq, not_or]
          exact ⟨hn.1, fun e => hn.2 (h1.1 e)⟩)]
        exact vGo_fold I true c (foldC c) hg' hc45 h
    · rw [if_neg k] at h
      rw [if_neg (fun e => k (hc46.1 e))]
      split at h
      · cases h
      · rename_i hn
        simp only [Bool.or_eq_true, Bool.not_eq_true', Bool.and_eq_true, decide_eq_true_eq, not_or, Bool.not_eq_false] at hn
        have hs := sign_fold hn.1
        rw [hs]
        rw [if_neg (by
          simp only [Bool.not_true, Bool.false_or, Bool.and_eq_true, decide_eq_true_eq]
          exact fun e => hn.2 ⟨e.1, hc45.1 e.2⟩)]
        exact vGo_fold I false c (foldC c) hg' hc45 h
theorem validL_iff (l : List UInt8) : validL l = true ↔ l.length ≤ 64 ∧ vGo (its l) true 46 = true := by
  unfold validL
  rw [vGo_split]
  simp
theorem valid_fold {l : List UInt8} (h : validL l = true) : validL (foldL l) = true := by
  have hg := good_valid h
  rw [validL_iff] at h ⊢
  rw [foldL_length l hg, its_fold l hg]
  exact ⟨h.1, vGo_fold _ _ _ _ hg Iff.rfl h.2⟩
/-! parts -/
theorem ascii_fold {k : Nat} (hk : k < 128) (hf : ∀ c, foldC c = k → c = k) {l : List UInt8} (hg : goodL l) (h : UInt8.ofNat k ∉ l) : UInt8.ofNat k ∉ foldL l := by
  intro e
  obtain ⟨p, hp, hpk⟩ := (its_ascii hk (foldL l)).2 e
  rw [its_fold l hg] at hp
  obtain ⟨q, hq, rfl⟩ := List.mem_map.1 hp
  obtain ⟨c, hc, _⟩ := hg q hq
  have : foldC c = k := by
    have e : (fIt q).1 = some (foldC c) := by unfold fIt; rw [hc]; rfl
    rw [e] at hpk
    exact Option.some.inj hpk
  exact h ((its_ascii hk l).1 ⟨q, hq, by rw [hc, hf c this]⟩)
theorem its_dot (r : List UInt8) : its (46 :: r) = (some 46, [46]) :: its r := by
  rw [its_cons (by simp)]
  rcases hd1_cases (b := (46 : UInt8)) (r := r) with ⟨_, h2, h3⟩ | ⟨h1, _, _⟩
  · rw [h2, h3]; rfl
  · simp at h1
theorem goodL_app {a r : List UInt8} (h : goodL (a ++ 46 :: r)) : goodL a ∧ goodL r := by
  unfold goodL at *
  rw [its_stop (by decide) r a, its_dot] at h
  exact ⟨fun q hq => h q (List.mem_append_left _ hq), fun q hq => h q (List.mem_append_right _ (List.mem_cons_of_mem _ hq))⟩
theorem foldL_app (a r : List UInt8) : foldL (a ++ 46 :: r) = foldL a ++ 46 :: foldL r := by
  unfold foldL
  rw [its_stop (by decide) r a, its_dot, List.flatMap_append, List.flatMap_cons]
  congr 1
theorem split_fold (l : List UInt8) (h : goodL l) : splitL (foldL l) = (splitL l).map foldL := by
  have h46 : ∀ c, foldC c = 46 → c = 46 := by intro c; unfold foldC; split <;> omega
  induction l using splitC_ind (d := 46) with
  | h0 l hl =>
    have : (46 : UInt8) ∉ foldL l := ascii_fold (k := 46) (by omega) h46 h hl
    rw [splitL, splitC_none hl, splitC_none this]
    rfl
  | h1 a r ha ih =>
    obtain ⟨h1, h2⟩ := goodL_app h
    have : (46 : UInt8) ∉ foldL a := ascii_fold (k := 46) (by omega) h46 h1 ha
    rw [foldL_app, splitL, splitC_app _ this, splitC_app _ ha, List.map_cons]
    congr 1
    exact ih h2
theorem split_no_dot (d : UInt8) (l : List UInt8) : ∀ p ∈ splitC d l, d ∉ p := by
  induction l using splitC_ind (d := d) with
  | h0 l hl => rw [splitC_none hl]; intro p hp; rw [List.mem_singleton.1 hp]; exact hl
  | h1 a r ha ih =>
    rw [splitC_app r ha]
    intro p hp
    rcases List.mem_cons.1 hp with rfl | hp
    · exact ha
    · exact ih p hp
theorem valid_part {l p : List UInt8} (h : validL l = true) (hp : p ∈ splitL l) : validL p = true := by
  have hle := (splitC_le (d := 46) l).1 p hp
  have hno := split_no_dot 46 l p hp
  unfold validL at *
  simp only [Bool.and_eq_true, decide_eq_true_eq] at *
  refine ⟨by omega, ?_⟩
  rw [splitL, splitC_none hno, List.all_cons, List.all_nil, Bool.and_true]
  exact List.all_eq_true.1 h.2 p hp
theorem joinL_cons (a : List UInt8) (b : List UInt8) (r : List (List UInt8)) : joinL (a :: b :: r) = a ++ 46 :: joinL (b :: r) := rfl
theorem joinL_split (l : List UInt8) : joinL (splitL l) = l := by
  induction l using splitC_ind (d := 46) with
  | h0 l hl => rw [splitL, splitC_none hl]; rfl
  | h1 a r ha ih =>
    rw [splitL, splitC_app r ha]
    cases hs : splitC 46 r with
    | nil => exact absurd hs (splitC_ne r)
    | cons b ps =>
      rw [joinL_cons]
      have ih : joinL (splitC 46 r) = r := ih
      rw [← hs, ih]
theorem joinL_snoc : ∀ (xs : List (List UInt8)) (x : List UInt8), joinL (xs ++ [x]) = if xs = [] then x else joinL xs ++ 46 :: x
  | [], x => rfl
  | [a], x => rfl
  | a :: b :: r, x => by
    have ih := joinL_snoc (b :: r) x
    rw [if_neg (by simp)] at ih
    rw [if_neg (by simp), List.cons_append, List.cons_append, joinL_cons, joinL_cons, ← List.cons_append, ih, List.append_assoc]
    rfl
theorem no_colon {l : List UInt8} (h : validL l = true) : (58 : UInt8) ∉ l := by
  intro e
  obtain ⟨p, hp, hk⟩ := (its_ascii (k := 58) (by omega) l).2 e
  obtain ⟨c, hc, hs⟩ := good_valid h p hp
  rw [hc] at hk
  obtain rfl := Option.some.inj hk
  revert hs
  decide
/-! digits -/
theorem numL_snoc (b : UInt8) : ∀ (l : List UInt8) (acc : Nat), numL acc (l ++ [b]) = numL acc l * 10 + (b.toNat - 48)
  | [], acc => rfl
  | a :: l, acc => numL_snoc b l (acc * 10 + (a.toNat - 48))
theorem head_app {a r : List UInt8} (h : a ≠ []) : (a ++ r).head? = a.head? := by
  cases a with
  | nil => exact absurd rfl h
  | cons b a => rfl
structure DigOk (f n : Nat) (l : List UInt8) : Prop where
  num : numL 0 l = n
  d : l.all isDigit = true
  len : l.length ≤ f
  ne : l ≠ []
  hd : 1 ≤ n → l.head? ≠ some 48
theorem dig_ok : ∀ (f n : Nat), n < 10 ^ (f + 1) → DigOk (f + 1) n (digF (f + 1) n)
  | f, n, hn => by
    have hd : ∀ k, k < 10 → isDigit (UInt8.ofNat (48 + k)) = true ∧ (UInt8.ofNat (48 + k)).toNat = 48 + k := by
      intro k hk
      have e : (UInt8.ofNat (48 + k)).toNat = 48 + k := by rw [UInt8.toNat_ofNat']; omega
      refine ⟨?_, e⟩
      unfold isDigit; rw [e]; simp; omega
    unfold digF
    rw [cond_eq_ite]
    by_cases h10 : n < 10
    · rw [if_pos (by simpa using h10)]
      obtain ⟨h1, h2⟩ := hd n h10
      refine ⟨?_, by rw [List.all_cons, h1]; rfl, by simp, by simp, fun hn1 => ?_⟩
      · show 0 * 10 + ((UInt8.ofNat (48 + n)).toNat - 48) = n
        omega
      · rw [List.head?_cons]
        intro e
        have := Option.some.inj e
        rw [this] at h2
        have : (48 : UInt8).toNat = 48 := rfl
        omega
    · rw [if_neg (by simpa using h10)]
      cases f with
      | zero => omega
      | succ f =>
        obtain ⟨g1, g2, g3, g4, g5⟩ := dig_ok f (n / 10) (by rw [Nat.pow_succ] at hn; omega)
        obtain ⟨h1, h2⟩ := hd (n % 10) (by omega)
        refine ⟨?_, by rw [List.all_append, g2, List.all_cons, h1]; rfl, by rw [List.length_append]; simp; omega, by simp, fun hn1 => ?_⟩
        · rw [numL_snoc, g1, h2]; omega
        · rw [head_app g4]
          exact g5 (by omega)
theorem port_dig {n : Nat} (h1 : 1 ≤ n) (h2 : n ≤ 65535) : portN (digL n) = n := by
  have hk := dig_ok 4 n (by show n < 100000; omega)
  have e5 : digF (4 + 1) n = digL n := rfl
  rw [e5] at hk
  obtain ⟨g1, g2, g3, g4, g5⟩ := hk
  have hl := List.length_pos_iff.2 g4
  rw [portN_eq, if_pos ⟨by omega, by omega, g5 h1, g2, by omega⟩, g1]
theorem dig_back : ∀ (f : Nat) (l : List UInt8), l ≠ [] → l.length ≤ f + 1 → l.all isDigit = true → l.head? ≠ some 48 → digF (f + 1) (numL 0 l) = l := by
  intro f
  induction f with
  | zero =>
    intro l h0 h1 h2 h3
    match l, h0, h1 with
    | [b], _, _ =>
      rw [List.all_cons, List.all_nil, Bool.and_true] at h2
      unfold isDigit at h2
      simp only [Bool.and_eq_true, decide_eq_true_eq] at h2
      have e : numL 0 [b] = b.toNat - 48 := by show 0 * 10 + (b.toNat - 48) = _; omega
      rw [e]
      unfold digF
      rw [cond_eq_ite, if_pos (by simp; omega)]
      congr 1
      apply UInt8.toNat_inj.1
      rw [UInt8.toNat_ofNat']
      omega
    | _ :: _ :: _, _, h1 => simp at h1
  | succ f ih =>
    intro l h0 h1 h2 h3
    rcases List.eq_nil_or_concat l with rfl | ⟨r, b, rfl⟩
    · exact absurd rfl h0
    · rw [List.concat_eq_append] at h0 h1 h2 h3 ⊢
      rw [List.all_append, Bool.and_eq_true] at h2
      have hb := h2.2
      rw [List.all_cons, List.all_nil, Bool.and_true] at hb
      unfold isDigit at hb
      simp only [Bool.and_eq_true, decide_eq_true_eq] at hb
      rw [numL_snoc]
      have hbe : UInt8.ofNat (48 + (b.toNat - 48)) = b := by
        apply UInt8.toNat_inj.1
        rw [UInt8.toNat_ofNat']
        omega
      cases r with
      | nil =>
        have e : numL 0 [] = 0 := rfl
        rw [e]
        unfold digF
        rw [cond_eq_ite, if_pos (by simp; omega), Nat.zero_mul, Nat.zero_add, hbe]
        rfl
      | cons b0 r =>
        have h3' : (b0 :: r).head? ≠ some 48 := by rw [head_app (by simp)] at h3; exact h3
        have hd0 := h2.1
        rw [List.all_cons, Bool.and_eq_true] at hd0
        have hd00 := hd0.1
        unfold isDigit at hd00
        simp only [Bool.and_eq_true, decide_eq_true_eq] at hd00
        have hne : b0.toNat ≠ 48 := by
          intro e
          apply h3'
          rw [List.head?_cons]
          congr 1
          apply UInt8.toNat_inj.1
          exact e
        have hpos : 1 ≤ numL 0 (b0 :: r) := by
          have := numL_le r (0 * 10 + (b0.toNat - 48))
          have e : numL 0 (b0 :: r) = numL (0 * 10 + (b0.toNat - 48)) r := rfl
          omega
        have := ih (b0 :: r) (by simp) (by rw [List.length_append] at h1; simp at h1 ⊢; omega) h2.1 h3'
        generalize hm : numL 0 (b0 :: r) = m at hpos this
        unfold digF
        rw [cond_eq_ite, if_neg (by simp; omega)]
        have e1 : (m * 10 + (b.toNat - 48)) / 10 = m := by omega
        have e2 : (m * 10 + (b.toNat - 48)) % 10 = b.toNat - 48 := by omega
        rw [e1, e2, this, hbe]
theorem port_back {l : List UInt8} (h : portN l ≠ 0) : 1 ≤ portN l ∧ portN l ≤ 65535 ∧ digL (portN l) = l := by
  rw [portN_eq] at h ⊢
  split at h
  · rename_i hc
    rw [if_pos hc]
    obtain ⟨h1, h2, h3, h4, h5⟩ := hc
    exact ⟨by omega, h5, dig_back 4 l (by intro e; rw [e] at h1; simp at h1) h2 h4 h3⟩
  · exact absurd rfl h
theorem dig_colon (n : Nat) (h : n < 100000) : (58 : UInt8) ∉ digL n := by
  intro e
  have := List.all_eq_true.1 (dig_ok 4 n h).d 58 e
  revert this
  decide
theorem lastN_app (c : UInt8) (a : List UInt8) : ∀ {d : List UInt8}, c ∉ d → lastN c (a ++ c :: d) = some a.length := by
  intro d hd
  have h0 : ∀ d : List UInt8, c ∉ d → lastN c d = none := by
    intro d
    induction d with
    | nil => intro _; rfl
    | cons b r ih =>
      intro h
      simp only [List.mem_cons, not_or] at h
      rw [lastN, ih h.2]
      simp only
      rw [if_neg (Ne.symm h.1)]
  induction a with
  | nil => rw [List.nil_append, lastN, h0 d hd]; simp
  | cons b a ih => rw [List.cons_append, lastN, ih]; rfl
theorem lastN_at {c : UInt8} : ∀ {l : List UInt8} {i : Nat}, lastN c l = some i → l = l.take i ++ c :: l.drop (i + 1)
  | [], i, h => by simp [lastN] at h
  | b :: l, i, h => by
    rw [lastN] at h
    cases hl : lastN c l with
    | some j =>
      rw [hl] at h
      simp only [Option.some.injEq] at h
      subst h
      have := lastN_at hl
      rw [List.take_succ_cons, List.drop_succ_cons, List.cons_append, ← this]
    | none =>
      rw [hl] at h
      simp only at h
      split at h
      · rename_i e
        simp only [Option.some.injEq] at h
        subst h
        rw [e]
        rfl
      · cases h
end Go.Proofs.YtkimpfoimblhjaaDoor.Lb
namespace Go.Proofs.YtkimpfoimblhjaaDoor.Lb
open Go Go.Eng
set_option maxRecDepth 100000
noncomputable def g26 : Cfg := { tab := Tb.tab, cons := [(29, cFold), (30, cSplit)], inls := [], loops := [], cuts := [], unroll := false, arrs := [] }
noncomputable def g7 : Cfg := { tab := Tb.tab, cons := [(26, cWakes1), (27, cParts), (28, cValid), (29, cFold)], inls := [], loops := [(12, lawPartsL)], cuts := [], unroll := false, arrs := [] }
noncomputable def g8 : Cfg := { tab := Tb.tab, cons := [(26, cWakes1), (30, cSplit), (31, cSplit), (32, cJoin), (33, cJoin)], inls := [], loops := [], cuts := [], unroll := false, arrs := [] }
noncomputable def g9 : Cfg := { tab := Tb.tab, cons := [(26, cWakes1), (29, cFold), (30, cSplit), (32, cJoin)], inls := [], loops := [], cuts := [], unroll := false, arrs := [] }
noncomputable def g10 : Cfg := { tab := Tb.tab, cons := [(26, cWakes1), (30, cSplit), (32, cJoin)], inls := [], loops := [(8, colonL)], cuts := [], unroll := false, arrs := [] }
noncomputable def g11 : Cfg := { tab := Tb.tab, cons := [(26, cWakes1), (28, cValid), (34, cRunes)], inls := [], loops := [], cuts := [], unroll := false, arrs := [] }
noncomputable def g12 : Cfg := { tab := Tb.tab, cons := [(26, cWakes1), (27, cParts), (28, cValid), (29, cFold), (34, cRunes), (35, cFold), (36, cRunes), (37, cValid), (38, cSame), (39, cSame), (40, cSameTexts), (41, cParts)], inls := [], loops := [], cuts := [], unroll := false, arrs := [] }
end Go.Proofs.YtkimpfoimblhjaaDoor.Lb
namespace Go.Proofs.YtkimpfoimblhjaaDoor.Lb
open Go Go.Eng
set_option maxRecDepth 100000
theorem v7_eq : vcFn g7 300 Tryd.f7 ((cLaw aParts)) = ( ∀ (x : ByteArray × Unit), Wr True → bcase (Decidable.decide ((↑(ByteArray.size x.fst) : Int) > (2000 : Int))) (Wr True ∧ (Bool.true, ()) = (Bool.true, ())) (Wr (szOk x.fst = Bool.true) ∧ Wr (listOk (x.fst :: nilL
  ByteArray) = Bool.true) ∧ bcase (!allValid (x.fst :: nilL ByteArray)) (Wr (Decidable.decide ((↑(List.length (Go.Lb.partsS x.fst)) : Int) = (0 : Int)) = Bool.true → True) ∧ (Decidable.decide ((↑(List.length (Go.Lb.partsS
  x.fst)) : Int) = (0 : Int)) && Bool.true, ()) = (Bool.true, ())) (Wr (szOk x.fst = Bool.true) ∧ Wr (szOk (Go.Lb.fold1 x.fst) = Bool.true) ∧ bcase (!Decidable.decide (Go.Lb.fold2 x.fst = (0 : Int)) || Decidable.decide
  ((↑(List.length (Go.Lb.partsS x.fst)) : Int) = (0 : Int)) || !Decidable.decide ((↑(List.length (Go.Lb.partsS (Go.Lb.fold1 x.fst))) : Int) = (↑(List.length (Go.Lb.partsS x.fst)) : Int))) ((Bool.false, ()) = (Bool.true,
  ())) ((Wr (JoinI (Go.Lb.partsS x.fst) (Go.Lb.partsS (Go.Lb.fold1 x.fst)) (ByteArray.mk (List.toArray (nilL UInt8))) (ByteArray.mk (List.toArray (nilL UInt8))) (0 : Int)) ∧ Wr (ByteArray.mk (List.toArray (nilL UInt8)) =
  ByteArray.mk (List.toArray (nilL UInt8))) ∧ Wr (ByteArray.mk (List.toArray (nilL UInt8)) = ByteArray.mk (List.toArray (nilL UInt8))) ∧ Wr ((0 : Int) = (0 : Int)) ∧ Wr (x.fst = x.fst) ∧ Wr (Go.Lb.partsS x.fst =
  Go.Lb.partsS x.fst) ∧ Wr (Go.Lb.fold1 x.fst = Go.Lb.fold1 x.fst) ∧ Wr (Go.Lb.partsS (Go.Lb.fold1 x.fst) = Go.Lb.partsS (Go.Lb.fold1 x.fst))) ∧ ∀ (x_1 : ByteArray × ByteArray × Int), Wr (JoinI (Go.Lb.partsS x.fst)
  (Go.Lb.partsS (Go.Lb.fold1 x.fst)) x_1.fst x_1.snd.fst x_1.snd.snd) → bcase (Decidable.decide (x_1.snd.snd < (↑(List.length (Go.Lb.partsS x.fst)) : Int))) (Wr ((0 : Int) ≤ x_1.snd.snd) ∧ Wr (x_1.snd.snd < (↑(List.length
  (Go.Lb.partsS x.fst)) : Int)) ∧ Wr (Bool.true = Bool.true) ∧ Wr (szOk (List.getD (Go.Lb.partsS x.fst) (Int.toNat x_1.snd.snd) (Ty.zero Ty.str)) = Bool.true) ∧ Wr ((!!Decidable.decide (Go.Lb.fold2 (List.getD
  (Go.Lb.partsS x.fst) (Int.toNat x_1.snd.snd) (Ty.zero Ty.str)) = (0 : Int))) = Bool.true → (0 : Int) ≤ x_1.snd.snd) ∧ Wr ((!!Decidable.decide (Go.Lb.fold2 (List.getD (Go.Lb.partsS x.fst) (Int.toNat x_1.snd.snd) (Ty.zero
  Ty.str)) = (0 : Int))) = Bool.true → x_1.snd.snd < (↑(List.length (Go.Lb.partsS (Go.Lb.fold1 x.fst))) : Int)) ∧ Wr ((!!Decidable.decide (Go.Lb.fold2 (List.getD (Go.Lb.partsS x.fst) (Int.toNat x_1.snd.snd) (Ty.zero
  Ty.str)) = (0 : Int))) = Bool.true → Bool.true = Bool.true) ∧ Wr ((!(!Decidable.decide (Go.Lb.fold2 (List.getD (Go.Lb.partsS x.fst) (Int.toNat x_1.snd.snd) (Ty.zero Ty.str)) = (0 : Int)) || !Decidable.decide
  (Go.Lb.fold1 (List.getD (Go.Lb.partsS x.fst) (Int.toNat x_1.snd.snd) (Ty.zero Ty.str)) = List.getD (Go.Lb.partsS (Go.Lb.fold1 x.fst)) (Int.toNat x_1.snd.snd) (Ty.zero Ty.str)))) = Bool.true → (0 : Int) ≤ x_1.snd.snd) ∧
  Wr ((!(!Decidable.decide (Go.Lb.fold2 (List.getD (Go.Lb.partsS x.fst) (Int.toNat x_1.snd.snd) (Ty.zero Ty.str)) = (0 : Int)) || !Decidable.decide (Go.Lb.fold1 (List.getD (Go.Lb.partsS x.fst) (Int.toNat x_1.snd.snd)
  (Ty.zero Ty.str)) = List.getD (Go.Lb.partsS (Go.Lb.fold1 x.fst)) (Int.toNat x_1.snd.snd) (Ty.zero Ty.str)))) = Bool.true → x_1.snd.snd < (↑(List.length (Go.Lb.partsS x.fst)) : Int)) ∧ Wr ((!(!Decidable.decide
  (Go.Lb.fold2 (List.getD (Go.Lb.partsS x.fst) (Int.toNat x_1.snd.snd) (Ty.zero Ty.str)) = (0 : Int)) || !Decidable.decide (Go.Lb.fold1 (List.getD (Go.Lb.partsS x.fst) (Int.toNat x_1.snd.snd) (Ty.zero Ty.str)) = List.getD
  (Go.Lb.partsS (Go.Lb.fold1 x.fst)) (Int.toNat x_1.snd.snd) (Ty.zero Ty.str)))) = Bool.true → Bool.true = Bool.true) ∧ Wr ((!(!Decidable.decide (Go.Lb.fold2 (List.getD (Go.Lb.partsS x.fst) (Int.toNat x_1.snd.snd)
  (Ty.zero Ty.str)) = (0 : Int)) || !Decidable.decide (Go.Lb.fold1 (List.getD (Go.Lb.partsS x.fst) (Int.toNat x_1.snd.snd) (Ty.zero Ty.str)) = List.getD (Go.Lb.partsS (Go.Lb.fold1 x.fst)) (Int.toNat x_1.snd.snd) (Ty.zero
  Ty.str)))) = Bool.true → listOk (List.getD (Go.Lb.partsS x.fst) (Int.toNat x_1.snd.snd) (Ty.zero Ty.str) :: nilL ByteArray) = Bool.true) ∧ bcase (!Decidable.decide (Go.Lb.fold2 (List.getD (Go.Lb.partsS x.fst) (Int.toNat
  x_1.snd.snd) (Ty.zero Ty.str)) = (0 : Int)) || !Decidable.decide (Go.Lb.fold1 (List.getD (Go.Lb.partsS x.fst) (Int.toNat x_1.snd.snd) (Ty.zero Ty.str)) = List.getD (Go.Lb.partsS (Go.Lb.fold1 x.fst)) (Int.toNat
  x_1.snd.snd) (Ty.zero Ty.str)) || !allValid (List.getD (Go.Lb.partsS x.fst) (Int.toNat x_1.snd.snd) (Ty.zero Ty.str) :: nilL ByteArray)) ((Bool.false, ()) = (Bool.true, ())) (bcase (Decidable.decide (x_1.snd.snd > (0 :
  Int))) (Wr (ByteArray.size x_1.fst + ByteArray.size (ByteArray.mk (List.toArray ((46 : UInt8) :: nilL UInt8))) ≤ Go.maxLen) ∧ Wr (ByteArray.size x_1.snd.fst + ByteArray.size (ByteArray.mk (List.toArray ((46 : UInt8) ::
  nilL UInt8))) ≤ Go.maxLen) ∧ Wr ((0 : Int) ≤ x_1.snd.snd) ∧ Wr (x_1.snd.snd < (↑(List.length (Go.Lb.partsS x.fst)) : Int)) ∧ Wr (Bool.true = Bool.true) ∧ Wr (ByteArray.size (x_1.fst ++ ByteArray.mk (List.toArray ((46 :
  UInt8) :: nilL UInt8))) + ByteArray.size (List.getD (Go.Lb.partsS x.fst) (Int.toNat x_1.snd.snd) (Ty.zero Ty.str)) ≤ Go.maxLen) ∧ Wr (ByteArray.size (x_1.snd.fst ++ ByteArray.mk (List.toArray ((46 : UInt8) :: nilL
  UInt8))) + ByteArray.size (Go.Lb.fold1 (List.getD (Go.Lb.partsS x.fst) (Int.toNat x_1.snd.snd) (Ty.zero Ty.str))) ≤ Go.maxLen) ∧ Wr (JoinI (Go.Lb.partsS x.fst) (Go.Lb.partsS (Go.Lb.fold1 x.fst)) (x_1.fst ++ ByteArray.mk
  (List.toArray ((46 : UInt8) :: nilL UInt8)) ++ List.getD (Go.Lb.partsS x.fst) (Int.toNat x_1.snd.snd) (Ty.zero Ty.str)) (x_1.snd.fst ++ ByteArray.mk (List.toArray ((46 : UInt8) :: nilL UInt8)) ++ Go.Lb.fold1 (List.getD
  (Go.Lb.partsS x.fst) (Int.toNat x_1.snd.snd) (Ty.zero Ty.str))) (IntKind.wrap IntKind.i64 (x_1.snd.snd + (1 : Int)))) ∧ Wr (List.length (Go.Lb.partsS x.fst) - Int.toNat (IntKind.wrap IntKind.i64 (x_1.snd.snd + (1 :
  Int))) < List.length (Go.Lb.partsS x.fst) - Int.toNat x_1.snd.snd) ∧ Wr (x_1.fst ++ ByteArray.mk (List.toArray ((46 : UInt8) :: nilL UInt8)) ++ List.getD (Go.Lb.partsS x.fst) (Int.toNat x_1.snd.snd) (Ty.zero Ty.str) =
  x_1.fst ++ ByteArray.mk (List.toArray ((46 : UInt8) :: nilL UInt8)) ++ List.getD (Go.Lb.partsS x.fst) (Int.toNat x_1.snd.snd) (Ty.zero Ty.str)) ∧ Wr (x_1.snd.fst ++ ByteArray.mk (List.toArray ((46 : UInt8) :: nilL
  UInt8)) ++ Go.Lb.fold1 (List.getD (Go.Lb.partsS x.fst) (Int.toNat x_1.snd.snd) (Ty.zero Ty.str)) = x_1.snd.fst ++ ByteArray.mk (List.toArray ((46 : UInt8) :: nilL UInt8)) ++ Go.Lb.fold1 (List.getD (Go.Lb.partsS x.fst)
  (Int.toNat x_1.snd.snd) (Ty.zero Ty.str))) ∧ Wr (IntKind.wrap IntKind.i64 (x_1.snd.snd + (1 : Int)) = IntKind.wrap IntKind.i64 (x_1.snd.snd + (1 : Int))) ∧ Wr (x.fst = x.fst) ∧ Wr (Go.Lb.partsS x.fst = Go.Lb.partsS
  x.fst) ∧ Wr (Go.Lb.fold1 x.fst = Go.Lb.fold1 x.fst) ∧ Wr (Go.Lb.partsS (Go.Lb.fold1 x.fst) = Go.Lb.partsS (Go.Lb.fold1 x.fst))) (Wr ((0 : Int) ≤ x_1.snd.snd) ∧ Wr (x_1.snd.snd < (↑(List.length (Go.Lb.partsS x.fst)) :
  Int)) ∧ Wr (Bool.true = Bool.true) ∧ Wr (ByteArray.size x_1.fst + ByteArray.size (List.getD (Go.Lb.partsS x.fst) (Int.toNat x_1.snd.snd) (Ty.zero Ty.str)) ≤ Go.maxLen) ∧ Wr (ByteArray.size x_1.snd.fst + ByteArray.size
  (Go.Lb.fold1 (List.getD (Go.Lb.partsS x.fst) (Int.toNat x_1.snd.snd) (Ty.zero Ty.str))) ≤ Go.maxLen) ∧ Wr (JoinI (Go.Lb.partsS x.fst) (Go.Lb.partsS (Go.Lb.fold1 x.fst)) (x_1.fst ++ List.getD (Go.Lb.partsS x.fst)
  (Int.toNat x_1.snd.snd) (Ty.zero Ty.str)) (x_1.snd.fst ++ Go.Lb.fold1 (List.getD (Go.Lb.partsS x.fst) (Int.toNat x_1.snd.snd) (Ty.zero Ty.str))) (IntKind.wrap IntKind.i64 (x_1.snd.snd + (1 : Int)))) ∧ Wr (List.length
  (Go.Lb.partsS x.fst) - Int.toNat (IntKind.wrap IntKind.i64 (x_1.snd.snd + (1 : Int))) < List.length (Go.Lb.partsS x.fst) - Int.toNat x_1.snd.snd) ∧ Wr (x_1.fst ++ List.getD (Go.Lb.partsS x.fst) (Int.toNat x_1.snd.snd)
  (Ty.zero Ty.str) = x_1.fst ++ List.getD (Go.Lb.partsS x.fst) (Int.toNat x_1.snd.snd) (Ty.zero Ty.str)) ∧ Wr (x_1.snd.fst ++ Go.Lb.fold1 (List.getD (Go.Lb.partsS x.fst) (Int.toNat x_1.snd.snd) (Ty.zero Ty.str)) =
  x_1.snd.fst ++ Go.Lb.fold1 (List.getD (Go.Lb.partsS x.fst) (Int.toNat x_1.snd.snd) (Ty.zero Ty.str))) ∧ Wr (IntKind.wrap IntKind.i64 (x_1.snd.snd + (1 : Int)) = IntKind.wrap IntKind.i64 (x_1.snd.snd + (1 : Int))) ∧ Wr
  (x.fst = x.fst) ∧ Wr (Go.Lb.partsS x.fst = Go.Lb.partsS x.fst) ∧ Wr (Go.Lb.fold1 x.fst = Go.Lb.fold1 x.fst) ∧ Wr (Go.Lb.partsS (Go.Lb.fold1 x.fst) = Go.Lb.partsS (Go.Lb.fold1 x.fst))))) (Wr ((Decidable.decide (x_1.fst =
  x.fst) && Decidable.decide (x_1.snd.fst = Go.Lb.fold1 x.fst)) = Bool.true → True) ∧ (Decidable.decide (x_1.fst = x.fst) && Decidable.decide (x_1.snd.fst = Go.Lb.fold1 x.fst) && Bool.true, ()) = (Bool.true, ())))))) := by kernel_rfl
theorem v8_eq : vcFn g8 300 Tryd.f8 ((cLaw aKeys)) = ( ∀ (x : ByteArray × ByteArray × Int × Unit), Wr True → bcase (Decidable.decide ((↑(ByteArray.size x.fst) : Int) > (2000 : Int)) || Decidable.decide ((↑(ByteArray.size x.snd.fst) : Int) > (2000 : Int))) (Wr True ∧
  (Bool.true, ()) = (Bool.true, ())) (Wr (szOk x.fst = Bool.true) ∧ Wr (szOk x.fst = Bool.true) ∧ Wr (szOk x.snd.fst = Bool.true) ∧ Wr (szOk x.snd.fst = Bool.true) ∧ Wr ((Decidable.decide (Go.Lb.split1 x.fst =
  Go.Lb.split1 x.fst) && Decidable.decide (Go.Lb.split2 x.fst = Go.Lb.split2 x.fst) && Decidable.decide (Go.Lb.splitOk x.fst = Go.Lb.splitOk x.fst) && Decidable.decide (Go.Lb.join1 x.snd.fst x.snd.snd.fst = Go.Lb.join1
  x.snd.fst x.snd.snd.fst) && Decidable.decide (Go.Lb.join2 x.snd.fst x.snd.snd.fst = Go.Lb.join2 x.snd.fst x.snd.snd.fst)) = Bool.true → True) ∧ (Decidable.decide (Go.Lb.split1 x.fst = Go.Lb.split1 x.fst) &&
  Decidable.decide (Go.Lb.split2 x.fst = Go.Lb.split2 x.fst) && Decidable.decide (Go.Lb.splitOk x.fst = Go.Lb.splitOk x.fst) && Decidable.decide (Go.Lb.join1 x.snd.fst x.snd.snd.fst = Go.Lb.join1 x.snd.fst x.snd.snd.fst)
  && Decidable.decide (Go.Lb.join2 x.snd.fst x.snd.snd.fst = Go.Lb.join2 x.snd.fst x.snd.snd.fst) && Bool.true, ()) = (Bool.true, ()))) := by kernel_rfl
theorem v9_eq : vcFn g9 300 Tryd.f9 ((cLaw aKeys)) = ( ∀ (x : ByteArray × ByteArray × Int × Unit), Wr True → bcase (Decidable.decide ((↑(ByteArray.size x.fst) : Int) > (2000 : Int)) || Decidable.decide ((↑(ByteArray.size x.snd.fst) : Int) > (2000 : Int))) (Wr True ∧
  (Bool.true, ()) = (Bool.true, ())) (Wr (szOk x.snd.fst = Bool.true) ∧ bcase (Decidable.decide (Go.Lb.join2 x.snd.fst x.snd.snd.fst = (0 : Int))) (Wr (szOk (Go.Lb.join1 x.snd.fst x.snd.snd.fst) = Bool.true) ∧ Wr (szOk
  x.snd.fst = Bool.true) ∧ Wr (szOk (Go.Lb.fold1 x.snd.fst) = Bool.true) ∧ bcase (!Decidable.decide (Go.Lb.splitOk (Go.Lb.join1 x.snd.fst x.snd.snd.fst) = (0 : Int)) || !Decidable.decide (Go.Lb.fold2 x.snd.fst = (0 :
  Int)) || !Decidable.decide (Go.Lb.fold2 (Go.Lb.fold1 x.snd.fst) = (0 : Int)) || !Decidable.decide (Go.Lb.split1 (Go.Lb.join1 x.snd.fst x.snd.snd.fst) = Go.Lb.fold1 x.snd.fst) || !Decidable.decide (Go.Lb.split2
  (Go.Lb.join1 x.snd.fst x.snd.snd.fst) = x.snd.snd.fst) || !Decidable.decide (Go.Lb.fold1 (Go.Lb.fold1 x.snd.fst) = Go.Lb.fold1 x.snd.fst) || !Decidable.decide ((↑(ByteArray.size (Go.Lb.fold1 x.snd.fst)) : Int) =
  (↑(ByteArray.size x.snd.fst) : Int))) ((Bool.false, ()) = (Bool.true, ())) (Wr (szOk x.fst = Bool.true) ∧ bcase (!Decidable.decide (Go.Lb.splitOk x.fst = (0 : Int))) (Wr ((Decidable.decide (Go.Lb.split1 x.fst =
  ByteArray.mk (List.toArray (nilL UInt8))) && Decidable.decide (Go.Lb.split2 x.fst = (0 : Int))) = Bool.true → True) ∧ (Decidable.decide (Go.Lb.split1 x.fst = ByteArray.mk (List.toArray (nilL UInt8))) && Decidable.decide
  (Go.Lb.split2 x.fst = (0 : Int)) && Bool.true, ()) = (Bool.true, ())) (Wr (szOk (Go.Lb.split1 x.fst) = Bool.true) ∧ Wr ((0 : Int) ≤ (0 : Int)) ∧ Wr ((0 : Int) ≤ Min.min (↑(ByteArray.size (Go.Lb.split1 x.fst)) : Int)
  (↑(ByteArray.size x.fst) : Int)) ∧ Wr (Min.min (↑(ByteArray.size (Go.Lb.split1 x.fst)) : Int) (↑(ByteArray.size x.fst) : Int) ≤ (↑(ByteArray.size x.fst) : Int)) ∧ Wr (szOk (subS x.fst (Int.toNat (0 : Int)) (Int.toNat
  (Min.min (↑(ByteArray.size (Go.Lb.split1 x.fst)) : Int) (↑(ByteArray.size x.fst) : Int)))) = Bool.true) ∧ Wr ((Decidable.decide (Go.Lb.join2 (Go.Lb.split1 x.fst) (Go.Lb.split2 x.fst) = (0 : Int)) && Decidable.decide
  (Go.Lb.join2 (subS x.fst (Int.toNat (0 : Int)) (Int.toNat (Min.min (↑(ByteArray.size (Go.Lb.split1 x.fst)) : Int) (↑(ByteArray.size x.fst) : Int)))) (Go.Lb.split2 x.fst) = (0 : Int)) && Decidable.decide (Go.Lb.join1
  (Go.Lb.split1 x.fst) (Go.Lb.split2 x.fst) = Go.Lb.join1 (subS x.fst (Int.toNat (0 : Int)) (Int.toNat (Min.min (↑(ByteArray.size (Go.Lb.split1 x.fst)) : Int) (↑(ByteArray.size x.fst) : Int)))) (Go.Lb.split2 x.fst)) &&
  Decidable.decide ((↑(ByteArray.size (Go.Lb.join1 (Go.Lb.split1 x.fst) (Go.Lb.split2 x.fst))) : Int) = (↑(ByteArray.size x.fst) : Int))) = Bool.true → True) ∧ (Decidable.decide (Go.Lb.join2 (Go.Lb.split1 x.fst)
  (Go.Lb.split2 x.fst) = (0 : Int)) && Decidable.decide (Go.Lb.join2 (subS x.fst (Int.toNat (0 : Int)) (Int.toNat (Min.min (↑(ByteArray.size (Go.Lb.split1 x.fst)) : Int) (↑(ByteArray.size x.fst) : Int)))) (Go.Lb.split2
  x.fst) = (0 : Int)) && Decidable.decide (Go.Lb.join1 (Go.Lb.split1 x.fst) (Go.Lb.split2 x.fst) = Go.Lb.join1 (subS x.fst (Int.toNat (0 : Int)) (Int.toNat (Min.min (↑(ByteArray.size (Go.Lb.split1 x.fst)) : Int)
  (↑(ByteArray.size x.fst) : Int)))) (Go.Lb.split2 x.fst)) && Decidable.decide ((↑(ByteArray.size (Go.Lb.join1 (Go.Lb.split1 x.fst) (Go.Lb.split2 x.fst))) : Int) = (↑(ByteArray.size x.fst) : Int)) && Bool.true, ()) =
  (Bool.true, ())))) (Wr (szOk x.fst = Bool.true) ∧ bcase (!Decidable.decide (Go.Lb.splitOk x.fst = (0 : Int))) (Wr ((Decidable.decide (Go.Lb.split1 x.fst = ByteArray.mk (List.toArray (nilL UInt8))) && Decidable.decide
  (Go.Lb.split2 x.fst = (0 : Int))) = Bool.true → True) ∧ (Decidable.decide (Go.Lb.split1 x.fst = ByteArray.mk (List.toArray (nilL UInt8))) && Decidable.decide (Go.Lb.split2 x.fst = (0 : Int)) && Bool.true, ()) =
  (Bool.true, ())) (Wr (szOk (Go.Lb.split1 x.fst) = Bool.true) ∧ Wr ((0 : Int) ≤ (0 : Int)) ∧ Wr ((0 : Int) ≤ Min.min (↑(ByteArray.size (Go.Lb.split1 x.fst)) : Int) (↑(ByteArray.size x.fst) : Int)) ∧ Wr (Min.min
  (↑(ByteArray.size (Go.Lb.split1 x.fst)) : Int) (↑(ByteArray.size x.fst) : Int) ≤ (↑(ByteArray.size x.fst) : Int)) ∧ Wr (szOk (subS x.fst (Int.toNat (0 : Int)) (Int.toNat (Min.min (↑(ByteArray.size (Go.Lb.split1 x.fst))
  : Int) (↑(ByteArray.size x.fst) : Int)))) = Bool.true) ∧ Wr ((Decidable.decide (Go.Lb.join2 (Go.Lb.split1 x.fst) (Go.Lb.split2 x.fst) = (0 : Int)) && Decidable.decide (Go.Lb.join2 (subS x.fst (Int.toNat (0 : Int))
  (Int.toNat (Min.min (↑(ByteArray.size (Go.Lb.split1 x.fst)) : Int) (↑(ByteArray.size x.fst) : Int)))) (Go.Lb.split2 x.fst) = (0 : Int)) && Decidable.decide (Go.Lb.join1 (Go.Lb.split1 x.fst) (Go.Lb.split2 x.fst) =
  Go.Lb.join1 (subS x.fst (Int.toNat (0 : Int)) (Int.toNat (Min.min (↑(ByteArray.size (Go.Lb.split1 x.fst)) : Int) (↑(ByteArray.size x.fst) : Int)))) (Go.Lb.split2 x.fst)) && Decidable.decide ((↑(ByteArray.size
  (Go.Lb.join1 (Go.Lb.split1 x.fst) (Go.Lb.split2 x.fst))) : Int) = (↑(ByteArray.size x.fst) : Int))) = Bool.true → True) ∧ (Decidable.decide (Go.Lb.join2 (Go.Lb.split1 x.fst) (Go.Lb.split2 x.fst) = (0 : Int)) &&
  Decidable.decide (Go.Lb.join2 (subS x.fst (Int.toNat (0 : Int)) (Int.toNat (Min.min (↑(ByteArray.size (Go.Lb.split1 x.fst)) : Int) (↑(ByteArray.size x.fst) : Int)))) (Go.Lb.split2 x.fst) = (0 : Int)) && Decidable.decide
  (Go.Lb.join1 (Go.Lb.split1 x.fst) (Go.Lb.split2 x.fst) = Go.Lb.join1 (subS x.fst (Int.toNat (0 : Int)) (Int.toNat (Min.min (↑(ByteArray.size (Go.Lb.split1 x.fst)) : Int) (↑(ByteArray.size x.fst) : Int)))) (Go.Lb.split2
  x.fst)) && Decidable.decide ((↑(ByteArray.size (Go.Lb.join1 (Go.Lb.split1 x.fst) (Go.Lb.split2 x.fst))) : Int) = (↑(ByteArray.size x.fst) : Int)) && Bool.true, ()) = (Bool.true, ()))))) := by kernel_rfl
theorem v10_eq : vcFn g10 300 Tryd.f10 ((cLaw aColon)) = ( ∀ (x : ByteArray × Int × Unit), Wr True → bcase (Decidable.decide ((↑(ByteArray.size x.fst) : Int) > (2000 : Int))) (Wr True ∧ (Bool.true, ()) = (Bool.true, ())) (Wr (szOk x.fst = Bool.true) ∧ bcase (!Decidable.decide
  (Go.Lb.join2 x.fst x.snd.fst = (0 : Int))) (Wr (Decidable.decide (Go.Lb.join1 x.fst x.snd.fst = ByteArray.mk (List.toArray (nilL UInt8))) = Bool.true → True) ∧ (Decidable.decide (Go.Lb.join1 x.fst x.snd.fst =
  ByteArray.mk (List.toArray (nilL UInt8))) && Bool.true, ()) = (Bool.true, ())) ((Wr (ColonI x.fst (Go.Lb.join1 x.fst x.snd.fst) (-1 : Int) (0 : Int) (0 : Int) (0 : Int)) ∧ Wr ((-1 : Int) = (-1 : Int)) ∧ Wr ((0 : Int) =
  (0 : Int)) ∧ Wr ((0 : Int) = (0 : Int)) ∧ Wr ((0 : Int) = (0 : Int)) ∧ Wr (x.fst = x.fst) ∧ Wr (x.snd.fst = x.snd.fst) ∧ Wr (Go.Lb.join1 x.fst x.snd.fst = Go.Lb.join1 x.fst x.snd.fst)) ∧ ∀ (x_1 : Int × Int × Int × Int),
  Wr (ColonI x.fst (Go.Lb.join1 x.fst x.snd.fst) x_1.fst x_1.snd.fst x_1.snd.snd.fst x_1.snd.snd.snd) → bcase (Decidable.decide (x_1.snd.snd.snd < (↑(ByteArray.size (Go.Lb.join1 x.fst x.snd.fst)) : Int))) (Wr ((0 : Int) ≤
  x_1.snd.snd.snd) ∧ Wr (x_1.snd.snd.snd < (↑(ByteArray.size (Go.Lb.join1 x.fst x.snd.fst)) : Int)) ∧ bcase (Decidable.decide (byteAt (Go.Lb.join1 x.fst x.snd.fst) (Int.toNat x_1.snd.snd.snd) = (58 : Int))) (Wr (ColonI
  x.fst (Go.Lb.join1 x.fst x.snd.fst) x_1.snd.snd.snd (IntKind.wrap IntKind.i64 (x_1.snd.fst + (1 : Int))) x_1.snd.snd.fst (IntKind.wrap IntKind.i64 (x_1.snd.snd.snd + (1 : Int)))) ∧ Wr (ByteArray.size (Go.Lb.join1 x.fst
  x.snd.fst) - Int.toNat (IntKind.wrap IntKind.i64 (x_1.snd.snd.snd + (1 : Int))) < ByteArray.size (Go.Lb.join1 x.fst x.snd.fst) - Int.toNat x_1.snd.snd.snd) ∧ Wr (x_1.snd.snd.snd = x_1.snd.snd.snd) ∧ Wr (IntKind.wrap
  IntKind.i64 (x_1.snd.fst + (1 : Int)) = IntKind.wrap IntKind.i64 (x_1.snd.fst + (1 : Int))) ∧ Wr (x_1.snd.snd.fst = x_1.snd.snd.fst) ∧ Wr (IntKind.wrap IntKind.i64 (x_1.snd.snd.snd + (1 : Int)) = IntKind.wrap
  IntKind.i64 (x_1.snd.snd.snd + (1 : Int))) ∧ Wr (x.fst = x.fst) ∧ Wr (x.snd.fst = x.snd.fst) ∧ Wr (Go.Lb.join1 x.fst x.snd.fst = Go.Lb.join1 x.fst x.snd.fst)) (bcase (Decidable.decide (x_1.fst ≥ (0 : Int))) (Wr ((0 :
  Int) ≤ x_1.snd.snd.snd) ∧ Wr (x_1.snd.snd.snd < (↑(ByteArray.size (Go.Lb.join1 x.fst x.snd.fst)) : Int)) ∧ Wr (ColonI x.fst (Go.Lb.join1 x.fst x.snd.fst) x_1.fst x_1.snd.fst (IntKind.wrap IntKind.i64 (IntKind.wrap
  IntKind.i64 (x_1.snd.snd.fst * (10 : Int)) + IntKind.wrap IntKind.i64 (IntKind.wrap IntKind.u8 (byteAt (Go.Lb.join1 x.fst x.snd.fst) (Int.toNat x_1.snd.snd.snd) - (48 : Int))))) (IntKind.wrap IntKind.i64
  (x_1.snd.snd.snd + (1 : Int)))) ∧ Wr (ByteArray.size (Go.Lb.join1 x.fst x.snd.fst) - Int.toNat (IntKind.wrap IntKind.i64 (x_1.snd.snd.snd + (1 : Int))) < ByteArray.size (Go.Lb.join1 x.fst x.snd.fst) - Int.toNat
  x_1.snd.snd.snd) ∧ Wr (x_1.fst = x_1.fst) ∧ Wr (x_1.snd.fst = x_1.snd.fst) ∧ Wr (IntKind.wrap IntKind.i64 (IntKind.wrap IntKind.i64 (x_1.snd.snd.fst * (10 : Int)) + IntKind.wrap IntKind.i64 (IntKind.wrap IntKind.u8
  (byteAt (Go.Lb.join1 x.fst x.snd.fst) (Int.toNat x_1.snd.snd.snd) - (48 : Int)))) = IntKind.wrap IntKind.i64 (IntKind.wrap IntKind.i64 (x_1.snd.snd.fst * (10 : Int)) + IntKind.wrap IntKind.i64 (IntKind.wrap IntKind.u8
  (byteAt (Go.Lb.join1 x.fst x.snd.fst) (Int.toNat x_1.snd.snd.snd) - (48 : Int))))) ∧ Wr (IntKind.wrap IntKind.i64 (x_1.snd.snd.snd + (1 : Int)) = IntKind.wrap IntKind.i64 (x_1.snd.snd.snd + (1 : Int))) ∧ Wr (x.fst =
  x.fst) ∧ Wr (x.snd.fst = x.snd.fst) ∧ Wr (Go.Lb.join1 x.fst x.snd.fst = Go.Lb.join1 x.fst x.snd.fst)) (Wr (ColonI x.fst (Go.Lb.join1 x.fst x.snd.fst) x_1.fst x_1.snd.fst x_1.snd.snd.fst (IntKind.wrap IntKind.i64
  (x_1.snd.snd.snd + (1 : Int)))) ∧ Wr (ByteArray.size (Go.Lb.join1 x.fst x.snd.fst) - Int.toNat (IntKind.wrap IntKind.i64 (x_1.snd.snd.snd + (1 : Int))) < ByteArray.size (Go.Lb.join1 x.fst x.snd.fst) - Int.toNat
  x_1.snd.snd.snd) ∧ Wr (x_1.fst = x_1.fst) ∧ Wr (x_1.snd.fst = x_1.snd.fst) ∧ Wr (x_1.snd.snd.fst = x_1.snd.snd.fst) ∧ Wr (IntKind.wrap IntKind.i64 (x_1.snd.snd.snd + (1 : Int)) = IntKind.wrap IntKind.i64
  (x_1.snd.snd.snd + (1 : Int))) ∧ Wr (x.fst = x.fst) ∧ Wr (x.snd.fst = x.snd.fst) ∧ Wr (Go.Lb.join1 x.fst x.snd.fst = Go.Lb.join1 x.fst x.snd.fst)))) (Wr (ByteArray.size (ByteArray.mk (List.toArray ((58 : UInt8) :: nilL
  UInt8))) + ByteArray.size (Go.Lb.join1 x.fst x.snd.fst) ≤ Go.maxLen) ∧ Wr (szOk (ByteArray.mk (List.toArray ((58 : UInt8) :: nilL UInt8)) ++ Go.Lb.join1 x.fst x.snd.fst) = Bool.true) ∧ Wr (ByteArray.size (Go.Lb.join1
  x.fst x.snd.fst) + ByteArray.size (ByteArray.mk (List.toArray ((58 : UInt8) :: nilL UInt8))) ≤ Go.maxLen) ∧ Wr (szOk (Go.Lb.join1 x.fst x.snd.fst ++ ByteArray.mk (List.toArray ((58 : UInt8) :: nilL UInt8))) = Bool.true)
  ∧ Wr ((Decidable.decide (x_1.snd.fst = (1 : Int)) && Decidable.decide (x_1.fst = (↑(ByteArray.size x.fst) : Int)) && Decidable.decide ((↑(ByteArray.size (Go.Lb.join1 x.fst x.snd.fst)) : Int) ≤ IntKind.wrap IntKind.i64
  (x_1.fst + (6 : Int))) && Decidable.decide (x_1.snd.snd.fst = x.snd.fst) && Decidable.decide (Go.Lb.splitOk (ByteArray.mk (List.toArray ((58 : UInt8) :: nilL UInt8)) ++ Go.Lb.join1 x.fst x.snd.fst) = (10 : Int)) &&
  Decidable.decide (Go.Lb.splitOk (Go.Lb.join1 x.fst x.snd.fst ++ ByteArray.mk (List.toArray ((58 : UInt8) :: nilL UInt8))) = (10 : Int))) = Bool.true → True) ∧ (Decidable.decide (x_1.snd.fst = (1 : Int)) &&
  Decidable.decide (x_1.fst = (↑(ByteArray.size x.fst) : Int)) && Decidable.decide ((↑(ByteArray.size (Go.Lb.join1 x.fst x.snd.fst)) : Int) ≤ IntKind.wrap IntKind.i64 (x_1.fst + (6 : Int))) && Decidable.decide
  (x_1.snd.snd.fst = x.snd.fst) && Decidable.decide (Go.Lb.splitOk (ByteArray.mk (List.toArray ((58 : UInt8) :: nilL UInt8)) ++ Go.Lb.join1 x.fst x.snd.fst) = (10 : Int)) && Decidable.decide (Go.Lb.splitOk (Go.Lb.join1
  x.fst x.snd.fst ++ ByteArray.mk (List.toArray ((58 : UInt8) :: nilL UInt8))) = (10 : Int)) && Bool.true, ()) = (Bool.true, ()))))) := by kernel_rfl
theorem v11_eq : vcFn g11 300 Tryd.f11 ((cLaw aTwo)) = ( ∀ (x : ByteArray × ByteArray × Unit), Wr True → bcase (Decidable.decide ((↑(ByteArray.size x.fst) : Int) > (1000 : Int)) || Decidable.decide ((↑(ByteArray.size x.snd.fst) : Int) > (1000 : Int))) (Wr True ∧ (Bool.true,
  ()) = (Bool.true, ())) (Wr (szOk x.fst = Bool.true) ∧ Wr (szOk x.snd.fst = Bool.true) ∧ Wr (ByteArray.size x.fst + ByteArray.size x.snd.fst ≤ Go.maxLen) ∧ Wr (szOk (x.fst ++ x.snd.fst) = Bool.true) ∧ Wr
  ((!(Decidable.decide (Go.Lb.wellZ x.fst < (0 : Int)) || Decidable.decide (Go.Lb.illZ x.fst < (0 : Int)) || Decidable.decide (IntKind.wrap IntKind.i64 (Go.Lb.wellZ x.fst + Go.Lb.illZ x.fst) > (↑(ByteArray.size x.fst) :
  Int)))) = Bool.true → listOk (x.fst :: nilL ByteArray) = Bool.true) ∧ bcase (Decidable.decide (Go.Lb.wellZ x.fst < (0 : Int)) || Decidable.decide (Go.Lb.illZ x.fst < (0 : Int)) || Decidable.decide (IntKind.wrap
  IntKind.i64 (Go.Lb.wellZ x.fst + Go.Lb.illZ x.fst) > (↑(ByteArray.size x.fst) : Int)) || allValid (x.fst :: nilL ByteArray) && !Decidable.decide (Go.Lb.illZ x.fst = (0 : Int))) ((Bool.false, ()) = (Bool.true, ())) (Wr
  (ByteArray.size x.fst + ByteArray.size (ByteArray.mk (List.toArray ((255 : UInt8) :: nilL UInt8))) ≤ Go.maxLen) ∧ Wr (ByteArray.size (x.fst ++ ByteArray.mk (List.toArray ((255 : UInt8) :: nilL UInt8))) + ByteArray.size
  x.snd.fst ≤ Go.maxLen) ∧ Wr (szOk (x.fst ++ ByteArray.mk (List.toArray ((255 : UInt8) :: nilL UInt8)) ++ x.snd.fst) = Bool.true) ∧ Wr (((!Decidable.decide (Go.Lb.illZ x.fst = (0 : Int)) || Decidable.decide (Go.Lb.wellZ
  (x.fst ++ x.snd.fst) = IntKind.wrap IntKind.i64 (Go.Lb.wellZ x.fst + Go.Lb.wellZ x.snd.fst)) && Decidable.decide (Go.Lb.illZ (x.fst ++ x.snd.fst) = Go.Lb.illZ x.snd.fst)) && Decidable.decide (Go.Lb.wellZ (x.fst ++
  ByteArray.mk (List.toArray ((255 : UInt8) :: nilL UInt8)) ++ x.snd.fst) = IntKind.wrap IntKind.i64 (Go.Lb.wellZ x.fst + Go.Lb.wellZ x.snd.fst)) && Decidable.decide (Go.Lb.illZ (x.fst ++ ByteArray.mk (List.toArray ((255
  : UInt8) :: nilL UInt8)) ++ x.snd.fst) = IntKind.wrap IntKind.i64 (IntKind.wrap IntKind.i64 (Go.Lb.illZ x.fst + Go.Lb.illZ x.snd.fst) + (1 : Int)))) = Bool.true → True) ∧ ((!Decidable.decide (Go.Lb.illZ x.fst = (0 :
  Int)) || Decidable.decide (Go.Lb.wellZ (x.fst ++ x.snd.fst) = IntKind.wrap IntKind.i64 (Go.Lb.wellZ x.fst + Go.Lb.wellZ x.snd.fst)) && Decidable.decide (Go.Lb.illZ (x.fst ++ x.snd.fst) = Go.Lb.illZ x.snd.fst)) &&
  Decidable.decide (Go.Lb.wellZ (x.fst ++ ByteArray.mk (List.toArray ((255 : UInt8) :: nilL UInt8)) ++ x.snd.fst) = IntKind.wrap IntKind.i64 (Go.Lb.wellZ x.fst + Go.Lb.wellZ x.snd.fst)) && Decidable.decide (Go.Lb.illZ
  (x.fst ++ ByteArray.mk (List.toArray ((255 : UInt8) :: nilL UInt8)) ++ x.snd.fst) = IntKind.wrap IntKind.i64 (IntKind.wrap IntKind.i64 (Go.Lb.illZ x.fst + Go.Lb.illZ x.snd.fst) + (1 : Int))) && Bool.true, ()) =
  (Bool.true, ())))) := by kernel_rfl
theorem v12_eq : vcFn g12 300 Tryd.f12 ((cLaw aTwo)) = ( ∀ (x : ByteArray × ByteArray × Unit), Wr True → bcase (Decidable.decide ((↑(ByteArray.size x.fst) : Int) > (2000 : Int)) || Decidable.decide ((↑(ByteArray.size x.snd.fst) : Int) > (2000 : Int))) (Wr True ∧ (Bool.true,
  ()) = (Bool.true, ())) (Wr (szOk x.fst = Bool.true) ∧ Wr (szOk x.fst = Bool.true) ∧ Wr (szOk x.fst = Bool.true) ∧ Wr (szOk x.fst = Bool.true) ∧ Wr ((Decidable.decide (Go.Lb.fold1 x.fst = Go.Lb.fold1 x.fst) &&
  Decidable.decide (Go.Lb.fold2 x.fst = Go.Lb.fold2 x.fst) && Decidable.decide (Go.Lb.wellZ x.fst = Go.Lb.wellZ x.fst) && Decidable.decide (Go.Lb.illZ x.fst = Go.Lb.illZ x.fst)) = Bool.true → listOk (x.fst :: nilL
  ByteArray) = Bool.true) ∧ Wr ((Decidable.decide (Go.Lb.fold1 x.fst = Go.Lb.fold1 x.fst) && Decidable.decide (Go.Lb.fold2 x.fst = Go.Lb.fold2 x.fst) && Decidable.decide (Go.Lb.wellZ x.fst = Go.Lb.wellZ x.fst) &&
  Decidable.decide (Go.Lb.illZ x.fst = Go.Lb.illZ x.fst)) = Bool.true → listOk (x.fst :: nilL ByteArray) = Bool.true) ∧ Wr ((Decidable.decide (Go.Lb.fold1 x.fst = Go.Lb.fold1 x.fst) && Decidable.decide (Go.Lb.fold2 x.fst
  = Go.Lb.fold2 x.fst) && Decidable.decide (Go.Lb.wellZ x.fst = Go.Lb.wellZ x.fst) && Decidable.decide (Go.Lb.illZ x.fst = Go.Lb.illZ x.fst) && allValid (x.fst :: nilL ByteArray) == allValid (x.fst :: nilL ByteArray)) =
  Bool.true → listOk (x.fst :: x.snd.fst :: nilL ByteArray) = Bool.true) ∧ Wr ((Decidable.decide (Go.Lb.fold1 x.fst = Go.Lb.fold1 x.fst) && Decidable.decide (Go.Lb.fold2 x.fst = Go.Lb.fold2 x.fst) && Decidable.decide
  (Go.Lb.wellZ x.fst = Go.Lb.wellZ x.fst) && Decidable.decide (Go.Lb.illZ x.fst = Go.Lb.illZ x.fst) && allValid (x.fst :: nilL ByteArray) == allValid (x.fst :: nilL ByteArray)) = Bool.true → listOk (x.fst :: x.snd.fst ::
  nilL ByteArray) = Bool.true) ∧ Wr ((Decidable.decide (Go.Lb.fold1 x.fst = Go.Lb.fold1 x.fst) && Decidable.decide (Go.Lb.fold2 x.fst = Go.Lb.fold2 x.fst) && Decidable.decide (Go.Lb.wellZ x.fst = Go.Lb.wellZ x.fst) &&
  Decidable.decide (Go.Lb.illZ x.fst = Go.Lb.illZ x.fst) && allValid (x.fst :: nilL ByteArray) == allValid (x.fst :: nilL ByteArray) && allValid (x.fst :: x.snd.fst :: nilL ByteArray) == allValid (x.fst :: x.snd.fst ::
  nilL ByteArray)) = Bool.true → (szOk x.fst && szOk x.snd.fst) = Bool.true) ∧ Wr ((Decidable.decide (Go.Lb.fold1 x.fst = Go.Lb.fold1 x.fst) && Decidable.decide (Go.Lb.fold2 x.fst = Go.Lb.fold2 x.fst) && Decidable.decide
  (Go.Lb.wellZ x.fst = Go.Lb.wellZ x.fst) && Decidable.decide (Go.Lb.illZ x.fst = Go.Lb.illZ x.fst) && allValid (x.fst :: nilL ByteArray) == allValid (x.fst :: nilL ByteArray) && allValid (x.fst :: x.snd.fst :: nilL
  ByteArray) == allValid (x.fst :: x.snd.fst :: nilL ByteArray)) = Bool.true → (szOk x.fst && szOk x.snd.fst) = Bool.true) ∧ Wr ((Decidable.decide (Go.Lb.fold1 x.fst = Go.Lb.fold1 x.fst) && Decidable.decide (Go.Lb.fold2
  x.fst = Go.Lb.fold2 x.fst) && Decidable.decide (Go.Lb.wellZ x.fst = Go.Lb.wellZ x.fst) && Decidable.decide (Go.Lb.illZ x.fst = Go.Lb.illZ x.fst) && allValid (x.fst :: nilL ByteArray) == allValid (x.fst :: nilL
  ByteArray) && allValid (x.fst :: x.snd.fst :: nilL ByteArray) == allValid (x.fst :: x.snd.fst :: nilL ByteArray) && Go.Lb.sameB x.fst x.snd.fst == Go.Lb.sameB x.fst x.snd.fst) = Bool.true → szOk x.fst = Bool.true) ∧ Wr
  ((Decidable.decide (Go.Lb.fold1 x.fst = Go.Lb.fold1 x.fst) && Decidable.decide (Go.Lb.fold2 x.fst = Go.Lb.fold2 x.fst) && Decidable.decide (Go.Lb.wellZ x.fst = Go.Lb.wellZ x.fst) && Decidable.decide (Go.Lb.illZ x.fst =
  Go.Lb.illZ x.fst) && allValid (x.fst :: nilL ByteArray) == allValid (x.fst :: nilL ByteArray) && allValid (x.fst :: x.snd.fst :: nilL ByteArray) == allValid (x.fst :: x.snd.fst :: nilL ByteArray) && Go.Lb.sameB x.fst
  x.snd.fst == Go.Lb.sameB x.fst x.snd.fst) = Bool.true → szOk x.fst = Bool.true) ∧ Wr ((Decidable.decide (Go.Lb.fold1 x.fst = Go.Lb.fold1 x.fst) && Decidable.decide (Go.Lb.fold2 x.fst = Go.Lb.fold2 x.fst) &&
  Decidable.decide (Go.Lb.wellZ x.fst = Go.Lb.wellZ x.fst) && Decidable.decide (Go.Lb.illZ x.fst = Go.Lb.illZ x.fst) && allValid (x.fst :: nilL ByteArray) == allValid (x.fst :: nilL ByteArray) && allValid (x.fst ::
  x.snd.fst :: nilL ByteArray) == allValid (x.fst :: x.snd.fst :: nilL ByteArray) && Go.Lb.sameB x.fst x.snd.fst == Go.Lb.sameB x.fst x.snd.fst) = Bool.true → (Decidable.decide (Go.Lb.partsS x.fst = Go.Lb.partsS x.fst) &&
  Decidable.decide (List.length (Go.Lb.partsS x.fst) ≤ (100000 : Nat))) = Bool.true) ∧ Wr ((Decidable.decide (Go.Lb.fold1 x.fst = Go.Lb.fold1 x.fst) && Decidable.decide (Go.Lb.fold2 x.fst = Go.Lb.fold2 x.fst) &&
  Decidable.decide (Go.Lb.wellZ x.fst = Go.Lb.wellZ x.fst) && Decidable.decide (Go.Lb.illZ x.fst = Go.Lb.illZ x.fst) && allValid (x.fst :: nilL ByteArray) == allValid (x.fst :: nilL ByteArray) && allValid (x.fst ::
  x.snd.fst :: nilL ByteArray) == allValid (x.fst :: x.snd.fst :: nilL ByteArray) && Go.Lb.sameB x.fst x.snd.fst == Go.Lb.sameB x.fst x.snd.fst && Bool.true) = Bool.true → True) ∧ (Decidable.decide (Go.Lb.fold1 x.fst =
  Go.Lb.fold1 x.fst) && Decidable.decide (Go.Lb.fold2 x.fst = Go.Lb.fold2 x.fst) && Decidable.decide (Go.Lb.wellZ x.fst = Go.Lb.wellZ x.fst) && Decidable.decide (Go.Lb.illZ x.fst = Go.Lb.illZ x.fst) && allValid (x.fst ::
  nilL ByteArray) == allValid (x.fst :: nilL ByteArray) && allValid (x.fst :: x.snd.fst :: nilL ByteArray) == allValid (x.fst :: x.snd.fst :: nilL ByteArray) && Go.Lb.sameB x.fst x.snd.fst == Go.Lb.sameB x.fst x.snd.fst
  && Bool.true && Bool.true, ()) = (Bool.true, ()))) := by kernel_rfl
end Go.Proofs.YtkimpfoimblhjaaDoor.Lb
set_option linter.all false
namespace Go.Proofs.YtkimpfoimblhjaaDoor.Lb
open Go Go.Eng Go.Lb
set_option maxRecDepth 100000
set_option maxHeartbeats 2000000

theorem v8 : Vc g8 300 Tryd.f8 (cLaw aKeys) := by
  constructor
  rw [v8_eq]
  simp only [Wr_iff, bcase_iff, true_and, and_true, decide_eq_true_eq, decide_eq_false_iff_not, Bool.and_eq_true, Bool.and_eq_false_iff, Bool.or_eq_true, Bool.or_eq_false_iff, Bool.not_eq_true', Bool.not_eq_false', Option.map_some, Option.getD_some, Option.isSome_some, Option.isSome_map, imp_self, nilL, noneO]
  intro x
  generalize x.fst = s
  generalize x.snd.fst = t
  intro _
  refine ⟨fun _ => trivial, fun h => ?_⟩
  have h1 : szOk s = true := by rw [szOk_iff]; omega
  have h2 : szOk t = true := by rw [szOk_iff]; omega
  exact ⟨h1, h1, h2, h2, by simp⟩
theorem partsS_len (s : ByteArray) (h : s.size ≤ 2000) : (partsS s).length ≤ 100000 := by
  unfold partsS
  cases validB s with
  | false => simp
  | true =>
    simp only [cond_true, List.length_map]
    have := (splitC_le (d := 46) (bytesL s)).2
    rw [← size_bytesL] at this
    show (splitC 46 (bytesL s)).length ≤ _
    omega
theorem v12 : Vc g12 300 Tryd.f12 (cLaw aTwo) := by
  constructor
  rw [v12_eq]
  simp only [Wr_iff, bcase_iff, true_and, and_true, decide_eq_true_eq, decide_eq_false_iff_not, Bool.and_eq_true, Bool.and_eq_false_iff, Bool.or_eq_true, Bool.or_eq_false_iff, Bool.not_eq_true', Bool.not_eq_false', Option.map_some, Option.getD_some, Option.isSome_some, Option.isSome_map, imp_self, nilL, noneO]
  intro x
  generalize x.fst = s
  generalize x.snd.fst = t
  intro _
  refine ⟨fun _ => trivial, fun h => ?_⟩
  have h1 : szOk s = true := by rw [szOk_iff]; omega
  have h2 : szOk t = true := by rw [szOk_iff]; omega
  have l1 : listOk [s] = true := by rw [listOk_iff]; simp; omega
  have l2 : listOk [s, t] = true := by rw [listOk_iff]; simp; omega
  have l3 := partsS_len s (by omega)
  exact ⟨h1, h1, h1, h1, fun _ => l1, fun _ => l1, fun _ => l2, fun _ => l2, fun _ => ⟨h1, h2⟩, fun _ => ⟨h1, h2⟩, fun _ => h1, fun _ => h1, fun _ => l3, fun _ => trivial, by simp⟩

/-! runes -/
theorem well_ill (s : ByteArray) : wellZ s + illZ s ≤ s.size := by
  have h1 : ∀ I : List It, I.countP (fun p => p.1.isSome) + I.countP (fun p => p.1.isNone) = I.length := by
    intro I
    induction I with
    | nil => rfl
    | cons p I ih =>
      rw [List.countP_cons, List.countP_cons, List.length_cons]
      cases p.1 <;> simp <;> omega
  have h2 := its_len (bytesL s)
  rw [← size_bytesL] at h2
  have h3 := h1 (its (bytesL s))
  unfold wellZ illZ wellN illN
  omega
theorem ill_valid {s : ByteArray} (h : validB s = true) : illZ s = 0 := by
  unfold illZ illN
  have : (its (bytesL s)).countP (fun p => p.1.isNone) = 0 := by
    rw [List.countP_eq_zero]
    intro p hp
    obtain ⟨c, hc, _⟩ := valid_items h p hp
    rw [hc]; simp
  rw [this]; rfl
theorem its_ff (a r : List UInt8) : its (a ++ 255 :: r) = its a ++ (none, [255]) :: its r := by
  rw [its_stop (by decide) r a]
  congr 1
theorem count_ff (s t : ByteArray) : wellZ (s ++ { data := #[255] } ++ t) = wellZ s + wellZ t ∧ illZ (s ++ { data := #[255] } ++ t) = illZ s + illZ t + 1 := by
  unfold wellZ illZ wellN illN
  have hb : bytesL (s ++ { data := #[255] } ++ t) = bytesL s ++ 255 :: bytesL t := by
    rw [bytesL_app, bytesL_app, List.append_assoc]; rfl
  rw [hb, its_ff, List.countP_append, List.countP_append, List.countP_cons, List.countP_cons]
  simp
  omega
theorem count_app (s t : ByteArray) (h : illZ s = 0) : wellZ (s ++ t) = wellZ s + wellZ t ∧ illZ (s ++ t) = illZ t := by
  unfold wellZ illZ wellN illN at *
  have h0 : (its (bytesL s)).countP (fun p => p.1.isNone) = 0 := by omega
  have hs : ∀ p ∈ its (bytesL s), p.1.isSome = true := by
    intro p hp
    have := List.countP_eq_zero.1 h0 p hp
    cases hq : p.1 with
    | none => rw [hq] at this; simp at this
    | some c => rfl
  rw [bytesL_app, its_well _ _ hs, List.countP_append, List.countP_append]
  omega
theorem v11 : Vc g11 300 Tryd.f11 (cLaw aTwo) := by
  constructor
  rw [v11_eq]
  simp only [Wr_iff, bcase_iff, true_and, and_true, decide_eq_true_eq, decide_eq_false_iff_not, Bool.and_eq_true, Bool.and_eq_false_iff, Bool.or_eq_true, Bool.or_eq_false_iff, Bool.not_eq_true', Bool.not_eq_false', Option.map_some, Option.getD_some, Option.isSome_some, Option.isSome_map, imp_self, nilL, noneO]
  intro x
  generalize x.fst = s
  generalize x.snd.fst = t
  intro _
  refine ⟨fun _ => trivial, fun h => ?_⟩
  have h1 : szOk s = true := by rw [szOk_iff]; omega
  have h2 : szOk t = true := by rw [szOk_iff]; omega
  have l1 : listOk [s] = true := by rw [listOk_iff]; simp; omega
  have e1 : allValid [s] = validB s := by simp [allValid]
  have w1 := well_ill s
  have w2 := well_ill t
  have z1 : 0 ≤ wellZ s := by unfold wellZ; omega
  have z2 : 0 ≤ illZ s := by unfold illZ; omega
  have z3 : 0 ≤ wellZ t := by unfold wellZ; omega
  have z4 : 0 ≤ illZ t := by unfold illZ; omega
  have c1 := count_ff s t
  have sz1 : (s ++ t).size = s.size + t.size := ByteArray.size_append
  have sz2 : (s ++ { data := #[255] }).size = s.size + 1 := ByteArray.size_append
  have sz3 : (s ++ { data := #[255] } ++ t).size = s.size + 1 + t.size := by rw [ByteArray.size_append, sz2]
  have sz4 : ({ data := #[255] } : ByteArray).size = 1 := rfl
  have hm : maxLen = 9223372036854775807 := rfl
  rw [e1, w64 (n := wellZ s + illZ s) (by omega) (by omega), w64 (n := wellZ s + wellZ t) (by omega) (by omega), w64 (n := illZ s + illZ t) (by omega) (by omega), w64 (n := illZ s + illZ t + 1) (by omega) (by omega)]
  refine ⟨h1, h2, by omega, by rw [szOk_iff]; omega, fun _ => l1, fun h => ?_, fun _ => ⟨by omega, by omega, by rw [szOk_iff]; omega, fun _ => trivial, ?_⟩⟩
  · rcases h with h | ⟨h, h'⟩
    · omega
    · exact absurd (ill_valid h) h'
  · rw [c1.1, c1.2]
    by_cases hz : illZ s = 0
    · obtain ⟨q1, q2⟩ := count_app s t hz
      simp [hz, q1, q2]
    · simp [hz]

/-! back -/
theorem join_ok {s : ByteArray} {n : Int} (h : join2 s n = 0) : validB s = true ∧ 1 ≤ n ∧ n ≤ 65535 ∧ bytesL (join1 s n) = foldL (bytesL s) ++ 58 :: digL n.toNat := by
  have h' := h
  unfold join2 at h
  cases hv : validB s with
  | false => rw [hv] at h; cases h
  | true =>
    rw [hv] at h
    cases hb : (decide (n < 1) || decide (65535 < n)) with
    | true => rw [hb] at h; cases h
    | false =>
      simp only [Bool.or_eq_false_iff, decide_eq_false_iff_not] at hb
      refine ⟨rfl, by omega, by omega, ?_⟩
      unfold join1
      rw [h']
      simp only [decide_true, cond_true, bytesL_ofL]
theorem join_eq {s : ByteArray} {n : Int} (hv : validB s = true) (h1 : 1 ≤ n) (h2 : n ≤ 65535) : join2 s n = 0 ∧ bytesL (join1 s n) = foldL (bytesL s) ++ 58 :: digL n.toNat := by
  have h : join2 s n = 0 := by
    unfold join2
    have : (decide (n < 1) || decide (65535 < n)) = false := by simp; omega
    rw [hv, this]; rfl
  exact ⟨h, (join_ok h).2.2.2⟩
theorem fold_eq {s : ByteArray} (hv : validB s = true) : fold1 s = ofL (foldL (bytesL s)) ∧ fold2 s = 0 ∧ validB (ofL (foldL (bytesL s))) = true ∧ (foldL (bytesL s)).length = s.size ∧ foldL (foldL (bytesL s)) = foldL (bytesL s) := by
  have hg := good_valid hv
  refine ⟨by rw [fold1, hv]; rfl, by rw [fold2, hv]; rfl, ?_, ?_, foldL_twice _ hg⟩
  · unfold validB; rw [bytesL_ofL]; exact valid_fold hv
  · rw [foldL_length _ hg, ← size_bytesL]
theorem split_join {s : ByteArray} {n : Int} (hv : validB s = true) (h1 : 1 ≤ n) (h2 : n ≤ 65535) : splitOk (join1 s n) = 0 ∧ split1 (join1 s n) = fold1 s ∧ split2 (join1 s n) = n := by
  obtain ⟨hj, hb⟩ := join_eq hv h1 h2
  obtain ⟨f1, f2, f3, f4, f5⟩ := fold_eq hv
  have hl := lastN_app 58 (foldL (bytesL s)) (dig_colon n.toNat (by omega))
  rw [← hb] at hl
  have ht : (bytesL (join1 s n)).take (foldL (bytesL s)).length = foldL (bytesL s) := by rw [hb]; simp
  have hd : (bytesL (join1 s n)).drop ((foldL (bytesL s)).length + 1) = digL n.toNat := by
    rw [hb, List.drop_append]; simp
  have hp := port_dig (n := n.toNat) (by omega) (by omega)
  have hok : splitOk (join1 s n) = 0 := by
    unfold splitOk
    rw [hl]
    simp only
    rw [ht, hd, hp, valid_fold hv]
    have : decide (n.toNat = 0) = false := by simp; omega
    rw [this]; rfl
  refine ⟨hok, ?_, ?_⟩
  · unfold split1
    rw [hok, hl]
    simp only [decide_true, cond_true, Option.getD_some]
    rw [ht, f5, f1]
  · unfold split2
    rw [hok, hl]
    simp only [decide_true, cond_true, Option.getD_some]
    rw [hd, hp]
    omega
theorem split_no' {s : ByteArray} (h : ¬ splitOk s = 0) : split1 s = { data := #[] } ∧ split2 s = 0 := by
  unfold split1 split2
  have : decide (splitOk s = 0) = false := by simpa using h
  rw [this]
  exact ⟨rfl, rfl⟩
structure SplitY (s : ByteArray) (i : Nat) : Prop where
  l : bytesL s = (bytesL s).take i ++ 58 :: (bytesL s).drop (i + 1)
  lt : i < s.size
  v : validL ((bytesL s).take i) = true
  p : portN ((bytesL s).drop (i + 1)) ≠ 0
  s1 : split1 s = ofL (foldL ((bytesL s).take i))
  s2 : split2 s = ((portN ((bytesL s).drop (i + 1)) : Nat) : Int)
theorem split_yes' {s : ByteArray} (h : splitOk s = 0) : ∃ i, SplitY s i := by
  have h' := h
  unfold splitOk at h
  cases hl : lastN 58 (bytesL s) with
  | none => rw [hl] at h; cases h
  | some i =>
    rw [hl] at h
    simp only at h
    cases hv : validL ((bytesL s).take i) with
    | false => rw [hv] at h; cases h
    | true =>
      rw [hv] at h
      cases hp : decide (portN ((bytesL s).drop (i + 1)) = 0) with
      | true => rw [hp] at h; cases h
      | false =>
        refine ⟨i, lastN_at hl, by rw [size_bytesL]; exact lastN_lt hl, hv, by simpa using hp, ?_, ?_⟩
        · unfold split1; rw [h', hl]; rfl
        · unfold split2; rw [h', hl]; rfl
theorem back_two {s : ByteArray} (hs : s.size ≤ 2000) : szOk s = true ∧
    (¬splitOk s = 0 → (split1 s = { data := #[] } ∧ split2 s = 0 → True) ∧ (decide (split1 s = { data := #[] }) && decide (split2 s = 0) && true, ()) = (true, ())) ∧
    (splitOk s = 0 → szOk (split1 s) = true ∧ (0 : Int) ≤ 0 ∧ 0 ≤ min ((split1 s).size : Int) s.size ∧ min ((split1 s).size : Int) s.size ≤ s.size ∧
      szOk (subS s (Int.toNat 0) (min ((split1 s).size : Int) s.size).toNat) = true ∧
      (((join2 (split1 s) (split2 s) = 0 ∧ join2 (subS s (Int.toNat 0) (min ((split1 s).size : Int) s.size).toNat) (split2 s) = 0) ∧
        join1 (split1 s) (split2 s) = join1 (subS s (Int.toNat 0) (min ((split1 s).size : Int) s.size).toNat) (split2 s)) ∧ ((join1 (split1 s) (split2 s)).size : Int) = s.size → True) ∧
      (decide (join2 (split1 s) (split2 s) = 0) && decide (join2 (subS s (Int.toNat 0) (min ((split1 s).size : Int) s.size).toNat) (split2 s) = 0) &&
        decide (join1 (split1 s) (split2 s) = join1 (subS s (Int.toNat 0) (min ((split1 s).size : Int) s.size).toNat) (split2 s)) && decide (((join1 (split1 s) (split2 s)).size : Int) = s.size) && true, ()) = (true, ())) := by
  refine ⟨by rw [szOk_iff]; omega, fun h => ⟨fun _ => trivial, ?_⟩, fun h => ?_⟩
  · obtain ⟨h1, h2⟩ := split_no' h
    simp [h1, h2]
  · obtain ⟨i, g1, g2, g3, g4, g5, g6⟩ := split_yes' h
    have hg := good_valid g3
    have hsz := size_bytesL s
    have hlen : (foldL ((bytesL s).take i)).length = i := by rw [foldL_length _ hg, List.length_take]; omega
    have hz : (split1 s).size = i := by rw [g5, ofL_size, hlen]
    have hmin : (min ((split1 s).size : Int) s.size).toNat = i := by rw [hz]; omega
    rw [hmin]
    have t0 : Int.toNat 0 = 0 := rfl
    rw [t0]
    have hb : bytesL (subS s 0 i) = (bytesL s).take i := by rw [bytesL_sub]; rfl
    have hv1 : validB (split1 s) = true := by unfold validB; rw [g5, bytesL_ofL]; exact valid_fold g3
    have hv2 : validB (subS s 0 i) = true := by unfold validB; rw [hb]; exact g3
    obtain ⟨p1, p2, p3⟩ := port_back g4
    have hn1 : 1 ≤ split2 s := by rw [g6]; omega
    have hn2 : split2 s ≤ 65535 := by rw [g6]; omega
    have hnt : (split2 s).toNat = portN ((bytesL s).drop (i + 1)) := by rw [g6]; rfl
    obtain ⟨j1, j2⟩ := join_eq hv1 hn1 hn2
    obtain ⟨k1, k2⟩ := join_eq hv2 hn1 hn2
    rw [hnt, p3, g5, bytesL_ofL, foldL_twice _ hg] at j2
    rw [hnt, p3, hb] at k2
    have hje : join1 (split1 s) (split2 s) = join1 (subS s 0 i) (split2 s) := by
      apply bytesL_inj
      rw [k2]
      rw [← g5] at j2
      exact j2
    have hjs : (join1 (subS s 0 i) (split2 s)).size = s.size := by
      rw [size_bytesL, k2, List.length_append, hlen, List.length_cons, List.length_drop]
      omega
    refine ⟨by rw [szOk_iff]; omega, by omega, by omega, by omega, by rw [szOk_iff, size_bytesL, hb, List.length_take]; omega, fun _ => trivial, ?_⟩
    rw [hje, j1, k1, hjs]
    simp
theorem v9 : Vc g9 300 Tryd.f9 (cLaw aKeys) := by
  constructor
  rw [v9_eq]
  simp only [Wr_iff, bcase_iff, true_and, and_true, decide_eq_true_eq, decide_eq_false_iff_not, Bool.and_eq_true, Bool.and_eq_false_iff, Bool.or_eq_true, Bool.or_eq_false_iff, Bool.not_eq_true', Bool.not_eq_false', Option.map_some, Option.getD_some, Option.isSome_some, Option.isSome_map, imp_self, nilL, noneO]
  intro x
  generalize x.fst = s
  generalize x.snd.fst = t
  generalize x.snd.snd.fst = n
  intro _
  refine ⟨fun _ => trivial, fun h => ?_⟩
  have h2 : szOk t = true := by rw [szOk_iff]; omega
  have hback := back_two (s := s) (by omega)
  refine ⟨h2, fun hj => ?_, fun _ => hback⟩
  obtain ⟨hv, n1, n2, hb⟩ := join_ok hj
  obtain ⟨f1, f2, f3, f4, f5⟩ := fold_eq hv
  obtain ⟨q1, q2, q3⟩ := split_join hv n1 n2
  have hv64 := valid_size hv
  have hf11 : fold1 (fold1 t) = fold1 t := by
    rw [f1]
    have := (fold_eq f3).1
    rw [this, bytesL_ofL, f5]
  have hf2 : fold2 (fold1 t) = 0 := by rw [f1]; exact (fold_eq f3).2.1
  have hsz : (fold1 t).size = t.size := by rw [f1, ofL_size, f4]
  have hjz : (join1 t n).size ≤ 100 := by
    rw [size_bytesL, hb, List.length_append, f4, List.length_cons]
    have := digF_len 5 n.toNat
    show _ + ((digF 5 n.toNat).length + 1) ≤ _
    omega
  refine ⟨by rw [szOk_iff]; omega, h2, by rw [szOk_iff]; omega, fun h => ?_, fun _ => hback⟩
  exfalso
  rcases h with (((((h | h) | h) | h) | h) | h) | h
  · exact h q1
  · exact h f2
  · exact h hf2
  · exact h q2
  · exact h q3
  · exact h hf11
  · exact h (by rw [hsz])

/-! one colon -/
theorem numL_lt : ∀ (l : List UInt8) (acc : Nat), l.all isDigit = true → numL acc l < (acc + 1) * 10 ^ l.length
  | [], acc, _ => by show acc < (acc + 1) * 10 ^ 0; simp
  | b :: r, acc, hd => by
    rw [List.all_cons, Bool.and_eq_true] at hd
    have := numL_lt r (acc * 10 + (b.toNat - 48)) hd.2
    show numL (acc * 10 + (b.toNat - 48)) r < _
    rw [List.length_cons, Nat.pow_succ]
    have hb := hd.1
    unfold isDigit at hb
    simp only [Bool.and_eq_true, decide_eq_true_eq] at hb
    have h2 : (acc * 10 + (b.toNat - 48) + 1) * 10 ^ r.length ≤ (acc * 10 + 10) * 10 ^ r.length := Nat.mul_le_mul_right _ (by omega)
    have e : (acc * 10 + 10) * 10 ^ r.length = (acc + 1) * (10 ^ r.length * 10) := by
      rw [show acc * 10 + 10 = (acc + 1) * 10 by omega, Nat.mul_assoc, Nat.mul_comm 10]
    omega
theorem numL_bd {l : List UInt8} (h : l.all isDigit = true) (hl : l.length ≤ 5) : numL 0 l < 100000 := by
  have h1 := numL_lt l 0 h
  have h2 : 10 ^ l.length ≤ 10 ^ 5 := Nat.pow_le_pow_right (by omega) hl
  have h3 : (10 : Nat) ^ 5 = 100000 := by decide
  omega
theorem invalid_colon {l : List UInt8} (h : (58 : UInt8) ∈ l) : validL l = false := by
  cases hv : validL l with
  | false => rfl
  | true => exact absurd h (no_colon hv)
theorem v10 : Vc g10 300 Tryd.f10 (cLaw aColon) := by
  constructor
  rw [v10_eq]
  simp only [Wr_iff, bcase_iff, true_and, and_true, decide_eq_true_eq, decide_eq_false_iff_not, Bool.and_eq_true, Bool.and_eq_false_iff, Bool.or_eq_true, Bool.or_eq_false_iff, Bool.not_eq_true', Bool.not_eq_false', Option.map_some, Option.getD_some, Option.isSome_some, Option.isSome_map, imp_self, nilL, noneO]
  intro x
  generalize x.fst = s
  generalize x.snd.fst = n
  intro _
  refine ⟨fun _ => trivial, fun h => ⟨by rw [szOk_iff]; omega, fun hj => ⟨fun _ => trivial, ?_⟩, fun hj => ?_⟩⟩
  · have : join1 s n = { data := #[] } := by
      unfold join1
      have : decide (join2 s n = 0) = false := by simpa using hj
      rw [this]; rfl
    simp [this]
  obtain ⟨hv, n1, n2, hb⟩ := join_ok hj
  obtain ⟨f1, f2, f3, f4, f5⟩ := fold_eq hv
  have hv64 := valid_size hv
  have hcol : (58 : UInt8) ∉ foldL (bytesL s) := no_colon (valid_fold hv)
  have hdg := dig_ok 4 n.toNat (by show n.toNat < 100000; omega)
  have e5 : digF (4 + 1) n.toNat = digL n.toNat := rfl
  rw [e5] at hdg
  obtain ⟨d1, d2, d3, d4, d5⟩ := hdg
  have dc := dig_colon n.toNat (by omega)
  have hsz := size_bytesL (join1 s n)
  generalize join1 s n = key at *
  generalize hF : foldL (bytesL s) = F at *
  generalize hD : digL n.toNat = D at *
  rw [hb, List.length_append, List.length_cons, f4] at hsz
  refine ⟨⟨by omega, by omega, .inl ⟨by omega, rfl, rfl, rfl⟩⟩, fun y hy => ⟨fun hp => ?_, fun hp => ?_⟩⟩
  · obtain ⟨a, m, k, i⟩ := y
    obtain ⟨g1, g2, g3⟩ := hy
    simp only at g1 g2 g3 hp ⊢
    unfold colonSt at g3
    rw [hF, f4] at g3
    obtain ⟨i, rfl⟩ : ∃ q : Nat, i = q := ⟨i.toNat, by omega⟩
    have hp' : i < key.size := by omega
    simp only [Int.toNat_natCast] at *
    rw [w64 (n := (i : Int) + 1) (by omega) (by omega)]
    have e1 : ((i : Int) + 1).toNat = i + 1 := by omega
    have hby := byteAt_eq key i
    have h58 : byteAt key i = 58 ↔ (bytesL key).getD i 0 = 58 := byte_eq (k := 58) (by omega)
    have mk : ∀ a' m' k' : Int, colonSt s key a' m' k' ((i : Int) + 1) → ColonI s key a' m' k' ((i : Int) + 1) ∧ key.size - ((i : Int) + 1).toNat < key.size - i := fun a' m' k' hst => ⟨⟨by omega, by omega, hst⟩, by omega⟩
    have stL : ∀ a' m' k' : Int, i < s.size → a' = -1 → m' = 0 → k' = 0 → colonSt s key a' m' k' ((i : Int) + 1) := by
      intro a' m' k' q1 q2 q3 q4
      left; rw [hF, f4]; exact ⟨by omega, q2, q3, q4⟩
    rcases g3 with ⟨g4, rfl, rfl, rfl⟩ | ⟨g4, rfl, rfl, rfl⟩
    · -- in the name, or at the colon
      rcases Nat.lt_or_ge i s.size with hi | hi
      · have hne : (bytesL key).getD i 0 ≠ 58 := by
          rw [hb, List.getD_eq_getElem?_getD, List.getElem?_append_left (by omega), List.getElem?_eq_getElem (by omega)]
          intro e
          exact hcol (e ▸ List.getElem_mem (by omega))
        exact ⟨by omega, by omega, fun h => absurd (h58.1 h) hne, fun _ => ⟨fun h => by omega, fun _ => mk _ _ _ (stL _ _ _ hi rfl rfl rfl)⟩⟩
      · have hie : i = s.size := by omega
        have heq : (bytesL key).getD i 0 = 58 := by
          rw [hb, List.getD_eq_getElem?_getD, List.getElem?_append_right (by omega), f4, hie]
          simp
        refine ⟨by omega, by omega, fun h => mk _ _ _ (.inr ?_), fun h => absurd (h58.2 heq) h⟩
        rw [hF, f4, e1]
        refine ⟨by omega, by omega, by decide, ?_⟩
        have : ((bytesL key).take (i + 1)).drop (s.size + 1) = [] := List.drop_eq_nil_iff.2 (by rw [List.length_take]; omega)
        rw [this]; rfl
    · -- behind it
      have hj : i - (s.size + 1) < D.length := by omega
      have hget : (bytesL key).getD i 0 = D[i - (s.size + 1)] := by
        rw [hb, List.getD_eq_getElem?_getD, List.getElem?_append_right (by omega), f4]
        have : i - s.size = (i - (s.size + 1)) + 1 := by omega
        rw [this, List.getElem?_cons_succ, List.getElem?_eq_getElem hj]
        rfl
      have hmem : (bytesL key).getD i 0 ∈ D := by rw [hget]; exact List.getElem_mem hj
      have hne : (bytesL key).getD i 0 ≠ 58 := fun e => dc (e ▸ hmem)
      have hdig := List.all_eq_true.1 d2 _ hmem
      rw [isDigit_byte] at hdig
      have hpre : ((bytesL key).take i).drop (s.size + 1) = D.take (i - (s.size + 1)) := by
        rw [hb, List.take_append, f4, List.drop_append, List.length_take, f4]
        have e2 : min i s.size = s.size := by omega
        rw [e2]
        have e3 : (List.take i F).drop (s.size + 1) = [] := List.drop_eq_nil_iff.2 (by rw [List.length_take]; omega)
        rw [e3, List.nil_append]
        have e4 : i - s.size = (i - (s.size + 1)) + 1 := by omega
        have e5 : s.size + 1 - s.size = 1 := by omega
        rw [e4, List.take_succ_cons, e5]
        rfl
      have hnx : ((bytesL key).take (i + 1)).drop (s.size + 1) = ((bytesL key).take i).drop (s.size + 1) ++ [(bytesL key).getD i 0] := by
        rw [take_next hp', List.drop_append_of_le_length (by rw [List.length_take, ← size_bytesL]; omega)]
      have hbd : numL 0 (D.take (i - (s.size + 1))) < 100000 := by
        refine numL_bd ?_ (by rw [List.length_take]; omega)
        rw [List.all_eq_true]
        intro b hb
        exact List.all_eq_true.1 d2 b (List.mem_of_mem_take hb)
      rw [hpre]
      have e8 : IntKind.wrap .u8 (byteAt key i - 48) = byteAt key i - 48 := by
        simp [IntKind.wrap, IntKind.signed, IntKind.bits]; omega
      refine ⟨by omega, by omega, fun h => absurd (h58.1 h) hne, fun _ => ⟨fun _ => ⟨by omega, by omega, mk _ _ _ (.inr ?_)⟩, fun h => by omega⟩⟩
      rw [e8, w64 (n := byteAt key i - 48) (by omega) (by omega), w64 (n := ((numL 0 (D.take (i - (s.size + 1))) : Nat) : Int) * 10) (by omega) (by omega), w64 (n := ((numL 0 (D.take (i - (s.size + 1))) : Nat) : Int) * 10 + (byteAt key i - 48)) (by omega) (by omega)]
      rw [hF, f4, e1, hnx, hpre, numL_snoc]
      refine ⟨by omega, by omega, by omega, ?_⟩
      omega
  · obtain ⟨a, m, k, i⟩ := y
    obtain ⟨g1, g2, g3⟩ := hy
    simp only at g1 g2 g3 hp ⊢
    unfold colonSt at g3
    rw [hF, f4] at g3
    have hi : i.toNat = key.size := by omega
    rcases g3 with ⟨g4, _⟩ | ⟨g4, rfl, rfl, hk⟩
    · omega
    have hK : k = n := by
      rw [hk, hi, size_bytesL key, List.take_length, hb, List.drop_append, f4]
      have e3 : F.drop (s.size + 1) = [] := List.drop_eq_nil_iff.2 (by omega)
      have e5 : s.size + 1 - s.size = 1 := by omega
      rw [e3, e5, List.nil_append]
      show ((numL 0 D : Nat) : Int) = n
      rw [d1]; omega
    have sz1 : (({ data := #[58] } : ByteArray) ++ key).size = 1 + key.size := ByteArray.size_append
    have sz2 : (key ++ ({ data := #[58] } : ByteArray)).size = key.size + 1 := ByteArray.size_append
    have sz4 : ({ data := #[58] } : ByteArray).size = 1 := rfl
    have hm : maxLen = 9223372036854775807 := rfl
    have s1 : splitOk (({ data := #[58] } : ByteArray) ++ key) = 10 := by
      have hb1 : bytesL (({ data := #[58] } : ByteArray) ++ key) = (58 :: F) ++ 58 :: D := by rw [bytesL_app, hb]; rfl
      have hl := lastN_app 58 (58 :: F) dc
      unfold splitOk
      rw [hb1, hl]
      simp only
      rw [List.take_left, invalid_colon List.mem_cons_self]
      rfl
    have s2 : splitOk (key ++ ({ data := #[58] } : ByteArray)) = 10 := by
      have hb1 : bytesL (key ++ ({ data := #[58] } : ByteArray)) = (F ++ 58 :: D) ++ 58 :: [] := by rw [bytesL_app, hb]; rfl
      have hl := lastN_app 58 (F ++ 58 :: D) (d := []) (by simp)
      unfold splitOk
      rw [hb1, hl]
      simp only
      rw [List.take_left, invalid_colon (List.mem_append_right _ List.mem_cons_self)]
      rfl
    rw [w64 (n := (s.size : Int) + 6) (by omega) (by omega), s1, s2, hK]
    refine ⟨by omega, by rw [szOk_iff]; omega, by omega, by rw [szOk_iff]; omega, fun _ => trivial, ?_⟩
    have : decide ((key.size : Int) ≤ (s.size : Int) + 6) = true := by simp; omega
    simp [this]

/-! parts -/
theorem joinL_len : ∀ (xs : List (List UInt8)), (∀ p ∈ xs, p.length ≤ 64) → (joinL xs).length ≤ 65 * xs.length
  | [], _ => by simp [joinL]
  | [a], h => by have := h a (by simp); show a.length ≤ _; simp; omega
  | a :: b :: r, h => by
    have h1 := h a (by simp)
    have h2 := joinL_len (b :: r) fun p hp => h p (List.mem_cons_of_mem _ hp)
    rw [joinL_cons, List.length_append, List.length_cons, List.length_cons]
    omega
theorem joinS_next {l : List ByteArray} {i : Nat} {z : ByteArray} (h : i < l.length) : joinS (l.take (i + 1)) = if i = 0 then l.getD i z else joinS (l.take i) ++ { data := #[46] } ++ l.getD i z := by
  have e : l.take (i + 1) = l.take i ++ [l.getD i z] := by
    rw [List.take_succ_eq_append_getElem h, List.getD_eq_getElem?_getD, List.getElem?_eq_getElem h]
    rfl
  rw [e]
  generalize l.getD i z = x
  unfold joinS
  rw [List.map_append, List.map_cons, List.map_nil, joinL_snoc]
  by_cases hi : i = 0
  · subst hi
    rw [if_pos rfl]
    simp only [List.take_zero, List.map_nil, if_true]
    exact ofL_bytesL x
  · rw [if_neg hi, if_neg (by
      intro e
      have := congrArg List.length e
      rw [List.length_map, List.length_take, List.length_nil] at this
      omega)]
    apply bytesL_inj
    rw [bytesL_app, bytesL_app, bytesL_ofL, bytesL_ofL, List.append_assoc]
    rfl
theorem joinS_len {l : List ByteArray} (h : ∀ p ∈ l, p.size ≤ 64) (i : Nat) : (joinS (l.take i)).size ≤ 65 * l.length := by
  unfold joinS
  rw [ofL_size]
  have := joinL_len ((l.take i).map bytesL) (by
    intro p hp
    obtain ⟨q, hq, rfl⟩ := List.mem_map.1 hp
    rw [← size_bytesL]
    exact h q (List.mem_of_mem_take hq))
  rw [List.length_map, List.length_take] at this
  omega
structure PartsOk (s : ByteArray) (l m : List ByteArray) : Prop where
  n0 : l.length ≠ 0
  n1 : l.length ≤ 65
  n2 : m.length = l.length
  sz : ∀ p ∈ l, p.size ≤ 64
  szm : ∀ p ∈ m, p.size ≤ 64
  v : ∀ p ∈ l, validB p = true
  f : ∀ (i : Nat) (z z' : ByteArray), i < l.length → fold1 (l.getD i z) = m.getD i z'
  a : joinS l = s
  o : joinS m = fold1 s
theorem parts_ok {s : ByteArray} (hv : validB s = true) : PartsOk s (partsS s) (partsS (fold1 s)) := by
  obtain ⟨f1, f2, f3, f4, f5⟩ := fold_eq hv
  have hg := good_valid hv
  have h64 := valid_size hv
  have e1 : partsS s = (splitL (bytesL s)).map ofL := by unfold partsS; rw [hv]; rfl
  have e2 : partsS (fold1 s) = (splitL (bytesL s)).map fun p => ofL (foldL p) := by
    rw [f1]
    unfold partsS
    rw [f3, bytesL_ofL, split_fold _ hg, List.map_map]
    rfl
  have hle := splitC_le (d := 46) (bytesL s)
  rw [← size_bytesL] at hle
  have hval : ∀ p ∈ splitL (bytesL s), validL p = true := fun p hp => valid_part hv hp
  have hne := splitC_ne (d := 46) (bytesL s)
  have hpl : ∀ p ∈ splitL (bytesL s), p.length ≤ 64 := fun p hp => by have := hle.1 p hp; omega
  have hjoin := joinL_split (bytesL s)
  have hjoin2 := joinL_split (foldL (bytesL s))
  rw [split_fold _ hg] at hjoin2
  have hle2 : (splitL (bytesL s)).length ≤ s.size + 1 := hle.2
  have hne : splitL (bytesL s) ≠ [] := hne
  rw [e1, e2]
  generalize splitL (bytesL s) = P at *
  refine ⟨?_, ?_, ?_, ?_, ?_, ?_, ?_, ?_, ?_⟩
  · rw [List.length_map]
    have := List.length_pos_iff.2 hne
    omega
  · rw [List.length_map]; omega
  · rw [List.length_map, List.length_map]
  · intro p hp
    obtain ⟨q, hq, rfl⟩ := List.mem_map.1 hp
    rw [ofL_size]; exact hpl q hq
  · intro p hp
    obtain ⟨q, hq, rfl⟩ := List.mem_map.1 hp
    rw [ofL_size, foldL_length _ (good_valid (hval q hq))]
    exact hpl q hq
  · intro p hp
    obtain ⟨q, hq, rfl⟩ := List.mem_map.1 hp
    unfold validB; rw [bytesL_ofL]; exact hval q hq
  · intro i z z' hi
    rw [List.length_map] at hi
    rw [List.getD_eq_getElem?_getD, List.getD_eq_getElem?_getD, List.getElem?_map, List.getElem?_map, List.getElem?_eq_getElem hi]
    simp only [Option.map_some, Option.getD_some]
    have hq : validB (ofL P[i]) = true := by unfold validB; rw [bytesL_ofL]; exact hval _ (List.getElem_mem hi)
    rw [(fold_eq hq).1, bytesL_ofL]
  · unfold joinS
    rw [List.map_map]
    have : (bytesL ∘ ofL) = id := by funext p; exact bytesL_ofL p
    rw [this, List.map_id, hjoin, ofL_bytesL]
  · unfold joinS
    rw [List.map_map]
    have : (bytesL ∘ fun p => ofL (foldL p)) = foldL := by funext p; exact bytesL_ofL _
    rw [this, hjoin2, f1]
theorem v7 : Vc g7 300 Tryd.f7 (cLaw aParts) := by
  constructor
  rw [v7_eq]
  simp only [Wr_iff, bcase_iff, true_and, and_true, decide_eq_true_eq, decide_eq_false_iff_not, Bool.and_eq_true, Bool.and_eq_false_iff, Bool.or_eq_true, Bool.or_eq_false_iff, Bool.not_eq_true', Bool.not_eq_false', Option.map_some, Option.getD_some, Option.isSome_some, Option.isSome_map, imp_self, nilL, noneO]
  intro x
  generalize x.fst = s
  intro _
  refine ⟨fun _ => trivial, fun h => ?_⟩
  have h1 : szOk s = true := by rw [szOk_iff]; omega
  have l1 : listOk [s] = true := by rw [listOk_iff]; simp; omega
  have e1 : allValid [s] = validB s := by simp [allValid]
  rw [e1]
  refine ⟨h1, l1, fun hv => ⟨fun _ => trivial, ?_⟩, fun hv => ?_⟩
  · have : partsS s = [] := by unfold partsS; rw [hv]; rfl
    simp [this]
  obtain ⟨f1, f2, f3, f4, f5⟩ := fold_eq hv
  have hsz := fold1_size s
  obtain ⟨p1, p2, p3, p4, p5, p6, p7, p8, p9⟩ := parts_ok hv
  generalize partsS s = l at *
  generalize partsS (fold1 s) = m at *
  refine ⟨h1, by rw [szOk_iff]; omega, fun h => ?_, fun _ => ⟨⟨by omega, by omega, rfl, rfl⟩, fun y hy => ?_⟩⟩
  · exfalso
    rcases h with (h | h) | h
    · exact h f2
    · omega
    · omega
  obtain ⟨a, o, i⟩ := y
  obtain ⟨g1, g2, g3, g4⟩ := hy
  simp only at g1 g2 g3 g4 ⊢
  obtain ⟨i, rfl⟩ : ∃ q : Nat, i = q := ⟨i.toNat, by omega⟩
  simp only [Int.toNat_natCast] at *
  have ha := joinS_len p4 i
  have ho := joinS_len p5 i
  rw [← g3] at ha
  rw [← g4] at ho
  refine ⟨fun hp => ?_, fun hp => ?_⟩
  · have hi : i < l.length := by omega
    have hm := getD_mem (l := l) (i := (i : Int)) (z := Ty.str.zero) (by omega) (by omega)
    simp only [Int.toNat_natCast] at hm
    have q1 := p4 _ hm
    have q2 := p6 _ hm
    have q3 := p7 i Ty.str.zero Ty.str.zero hi
    have n1 := joinS_next (l := l) (i := i) (z := Ty.str.zero) hi
    have n2 := joinS_next (l := m) (i := i) (z := Ty.str.zero) (by omega)
    rw [← q3] at n2
    have q4 := fold1_size (l.getD i Ty.str.zero)
    generalize hx : l.getD i Ty.str.zero = x at *
    have q5 : fold2 x = 0 := (fold_eq q2).2.1
    have q6 : allValid [x] = true := by simp [allValid, q2]
    have q7 : szOk x = true := by rw [szOk_iff]; omega
    have q8 : listOk [x] = true := by rw [listOk_iff]; simp; omega
    have hmx : maxLen = 9223372036854775807 := rfl
    have s1 : (a ++ ({ data := #[46] } : ByteArray)).size = a.size + 1 := ByteArray.size_append
    have s2 : (o ++ ({ data := #[46] } : ByteArray)).size = o.size + 1 := ByteArray.size_append
    have s3 : ({ data := #[46] } : ByteArray).size = 1 := rfl
    have e1 : ((i : Int) + 1).toNat = i + 1 := by omega
    rw [w64 (n := (i : Int) + 1) (by omega) (by omega)]
    refine ⟨by omega, by omega, q7, fun _ => by omega, fun _ => by omega, fun _ => trivial, fun _ => by omega, fun _ => by omega, fun _ => trivial, fun _ => q8, fun h => ?_, fun _ => ⟨fun h0 => ?_, fun h0 => ?_⟩⟩
    · exfalso
      rcases h with (h | h) | h
      · exact h q5
      · exact h q3
      · rw [q6] at h; cases h
    · rw [if_neg (by omega), ← g3] at n1
      rw [if_neg (by omega), ← g4] at n2
      exact ⟨by omega, by omega, by omega, by omega, by omega, by omega, ⟨by omega, by omega, by rw [e1, n1], by rw [e1, n2]⟩, by omega⟩
    · have hi0 : i = 0 := by omega
      rw [if_pos hi0] at n1 n2
      subst hi0
      have ea : a = ofL [] := g3
      have eo : o = ofL [] := g4
      have nil : ∀ z : ByteArray, ofL [] ++ z = z := by
        intro z
        apply bytesL_inj
        rw [bytesL_app, bytesL_ofL]
        rfl
      exact ⟨by omega, by omega, by omega, by omega, ⟨by omega, by omega, by rw [e1, n1, ea, nil], by rw [e1, n2, eo, nil]⟩, by omega⟩
  · have hi : i = l.length := by omega
    rw [hi, List.take_length, p8] at g3
    rw [hi, ← p3, List.take_length, p9] at g4
    refine ⟨fun _ => trivial, ?_⟩
    simp [g3, g4]
end Go.Proofs.YtkimpfoimblhjaaDoor.Lb
namespace Go.Proofs.YtkimpfoimblhjaaDoor.Lb
open Go Go.Eng
set_option maxRecDepth 100000
theorem v26B : vcB g26 300 Tryd.f26 cWakes1.r (cWakes1.F ()) = true := by kernel_rfl
theorem v26 : Vc g26 300 Tryd.f26 cWakes1 := Vc.ofB (r := cWakes1.r) (y := cWakes1.F ()) v26B
theorem val26 : Valid Tryd.prog GW 26 cWakes1 := mkValid gws Tb.mix Tb.tab_ok Tb.eqs_ok g26 rfl (allV_cons val29 (allV_cons val30 allV_nil)) allI_nil Tryd.func26 (by kernel_rfl) v26
theorem val7 : Valid Tryd.prog GW 7 ((cLaw aParts)) := mkValid gws Tb.mix Tb.tab_ok Tb.eqs_ok g7 rfl (allV_cons val26 (allV_cons val27 (allV_cons val28 (allV_cons val29 allV_nil)))) allI_nil Tryd.func7 (by kernel_rfl) v7
theorem val8 : Valid Tryd.prog GW 8 ((cLaw aKeys)) := mkValid gws Tb.mix Tb.tab_ok Tb.eqs_ok g8 rfl (allV_cons val26 (allV_cons val30 (allV_cons val31 (allV_cons val32 (allV_cons val33 allV_nil))))) allI_nil Tryd.func8 (by kernel_rfl) v8
theorem val9 : Valid Tryd.prog GW 9 ((cLaw aKeys)) := mkValid gws Tb.mix Tb.tab_ok Tb.eqs_ok g9 rfl (allV_cons val26 (allV_cons val29 (allV_cons val30 (allV_cons val32 allV_nil)))) allI_nil Tryd.func9 (by kernel_rfl) v9
theorem val10 : Valid Tryd.prog GW 10 ((cLaw aColon)) := mkValid gws Tb.mix Tb.tab_ok Tb.eqs_ok g10 rfl (allV_cons val26 (allV_cons val30 (allV_cons val32 allV_nil))) allI_nil Tryd.func10 (by kernel_rfl) v10
theorem val11 : Valid Tryd.prog GW 11 ((cLaw aTwo)) := mkValid gws Tb.mix Tb.tab_ok Tb.eqs_ok g11 rfl (allV_cons val26 (allV_cons val28 (allV_cons val34 allV_nil))) allI_nil Tryd.func11 (by kernel_rfl) v11
theorem val12 : Valid Tryd.prog GW 12 ((cLaw aTwo)) := mkValid gws Tb.mix Tb.tab_ok Tb.eqs_ok g12 rfl (allV_cons val26 (allV_cons val27 (allV_cons val28 (allV_cons val29 (allV_cons val34 (allV_cons val35 (allV_cons val36 (allV_cons val37 (allV_cons val38 (allV_cons val39 (allV_cons val40 (allV_cons val41 allV_nil)))))))))))) allI_nil Tryd.func12 (by kernel_rfl) v12
end Go.Proofs.YtkimpfoimblhjaaDoor.Lb

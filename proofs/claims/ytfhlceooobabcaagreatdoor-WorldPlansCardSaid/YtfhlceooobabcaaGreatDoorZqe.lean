/-
  A text of mine, of several parts: SkPlain, ZdDef4, Zd4Cfg, Zd4Vc, ZdP7, Zd4V, ZdDef5, Zd5Cfg, Zd5Vc, ZdP8, ZdPl, ZdP9, Zd5V, ZdDef6, Zd6Cfg.
-/
import Derived.Test.YtfhlceooobabcaaGreatDoorZqa
import Derived.Test.YtfhlceooobabcaaGreatDoorZqb
import Derived.Test.YtfhlceooobabcaaGreatDoorZqc
import Derived.Test.YtfhlceooobabcaaGreatDoorZqd
set_option linter.all false
set_option linter.all false
set_option maxRecDepth 100000
namespace Go.Sk
open Go Go.Eng
abbrev I64 : Ty := .int .i64
abbrev addrT : Ty := .cons (.int .i8) (.cons (.arr 8 (.int .u16)) (.cons I64 .unit))
abbrev sockT : Ty := .cons addrT (.cons I64 (.cons I64 (.cons I64 (.cons .bool .unit))))
abbrev markT : Ty := .cons .bool (.cons I64 (.cons I64 .unit))
abbrev Ad := Int × (Int × Int × Int × Int × Int × Int × Int × Int × Unit) × Int × Unit
abbrev Sk := Ad × Int × Int × Int × Bool × Unit
abbrev Mk := Bool × Int × Int × Unit
abbrev zS : Sk := sockT.zero
/-- how often a socket was shut -/
abbrev shutOf (s : Sk) : Int := s.2.2.2.1
abbrev openedOf (s : Sk) : Int := s.2.2.1
/-- the places at which something holds -/
def places (p : Sk → Bool) : Nat → List Sk → List Int
  | _, [] => []
  | i, s :: r => if p s then (i : Int) :: places p (i + 1) r else places p (i + 1) r
def isOpen (s : Sk) : Bool := decide (shutOf s = 0)
def isTwice (s : Sk) : Bool := decide (1 < shutOf s)
/-- what the record's marks come to: (wrong, how many were opened, how often each was shut) -/
def ckGo (l : List Sk) : List Mk → Bool → Int → Int → List Int → Bool × Int × List Int
  | [], _, many, _, cnt => (false, many, cnt)
  | x :: r, first, many, last, cnt =>
    if !first && decide (x.2.2.1 < last) then (true, many, cnt)
    else if x.1 then if decide (x.2.1 < 0) || decide (x.2.1 ≥ many) then (true, many, cnt) else ckGo l r false many x.2.2.1 (cnt.set x.2.1.toNat (cnt.getD x.2.1.toNat 0 + 1))
    else if decide (x.2.1 ≠ many) || decide (many ≥ l.length) || decide (openedOf (l.getD many.toNat sockT.zero) ≠ x.2.2.1) then (true, many + 1, cnt)
    else ckGo l r false (many + 1) x.2.2.1 cnt
def mism (l : List Sk) (cnt : List Int) : Bool := (List.range l.length).any fun i => decide (shutOf (l.getD i sockT.zero) ≠ cnt.getD i 0)
def check (l : List Sk) (m : List Mk) : Int :=
  let q := ckGo l m true 0 0 (List.replicate l.length 0)
  if q.1 || mism l q.2.2 || decide (q.2.1 ≠ l.length) then 80 else 0
def newSk (a : Ad) (by' now : Int) : Sk := (a, by', now, 0, false, ())
def mkM (s : Bool) (n now : Int) : Mk := (s, n, now, ())
def addS (l : List Sk) (a : Ad) (b now : Int) : List Sk := l ++ [newSk a b now]
def addM (m : List Mk) (s : Bool) (n now : Int) : List Mk := m ++ [mkM s n now]
def lenS (l : List Sk) : Int := l.length
def inR (n : Int) (l : List Sk) : Bool := decide (0 ≤ n) && decide (n < l.length)
def shut1 (s : Sk) : Sk := (s.1, s.2.1, s.2.2.1, IntKind.wrap .i64 (s.2.2.2.1 + 1), s.2.2.2.2.1, ())
def dead1 (s : Sk) : Sk := (s.1, s.2.1, s.2.2.1, s.2.2.2.1, true, ())
def shutL (l : List Sk) (n : Int) : List Sk := l.set n.toNat (shut1 (l.getD n.toNat sockT.zero))
def deadL (l : List Sk) (n : Int) : List Sk := l.set n.toNat (dead1 (l.getD n.toNat sockT.zero))
def shA (l : List Sk) (n : Int) : List Sk := if inR n l then shutL l n else []
def shB (l : List Sk) (m : List Mk) (n now : Int) : List Mk := if inR n l then addM m true n now else []
def shE (l : List Sk) (n : Int) : Int := if inR n l then 0 else 80
def opens (l : List Sk) (n : Int) : Bool := inR n l && isOpen (l.getD n.toNat sockT.zero)
def drA (l : List Sk) (n : Int) : List Sk := if opens l n then deadL l n else []
def drE (l : List Sk) (n : Int) : Int := if opens l n then 0 else 80
def lastAt (m : List Mk) : Int := (m.getLast?.map (fun x => x.2.2.1)).getD 0
theorem sum_set1 : ∀ (c : List Int) (i : Nat), i < c.length → (c.set i (c.getD i 0 + 1)).sum = c.sum + 1
  | x :: c, 0, _ => by simp; omega
  | x :: c, i + 1, h => by
    have := sum_set1 c i (by simpa using h)
    simp only [List.set_cons_succ, List.sum_cons, List.getD_cons_succ, this]
    omega
theorem ckGo_len (l : List Sk) : ∀ (m : List Mk) (f : Bool) (k la : Int) (c : List Int) (M : Int) (C : List Int), ckGo l m f k la c = (false, M, C) → 0 ≤ k → k ≤ l.length → c.length = l.length →
    M + C.sum = k + c.sum + m.length ∧ C.length = l.length ∧ 0 ≤ M ∧ M ≤ l.length
  | [], f, k, la, c, M, C, h, h0, h1, hc => by
    simp only [ckGo, Prod.mk.injEq, true_and] at h
    obtain ⟨rfl, rfl⟩ := h
    simp [h0, h1, hc]
  | x :: r, f, k, la, c, M, C, h, h0, h1, hc => by
    simp only [ckGo] at h
    split at h
    · simp at h
    · split at h
      · split at h
        · simp at h
        · rename_i h2
          simp at h2
          have := ckGo_len l r false k x.2.2.1 _ M C h h0 h1 (by simpa using hc)
          rw [sum_set1 c x.2.1.toNat (by omega)] at this
          simp only [List.length_cons]
          omega
      · split at h
        · simp at h
        · rename_i h2
          simp at h2
          have := ckGo_len l r false (k + 1) x.2.2.1 c M C h (by omega) (by omega) hc
          simp only [List.length_cons]
          omega
/-- how often all of them were shut -/
def shuts (l : List Sk) : Int := (l.map shutOf).sum
theorem mism_false {l : List Sk} {c : List Int} (hc : c.length = l.length) (h : mism l c = false) : l.map shutOf = c := by
  apply List.ext_getElem
  · simp [hc]
  · intro i h1 h2
    simp only [mism, List.any_eq_false, List.mem_range] at h
    have := h i (by simpa using h1)
    simp only [List.length_map] at h1
    simp only [decide_eq_true_eq, Decidable.not_not, List.getD_eq_getElem?_getD, List.getElem?_eq_getElem h1, List.getElem?_eq_getElem h2, Option.getD_some] at this
    rw [List.getElem_map, ← this]
    have e : l.getD i zS = l[i] := by rw [List.getD_eq_getElem?_getD, List.getElem?_eq_getElem h1]; rfl
    exact congrArg shutOf e.symm
theorem check_len {l : List Sk} {m : List Mk} (h : check l m = 0) : (m.length : Int) = l.length + shuts l := by
  unfold check at h
  generalize hq : ckGo l m true 0 0 (List.replicate l.length 0) = q at h
  obtain ⟨b, M, C⟩ := q
  simp only at h
  split at h
  · omega
  · rename_i h2
    simp only [Bool.or_eq_true, decide_eq_true_eq, not_or, Bool.not_eq_true, Decidable.not_not] at h2
    obtain ⟨⟨rfl, h3⟩, rfl⟩ := h2
    have := ckGo_len l m true 0 0 _ _ C hq (by omega) (by omega) (by simp)
    simp only [List.sum_replicate_int, Int.mul_zero] at this
    unfold shuts
    rw [mism_false this.2.1 h3]
    omega
theorem check_two (l : List Sk) (m : List Mk) : check l m = 0 ∨ check l m = 80 := by
  unfold check
  simp only
  split <;> simp
theorem check_less {l : List Sk} {m m' : List Mk} (h : check l m = 0) (hl : m'.length ≠ m.length) : check l m' = 80 := by
  rcases check_two l m' with h' | h'
  · have := check_len h; have := check_len h'; omega
  · exact h'
theorem getS (l : List Sk) (i : Nat) (hi : i < l.length) : l.getD i sockT.zero = l[i] := show l.getD i zS = l[i] by rw [List.getD_eq_getElem?_getD, List.getElem?_eq_getElem hi]; rfl
theorem lastAt_cons (x y : Mk) (r : List Mk) : lastAt (x :: y :: r) = lastAt (y :: r) := by
  simp [lastAt, List.getLast?_cons_cons]
theorem lastAt_snoc (m : List Mk) (s : Bool) (n now : Int) : lastAt (addM m s n now) = now := by
  simp [lastAt, addM, mkM]
theorem ckGo_snoc (l : List Sk) (y : Mk) : ∀ (m : List Mk) (f : Bool) (k la : Int) (c : List Int) (M : Int) (C : List Int), ckGo l m f k la c = (false, M, C) →
    ckGo l (m ++ [y]) f k la c = ckGo l [y] (f && m.isEmpty) M (if m.isEmpty then la else lastAt m) C
  | [], f, k, la, c, M, C, h => by
    simp only [ckGo, Prod.mk.injEq, true_and] at h
    obtain ⟨rfl, rfl⟩ := h
    simp
  | x :: r, f, k, la, c, M, C, h => by
    have hl : (if r.isEmpty then x.2.2.1 else lastAt r) = lastAt (x :: r) := by
      cases r with
      | nil => rfl
      | cons y r => rw [lastAt_cons]; rfl
    simp only [List.cons_append, List.isEmpty_cons, Bool.and_false, Bool.false_eq_true, if_false]
    rw [ckGo]
    rw [ckGo] at h
    split at h
    · simp at h
    · rename_i h1
      rw [if_neg h1]
      split at h
      · rename_i h2
        rw [if_pos h2]
        split at h
        · simp at h
        · rename_i h3
          rw [if_neg h3, ckGo_snoc l y r _ _ _ _ M C h, hl, Bool.false_and]
      · rename_i h2
        rw [if_neg h2]
        split at h
        · simp at h
        · rename_i h3
          rw [if_neg h3, ckGo_snoc l y r _ _ _ _ M C h, hl, Bool.false_and]
theorem ckGo_more (l : List Sk) (s : Sk) : ∀ (m : List Mk) (f : Bool) (k la : Int) (c : List Int) (M : Int) (C : List Int), ckGo l m f k la c = (false, M, C) → c.length = l.length → 0 ≤ k → k ≤ l.length →
    ckGo (l ++ [s]) m f k la (c ++ [0]) = (false, M, C ++ [0])
  | [], f, k, la, c, M, C, h, _, _, _ => by
    simp only [ckGo, Prod.mk.injEq, true_and] at h
    obtain ⟨rfl, rfl⟩ := h
    rfl
  | x :: r, f, k, la, c, M, C, h, hc, k0, k1 => by
    rw [ckGo]
    rw [ckGo] at h
    split at h
    · simp at h
    · rename_i h1
      rw [if_neg h1]
      split at h
      · rename_i h2
        rw [if_pos h2]
        split at h
        · simp at h
        · rename_i h3
          rw [if_neg h3]
          simp only [Bool.or_eq_true, decide_eq_true_eq, not_or] at h3
          have hi : x.2.1.toNat < c.length := by omega
          rw [List.set_append_left _ _ hi]
          have e : (c ++ [0]).getD x.2.1.toNat 0 = c.getD x.2.1.toNat 0 := by
            simp only [List.getD_eq_getElem?_getD, List.getElem?_append_left hi]
          rw [e]
          exact ckGo_more l s r _ _ _ _ M C h (by simpa using hc) k0 k1
      · rename_i h2
        rw [if_neg h2]
        split at h
        · simp at h
        · rename_i h3
          simp only [Bool.or_eq_true, decide_eq_true_eq, not_or, Decidable.not_not] at h3
          have hi : k.toNat < l.length := by omega
          have e : (l ++ [s]).getD k.toNat zS = l.getD k.toNat zS := by
            simp only [List.getD_eq_getElem?_getD, List.getElem?_append_left hi]
          have h4 : ¬((decide (x.2.1 ≠ k) || decide (k ≥ (l ++ [s]).length) || decide (openedOf ((l ++ [s]).getD k.toNat zS) ≠ x.2.2.1)) = true) := by
            rw [e]
            simp only [Bool.or_eq_true, decide_eq_true_eq, not_or, Decidable.not_not, List.length_append, List.length_cons, List.length_nil]
            exact ⟨⟨h3.1.1, by omega⟩, h3.2⟩
          refine Eq.trans (if_neg h4) ?_
          exact ckGo_more l s r _ _ _ _ M C h hc (by omega) (by omega)
theorem ckGo_same (l l' : List Sk) (hl : l'.length = l.length) (ho : ∀ i, openedOf (l'.getD i zS) = openedOf (l.getD i zS)) : ∀ (m : List Mk) (f : Bool) (k la : Int) (c : List Int), ckGo l' m f k la c = ckGo l m f k la c
  | [], f, k, la, c => rfl
  | x :: r, f, k, la, c => by
    have e : ∀ i, openedOf (l'.getD i sockT.zero) = openedOf (l.getD i sockT.zero) := ho
    rw [ckGo, ckGo, hl, e]
    simp only [ckGo_same l l' hl ho r]
theorem check_iff (l : List Sk) (m : List Mk) : check l m = 0 ↔ ckGo l m true 0 0 (List.replicate l.length 0) = (false, (l.length : Int), l.map shutOf) := by
  constructor
  · intro h
    unfold check at h
    generalize hq : ckGo l m true 0 0 (List.replicate l.length 0) = q at h
    obtain ⟨b, M, C⟩ := q
    simp only at h
    split at h
    · omega
    · rename_i h2
      simp only [Bool.or_eq_true, decide_eq_true_eq, not_or, Bool.not_eq_true, Decidable.not_not] at h2
      obtain ⟨⟨rfl, h3⟩, rfl⟩ := h2
      have := ckGo_len l m true 0 0 _ _ C hq (by omega) (by omega) (by simp)
      rw [mism_false this.2.1 h3]
  · intro h
    unfold check
    rw [h]
    have : mism l (l.map shutOf) = false := by
      simp only [mism, List.any_eq_false, List.mem_range]
      intro i hi
      have e : l.getD i zS = l[i] := by rw [List.getD_eq_getElem?_getD, List.getElem?_eq_getElem hi]; rfl
      have e2 : (l.map shutOf).getD i 0 = shutOf l[i] := by rw [List.getD_eq_getElem?_getD, List.getElem?_map, List.getElem?_eq_getElem hi]; rfl
      have e3 : shutOf (l.getD i sockT.zero) = shutOf l[i] := congrArg shutOf e
      rw [e3, e2]; simp
    simp [this]
theorem places_len (p : Sk → Bool) : ∀ (i : Nat) (l : List Sk), (places p i l).length = l.countP p
  | _, [] => rfl
  | i, x :: r => by
    simp only [places, List.countP_cons]
    have := places_len p (i + 1) r
    split <;> simp_all
theorem check_open {l : List Sk} {m : List Mk} {now : Int} (h : check l m = 0) (hl : m = [] ∨ lastAt m ≤ now) (a : Ad) (b : Int) : check (addS l a b now) (addM m false (lenS l) now) = 0 := by
  rw [check_iff] at h ⊢
  have h2 := ckGo_more l (newSk a b now) m true 0 0 _ _ _ h (by simp) (by omega) (by omega)
  rw [show addS l a b now = l ++ [newSk a b now] from rfl, show addM m false (lenS l) now = m ++ [mkM false l.length now] from rfl]
  have e : List.replicate (l ++ [newSk a b now]).length (0 : Int) = List.replicate l.length 0 ++ [0] := by
    rw [List.length_append, ← List.replicate_append_replicate]; rfl
  rw [e, ckGo_snoc _ _ _ _ _ _ _ _ _ h2, ckGo]
  have c1 : ¬((!(true && m.isEmpty) && decide ((mkM false (l.length : Int) now).2.2.1 < if m.isEmpty then 0 else lastAt m)) = true) := by
    rcases hl with rfl | hl
    · simp
    · cases m with
      | nil => simp
      | cons x r => simp [mkM]; omega
  rw [if_neg c1, if_neg (by simp [mkM])]
  have c2 : openedOf ((l ++ [newSk a b now]).getD (l.length : Int).toNat sockT.zero) = now := by
    rw [getS _ _ (by simp)]; simp [newSk]
  have c3 : ¬((decide ((mkM false (l.length : Int) now).2.1 ≠ l.length) || decide ((l.length : Int) ≥ (l ++ [newSk a b now]).length) || decide (openedOf ((l ++ [newSk a b now]).getD (l.length : Int).toNat sockT.zero) ≠ (mkM false (l.length : Int) now).2.2.1)) = true) := by
    rw [c2]; simp [mkM]; omega
  rw [if_neg c3, ckGo]
  simp [newSk, shutOf]
theorem check_shut {l : List Sk} {m : List Mk} {now n : Int} (h : check l m = 0) (hl : m = [] ∨ lastAt m ≤ now) (hn : inR n l = true) (hs : IntKind.wrap .i64 (shutOf (l.getD n.toNat zS) + 1) = shutOf (l.getD n.toNat zS) + 1) : check (shutL l n) (addM m true n now) = 0 := by
  rw [check_iff] at h ⊢
  simp only [inR, Bool.and_eq_true, decide_eq_true_eq] at hn
  have hi : n.toNat < l.length := by omega
  have L : (shutL l n).length = l.length := by simp [shutL]
  have O : ∀ i, openedOf ((shutL l n).getD i zS) = openedOf (l.getD i zS) := by
    intro i
    unfold shutL
    simp only [List.getD_eq_getElem?_getD, List.getElem?_set]
    split
    · rename_i e
      subst e
      have e := getS l _ hi
      have e' : l[n.toNat]? = some l[n.toNat] := List.getElem?_eq_getElem hi
      rw [e']
      first
        | rw [if_pos hi]; exact congrArg (fun s => openedOf (shut1 s)) e
        | exact congrArg (fun s => openedOf (shut1 s)) e
    · rfl
  have h2 : ckGo (shutL l n) m true 0 0 (List.replicate l.length 0) = (false, (l.length : Int), l.map shutOf) := by rw [ckGo_same l _ L O]; exact h
  rw [L, show addM m true n now = m ++ [mkM true n now] from rfl, ckGo_snoc _ _ _ _ _ _ _ _ _ h2, ckGo]
  have c1 : ¬((!(true && m.isEmpty) && decide ((mkM true n now).2.2.1 < if m.isEmpty then 0 else lastAt m)) = true) := by
    rcases hl with rfl | hl
    · simp
    · cases m with
      | nil => simp
      | cons x r => simp [mkM]; omega
  have c2 : ¬((decide ((mkM true n now).2.1 < 0) || decide ((mkM true n now).2.1 ≥ (l.length : Int))) = true) := by
    show ¬((decide (n < 0) || decide (n ≥ (l.length : Int))) = true)
    simp only [Bool.or_eq_true, decide_eq_true_eq]
    omega
  rw [if_neg c1, if_pos (by rfl), if_neg c2, ckGo]
  congr 2
  unfold shutL
  rw [List.map_set]
  have e : l.getD n.toNat zS = l[n.toNat] := by rw [List.getD_eq_getElem?_getD, List.getElem?_eq_getElem hi]; rfl
  have e2 : (l.map shutOf).getD n.toNat 0 = shutOf (l.getD n.toNat zS) := by rw [e, List.getD_eq_getElem?_getD, List.getElem?_map, List.getElem?_eq_getElem hi]; rfl
  show (l.map shutOf).set n.toNat ((l.map shutOf).getD n.toNat 0 + 1) = _
  rw [e2, ← hs]
  rfl
theorem check_dead {l : List Sk} {m : List Mk} {n : Int} (h : check l m = 0) : check (deadL l n) m = 0 := by
  rw [check_iff] at h ⊢
  have L : (deadL l n).length = l.length := by simp [deadL]
  have G : ∀ i (f : Sk → Int), (∀ s, f (dead1 s) = f s) → f ((deadL l n).getD i zS) = f (l.getD i zS) := by
    intro i f hf
    unfold deadL
    simp only [List.getD_eq_getElem?_getD, List.getElem?_set]
    split
    · rename_i e
      subst e
      split
      · exact hf _
      · rename_i h
        simp [List.getElem?_eq_none (Nat.le_of_not_lt h)]
    · rfl
  rw [ckGo_same l _ L (fun i => G i openedOf fun s => rfl), L, h]
  congr 2
  apply List.ext_getElem
  · simp [L]
  · intro i h1 h2
    simp only [List.length_map] at h1 h2
    have := G i shutOf (fun s => rfl)
    have e1 : (deadL l n).getD i zS = (deadL l n)[i] := by rw [List.getD_eq_getElem?_getD, List.getElem?_eq_getElem h2]; rfl
    have e2 : l.getD i zS = l[i] := by rw [List.getD_eq_getElem?_getD, List.getElem?_eq_getElem h1]; rfl
    rw [e1, e2] at this
    simp [this]
end Go.Sk
set_option maxRecDepth 100000
namespace Go.Proofs.YtfhlceooobabcaaGreatDoor.Wd
open Go Go.Eng Go.Lb Go.Ad
/-! sockets -/
def okN (l : List Sk) : Bool := decide (l.length ≤ 1000000)
def cShutS : Contract := conD (.cons (.sl SockT) (.cons (.sl MarkT) (.cons I64 (.cons I64 .unit)))) (.cons (.sl SockT) (.cons (.sl MarkT) (.cons I64 .unit))) (fun x => okSM x.1 x.2.1)
  fun x => (Sk.shA x.1 x.2.2.1, (Sk.shB x.1 x.2.1 x.2.2.1 x.2.2.2.1, (Sk.shE x.1 x.2.2.1, ())))
def cDropS : Contract := conD (.cons (.sl SockT) (.cons I64 .unit)) (.cons (.sl SockT) (.cons I64 .unit)) (fun x => okN x.1) fun x => (Sk.drA x.1 x.2.1, (Sk.drE x.1 x.2.1, ()))
def cIsOpen : Contract := conD (.cons (.sl SockT) (.cons (.sl I64) .unit)) (.cons .bool .unit) (fun x => decide (List.length (α := Int) x.2.1 ≤ 1000000)) fun x => (List.all (α := Int) x.2.1 (Sk.opens x.1), ())
def cOpenT : Contract := conD (.cons SockT .unit) (.cons .bool .unit) (fun _ => true) fun x => (Sk.isOpen x.1, ())
def isoL : LoopAnn where
  α := Int
  keep := [0, 1, 7, 8]
  okeep := []
  nxt := 30
  env := fun _ x => [(9, .dat I64 x)]
  own := fun _ _ => []
  inv := fun s x => IdxI (notB (Sk.opens (bDat (.sl SockT) s 0).out)) (bDat (.sl I64) s 1).out x
  mu := fun s x => List.length (α := Int) (bDat (.sl I64) s 1).out - x.toNat
  pick := some fun _ s => (bDat I64 s 9).out
/-! ticks, drops, shuttings -/
def putS (w : Wd) (l : List Sk) (m : List Mk) : Wd := (w.1, w.2.1, l, w.2.2.2.1, w.2.2.2.2.1, w.2.2.2.2.2.1, m, ())
def tickE (w : Wd) : Int := bif decide (w.1.2.2.1 ≤ w.2.1) then 70 else 0
def tickW (w : Wd) : Wd := bif decide (w.1.2.2.1 ≤ w.2.1) then w else (w.1, IntKind.wrap .i64 (w.2.1 + 1), w.2.2.1, w.2.2.2.1, w.2.2.2.2.1, w.2.2.2.2.2.1, w.2.2.2.2.2.2.1, ())
def canDrop (w : Wd) : Bool := decide (0 ≤ w.2.2.2.2.2.1) && decide (w.2.2.2.2.2.1 < (w.1.2.2.2.1.length : Int))
def dropN (w : Wd) : Int := w.1.2.2.2.1.getD w.2.2.2.2.2.1.toNat 0
def dropE (w : Wd) : Int := bif canDrop w then 0 else 70
def dropW (w : Wd) : Wd := bif canDrop w then (w.1, w.2.1, (bif decide (Sk.drE w.2.2.1 (dropN w) = 0) then Sk.drA w.2.2.1 (dropN w) else w.2.2.1), w.2.2.2.1, w.2.2.2.2.1, IntKind.wrap .i64 (w.2.2.2.2.2.1 + 1), w.2.2.2.2.2.2.1, ()) else w
def shutE (w : Wd) (n : Int) : Int := Sk.shE w.2.2.1 n
def shutW (w : Wd) (n : Int) : Wd := bif decide (shutE w n = 0) then putS w (Sk.shA w.2.2.1 n) (Sk.shB w.2.2.1 w.2.2.2.2.2.2.1 n w.2.1) else w
def cTick : Contract := conD (.cons WorldT .unit) (.cons WorldT (.cons I64 .unit)) (fun _ => true) fun x => (tickW x.1, (tickE x.1, ()))
def cDropW : Contract := conD (.cons WorldT .unit) (.cons WorldT (.cons I64 .unit)) (fun x => okN x.1.2.2.1) fun x => (dropW x.1, (dropE x.1, ()))
def cShutW : Contract := conD (.cons WorldT (.cons I64 .unit)) (.cons WorldT (.cons I64 .unit)) (fun x => okW x.1) fun x => (shutW x.1 x.2.1, (shutE x.1 x.2.1, ()))
/-! the document's: sockets and record -/
def cCheckS : Contract := conD (.cons (.sl SockT) (.cons (.sl MarkT) .unit)) (.cons I64 .unit) (fun x => okSM x.1 x.2.1) fun x => (Sk.check x.1 x.2.1, ())
structure RckS where
  i : Int
  many : Int
  cnt : List Int
def lastM (m : List Mk) (i : Int) : Int := bif decide (i = 0) then 0 else (m.getD (i - 1).toNat MarkT.zero).2.2.1
structure RckI (l : List Sk) (m : List Mk) (x : RckS) : Prop where
  i0 : 0 ≤ x.i
  i1 : x.i ≤ m.length
  cnt : x.cnt.length = l.length
  m0 : 0 ≤ x.many
  m1 : x.many ≤ l.length
  c : ∀ c ∈ x.cnt, 0 ≤ c ∧ c ≤ x.i
  go : Sk.ckGo l (m.drop x.i.toNat) (decide (x.i = 0)) x.many (lastM m x.i) x.cnt = Sk.ckGo l m true 0 0 (List.replicate l.length 0)
def rck1 : LoopAnn where
  α := RckS
  keep := [0, 1]
  okeep := []
  nxt := 70
  env := fun _ x => [(5, .dat I64 x.many), (6, .own 60), (7, .dat I64 x.i)]
  own := fun _ x => [(60, .row 3 I64 x.cnt)]
  inv := fun s x => RckI (bDat (.sl SockT) s 0).out (bDat (.sl MarkT) s 1).out x
  mu := fun s x => List.length (α := Mk) (bDat (.sl MarkT) s 1).out - x.i.toNat
  pick := some fun _ s => ⟨(bDat I64 s 7).out, (bDat I64 s 5).out, (bRow I64 s 6).out⟩
structure Rck2I (l : List Sk) (m : List Mk) (j : Int) (c : List Int) : Prop where
  j0 : 0 ≤ j
  j1 : j ≤ l.length
  cl : c.length = l.length
  ck : Sk.check l m = bif Sk.mism l c then 80 else 0
  a : ∀ k : Nat, (k : Int) < j → Sk.shutOf (l.getD k SockT.zero) = c.getD k 0
def rck2 : LoopAnn where
  α := Int × List Int
  keep := [0, 1]
  okeep := []
  nxt := 90
  env := fun _ x => [(6, .own 80), (8, .dat I64 x.1)]
  own := fun _ x => [(80, .row 3 I64 x.2)]
  inv := fun s x => Rck2I (bDat (.sl SockT) s 0).out (bDat (.sl MarkT) s 1).out x.1 x.2
  mu := fun s x => List.length (α := Sk) (bDat (.sl SockT) s 0).out - x.1.toNat
  pick := some fun _ s => ((bDat I64 s 8).out, (bRow I64 s 6).out)
/-! the same -/
def sameP {α : Type} [DecidableEq α] (l m : List α) : Bool := decide (l = m) && decide (l.length ≤ 140737488355328)
def cSameL (t : Ty) : Contract := { a := .cons (.sl t) (.cons (.sl t) .unit), r := .cons .bool .unit, pre := fun x => x.1 = x.2.1 ∧ List.length (α := t.El) x.1 ≤ 140737488355328, F := fun _ => (true, ()) }
def sameL (t : Ty) : LoopAnn where
  α := Int
  keep := [0, 1]
  okeep := []
  nxt := 30
  env := fun _ x => [(5, .dat I64 x)]
  own := fun _ _ => []
  inv := fun s x => 0 ≤ x ∧ x ≤ List.length (α := t.El) (bDat (.sl t) s 0).out
  mu := fun s x => List.length (α := t.El) (bDat (.sl t) s 0).out - x.toNat
  pick := some fun _ s => (bDat I64 s 5).out
end Go.Proofs.YtfhlceooobabcaaGreatDoor.Wd
namespace Go.Proofs.YtfhlceooobabcaaGreatDoor.Wd
open Go Go.Eng Go.Lb Go.Ad
set_option maxRecDepth 100000
noncomputable def g95 : Cfg := { tab := Tb.tab, cons := [], inls := [], loops := [], cuts := [], unroll := false, arrs := [], keys := [] }
noncomputable def g131 : Cfg := { tab := Tb.tab, cons := [], inls := [], loops := [], cuts := [], unroll := false, arrs := [], keys := [] }
noncomputable def g94 : Cfg := { tab := Tb.tab, cons := [(131, cOpenT)], inls := [], loops := [(2, isoL)], cuts := [], unroll := false, arrs := [], keys := [] }
noncomputable def g43 : Cfg := { tab := Tb.tab, cons := [(94, cIsOpen), (95, cClone 111 64 SockT)], inls := [], loops := [], cuts := [], unroll := false, arrs := [], keys := [] }
noncomputable def g57 : Cfg := { tab := Tb.tab, cons := [(95, cClone 111 64 SockT), (102, (cClip MarkT))], inls := [], loops := [], cuts := [], unroll := false, arrs := [], keys := [] }
noncomputable def g13 : Cfg := { tab := Tb.tab, cons := [], inls := [], loops := [], cuts := [], unroll := false, arrs := [], keys := [] }
noncomputable def g15 : Cfg := { tab := Tb.tab, cons := [(43, cDropS)], inls := [], loops := [], cuts := [], unroll := false, arrs := [], keys := [] }
noncomputable def g22 : Cfg := { tab := Tb.tab, cons := [(57, cShutS)], inls := [], loops := [], cuts := [], unroll := false, arrs := [], keys := [] }
noncomputable def g23 : Cfg := { tab := Tb.tab, cons := [], inls := [], loops := [(4, rck1), (18, rck2)], cuts := [], unroll := false, arrs := [], keys := [] }
noncomputable def g39 : Cfg := { tab := Tb.tab, cons := [], inls := [], loops := [(4, sameL SockT)], cuts := [], unroll := false, arrs := [], keys := [] }
noncomputable def g40 : Cfg := { tab := Tb.tab, cons := [], inls := [], loops := [(4, sameL MarkT)], cuts := [], unroll := false, arrs := [], keys := [] }
noncomputable def g41 : Cfg := { tab := Tb.tab, cons := [], inls := [], loops := [(4, sameL DialT)], cuts := [], unroll := false, arrs := [], keys := [] }
noncomputable def g42 : Cfg := { tab := Tb.tab, cons := [], inls := [], loops := [(4, sameL LookT)], cuts := [], unroll := false, arrs := [], keys := [] }
noncomputable def g92 : Cfg := { tab := Tb.tab, cons := [], inls := [], loops := [(4, sameL I64)], cuts := [], unroll := false, arrs := [], keys := [] }
end Go.Proofs.YtfhlceooobabcaaGreatDoor.Wd
namespace Go.Proofs.YtfhlceooobabcaaGreatDoor.Wd
open Go Go.Eng Go.Lb Go.Ad
set_option maxRecDepth 100000
theorem v95_eq : vcFn g95 300 Tryz.f95 (cClone 111 64 SockT) = ( ∀ (x : List ((Int × (Int × Int × Int × Int × Int × Int × Int × Int × Unit) × Int × Unit) × Int × Int × Int × Bool × Unit) × Unit), Wr (Decidable.decide (List.length x.fst * (64 : Nat) ≤ (140737488355328 : Nat)) =
  Bool.true) → ∀ (b : Bool), Wr (b = Bool.true → x.fst = nilL ((Int × (Int × Int × Int × Int × Int × Int × Int × Int × Unit) × Int × Unit) × Int × Int × Int × Bool × Unit)) → bcase b (x.fst = nilL ((Int × (Int × Int × Int
  × Int × Int × Int × Int × Int × Unit) × Int × Unit) × Int × Int × Int × Bool × Unit)) (Wr ((List.length (nilL ((Int × (Int × Int × Int × Int × Int × Int × Int × Int × Unit) × Int × Unit) × Int × Int × Int × Bool ×
  Unit)) + List.length x.fst) * (64 : Nat) ≤ (140737488355328 : Nat)) ∧ nilL ((Int × (Int × Int × Int × Int × Int × Int × Int × Int × Unit) × Int × Unit) × Int × Int × Int × Bool × Unit) ++ x.fst = x.fst)) := by kernel_rfl
theorem v131_eq : vcFn g131 300 Tryz.f131 cOpenT = ( ∀ (x : ((Int × (Int × Int × Int × Int × Int × Int × Int × Int × Unit) × Int × Unit) × Int × Int × Int × Bool × Unit) × Unit), Wr (Bool.true = Bool.true) → (Decidable.decide (x.fst.snd.snd.snd.fst = (0 : Int)), ()) =
  (Go.Sk.isOpen x.fst, ())) := by kernel_rfl
theorem v94_eq : vcFn g94 300 Tryz.f94 cIsOpen = ( ∀ (x : List ((Int × (Int × Int × Int × Int × Int × Int × Int × Int × Unit) × Int × Unit) × Int × Int × Int × Bool × Unit) × List Int × Unit), Wr (Decidable.decide (List.length x.snd.fst ≤ (1000000 : Nat)) = Bool.true) →
  (Wr (IdxI (notB (Go.Sk.opens x.fst)) x.snd.fst (0 : Int)) ∧ Wr ((0 : Int) = (0 : Int)) ∧ Wr (x.fst = x.fst) ∧ Wr (x.snd.fst = x.snd.fst) ∧ Wr (x.snd.fst = x.snd.fst) ∧ Wr ((↑(List.length x.snd.fst) : Int) =
  (↑(List.length x.snd.fst) : Int))) ∧ ∀ (x_1 : Int), Wr (IdxI (notB (Go.Sk.opens x.fst)) x.snd.fst x_1) → bcase (Decidable.decide (x_1 < (↑(List.length x.snd.fst) : Int))) (Wr ((0 : Int) ≤ x_1) ∧ Wr (x_1 < (↑(List.length
  x.snd.fst) : Int)) ∧ Wr (Bool.true = Bool.true) ∧ Wr ((!(Decidable.decide (List.getD x.snd.fst (Int.toNat x_1) (0 : Int) < (0 : Int)) || Decidable.decide (List.getD x.snd.fst (Int.toNat x_1) (0 : Int) ≥ (↑(List.length
  x.fst) : Int)))) = Bool.true → (0 : Int) ≤ List.getD x.snd.fst (Int.toNat x_1) (0 : Int)) ∧ Wr ((!(Decidable.decide (List.getD x.snd.fst (Int.toNat x_1) (0 : Int) < (0 : Int)) || Decidable.decide (List.getD x.snd.fst
  (Int.toNat x_1) (0 : Int) ≥ (↑(List.length x.fst) : Int)))) = Bool.true → List.getD x.snd.fst (Int.toNat x_1) (0 : Int) < (↑(List.length x.fst) : Int)) ∧ Wr ((!(Decidable.decide (List.getD x.snd.fst (Int.toNat x_1) (0 :
  Int) < (0 : Int)) || Decidable.decide (List.getD x.snd.fst (Int.toNat x_1) (0 : Int) ≥ (↑(List.length x.fst) : Int)))) = Bool.true → Bool.true = Bool.true) ∧ Wr ((!(Decidable.decide (List.getD x.snd.fst (Int.toNat x_1)
  (0 : Int) < (0 : Int)) || Decidable.decide (List.getD x.snd.fst (Int.toNat x_1) (0 : Int) ≥ (↑(List.length x.fst) : Int)))) = Bool.true → Bool.true = Bool.true) ∧ bcase (Decidable.decide (List.getD x.snd.fst (Int.toNat
  x_1) (0 : Int) < (0 : Int)) || Decidable.decide (List.getD x.snd.fst (Int.toNat x_1) (0 : Int) ≥ (↑(List.length x.fst) : Int)) || !Go.Sk.isOpen (List.getD x.fst (Int.toNat (List.getD x.snd.fst (Int.toNat x_1) (0 :
  Int))) (Ty.zero SockT))) ((Bool.false, ()) = (List.all x.snd.fst (Go.Sk.opens x.fst), ())) (Wr (IdxI (notB (Go.Sk.opens x.fst)) x.snd.fst (IntKind.wrap IntKind.i64 (x_1 + (1 : Int)))) ∧ Wr (List.length x.snd.fst -
  Int.toNat (IntKind.wrap IntKind.i64 (x_1 + (1 : Int))) < List.length x.snd.fst - Int.toNat x_1) ∧ Wr (IntKind.wrap IntKind.i64 (x_1 + (1 : Int)) = IntKind.wrap IntKind.i64 (x_1 + (1 : Int))) ∧ Wr (x.fst = x.fst) ∧ Wr
  (x.snd.fst = x.snd.fst) ∧ Wr (x.snd.fst = x.snd.fst) ∧ Wr ((↑(List.length x.snd.fst) : Int) = (↑(List.length x.snd.fst) : Int)))) ((Bool.true, ()) = (List.all x.snd.fst (Go.Sk.opens x.fst), ()))) := by kernel_rfl
theorem v43_eq : vcFn g43 300 Tryz.f43 cDropS = ( ∀ (x : List ((Int × (Int × Int × Int × Int × Int × Int × Int × Int × Unit) × Int × Unit) × Int × Int × Int × Bool × Unit) × Int × Unit), Wr (okN x.fst = Bool.true) → Wr (Decidable.decide (List.length (x.snd.fst :: nilL
  Int) ≤ (1000000 : Nat)) = Bool.true) ∧ bcase (!List.all (x.snd.fst :: nilL Int) (Go.Sk.opens x.fst)) ((nilL ((Int × (Int × Int × Int × Int × Int × Int × Int × Int × Unit) × Int × Unit) × Int × Int × Int × Bool × Unit),
  (80 : Int), ()) = (Go.Sk.drA x.fst x.snd.fst, Go.Sk.drE x.fst x.snd.fst, ())) (Wr (Decidable.decide (List.length x.fst * (64 : Nat) ≤ (140737488355328 : Nat)) = Bool.true) ∧ Wr ((0 : Int) ≤ x.snd.fst) ∧ Wr (x.snd.fst <
  (↑(List.length x.fst) : Int)) ∧ (List.set x.fst (Int.toNat x.snd.fst) ((List.getD x.fst (Int.toNat x.snd.fst) (Ty.zero SockT)).fst, (List.getD x.fst (Int.toNat x.snd.fst) (Ty.zero SockT)).snd.fst, (List.getD x.fst
  (Int.toNat x.snd.fst) (Ty.zero SockT)).snd.snd.fst, (List.getD x.fst (Int.toNat x.snd.fst) (Ty.zero SockT)).snd.snd.snd.fst, Bool.true, ()), (0 : Int), ()) = (Go.Sk.drA x.fst x.snd.fst, Go.Sk.drE x.fst x.snd.fst, ()))) := by kernel_rfl
theorem v57_eq : vcFn g57 300 Tryz.f57 cShutS = ( ∀ (x : List ((Int × (Int × Int × Int × Int × Int × Int × Int × Int × Unit) × Int × Unit) × Int × Int × Int × Bool × Unit) × List (Bool × Int × Int × Unit) × Int × Int × Unit), Wr (okSM x.fst x.snd.fst = Bool.true) →
  bcase (Decidable.decide (x.snd.snd.fst < (0 : Int)) || Decidable.decide (x.snd.snd.fst ≥ (↑(List.length x.fst) : Int))) ((nilL ((Int × (Int × Int × Int × Int × Int × Int × Int × Int × Unit) × Int × Unit) × Int × Int ×
  Int × Bool × Unit), nilL (Bool × Int × Int × Unit), (80 : Int), ()) = (Go.Sk.shA x.fst x.snd.snd.fst, Go.Sk.shB x.fst x.snd.fst x.snd.snd.fst x.snd.snd.snd.fst, Go.Sk.shE x.fst x.snd.snd.fst, ())) (Wr (Decidable.decide
  (List.length x.fst * (64 : Nat) ≤ (140737488355328 : Nat)) = Bool.true) ∧ Wr ((0 : Int) ≤ x.snd.snd.fst) ∧ Wr (x.snd.snd.fst < (↑(List.length x.fst) : Int)) ∧ Wr ((0 : Int) ≤ x.snd.snd.fst) ∧ Wr (x.snd.snd.fst <
  (↑(List.length x.fst) : Int)) ∧ Wr True ∧ Wr ((List.length x.snd.fst + List.length ((Bool.true, x.snd.snd) :: nilL (Bool × Int × Int × Unit))) * (24 : Nat) ≤ (140737488355328 : Nat)) ∧ Wr ((0 : Nat) < List.length
  ((Bool.true, x.snd.snd) :: nilL (Bool × Int × Int × Unit))) ∧ (List.set x.fst (Int.toNat x.snd.snd.fst) ((List.getD x.fst (Int.toNat x.snd.snd.fst) (Ty.zero SockT)).fst, (List.getD x.fst (Int.toNat x.snd.snd.fst)
  (Ty.zero SockT)).snd.fst, (List.getD x.fst (Int.toNat x.snd.snd.fst) (Ty.zero SockT)).snd.snd.fst, IntKind.wrap IntKind.i64 ((List.getD x.fst (Int.toNat x.snd.snd.fst) (Ty.zero SockT)).snd.snd.snd.fst + (1 : Int)),
  (List.getD x.fst (Int.toNat x.snd.snd.fst) (Ty.zero SockT)).snd.snd.snd.snd), x.snd.fst ++ (Bool.true, x.snd.snd) :: nilL (Bool × Int × Int × Unit), (0 : Int), ()) = (Go.Sk.shA x.fst x.snd.snd.fst, Go.Sk.shB x.fst
  x.snd.fst x.snd.snd.fst x.snd.snd.snd.fst, Go.Sk.shE x.fst x.snd.snd.fst, ()))) := by kernel_rfl
theorem v13_eq : vcFn g13 300 Tryz.f13 cTick = ( ∀ (x : ((List (ByteArray × List (List (Int × (Int × Int × Int × Int × Int × Int × Int × Int × Unit) × Int × Unit)) × Unit) × List ((Int × (Int × Int × Int × Int × Int × Int × Int × Int × Unit) × Int × Unit) × List Int ×
  Unit) × Int × List Int × Unit) × Int × List ((Int × (Int × Int × Int × Int × Int × Int × Int × Int × Unit) × Int × Unit) × Int × Int × Int × Bool × Unit) × List (Int × (Int × (Int × Int × Int × Int × Int × Int × Int ×
  Int × Unit) × Int × Unit) × Int × Bool × Bool × Unit) × List (Int × ByteArray × Int × Bool × Unit) × Int × List (Bool × Int × Int × Unit) × Unit) × Unit), Wr (Bool.true = Bool.true) → bcase (Decidable.decide
  (x.fst.snd.fst ≥ x.fst.fst.snd.snd.fst)) ((x.fst, (70 : Int), ()) = (tickW x.fst, tickE x.fst, ())) (((x.fst.fst, IntKind.wrap IntKind.i64 (x.fst.snd.fst + (1 : Int)), x.fst.snd.snd), (0 : Int), ()) = (tickW x.fst,
  tickE x.fst, ()))) := by kernel_rfl
theorem v15_eq : vcFn g15 300 Tryz.f15 cDropW = ( ∀ (x : ((List (ByteArray × List (List (Int × (Int × Int × Int × Int × Int × Int × Int × Int × Unit) × Int × Unit)) × Unit) × List ((Int × (Int × Int × Int × Int × Int × Int × Int × Int × Unit) × Int × Unit) × List Int ×
  Unit) × Int × List Int × Unit) × Int × List ((Int × (Int × Int × Int × Int × Int × Int × Int × Int × Unit) × Int × Unit) × Int × Int × Int × Bool × Unit) × List (Int × (Int × (Int × Int × Int × Int × Int × Int × Int ×
  Int × Unit) × Int × Unit) × Int × Bool × Bool × Unit) × List (Int × ByteArray × Int × Bool × Unit) × Int × List (Bool × Int × Int × Unit) × Unit) × Unit), Wr (okN x.fst.snd.snd.fst = Bool.true) → bcase (Decidable.decide
  (x.fst.snd.snd.snd.snd.snd.fst < (0 : Int)) || Decidable.decide (x.fst.snd.snd.snd.snd.snd.fst ≥ (↑(List.length x.fst.fst.snd.snd.snd.fst) : Int))) ((x.fst, (70 : Int), ()) = (dropW x.fst, dropE x.fst, ())) (Wr ((0 :
  Int) ≤ x.fst.snd.snd.snd.snd.snd.fst) ∧ Wr (x.fst.snd.snd.snd.snd.snd.fst < (↑(List.length x.fst.fst.snd.snd.snd.fst) : Int)) ∧ Wr (Bool.true = Bool.true) ∧ Wr (okN x.fst.snd.snd.fst = Bool.true) ∧ bcase
  (Decidable.decide (Go.Sk.drE x.fst.snd.snd.fst (List.getD x.fst.fst.snd.snd.snd.fst (Int.toNat x.fst.snd.snd.snd.snd.snd.fst) (0 : Int)) = (0 : Int))) (((x.fst.fst, x.fst.snd.fst, Go.Sk.drA x.fst.snd.snd.fst (List.getD
  x.fst.fst.snd.snd.snd.fst (Int.toNat x.fst.snd.snd.snd.snd.snd.fst) (0 : Int)), x.fst.snd.snd.snd.fst, x.fst.snd.snd.snd.snd.fst, IntKind.wrap IntKind.i64 (x.fst.snd.snd.snd.snd.snd.fst + (1 : Int)),
  x.fst.snd.snd.snd.snd.snd.snd), (0 : Int), ()) = (dropW x.fst, dropE x.fst, ())) (((x.fst.fst, x.fst.snd.fst, x.fst.snd.snd.fst, x.fst.snd.snd.snd.fst, x.fst.snd.snd.snd.snd.fst, IntKind.wrap IntKind.i64
  (x.fst.snd.snd.snd.snd.snd.fst + (1 : Int)), x.fst.snd.snd.snd.snd.snd.snd), (0 : Int), ()) = (dropW x.fst, dropE x.fst, ())))) := by kernel_rfl
theorem v22_eq : vcFn g22 300 Tryz.f22 cShutW = ( ∀ (x : ((List (ByteArray × List (List (Int × (Int × Int × Int × Int × Int × Int × Int × Int × Unit) × Int × Unit)) × Unit) × List ((Int × (Int × Int × Int × Int × Int × Int × Int × Int × Unit) × Int × Unit) × List Int ×
  Unit) × Int × List Int × Unit) × Int × List ((Int × (Int × Int × Int × Int × Int × Int × Int × Int × Unit) × Int × Unit) × Int × Int × Int × Bool × Unit) × List (Int × (Int × (Int × Int × Int × Int × Int × Int × Int ×
  Int × Unit) × Int × Unit) × Int × Bool × Bool × Unit) × List (Int × ByteArray × Int × Bool × Unit) × Int × List (Bool × Int × Int × Unit) × Unit) × Int × Unit), Wr (okW x.fst = Bool.true) → Wr (okSM x.fst.snd.snd.fst
  x.fst.snd.snd.snd.snd.snd.snd.fst = Bool.true) ∧ bcase (!Decidable.decide (Go.Sk.shE x.fst.snd.snd.fst x.snd.fst = (0 : Int))) ((x.fst, Go.Sk.shE x.fst.snd.snd.fst x.snd.fst, ()) = (shutW x.fst x.snd.fst, shutE x.fst
  x.snd.fst, ())) (((x.fst.fst, x.fst.snd.fst, Go.Sk.shA x.fst.snd.snd.fst x.snd.fst, x.fst.snd.snd.snd.fst, x.fst.snd.snd.snd.snd.fst, x.fst.snd.snd.snd.snd.snd.fst, Go.Sk.shB x.fst.snd.snd.fst
  x.fst.snd.snd.snd.snd.snd.snd.fst x.snd.fst x.fst.snd.fst, ()), (0 : Int), ()) = (shutW x.fst x.snd.fst, shutE x.fst x.snd.fst, ()))) := by kernel_rfl
theorem v23_eq : vcFn g23 300 Tryz.f23 cCheckS = ( ∀ (x : List ((Int × (Int × Int × Int × Int × Int × Int × Int × Int × Unit) × Int × Unit) × Int × Int × Int × Bool × Unit) × List (Bool × Int × Int × Unit) × Unit), Wr (okSM x.fst x.snd.fst = Bool.true) → Wr ((0 : Int) ≤
  (↑(List.length x.fst) : Int)) ∧ Wr ((↑(List.length x.fst) : Int) ≤ (↑(List.length x.fst) : Int)) ∧ Wr ((↑(8 : Nat) : Int) * (↑(List.length x.fst) : Int) ≤ (281474976710656 : Int)) ∧ Wr ((↑(List.length x.fst) : Int) ≤
  (9223372036854775807 : Int)) ∧ (Wr (RckI x.fst x.snd.fst (RckS.mk (0 : Int) (0 : Int) (List.replicate (Int.toNat (↑(List.length x.fst) : Int)) (0 : Int)))) ∧ Wr ((0 : Int) = (0 : Int)) ∧ Wr ((0 : Int) = (0 : Int)) ∧ Wr
  (x.fst = x.fst) ∧ Wr (x.snd.fst = x.snd.fst) ∧ Wr (List.replicate (Int.toNat (↑(List.length x.fst) : Int)) (0 : Int) = List.replicate (Int.toNat (↑(List.length x.fst) : Int)) (0 : Int))) ∧ ∀ (x_1 : RckS), Wr (RckI x.fst
  x.snd.fst x_1) → bcase (Decidable.decide (x_1.i < (↑(List.length x.snd.fst) : Int))) (Wr (Decidable.decide (x_1.i > (0 : Int)) = Bool.true → (0 : Int) ≤ x_1.i) ∧ Wr (Decidable.decide (x_1.i > (0 : Int)) = Bool.true →
  x_1.i < (↑(List.length x.snd.fst) : Int)) ∧ Wr (Decidable.decide (x_1.i > (0 : Int)) = Bool.true → Bool.true = Bool.true) ∧ Wr (Decidable.decide (x_1.i > (0 : Int)) = Bool.true → Bool.true = Bool.true) ∧ Wr
  (Decidable.decide (x_1.i > (0 : Int)) = Bool.true → (0 : Int) ≤ IntKind.wrap IntKind.i64 (x_1.i - (1 : Int))) ∧ Wr (Decidable.decide (x_1.i > (0 : Int)) = Bool.true → IntKind.wrap IntKind.i64 (x_1.i - (1 : Int)) <
  (↑(List.length x.snd.fst) : Int)) ∧ Wr (Decidable.decide (x_1.i > (0 : Int)) = Bool.true → Bool.true = Bool.true) ∧ Wr (Decidable.decide (x_1.i > (0 : Int)) = Bool.true → Bool.true = Bool.true) ∧ bcase (Decidable.decide
  (x_1.i > (0 : Int)) && Decidable.decide ((List.getD x.snd.fst (Int.toNat x_1.i) (Ty.zero MarkT)).snd.snd.fst < (List.getD x.snd.fst (Int.toNat (IntKind.wrap IntKind.i64 (x_1.i - (1 : Int)))) (Ty.zero
  MarkT)).snd.snd.fst)) (((80 : Int), ()) = (Go.Sk.check x.fst x.snd.fst, ())) (Wr ((0 : Int) ≤ x_1.i) ∧ Wr (x_1.i < (↑(List.length x.snd.fst) : Int)) ∧ Wr (Bool.true = Bool.true) ∧ Wr (Bool.true = Bool.true) ∧ bcase
  (!(List.getD x.snd.fst (Int.toNat x_1.i) (Ty.zero MarkT)).fst) (Wr ((0 : Int) ≤ x_1.i) ∧ Wr (x_1.i < (↑(List.length x.snd.fst) : Int)) ∧ Wr (Bool.true = Bool.true) ∧ Wr (Bool.true = Bool.true) ∧ Wr ((!(!Decidable.decide
  ((List.getD x.snd.fst (Int.toNat x_1.i) (Ty.zero MarkT)).snd.fst = x_1.many) || Decidable.decide (x_1.many ≥ (↑(List.length x.fst) : Int)))) = Bool.true → (0 : Int) ≤ x_1.many) ∧ Wr ((!(!Decidable.decide ((List.getD
  x.snd.fst (Int.toNat x_1.i) (Ty.zero MarkT)).snd.fst = x_1.many) || Decidable.decide (x_1.many ≥ (↑(List.length x.fst) : Int)))) = Bool.true → x_1.many < (↑(List.length x.fst) : Int)) ∧ Wr ((!(!Decidable.decide
  ((List.getD x.snd.fst (Int.toNat x_1.i) (Ty.zero MarkT)).snd.fst = x_1.many) || Decidable.decide (x_1.many ≥ (↑(List.length x.fst) : Int)))) = Bool.true → Bool.true = Bool.true) ∧ Wr ((!(!Decidable.decide ((List.getD
  x.snd.fst (Int.toNat x_1.i) (Ty.zero MarkT)).snd.fst = x_1.many) || Decidable.decide (x_1.many ≥ (↑(List.length x.fst) : Int)))) = Bool.true → Bool.true = Bool.true) ∧ Wr ((!(!Decidable.decide ((List.getD x.snd.fst
  (Int.toNat x_1.i) (Ty.zero MarkT)).snd.fst = x_1.many) || Decidable.decide (x_1.many ≥ (↑(List.length x.fst) : Int)))) = Bool.true → (0 : Int) ≤ x_1.i) ∧ Wr ((!(!Decidable.decide ((List.getD x.snd.fst (Int.toNat x_1.i)
  (Ty.zero MarkT)).snd.fst = x_1.many) || Decidable.decide (x_1.many ≥ (↑(List.length x.fst) : Int)))) = Bool.true → x_1.i < (↑(List.length x.snd.fst) : Int)) ∧ Wr ((!(!Decidable.decide ((List.getD x.snd.fst (Int.toNat
  x_1.i) (Ty.zero MarkT)).snd.fst = x_1.many) || Decidable.decide (x_1.many ≥ (↑(List.length x.fst) : Int)))) = Bool.true → Bool.true = Bool.true) ∧ Wr ((!(!Decidable.decide ((List.getD x.snd.fst (Int.toNat x_1.i)
  (Ty.zero MarkT)).snd.fst = x_1.many) || Decidable.decide (x_1.many ≥ (↑(List.length x.fst) : Int)))) = Bool.true → Bool.true = Bool.true) ∧ bcase (!Decidable.decide ((List.getD x.snd.fst (Int.toNat x_1.i) (Ty.zero
  MarkT)).snd.fst = x_1.many) || Decidable.decide (x_1.many ≥ (↑(List.length x.fst) : Int)) || !Decidable.decide ((List.getD x.fst (Int.toNat x_1.many) (Ty.zero SockT)).snd.snd.fst = (List.getD x.snd.fst (Int.toNat x_1.i)
  (Ty.zero MarkT)).snd.snd.fst)) (((80 : Int), ()) = (Go.Sk.check x.fst x.snd.fst, ())) (Wr (RckI x.fst x.snd.fst (RckS.mk (IntKind.wrap IntKind.i64 (x_1.i + (1 : Int))) (IntKind.wrap IntKind.i64 (x_1.many + (1 : Int)))
  x_1.cnt)) ∧ Wr (List.length x.snd.fst - Int.toNat (IntKind.wrap IntKind.i64 (x_1.i + (1 : Int))) < List.length x.snd.fst - Int.toNat x_1.i) ∧ Wr (IntKind.wrap IntKind.i64 (x_1.many + (1 : Int)) = IntKind.wrap
  IntKind.i64 (x_1.many + (1 : Int))) ∧ Wr (IntKind.wrap IntKind.i64 (x_1.i + (1 : Int)) = IntKind.wrap IntKind.i64 (x_1.i + (1 : Int))) ∧ Wr (x.fst = x.fst) ∧ Wr (x.snd.fst = x.snd.fst) ∧ Wr (x_1.cnt = x_1.cnt))) (Wr ((0
  : Int) ≤ x_1.i) ∧ Wr (x_1.i < (↑(List.length x.snd.fst) : Int)) ∧ Wr (Bool.true = Bool.true) ∧ Wr (Bool.true = Bool.true) ∧ Wr ((!Decidable.decide ((List.getD x.snd.fst (Int.toNat x_1.i) (Ty.zero MarkT)).snd.fst < (0 :
  Int))) = Bool.true → (0 : Int) ≤ x_1.i) ∧ Wr ((!Decidable.decide ((List.getD x.snd.fst (Int.toNat x_1.i) (Ty.zero MarkT)).snd.fst < (0 : Int))) = Bool.true → x_1.i < (↑(List.length x.snd.fst) : Int)) ∧ Wr
  ((!Decidable.decide ((List.getD x.snd.fst (Int.toNat x_1.i) (Ty.zero MarkT)).snd.fst < (0 : Int))) = Bool.true → Bool.true = Bool.true) ∧ Wr ((!Decidable.decide ((List.getD x.snd.fst (Int.toNat x_1.i) (Ty.zero
  MarkT)).snd.fst < (0 : Int))) = Bool.true → Bool.true = Bool.true) ∧ bcase (Decidable.decide ((List.getD x.snd.fst (Int.toNat x_1.i) (Ty.zero MarkT)).snd.fst < (0 : Int)) || Decidable.decide ((List.getD x.snd.fst
  (Int.toNat x_1.i) (Ty.zero MarkT)).snd.fst ≥ x_1.many)) (((80 : Int), ()) = (Go.Sk.check x.fst x.snd.fst, ())) (Wr ((0 : Int) ≤ x_1.i) ∧ Wr (x_1.i < (↑(List.length x.snd.fst) : Int)) ∧ Wr (Bool.true = Bool.true) ∧ Wr
  (Bool.true = Bool.true) ∧ Wr ((0 : Int) ≤ (List.getD x.snd.fst (Int.toNat x_1.i) (Ty.zero MarkT)).snd.fst) ∧ Wr ((List.getD x.snd.fst (Int.toNat x_1.i) (Ty.zero MarkT)).snd.fst < (↑(List.length x_1.cnt) : Int)) ∧ Wr ((0
  : Int) ≤ (List.getD x.snd.fst (Int.toNat x_1.i) (Ty.zero MarkT)).snd.fst) ∧ Wr ((List.getD x.snd.fst (Int.toNat x_1.i) (Ty.zero MarkT)).snd.fst < (↑(List.length x_1.cnt) : Int)) ∧ Wr (RckI x.fst x.snd.fst (RckS.mk
  (IntKind.wrap IntKind.i64 (x_1.i + (1 : Int))) x_1.many (List.set x_1.cnt (Int.toNat (List.getD x.snd.fst (Int.toNat x_1.i) (Ty.zero MarkT)).snd.fst) (IntKind.wrap IntKind.i64 (List.getD x_1.cnt (Int.toNat (List.getD
  x.snd.fst (Int.toNat x_1.i) (Ty.zero MarkT)).snd.fst) (0 : Int) + (1 : Int)))))) ∧ Wr (List.length x.snd.fst - Int.toNat (IntKind.wrap IntKind.i64 (x_1.i + (1 : Int))) < List.length x.snd.fst - Int.toNat x_1.i) ∧ Wr
  (x_1.many = x_1.many) ∧ Wr (IntKind.wrap IntKind.i64 (x_1.i + (1 : Int)) = IntKind.wrap IntKind.i64 (x_1.i + (1 : Int))) ∧ Wr (x.fst = x.fst) ∧ Wr (x.snd.fst = x.snd.fst) ∧ Wr (List.set x_1.cnt (Int.toNat (List.getD
  x.snd.fst (Int.toNat x_1.i) (Ty.zero MarkT)).snd.fst) (IntKind.wrap IntKind.i64 (List.getD x_1.cnt (Int.toNat (List.getD x.snd.fst (Int.toNat x_1.i) (Ty.zero MarkT)).snd.fst) (0 : Int) + (1 : Int))) = List.set x_1.cnt
  (Int.toNat (List.getD x.snd.fst (Int.toNat x_1.i) (Ty.zero MarkT)).snd.fst) (IntKind.wrap IntKind.i64 (List.getD x_1.cnt (Int.toNat (List.getD x.snd.fst (Int.toNat x_1.i) (Ty.zero MarkT)).snd.fst) (0 : Int) + (1 :
  Int)))))))) (bcase (!Decidable.decide (x_1.many = (↑(List.length x.fst) : Int))) (((80 : Int), ()) = (Go.Sk.check x.fst x.snd.fst, ())) ((Wr (Rck2I x.fst x.snd.fst (0 : Int) x_1.cnt) ∧ Wr ((0 : Int) = (0 : Int)) ∧ Wr
  (x.fst = x.fst) ∧ Wr (x.snd.fst = x.snd.fst) ∧ Wr (x_1.cnt = x_1.cnt)) ∧ ∀ (x_2 : Int × List Int), Wr (Rck2I x.fst x.snd.fst x_2.fst x_2.snd) → bcase (Decidable.decide (x_2.fst < (↑(List.length x.fst) : Int))) (Wr ((0 :
  Int) ≤ x_2.fst) ∧ Wr (x_2.fst < (↑(List.length x.fst) : Int)) ∧ Wr (Bool.true = Bool.true) ∧ Wr (Bool.true = Bool.true) ∧ Wr ((0 : Int) ≤ x_2.fst) ∧ Wr (x_2.fst < (↑(List.length x_2.snd) : Int)) ∧ bcase
  (!Decidable.decide ((List.getD x.fst (Int.toNat x_2.fst) (Ty.zero SockT)).snd.snd.snd.fst = List.getD x_2.snd (Int.toNat x_2.fst) (0 : Int))) (((80 : Int), ()) = (Go.Sk.check x.fst x.snd.fst, ())) (Wr (Rck2I x.fst
  x.snd.fst (IntKind.wrap IntKind.i64 (x_2.fst + (1 : Int))) x_2.snd) ∧ Wr (List.length x.fst - Int.toNat (IntKind.wrap IntKind.i64 (x_2.fst + (1 : Int))) < List.length x.fst - Int.toNat x_2.fst) ∧ Wr (IntKind.wrap
  IntKind.i64 (x_2.fst + (1 : Int)) = IntKind.wrap IntKind.i64 (x_2.fst + (1 : Int))) ∧ Wr (x.fst = x.fst) ∧ Wr (x.snd.fst = x.snd.fst) ∧ Wr (x_2.snd = x_2.snd))) (((0 : Int), ()) = (Go.Sk.check x.fst x.snd.fst, ()))))) := by kernel_rfl
theorem v39_eq : vcFn g39 300 Tryz.f39 (cSameL SockT) = ( ∀ (x : List ((Int × (Int × Int × Int × Int × Int × Int × Int × Int × Unit) × Int × Unit) × Int × Int × Int × Bool × Unit) × List ((Int × (Int × Int × Int × Int × Int × Int × Int × Int × Unit) × Int × Unit) × Int × Int ×
  Int × Bool × Unit) × Unit), Wr (x.fst = x.snd.fst ∧ List.length x.fst ≤ (140737488355328 : Nat)) → bcase (!Decidable.decide ((↑(List.length x.fst) : Int) = (↑(List.length x.snd.fst) : Int))) ((Bool.false, ()) =
  (Bool.true, ())) ((Wr ((0 : Int) ≤ (0 : Int) ∧ (0 : Int) ≤ (↑(List.length x.fst) : Int)) ∧ Wr ((0 : Int) = (0 : Int)) ∧ Wr (x.fst = x.fst) ∧ Wr (x.snd.fst = x.snd.fst)) ∧ ∀ (x_1 : Int), Wr ((0 : Int) ≤ x_1 ∧ x_1 ≤
  (↑(List.length x.fst) : Int)) → bcase (Decidable.decide (x_1 < (↑(List.length x.fst) : Int))) (Wr ((0 : Int) ≤ x_1) ∧ Wr (x_1 < (↑(List.length x.fst) : Int)) ∧ Wr (Bool.true = Bool.true) ∧ Wr ((0 : Int) ≤ x_1) ∧ Wr (x_1
  < (↑(List.length x.snd.fst) : Int)) ∧ Wr (Bool.true = Bool.true) ∧ bcase (!Ty.eqb (Ty.cons (Ty.cons (Ty.int IntKind.i8) (Ty.cons (Ty.arr (8 : Nat) (Ty.int IntKind.u16)) (Ty.cons (Ty.int IntKind.i64) Ty.unit))) (Ty.cons
  (Ty.int IntKind.i64) (Ty.cons (Ty.int IntKind.i64) (Ty.cons (Ty.int IntKind.i64) (Ty.cons Ty.bool Ty.unit))))) (List.getD x.fst (Int.toNat x_1) (Ty.zero SockT)) (List.getD x.snd.fst (Int.toNat x_1) (Ty.zero SockT)))
  ((Bool.false, ()) = (Bool.true, ())) (Wr ((0 : Int) ≤ IntKind.wrap IntKind.i64 (x_1 + (1 : Int)) ∧ IntKind.wrap IntKind.i64 (x_1 + (1 : Int)) ≤ (↑(List.length x.fst) : Int)) ∧ Wr (List.length x.fst - Int.toNat
  (IntKind.wrap IntKind.i64 (x_1 + (1 : Int))) < List.length x.fst - Int.toNat x_1) ∧ Wr (IntKind.wrap IntKind.i64 (x_1 + (1 : Int)) = IntKind.wrap IntKind.i64 (x_1 + (1 : Int))) ∧ Wr (x.fst = x.fst) ∧ Wr (x.snd.fst =
  x.snd.fst))) ((Bool.true, ()) = (Bool.true, ())))) := by kernel_rfl
theorem v40_eq : vcFn g40 300 Tryz.f40 (cSameL MarkT) = ( ∀ (x : List (Bool × Int × Int × Unit) × List (Bool × Int × Int × Unit) × Unit), Wr (x.fst = x.snd.fst ∧ List.length x.fst ≤ (140737488355328 : Nat)) → bcase (!Decidable.decide ((↑(List.length x.fst) : Int) =
  (↑(List.length x.snd.fst) : Int))) ((Bool.false, ()) = (Bool.true, ())) ((Wr ((0 : Int) ≤ (0 : Int) ∧ (0 : Int) ≤ (↑(List.length x.fst) : Int)) ∧ Wr ((0 : Int) = (0 : Int)) ∧ Wr (x.fst = x.fst) ∧ Wr (x.snd.fst =
  x.snd.fst)) ∧ ∀ (x_1 : Int), Wr ((0 : Int) ≤ x_1 ∧ x_1 ≤ (↑(List.length x.fst) : Int)) → bcase (Decidable.decide (x_1 < (↑(List.length x.fst) : Int))) (Wr ((0 : Int) ≤ x_1) ∧ Wr (x_1 < (↑(List.length x.fst) : Int)) ∧ Wr
  (Bool.true = Bool.true) ∧ Wr ((0 : Int) ≤ x_1) ∧ Wr (x_1 < (↑(List.length x.snd.fst) : Int)) ∧ Wr (Bool.true = Bool.true) ∧ bcase (!Ty.eqb (Ty.cons Ty.bool (Ty.cons (Ty.int IntKind.i64) (Ty.cons (Ty.int IntKind.i64)
  Ty.unit))) (List.getD x.fst (Int.toNat x_1) (Ty.zero MarkT)) (List.getD x.snd.fst (Int.toNat x_1) (Ty.zero MarkT))) ((Bool.false, ()) = (Bool.true, ())) (Wr ((0 : Int) ≤ IntKind.wrap IntKind.i64 (x_1 + (1 : Int)) ∧
  IntKind.wrap IntKind.i64 (x_1 + (1 : Int)) ≤ (↑(List.length x.fst) : Int)) ∧ Wr (List.length x.fst - Int.toNat (IntKind.wrap IntKind.i64 (x_1 + (1 : Int))) < List.length x.fst - Int.toNat x_1) ∧ Wr (IntKind.wrap
  IntKind.i64 (x_1 + (1 : Int)) = IntKind.wrap IntKind.i64 (x_1 + (1 : Int))) ∧ Wr (x.fst = x.fst) ∧ Wr (x.snd.fst = x.snd.fst))) ((Bool.true, ()) = (Bool.true, ())))) := by kernel_rfl
theorem v41_eq : vcFn g41 300 Tryz.f41 (cSameL DialT) = ( ∀ (x : List (Int × (Int × (Int × Int × Int × Int × Int × Int × Int × Int × Unit) × Int × Unit) × Int × Bool × Bool × Unit) × List (Int × (Int × (Int × Int × Int × Int × Int × Int × Int × Int × Unit) × Int × Unit) × Int ×
  Bool × Bool × Unit) × Unit), Wr (x.fst = x.snd.fst ∧ List.length x.fst ≤ (140737488355328 : Nat)) → bcase (!Decidable.decide ((↑(List.length x.fst) : Int) = (↑(List.length x.snd.fst) : Int))) ((Bool.false, ()) =
  (Bool.true, ())) ((Wr ((0 : Int) ≤ (0 : Int) ∧ (0 : Int) ≤ (↑(List.length x.fst) : Int)) ∧ Wr ((0 : Int) = (0 : Int)) ∧ Wr (x.fst = x.fst) ∧ Wr (x.snd.fst = x.snd.fst)) ∧ ∀ (x_1 : Int), Wr ((0 : Int) ≤ x_1 ∧ x_1 ≤
  (↑(List.length x.fst) : Int)) → bcase (Decidable.decide (x_1 < (↑(List.length x.fst) : Int))) (Wr ((0 : Int) ≤ x_1) ∧ Wr (x_1 < (↑(List.length x.fst) : Int)) ∧ Wr (Bool.true = Bool.true) ∧ Wr ((0 : Int) ≤ x_1) ∧ Wr (x_1
  < (↑(List.length x.snd.fst) : Int)) ∧ Wr (Bool.true = Bool.true) ∧ bcase (!Ty.eqb (Ty.cons (Ty.int IntKind.i64) (Ty.cons (Ty.cons (Ty.int IntKind.i8) (Ty.cons (Ty.arr (8 : Nat) (Ty.int IntKind.u16)) (Ty.cons (Ty.int
  IntKind.i64) Ty.unit))) (Ty.cons (Ty.int IntKind.i8) (Ty.cons Ty.bool (Ty.cons Ty.bool Ty.unit))))) (List.getD x.fst (Int.toNat x_1) (Ty.zero DialT)) (List.getD x.snd.fst (Int.toNat x_1) (Ty.zero DialT))) ((Bool.false,
  ()) = (Bool.true, ())) (Wr ((0 : Int) ≤ IntKind.wrap IntKind.i64 (x_1 + (1 : Int)) ∧ IntKind.wrap IntKind.i64 (x_1 + (1 : Int)) ≤ (↑(List.length x.fst) : Int)) ∧ Wr (List.length x.fst - Int.toNat (IntKind.wrap
  IntKind.i64 (x_1 + (1 : Int))) < List.length x.fst - Int.toNat x_1) ∧ Wr (IntKind.wrap IntKind.i64 (x_1 + (1 : Int)) = IntKind.wrap IntKind.i64 (x_1 + (1 : Int))) ∧ Wr (x.fst = x.fst) ∧ Wr (x.snd.fst = x.snd.fst)))
  ((Bool.true, ()) = (Bool.true, ())))) := by kernel_rfl
theorem v42_eq : vcFn g42 300 Tryz.f42 (cSameL LookT) = ( ∀ (x : List (Int × ByteArray × Int × Bool × Unit) × List (Int × ByteArray × Int × Bool × Unit) × Unit), Wr (x.fst = x.snd.fst ∧ List.length x.fst ≤ (140737488355328 : Nat)) → bcase (!Decidable.decide ((↑(List.length
  x.fst) : Int) = (↑(List.length x.snd.fst) : Int))) ((Bool.false, ()) = (Bool.true, ())) ((Wr ((0 : Int) ≤ (0 : Int) ∧ (0 : Int) ≤ (↑(List.length x.fst) : Int)) ∧ Wr ((0 : Int) = (0 : Int)) ∧ Wr (x.fst = x.fst) ∧ Wr
  (x.snd.fst = x.snd.fst)) ∧ ∀ (x_1 : Int), Wr ((0 : Int) ≤ x_1 ∧ x_1 ≤ (↑(List.length x.fst) : Int)) → bcase (Decidable.decide (x_1 < (↑(List.length x.fst) : Int))) (Wr ((0 : Int) ≤ x_1) ∧ Wr (x_1 < (↑(List.length x.fst)
  : Int)) ∧ Wr (Bool.true = Bool.true) ∧ Wr ((0 : Int) ≤ x_1) ∧ Wr (x_1 < (↑(List.length x.snd.fst) : Int)) ∧ Wr (Bool.true = Bool.true) ∧ bcase (!Ty.eqb (Ty.cons (Ty.int IntKind.i64) (Ty.cons Ty.str (Ty.cons (Ty.int
  IntKind.i64) (Ty.cons Ty.bool Ty.unit)))) (List.getD x.fst (Int.toNat x_1) (Ty.zero LookT)) (List.getD x.snd.fst (Int.toNat x_1) (Ty.zero LookT))) ((Bool.false, ()) = (Bool.true, ())) (Wr ((0 : Int) ≤ IntKind.wrap
  IntKind.i64 (x_1 + (1 : Int)) ∧ IntKind.wrap IntKind.i64 (x_1 + (1 : Int)) ≤ (↑(List.length x.fst) : Int)) ∧ Wr (List.length x.fst - Int.toNat (IntKind.wrap IntKind.i64 (x_1 + (1 : Int))) < List.length x.fst - Int.toNat
  x_1) ∧ Wr (IntKind.wrap IntKind.i64 (x_1 + (1 : Int)) = IntKind.wrap IntKind.i64 (x_1 + (1 : Int))) ∧ Wr (x.fst = x.fst) ∧ Wr (x.snd.fst = x.snd.fst))) ((Bool.true, ()) = (Bool.true, ())))) := by kernel_rfl
theorem v92_eq : vcFn g92 300 Tryz.f92 (cSameL I64) = ( ∀ (x : List Int × List Int × Unit), Wr (x.fst = x.snd.fst ∧ List.length x.fst ≤ (140737488355328 : Nat)) → bcase (!Decidable.decide ((↑(List.length x.fst) : Int) = (↑(List.length x.snd.fst) : Int))) ((Bool.false, ()) =
  (Bool.true, ())) ((Wr ((0 : Int) ≤ (0 : Int) ∧ (0 : Int) ≤ (↑(List.length x.fst) : Int)) ∧ Wr ((0 : Int) = (0 : Int)) ∧ Wr (x.fst = x.fst) ∧ Wr (x.snd.fst = x.snd.fst)) ∧ ∀ (x_1 : Int), Wr ((0 : Int) ≤ x_1 ∧ x_1 ≤
  (↑(List.length x.fst) : Int)) → bcase (Decidable.decide (x_1 < (↑(List.length x.fst) : Int))) (Wr ((0 : Int) ≤ x_1) ∧ Wr (x_1 < (↑(List.length x.fst) : Int)) ∧ Wr (Bool.true = Bool.true) ∧ Wr ((0 : Int) ≤ x_1) ∧ Wr (x_1
  < (↑(List.length x.snd.fst) : Int)) ∧ Wr (Bool.true = Bool.true) ∧ bcase (!Decidable.decide (List.getD x.fst (Int.toNat x_1) (0 : Int) = List.getD x.snd.fst (Int.toNat x_1) (0 : Int))) ((Bool.false, ()) = (Bool.true,
  ())) (Wr ((0 : Int) ≤ IntKind.wrap IntKind.i64 (x_1 + (1 : Int)) ∧ IntKind.wrap IntKind.i64 (x_1 + (1 : Int)) ≤ (↑(List.length x.fst) : Int)) ∧ Wr (List.length x.fst - Int.toNat (IntKind.wrap IntKind.i64 (x_1 + (1 :
  Int))) < List.length x.fst - Int.toNat x_1) ∧ Wr (IntKind.wrap IntKind.i64 (x_1 + (1 : Int)) = IntKind.wrap IntKind.i64 (x_1 + (1 : Int))) ∧ Wr (x.fst = x.fst) ∧ Wr (x.snd.fst = x.snd.fst))) ((Bool.true, ()) =
  (Bool.true, ())))) := by kernel_rfl
end Go.Proofs.YtfhlceooobabcaaGreatDoor.Wd
set_option linter.all false
namespace Go.Proofs.YtfhlceooobabcaaGreatDoor.Wd
open Go Go.Eng Go.Lb Go.Ad
set_option maxRecDepth 100000
set_option maxHeartbeats 4000000

theorem v95 : Vc g95 300 Tryz.f95 (cClone 111 64 SockT) := by
  constructor
  rw [v95_eq]
  simp only [Wr_iff, bcase_iff, true_and, and_true, decide_eq_true_eq, decide_eq_false_iff_not, Bool.and_eq_true, Bool.and_eq_false_iff, Bool.or_eq_true, Bool.or_eq_false_iff, Bool.not_eq_true', Bool.not_eq_false', Option.map_some, Option.getD_some, Option.isSome_some, Option.isSome_map, imp_self, nilL, noneO]
  intro x hx b hb
  exact ⟨hb, fun _ => ⟨by simp; omega, rfl⟩⟩
theorem v131 : Vc g131 300 Tryz.f131 cOpenT := by
  constructor
  rw [v131_eq]
  exact fun x _ => rfl
theorem inR_iff (n : Int) (l : List Sk) : Sk.inR n l = true ↔ 0 ≤ n ∧ n < l.length := by simp [Sk.inR]
theorem opens_iff (l : List Sk) (n : Int) : Sk.opens l n = true ↔ (0 ≤ n ∧ n < l.length) ∧ Sk.isOpen (l.getD n.toNat SockT.zero) = true := by
  simp only [Sk.opens, Bool.and_eq_true, inR_iff]
theorem v94 : Vc g94 300 Tryz.f94 cIsOpen := by
  constructor
  rw [v94_eq]
  simp only [Wr_iff, bcase_iff, true_and, and_true, decide_eq_true_eq, decide_eq_false_iff_not, Bool.and_eq_true, Bool.and_eq_false_iff, Bool.or_eq_true, Bool.or_eq_false_iff, Bool.not_eq_true', Bool.not_eq_false', Option.map_some, Option.getD_some, Option.isSome_some, Option.isSome_map, imp_self, nilL, noneO]
  rintro ⟨l, ns, ⟨⟩⟩ hx
  dsimp only at hx ⊢
  have hl5 : ns.length ≤ 5000000000 := by omega
  refine ⟨IdxI.zero _ _, fun i hu => ⟨fun hi => ⟨hu.i0, hi, fun h => by omega, fun h => by omega, fun _ => trivial, fun _ => trivial, fun h => pr ?_, fun h => ?_⟩, fun hi => pr (hu.good hi).symm⟩⟩
  · refine (hu.bad (z := 0) hi (no_of (opens_iff l _) fun ho => ?_)).symm
    rcases h with h | h
    · omega
    · exact absurd (ho.2.symm.trans h) (by decide)
  · exact hu.onN 0 hl5 hi ((opens_iff l _).2 ⟨by omega, h.2⟩)
theorem v57 : Vc g57 300 Tryz.f57 cShutS := by
  constructor
  rw [v57_eq]
  simp only [Wr_iff, bcase_iff, true_and, and_true, decide_eq_true_eq, decide_eq_false_iff_not, Bool.and_eq_true, Bool.and_eq_false_iff, Bool.or_eq_true, Bool.or_eq_false_iff, Bool.not_eq_true', Bool.not_eq_false', Option.map_some, Option.getD_some, Option.isSome_some, Option.isSome_map, imp_self, nilL, noneO]
  rintro ⟨l, m, n, now, ⟨⟩⟩ hx
  dsimp only at hx ⊢
  simp only [okSM, Bool.and_eq_true, decide_eq_true_eq] at hx
  have hr := inR_iff n l
  refine ⟨fun h => ?_, fun h => ?_⟩
  · simp only [Sk.shA, Sk.shB, Sk.shE]; rw [if_neg (by rw [hr]; omega), if_neg (by rw [hr]; omega), if_neg (by rw [hr]; omega)]
  · simp only [Sk.shA, Sk.shB, Sk.shE]; rw [if_pos (by rw [hr]; omega), if_pos (by rw [hr]; omega), if_pos (by rw [hr]; omega)]
    refine ⟨by omega, by omega, by omega, by omega, by omega, by simp; omega, by simp, ?_⟩
    rfl
theorem v43 : Vc g43 300 Tryz.f43 cDropS := by
  constructor
  rw [v43_eq]
  simp only [Wr_iff, bcase_iff, true_and, and_true, decide_eq_true_eq, decide_eq_false_iff_not, Bool.and_eq_true, Bool.and_eq_false_iff, Bool.or_eq_true, Bool.or_eq_false_iff, Bool.not_eq_true', Bool.not_eq_false', Option.map_some, Option.getD_some, Option.isSome_some, Option.isSome_map, imp_self, nilL, noneO]
  rintro ⟨l, n, ⟨⟩⟩ hx
  dsimp only at hx ⊢
  simp only [okN, decide_eq_true_eq] at hx
  refine ⟨by simp, fun h => ?_, fun h => ?_⟩
  · simp only [Sk.drA, Sk.drE]; rw [if_neg (by simpa using h), if_neg (by simpa using h)]
  · have h' : Sk.opens l n = true := by simpa using h
    simp only [Sk.drA, Sk.drE]
    rw [if_pos h', if_pos h']
    have h2 := ((opens_iff l n).1 h').1
    refine ⟨by omega, by omega, by omega, ?_⟩
    rfl
theorem v13 : Vc g13 300 Tryz.f13 cTick := by
  constructor
  rw [v13_eq]
  simp only [Wr_iff, bcase_iff, true_and, and_true, decide_eq_true_eq, decide_eq_false_iff_not, Bool.and_eq_true, Bool.and_eq_false_iff, Bool.or_eq_true, Bool.or_eq_false_iff, Bool.not_eq_true', Bool.not_eq_false', Option.map_some, Option.getD_some, Option.isSome_some, Option.isSome_map, imp_self, nilL, noneO]
  rintro ⟨w, ⟨⟩⟩ _
  dsimp only
  refine ⟨fun h => ?_, fun h => ?_⟩
  · simp only [tickW, tickE, decide_eq_true h]; rfl
  · simp only [tickW, tickE, decide_eq_false h]; rfl
theorem v15 : Vc g15 300 Tryz.f15 cDropW := by
  constructor
  rw [v15_eq]
  simp only [Wr_iff, bcase_iff, true_and, and_true, decide_eq_true_eq, decide_eq_false_iff_not, Bool.and_eq_true, Bool.and_eq_false_iff, Bool.or_eq_true, Bool.or_eq_false_iff, Bool.not_eq_true', Bool.not_eq_false', Option.map_some, Option.getD_some, Option.isSome_some, Option.isSome_map, imp_self, nilL, noneO]
  rintro ⟨w, ⟨⟩⟩ hx
  dsimp only at hx ⊢
  have cd : canDrop w = true ↔ 0 ≤ w.2.2.2.2.2.1 ∧ w.2.2.2.2.2.1 < (w.1.2.2.2.1.length : Int) := by simp [canDrop]
  refine ⟨fun h => ?_, fun h => ⟨by omega, by omega, hx, fun hd => ?_, fun hd => ?_⟩⟩
  · have e : canDrop w = false := no_of cd (by omega)
    rw [dropW, dropE, e]; rfl
  · have e : canDrop w = true := cd.2 (by omega)
    have hd' : Sk.drE w.2.2.1 (dropN w) = 0 := hd
    rw [dropW, dropE, e, hd']; rfl
  · have e : canDrop w = true := cd.2 (by omega)
    have hd' : ¬ Sk.drE w.2.2.1 (dropN w) = 0 := hd
    rw [dropW, dropE, e, decide_eq_false hd']; rfl
theorem v22 : Vc g22 300 Tryz.f22 cShutW := by
  constructor
  rw [v22_eq]
  simp only [Wr_iff, bcase_iff, true_and, and_true, decide_eq_true_eq, decide_eq_false_iff_not, Bool.and_eq_true, Bool.and_eq_false_iff, Bool.or_eq_true, Bool.or_eq_false_iff, Bool.not_eq_true', Bool.not_eq_false', Option.map_some, Option.getD_some, Option.isSome_some, Option.isSome_map, imp_self, nilL, noneO]
  rintro ⟨w, n, ⟨⟩⟩ hx
  dsimp only at hx ⊢
  have hw := (okW_iff w).1 hx
  refine ⟨?_, fun hd => ?_, fun hd => ?_⟩
  · simp only [okSM, Bool.and_eq_true, decide_eq_true_eq]; exact ⟨hw.2.1, hw.2.2.1⟩
  · have hd' : ¬ shutE w n = 0 := hd
    rw [shutW, decide_eq_false hd']; rfl
  · have hd' : shutE w n = 0 := hd
    rw [shutW, hd']; rfl
theorem eqb_self (t : Ty) (hk : keyable t = true) (x : t.El) : t.eqb x x = true := (eqb_iff t hk x x).2 rfl
theorem v39 : Vc g39 300 Tryz.f39 (cSameL SockT) := by
  constructor
  rw [v39_eq]
  simp only [Wr_iff, bcase_iff, true_and, and_true, decide_eq_true_eq, decide_eq_false_iff_not, Bool.and_eq_true, Bool.and_eq_false_iff, Bool.or_eq_true, Bool.or_eq_false_iff, Bool.not_eq_true', Bool.not_eq_false', Option.map_some, Option.getD_some, Option.isSome_some, Option.isSome_map, imp_self, nilL, noneO]
  rintro ⟨l, m, ⟨⟩⟩ hx
  dsimp only at hx ⊢
  obtain ⟨rfl, hl⟩ := hx
  refine ⟨fun h => absurd rfl h, fun _ => ⟨⟨by omega, by omega⟩, fun i hu => ⟨fun hi => ⟨hu.1, hi, hu.1, hi, fun h => ?_, fun _ => ?_⟩, fun _ => trivial⟩⟩⟩
  · exfalso
    exact absurd ((eqb_self SockT (by decide) _).symm.trans h) (by decide)
  · have e : IntKind.wrap .i64 (i + 1) = i + 1 := w64 (by omega) (by omega)
    rw [e]
    omega
theorem v40 : Vc g40 300 Tryz.f40 (cSameL MarkT) := by
  constructor
  rw [v40_eq]
  simp only [Wr_iff, bcase_iff, true_and, and_true, decide_eq_true_eq, decide_eq_false_iff_not, Bool.and_eq_true, Bool.and_eq_false_iff, Bool.or_eq_true, Bool.or_eq_false_iff, Bool.not_eq_true', Bool.not_eq_false', Option.map_some, Option.getD_some, Option.isSome_some, Option.isSome_map, imp_self, nilL, noneO]
  rintro ⟨l, m, ⟨⟩⟩ hx
  dsimp only at hx ⊢
  obtain ⟨rfl, hl⟩ := hx
  refine ⟨fun h => absurd rfl h, fun _ => ⟨⟨by omega, by omega⟩, fun i hu => ⟨fun hi => ⟨hu.1, hi, hu.1, hi, fun h => ?_, fun _ => ?_⟩, fun _ => trivial⟩⟩⟩
  · exfalso
    exact absurd ((eqb_self MarkT (by decide) _).symm.trans h) (by decide)
  · have e : IntKind.wrap .i64 (i + 1) = i + 1 := w64 (by omega) (by omega)
    rw [e]
    omega
theorem v41 : Vc g41 300 Tryz.f41 (cSameL DialT) := by
  constructor
  rw [v41_eq]
  simp only [Wr_iff, bcase_iff, true_and, and_true, decide_eq_true_eq, decide_eq_false_iff_not, Bool.and_eq_true, Bool.and_eq_false_iff, Bool.or_eq_true, Bool.or_eq_false_iff, Bool.not_eq_true', Bool.not_eq_false', Option.map_some, Option.getD_some, Option.isSome_some, Option.isSome_map, imp_self, nilL, noneO]
  rintro ⟨l, m, ⟨⟩⟩ hx
  dsimp only at hx ⊢
  obtain ⟨rfl, hl⟩ := hx
  refine ⟨fun h => absurd rfl h, fun _ => ⟨⟨by omega, by omega⟩, fun i hu => ⟨fun hi => ⟨hu.1, hi, hu.1, hi, fun h => ?_, fun _ => ?_⟩, fun _ => trivial⟩⟩⟩
  · exfalso
    exact absurd ((eqb_self DialT (by decide) _).symm.trans h) (by decide)
  · have e : IntKind.wrap .i64 (i + 1) = i + 1 := w64 (by omega) (by omega)
    rw [e]
    omega
theorem v42 : Vc g42 300 Tryz.f42 (cSameL LookT) := by
  constructor
  rw [v42_eq]
  simp only [Wr_iff, bcase_iff, true_and, and_true, decide_eq_true_eq, decide_eq_false_iff_not, Bool.and_eq_true, Bool.and_eq_false_iff, Bool.or_eq_true, Bool.or_eq_false_iff, Bool.not_eq_true', Bool.not_eq_false', Option.map_some, Option.getD_some, Option.isSome_some, Option.isSome_map, imp_self, nilL, noneO]
  rintro ⟨l, m, ⟨⟩⟩ hx
  dsimp only at hx ⊢
  obtain ⟨rfl, hl⟩ := hx
  refine ⟨fun h => absurd rfl h, fun _ => ⟨⟨by omega, by omega⟩, fun i hu => ⟨fun hi => ⟨hu.1, hi, hu.1, hi, fun h => ?_, fun _ => ?_⟩, fun _ => trivial⟩⟩⟩
  · exfalso
    exact absurd ((eqb_self LookT (by decide) _).symm.trans h) (by decide)
  · have e : IntKind.wrap .i64 (i + 1) = i + 1 := w64 (by omega) (by omega)
    rw [e]
    omega
theorem v92 : Vc g92 300 Tryz.f92 (cSameL I64) := by
  constructor
  rw [v92_eq]
  simp only [Wr_iff, bcase_iff, true_and, and_true, decide_eq_true_eq, decide_eq_false_iff_not, Bool.and_eq_true, Bool.and_eq_false_iff, Bool.or_eq_true, Bool.or_eq_false_iff, Bool.not_eq_true', Bool.not_eq_false', Option.map_some, Option.getD_some, Option.isSome_some, Option.isSome_map, imp_self, nilL, noneO]
  rintro ⟨l, m, ⟨⟩⟩ hx
  dsimp only at hx ⊢
  obtain ⟨rfl, hl⟩ := hx
  refine ⟨fun h => absurd rfl h, fun _ => ⟨⟨by omega, by omega⟩, fun i hu => ⟨fun hi => ⟨hu.1, hi, hu.1, hi, fun h => absurd rfl h, fun _ => ?_⟩, fun _ => trivial⟩⟩⟩
  have e : IntKind.wrap .i64 (i + 1) = i + 1 := w64 (by omega) (by omega)
  rw [e]
  omega
theorem drop_cons' (m : List Mk) (i : Int) (h0 : 0 ≤ i) (h : i < m.length) : m.drop i.toNat = m.getD i.toNat MarkT.zero :: m.drop (i + 1).toNat := by
  have h' : i.toNat < m.length := by omega
  have e : (i + 1).toNat = i.toNat + 1 := by omega
  rw [e, List.drop_eq_getElem_cons h']
  congr 1
  show _ = m.getD i.toNat (MarkT.zero : Mk)
  rw [List.getD_eq_getElem?_getD, List.getElem?_eq_getElem h']
  rfl
theorem ck_bad {l : List Sk} {m : List Mk} {a : Int} {b : List Int} (h : Sk.ckGo l m true 0 0 (List.replicate l.length 0) = (true, a, b)) : Sk.check l m = 80 := by
  simp [Sk.check, h]
theorem rck_go {l : List Sk} {m : List Mk} {x : RckS} (h : RckI l m x) (hi : x.i < m.length) {y : Mk} (hy : y = m.getD x.i.toNat MarkT.zero) :
    Sk.ckGo l (y :: m.drop (x.i + 1).toNat) (decide (x.i = 0)) x.many (lastM m x.i) x.cnt = Sk.ckGo l m true 0 0 (List.replicate l.length 0) := by
  have := h.go
  rw [drop_cons' m x.i h.i0 hi] at this
  rw [hy]; exact this
theorem lastM_pos {m : List Mk} {i : Int} (h : 0 < i) : lastM m i = (m.getD (i - 1).toNat MarkT.zero).2.2.1 := by
  unfold lastM
  rw [decide_eq_false (by omega)]
  rfl
section
variable {l : List Sk} {m : List Mk} {x : RckS} {y : Mk}
theorem rck_back (h : RckI l m x) (hi : x.i < m.length) (hy : y = m.getD x.i.toNat MarkT.zero) (h1 : 0 < x.i) (h2 : y.2.2.1 < (m.getD (x.i - 1).toNat MarkT.zero).2.2.1) : Sk.check l m = 80 := by
  have e := rck_go h hi hy
  generalize hQ : Sk.ckGo l m true 0 0 (List.replicate l.length 0) = Q at e
  rw [Sk.ckGo] at e
  rw [lastM_pos h1, decide_eq_false (show ¬ x.i = 0 by omega), decide_eq_true h2] at e
  exact ck_bad (hQ.trans e.symm)
theorem rck_in (h : RckI l m x) (hi : x.i < m.length) (hy : y = m.getD x.i.toNat MarkT.zero) (hb : ¬ 0 < x.i ∨ ¬ y.2.2.1 < (m.getD (x.i - 1).toNat MarkT.zero).2.2.1) :
    (if y.1 then if decide (y.2.1 < 0) || decide (y.2.1 ≥ x.many) then (true, x.many, x.cnt) else Sk.ckGo l (m.drop (x.i + 1).toNat) false x.many y.2.2.1 (x.cnt.set y.2.1.toNat (x.cnt.getD y.2.1.toNat 0 + 1))
    else if decide (y.2.1 ≠ x.many) || decide (x.many ≥ l.length) || decide (Sk.openedOf (l.getD x.many.toNat SockT.zero) ≠ y.2.2.1) then (true, x.many + 1, x.cnt)
    else Sk.ckGo l (m.drop (x.i + 1).toNat) false (x.many + 1) y.2.2.1 x.cnt) = Sk.ckGo l m true 0 0 (List.replicate l.length 0) := by
  have e := rck_go h hi hy
  generalize Sk.ckGo l m true 0 0 (List.replicate l.length 0) = Q at e ⊢
  rw [Sk.ckGo] at e
  have hf : (!decide (x.i = 0) && decide (y.2.2.1 < lastM m x.i)) = false := by
    by_cases h0 : x.i = 0
    · simp [h0]
    · have hp : 0 < x.i := by have := h.i0; omega
      rw [lastM_pos hp]
      rcases hb with hb | hb
      · exact absurd hp hb
      · rw [decide_eq_false hb, Bool.and_false]
  rw [hf] at e
  exact e
theorem rck_mk (h : RckI l m x) (hi : x.i < m.length) (hy : y = m.getD x.i.toNat MarkT.zero) {many : Int} {cnt : List Int} (h1 : cnt.length = l.length) (h2 : 0 ≤ many) (h3 : many ≤ l.length) (h4 : ∀ c ∈ cnt, 0 ≤ c ∧ c ≤ x.i + 1)
    (e : Sk.ckGo l (m.drop (x.i + 1).toNat) false many y.2.2.1 cnt = Sk.ckGo l m true 0 0 (List.replicate l.length 0)) : RckI l m ⟨x.i + 1, many, cnt⟩ := by
  have h0 := h.i0
  refine ⟨by simp only; omega, by simp only; omega, h1, h2, h3, h4, ?_⟩
  simp only
  rw [lastM_pos (show 0 < x.i + 1 by omega), decide_eq_false (show ¬ x.i + 1 = 0 by omega), show x.i + 1 - 1 = x.i by omega, ← hy]
  exact e
end
theorem ck_end {l : List Sk} {m : List Mk} {x : RckS} (h : RckI l m x) (hi : ¬ x.i < m.length) : (¬ x.many = l.length → Sk.check l m = 80) ∧ (x.many = l.length → Rck2I l m 0 x.cnt) := by
  have e := h.go
  rw [List.drop_eq_nil_of_le (by omega), Sk.ckGo] at e
  have hc : Sk.check l m = if (Sk.mism l x.cnt || decide (x.many ≠ l.length)) = true then 80 else 0 := by
    unfold Sk.check
    rw [← e]
    rfl
  refine ⟨fun hn => ?_, fun hn => ⟨by omega, by omega, h.cnt, ?_, fun k hk => by omega⟩⟩
  · rw [hc, decide_eq_true hn, Bool.or_true]; rfl
  · rw [hc, decide_eq_false (by simpa using hn), Bool.or_false]
    cases Sk.mism l x.cnt <;> rfl
theorem mism_iff (l : List Sk) (c : List Int) : Sk.mism l c = true ↔ ∃ k : Nat, k < l.length ∧ Sk.shutOf (l.getD k SockT.zero) ≠ c.getD k 0 := by
  simp only [Sk.mism, List.any_eq_true, List.mem_range, decide_eq_true_eq]
theorem v23 : Vc g23 300 Tryz.f23 cCheckS := by
  constructor
  rw [v23_eq]
  simp only [Wr_iff, bcase_iff, true_and, and_true, decide_eq_true_eq, decide_eq_false_iff_not, Bool.and_eq_true, Bool.and_eq_false_iff, Bool.or_eq_true, Bool.or_eq_false_iff, Bool.not_eq_true', Bool.not_eq_false', Option.map_some, Option.getD_some, Option.isSome_some, Option.isSome_map, imp_self, nilL, noneO]
  rintro ⟨l, m, ⟨⟩⟩ hx
  dsimp only at hx ⊢
  simp only [okSM, Bool.and_eq_true, decide_eq_true_eq] at hx
  have hl := hx.1
  have hm := hx.2
  have c80 : ∀ {z : Int}, z = 80 → ((80 : Int), ()) = (z, ()) := fun h => by rw [h]
  refine ⟨by omega, by omega, by omega, by omega, ⟨by simp, by simp, by simp, by simp, by simp, fun c hc => by simp at hc; simp only; omega, by simp [lastM]⟩, fun x h => ⟨fun hi => ?_, fun hi => ?_⟩⟩
  · have h0 := h.i0
    have hw : 0 < x.i → IntKind.wrap .i64 (x.i - 1) = x.i - 1 := fun hp => w64 (n := x.i - 1) (by omega) (by omega)
    have hw1 : IntKind.wrap .i64 (x.i + 1) = x.i + 1 := w64 (by omega) (by omega)
    rw [hw1]
    have hcn := h.cnt
    have hm0 := h.m0
    have hm1 := h.m1
    have old : ∀ c ∈ x.cnt, 0 ≤ c ∧ c ≤ x.i + 1 := fun c hc => by have := h.c c hc; omega
    have K := fun (y : Mk) (hy : y = m.getD x.i.toNat MarkT.zero) => rck_in h hi hy
    have Kb := fun (y : Mk) (hy : y = m.getD x.i.toNat MarkT.zero) => rck_back h hi hy
    have Km := fun (y : Mk) (hy : y = m.getD x.i.toNat MarkT.zero) {many : Int} {cnt : List Int} => rck_mk h hi hy (many := many) (cnt := cnt)
    generalize hy : m.getD x.i.toNat MarkT.zero = y at *
    refine ⟨fun _ => h0, fun _ => hi, fun _ => trivial, fun _ => trivial, fun hp => by have hp : 0 < x.i := hp; rw [hw hp]; omega, fun hp => by have hp : 0 < x.i := hp; rw [hw hp]; omega, fun _ => trivial, fun _ => trivial, fun hp => ?_, fun hb => ?_⟩
    · have hp1 : 0 < x.i := hp.1
      have hp2 := hp.2
      rw [hw hp1] at hp2
      exact c80 (Kb y rfl hp1 hp2)
    · have hb' : ¬ 0 < x.i ∨ ¬ y.2.2.1 < (m.getD (x.i - 1).toNat MarkT.zero).2.2.1 := by
        by_cases hp : 0 < x.i
        · rcases hb with hb | hb
          · exact absurd hp hb
          · rw [hw hp] at hb; exact .inr hb
        · exact .inl hp
      have E := K y rfl hb'
      have Km := fun {many : Int} {cnt : List Int} => Km y rfl (many := many) (cnt := cnt)
      have so : Sk.openedOf (l.getD x.many.toNat SockT.zero) = (l.getD x.many.toNat SockT.zero).2.2.1 := rfl
      refine ⟨h0, hi, fun hs => ⟨h0, hi, fun _ => hm0, fun hp => by omega, fun _ => trivial, fun _ => trivial, fun _ => h0, fun _ => hi, fun _ => trivial, fun _ => trivial, fun hbad => c80 ?_, fun hok => ?_⟩, fun hs => ⟨h0, hi, fun _ => h0, fun _ => hi, fun _ => trivial, fun _ => trivial, fun hbad => c80 ?_, fun hok => ?_⟩⟩
      · rw [hs, if_neg (by decide)] at E
        refine ck_bad (a := x.many + 1) (b := x.cnt) ?_
        rw [← E, if_pos]
        simp only [Bool.or_eq_true, decide_eq_true_eq]
        rcases hbad with (hbad | hbad) | hbad
        · exact .inl (.inl hbad)
        · exact .inl (.inr hbad)
        · exact .inr hbad
      · rw [hs, if_neg (by decide), if_neg (by
          simp only [Bool.or_eq_true, decide_eq_true_eq]
          rintro ((hq | hq) | hq)
          · exact hq hok.1.1
          · exact hok.1.2 hq
          · exact hq hok.2)] at E
        have e2 : IntKind.wrap .i64 (x.many + 1) = x.many + 1 := w64 (by omega) (by have := hok.1.2; omega)
        rw [e2]
        exact ⟨Km hcn (by omega) (by have := hok.1.2; omega) old E, by omega⟩
      · rw [hs, if_pos rfl] at E
        refine ck_bad (a := x.many) (b := x.cnt) ?_
        rw [← E, if_pos]
        simp only [Bool.or_eq_true, decide_eq_true_eq]
        exact hbad
      · rw [hs, if_pos rfl, if_neg (by
          simp only [Bool.or_eq_true, decide_eq_true_eq]
          rintro (hq | hq)
          · exact hok.1 hq
          · exact hok.2 hq)] at E
        have hk1 : 0 ≤ y.2.1 := by have := hok.1; omega
        have hk2 : y.2.1 < (x.cnt.length : Int) := by have := hok.2; omega
        have hmem := getD_memA (z := (0 : Int)) hk1 hk2
        have hc := h.c _ hmem
        have e2 : IntKind.wrap .i64 (x.cnt.getD y.2.1.toNat 0 + 1) = x.cnt.getD y.2.1.toNat 0 + 1 := w64 (n := x.cnt.getD y.2.1.toNat 0 + 1) (by omega) (by omega)
        rw [e2]
        refine ⟨h0, hi, hk1, hk2, hk1, hk2, Km (by rw [List.length_set]; exact hcn) hm0 hm1 (fun c hcc => ?_) E, by omega⟩
        rcases List.mem_or_eq_of_mem_set hcc with hq | hq
        · exact old c hq
        · omega
  · obtain ⟨e1, e2⟩ := ck_end h hi
    refine ⟨fun hn => c80 (e1 hn), fun hn => ⟨e2 hn, fun ⟨j, c⟩ hj => ⟨fun hjl => ?_, fun hjl => ?_⟩⟩⟩
    · have hj0 := hj.j0
      have hcl := hj.cl
      have hw1 : IntKind.wrap .i64 (j + 1) = j + 1 := w64 (by dsimp only at hj0; omega) (by dsimp only at hjl; omega)
      rw [hw1]
      refine ⟨hj0, hjl, hj0, by rw [hcl]; exact hjl, fun hne => ?_, fun he => ?_⟩
      · have : Sk.mism l c = true := (mism_iff l c).2 ⟨j.toNat, by dsimp only at hj0 hjl; omega, hne⟩
        refine c80 ?_
        rw [hj.ck, this]; rfl
      · dsimp only at hj0 hjl ⊢
        refine ⟨⟨by omega, by omega, hcl, hj.ck, fun k hk => ?_⟩, by omega⟩
        by_cases hkj : (k : Int) < j
        · exact hj.a k hkj
        · have : k = j.toNat := by omega
          rw [this]; exact he
    · have : Sk.mism l c = false := no_of (mism_iff l c) fun ⟨k, hk, hne⟩ => hne (hj.a k (by dsimp only at hjl ⊢; omega))
      rw [hj.ck, this]; rfl
end Go.Proofs.YtfhlceooobabcaaGreatDoor.Wd
namespace Go.Proofs.YtfhlceooobabcaaGreatDoor.Wd
open Go Go.Eng Go.Lb Go.Ad
set_option maxRecDepth 100000
theorem val95 : Valid Tryz.prog GW 95 (cClone 111 64 SockT) := mkValid gws Tb.mix Tb.tab_ok Tb.eqs_ok g95 rfl allV_nil allI_nil Tryz.func95 (by kernel_rfl) v95
theorem val131 : Valid Tryz.prog GW 131 cOpenT := mkValid gws Tb.mix Tb.tab_ok Tb.eqs_ok g131 rfl allV_nil allI_nil Tryz.func131 (by kernel_rfl) v131
theorem val94 : Valid Tryz.prog GW 94 cIsOpen := mkValid gws Tb.mix Tb.tab_ok Tb.eqs_ok g94 rfl (allV_cons val131 allV_nil) allI_nil Tryz.func94 (by kernel_rfl) v94
theorem val43 : Valid Tryz.prog GW 43 cDropS := mkValid gws Tb.mix Tb.tab_ok Tb.eqs_ok g43 rfl (allV_cons val94 (allV_cons val95 allV_nil)) allI_nil Tryz.func43 (by kernel_rfl) v43
theorem val57 : Valid Tryz.prog GW 57 cShutS := mkValid gws Tb.mix Tb.tab_ok Tb.eqs_ok g57 rfl (allV_cons val95 (allV_cons val102 allV_nil)) allI_nil Tryz.func57 (by kernel_rfl) v57
theorem val13 : Valid Tryz.prog GW 13 cTick := mkValid gws Tb.mix Tb.tab_ok Tb.eqs_ok g13 rfl allV_nil allI_nil Tryz.func13 (by kernel_rfl) v13
theorem val15 : Valid Tryz.prog GW 15 cDropW := mkValid gws Tb.mix Tb.tab_ok Tb.eqs_ok g15 rfl (allV_cons val43 allV_nil) allI_nil Tryz.func15 (by kernel_rfl) v15
theorem val22 : Valid Tryz.prog GW 22 cShutW := mkValid gws Tb.mix Tb.tab_ok Tb.eqs_ok g22 rfl (allV_cons val57 allV_nil) allI_nil Tryz.func22 (by kernel_rfl) v22
theorem val23 : Valid Tryz.prog GW 23 cCheckS := mkValid gws Tb.mix Tb.tab_ok Tb.eqs_ok g23 rfl allV_nil allI_nil Tryz.func23 (by kernel_rfl) v23
theorem val39 : Valid Tryz.prog GW 39 (cSameL SockT) := mkValid gws Tb.mix Tb.tab_ok Tb.eqs_ok g39 rfl allV_nil allI_nil Tryz.func39 (by kernel_rfl) v39
theorem val40 : Valid Tryz.prog GW 40 (cSameL MarkT) := mkValid gws Tb.mix Tb.tab_ok Tb.eqs_ok g40 rfl allV_nil allI_nil Tryz.func40 (by kernel_rfl) v40
theorem val41 : Valid Tryz.prog GW 41 (cSameL DialT) := mkValid gws Tb.mix Tb.tab_ok Tb.eqs_ok g41 rfl allV_nil allI_nil Tryz.func41 (by kernel_rfl) v41
theorem val42 : Valid Tryz.prog GW 42 (cSameL LookT) := mkValid gws Tb.mix Tb.tab_ok Tb.eqs_ok g42 rfl allV_nil allI_nil Tryz.func42 (by kernel_rfl) v42
theorem val92 : Valid Tryz.prog GW 92 (cSameL I64) := mkValid gws Tb.mix Tb.tab_ok Tb.eqs_ok g92 rfl allV_nil allI_nil Tryz.func92 (by kernel_rfl) v92
end Go.Proofs.YtfhlceooobabcaaGreatDoor.Wd
set_option maxRecDepth 100000
namespace Go.Proofs.YtfhlceooobabcaaGreatDoor.Wd
open Go Go.Eng Go.Lb Go.Ad
/-- what is small enough -/
structure Sm (p : Pl) : Prop where
  z : p.1.length ≤ 1000000
  za : ∀ z ∈ p.1, z.2.1.length ≤ 1000000 ∧ ∀ r ∈ z.2.1, r.length ≤ 140737488355328
  f : p.2.1.length ≤ 1000000
  fa : ∀ f ∈ p.2.1, f.2.1.length ≤ 140737488355328
  d : p.2.2.2.1.length ≤ 140737488355328
structure SmW (w : Wd) : Prop where
  p : Sm w.1
  s : w.2.2.1.length ≤ 140737488355328
  d : w.2.2.2.1.length ≤ 140737488355328
  l : w.2.2.2.2.1.length ≤ 140737488355328
  m : w.2.2.2.2.2.2.1.length ≤ 140737488355328
def cSameP : Contract := { a := .cons PlanT (.cons PlanT .unit), r := .cons .bool .unit, pre := fun x => x.1 = x.2.1 ∧ Sm x.1, F := fun _ => (true, ()) }
def cSameW : Contract := { a := .cons WorldT (.cons WorldT .unit), r := .cons .bool .unit, pre := fun x => x.1 = x.2.1 ∧ SmW x.1, F := fun _ => (true, ()) }
def txt (l : List Int) : List Int := l.map fun n => IntKind.wrap .u8 n
def cTxt : Contract := { a := .cons (.sl I8) .unit, r := .cons (.sl U8) .unit, pre := fun x => List.length (α := Int) x.1 ≤ 140737488355328, F := fun x => (txt x.1, ()) }
structure TxI (l out : List Int) (i : Int) : Prop where
  i0 : 0 ≤ i
  i1 : i ≤ l.length
  a : out = txt (l.take i.toNat)
def txL : LoopAnn where
  α := List Int × Int
  keep := [0]
  okeep := []
  nxt := 30
  env := fun _ x => [(3, .own 20), (4, .dat I64 x.2)]
  own := fun _ x => [(20, .row 5 U8 x.1)]
  inv := fun s x => TxI (bDat (.sl I8) s 0).out x.1 x.2
  mu := fun s x => List.length (α := Int) (bDat (.sl I8) s 0).out - x.2.toNat
  pick := some fun _ s => ((bRow U8 s 3).out, (bDat I64 s 4).out)
structure SpI {α : Type} (l : List α) (i : Int) : Prop where
  i0 : 0 ≤ i
  i1 : i ≤ l.length
def sp1 : LoopAnn where
  α := Int
  keep := [2, 3]
  okeep := [0, 1]
  nxt := 100
  env := fun _ x => [(5, .dat I64 x)]
  own := fun _ _ => []
  inv := fun s x => SpI (cDat (.sl ZoneT) s 2 0).out x
  mu := fun s x => List.length (α := Zn) (cDat (.sl ZoneT) s 2 0).out - x.toNat
  pick := some fun _ s => (bDat I64 s 5).out
structure Sp2I (p : Pl) (i k : Int) (z : Zn) : Prop where
  i0 : 0 ≤ i
  i1 : i < p.1.length
  ze : z = p.1.getD i.toNat ZoneT.zero
  k0 : 0 ≤ k
  k1 : k ≤ z.2.1.length
def sp2 : LoopAnn where
  α := Int
  keep := [2, 3, 5, 6, 7]
  okeep := [0, 1]
  nxt := 300
  env := fun _ x => [(8, .dat I64 x)]
  own := fun s _ => boxO s 6 ++ boxO s 7
  inv := fun s x => Sp2I (cDat PlanT s 2 0).out (bDat I64 s 5).out x (cDat ZoneT s 6 0).out
  mu := fun s x => List.length (α := List Ad) (cDat ZoneT s 6 0).out.2.1 - x.toNat
  pick := some fun _ s => (bDat I64 s 8).out
def sp3 : LoopAnn where
  α := Int
  keep := [2, 3]
  okeep := [0, 1]
  nxt := 500
  env := fun _ x => [(9, .dat I64 x)]
  own := fun _ _ => []
  inv := fun s x => SpI (cDat (.sl FatT) s 2 1).out x
  mu := fun s x => List.length (α := Ft) (cDat (.sl FatT) s 2 1).out - x.toNat
  pick := some fun _ s => (bDat I64 s 9).out
/-! the law -/
def cWk : Contract := { a := .unit, r := .cons .bool .unit, pre := fun _ => True, F := fun _ => (true, ()) }
def cLw (a : Ty) : Contract := { a := a, r := .cons .bool .unit, pre := fun _ => True, F := fun _ => (true, ()), preB := fun _ => true, preOk := fun _ _ => trivial }
abbrev ActT : Ty := .cons I64 (.cons I64 (.cons I64 (.cons AdT .unit)))
abbrev Ac := Int × Int × Int × Ad × Unit
abbrev aPlays : Ty := .cons PlanT (.cons (.sl ActT) .unit)
def gr1 : LoopAnn where
  α := Int × Int
  keep := [1]
  okeep := []
  nxt := 2000
  env := fun _ x => [(3, .dat I64 x.1), (4, .dat I64 x.2)]
  own := fun s _ => boxO s 1
  inv := fun _ x => 0 ≤ x.2
  mu := fun s x => List.length (α := Zn) (cDat (.sl ZoneT) s 1 0).out - x.2.toNat
  pick := some fun _ s => ((bDat I64 s 3).out, (bDat I64 s 4).out)
structure Gr2I (zs : List Zn) (i k : Int) : Prop where
  i0 : 0 ≤ i
  i1 : i < zs.length
  i2 : i ≤ 40
  k0 : 0 ≤ k
  m : (zs.getD i.toNat ZoneT.zero).2.1.length ≤ 60
def gr2 : LoopAnn where
  α := Int × Int
  keep := [1, 4]
  okeep := []
  nxt := 2500
  env := fun _ x => [(3, .dat I64 x.1), (5, .dat I64 x.2)]
  own := fun s _ => boxO s 1
  inv := fun s x => Gr2I (cDat (.sl ZoneT) s 1 0).out (bDat I64 s 4).out x.2
  mu := fun s x => 100 - x.2.toNat
  pick := some fun _ s => ((bDat I64 s 3).out, (bDat I64 s 5).out)
def gr3 : LoopAnn where
  α := Int × Int
  keep := [1]
  okeep := []
  nxt := 3000
  env := fun _ x => [(3, .dat I64 x.1), (6, .dat I64 x.2)]
  own := fun s _ => boxO s 1
  inv := fun _ x => 0 ≤ x.2
  mu := fun s x => List.length (α := Ft) (cDat (.sl FatT) s 1 1).out - x.2.toNat
  pick := some fun _ s => ((bDat I64 s 3).out, (bDat I64 s 6).out)
structure PyS where
  i : Int
  w : Wd
  well : Int
  under : Int
/-- a world behind b acts of a plan -/
structure PlB (p : Pl) (b : Int) (w : Wd) (well under : Int) : Prop where
  c : checkB p = true
  pl : w.1 = p
  c0 : 0 ≤ w.2.1
  c1 : w.2.1 ≤ p.2.2.1
  ck : Sk.check w.2.2.1 w.2.2.2.2.2.2.1 = 0
  la : w.2.2.2.2.2.2.1 = [] ∨ Sk.lastAt w.2.2.2.2.2.2.1 ≤ w.2.1
  well : (w.2.2.1.length : Int) = well
  under : underW w [] = under
  nd : (w.2.2.2.1.length : Int) ≤ b
  ns : (w.2.2.1.length : Int) ≤ b
  nm : (w.2.2.2.2.2.2.1.length : Int) ≤ b
  nl : w.2.2.2.2.1 = []
  sh : ∀ s ∈ w.2.2.1, 0 ≤ Sk.shutOf s ∧ Sk.shutOf s ≤ b
structure PyI (p : Pl) (l : List Ac) (x : PyS) : Prop where
  n : l.length ≤ 100
  i0 : 0 ≤ x.i
  i1 : x.i ≤ l.length
  s : PlB p x.i x.w x.well x.under
def playL : LoopAnn where
  α := PyS
  keep := [1, 2]
  okeep := [0]
  nxt := 5000
  env := fun _ x => [(5, .pt 4000 0), (9, .dat I64 x.i), (7, .dat I64 x.well), (8, .dat I64 x.under)]
  own := fun _ x => [(4000, .cells 32 (leaves WorldT x.w))]
  inv := fun s x => PyI (cDat PlanT s 2 0).out (bDat (.sl ActT) s 1).out x
  mu := fun s x => List.length (α := Ac) (bDat (.sl ActT) s 1).out - x.i.toNat
  pick := some fun _ s => ⟨(bDat I64 s 9).out, (cDat WorldT s 5 0).out, (bDat I64 s 7).out, (bDat I64 s 8).out⟩
structure PcS where
  o : Wd
  f : Int
  well : Int
  under : Int
structure PcI (p : Pl) (l : List Ac) (i : Int) (w : Wd) (x : PcS) : Prop where
  n : l.length ≤ 100
  i0 : 0 ≤ i
  i1 : i < l.length
  no : x.f ≠ 0 → x.o = w
  s : PlB p (i + 1) x.o x.well x.under
def playC : LoopAnn where
  α := PcS
  keep := [1, 2, 5, 9]
  okeep := [0, 4000]
  nxt := 7000
  env := fun _ x => [(11, .pt 6900 0), (12, .dat I64 x.f), (7, .dat I64 x.well), (8, .dat I64 x.under)]
  own := fun _ x => [(6900, .cells 32 (leaves WorldT x.o))]
  inv := fun s x => PcI (cDat PlanT s 2 0).out (bDat (.sl ActT) s 1).out (bDat I64 s 9).out (cDat WorldT s 5 0).out x
  mu := fun _ _ => 0
  pick := some fun _ s => ⟨(cDat WorldT s 11 0).out, (bDat I64 s 12).out, (bDat I64 s 7).out, (bDat I64 s 8).out⟩
end Go.Proofs.YtfhlceooobabcaaGreatDoor.Wd
namespace Go.Proofs.YtfhlceooobabcaaGreatDoor.Wd
open Go Go.Eng Go.Lb Go.Ad
set_option maxRecDepth 100000
noncomputable def g26 : Cfg := { tab := Tb.tab, cons := [], inls := [], loops := [(4, sameL AdT)], cuts := [], unroll := false, arrs := [], keys := [] }
noncomputable def g130 : Cfg := { tab := Tb.tab, cons := [], inls := [], loops := [(3, txL)], cuts := [], unroll := false, arrs := [], keys := [] }
noncomputable def g93 : Cfg := { tab := Tb.tab, cons := [(26, cSameL AdT), (130, cTxt)], inls := [], loops := [(2, sp1), (8, sp2), (13, sp3)], cuts := [], unroll := false, arrs := [], keys := [] }
noncomputable def g38 : Cfg := { tab := Tb.tab, cons := [(92, (cSameL I64)), (93, cSameP)], inls := [], loops := [], cuts := [], unroll := false, arrs := [], keys := [] }
noncomputable def g12 : Cfg := { tab := Tb.tab, cons := [(38, cSameP), (39, (cSameL SockT)), (40, (cSameL MarkT)), (41, (cSameL DialT)), (42, (cSameL LookT))], inls := [], loops := [], cuts := [], unroll := false, arrs := [], keys := [] }
noncomputable def g9 : Cfg := { tab := Tb.tab, cons := [(10, cNew), (17, cDial), (18, cCut), (19, cUnder), (20, cReady), (21, cEnd)], inls := [(35, Tryz.f35)], loops := [], cuts := [], unroll := true, arrs := [], keys := [] }
noncomputable def g4 : Cfg := { tab := Tb.tab, cons := [(9, cWk), (10, cNew), (12, cSameW), (13, cTick), (15, cDropW), (17, cDial), (18, cCut), (19, cUnder), (20, cReady), (21, cEnd), (22, cShutW), (23, cCheckS)], inls := [(7, Tryz.f7)], loops := [(80003, gr1), (80008, gr2), (80012, gr3), (6, playL)], cuts := [(39, playC)], unroll := false, arrs := [], keys := [] }
end Go.Proofs.YtfhlceooobabcaaGreatDoor.Wd
namespace Go.Proofs.YtfhlceooobabcaaGreatDoor.Wd
open Go Go.Eng Go.Lb Go.Ad
set_option maxRecDepth 100000
theorem v26_eq : vcFn g26 300 Tryz.f26 (cSameL AdT) = ( ∀ (x : List (Int × (Int × Int × Int × Int × Int × Int × Int × Int × Unit) × Int × Unit) × List (Int × (Int × Int × Int × Int × Int × Int × Int × Int × Unit) × Int × Unit) × Unit), Wr (x.fst = x.snd.fst ∧ List.length
  x.fst ≤ (140737488355328 : Nat)) → bcase (!Decidable.decide ((↑(List.length x.fst) : Int) = (↑(List.length x.snd.fst) : Int))) ((Bool.false, ()) = (Bool.true, ())) ((Wr ((0 : Int) ≤ (0 : Int) ∧ (0 : Int) ≤
  (↑(List.length x.fst) : Int)) ∧ Wr ((0 : Int) = (0 : Int)) ∧ Wr (x.fst = x.fst) ∧ Wr (x.snd.fst = x.snd.fst)) ∧ ∀ (x_1 : Int), Wr ((0 : Int) ≤ x_1 ∧ x_1 ≤ (↑(List.length x.fst) : Int)) → bcase (Decidable.decide (x_1 <
  (↑(List.length x.fst) : Int))) (Wr ((0 : Int) ≤ x_1) ∧ Wr (x_1 < (↑(List.length x.fst) : Int)) ∧ Wr (Bool.true = Bool.true) ∧ Wr ((0 : Int) ≤ x_1) ∧ Wr (x_1 < (↑(List.length x.snd.fst) : Int)) ∧ Wr (Bool.true =
  Bool.true) ∧ bcase (!Ty.eqb (Ty.cons (Ty.int IntKind.i8) (Ty.cons (Ty.arr (8 : Nat) (Ty.int IntKind.u16)) (Ty.cons (Ty.int IntKind.i64) Ty.unit))) (List.getD x.fst (Int.toNat x_1) (Ty.zero AdT)) (List.getD x.snd.fst
  (Int.toNat x_1) (Ty.zero AdT))) ((Bool.false, ()) = (Bool.true, ())) (Wr ((0 : Int) ≤ IntKind.wrap IntKind.i64 (x_1 + (1 : Int)) ∧ IntKind.wrap IntKind.i64 (x_1 + (1 : Int)) ≤ (↑(List.length x.fst) : Int)) ∧ Wr
  (List.length x.fst - Int.toNat (IntKind.wrap IntKind.i64 (x_1 + (1 : Int))) < List.length x.fst - Int.toNat x_1) ∧ Wr (IntKind.wrap IntKind.i64 (x_1 + (1 : Int)) = IntKind.wrap IntKind.i64 (x_1 + (1 : Int))) ∧ Wr (x.fst
  = x.fst) ∧ Wr (x.snd.fst = x.snd.fst))) ((Bool.true, ()) = (Bool.true, ())))) := by kernel_rfl
theorem v130_eq : vcFn g130 300 Tryz.f130 cTxt = ( ∀ (x : List Int × Unit), Wr (List.length x.fst ≤ (140737488355328 : Nat)) → (Wr (TxI x.fst (nilL Int) (0 : Int)) ∧ Wr ((0 : Int) = (0 : Int)) ∧ Wr (x.fst = x.fst) ∧ Wr (nilL Int = nilL Int)) ∧ ∀ (x_1 : List Int × Int),
  Wr (TxI x.fst x_1.fst x_1.snd) → bcase (Decidable.decide (x_1.snd < (↑(List.length x.fst) : Int))) (Wr ((0 : Int) ≤ x_1.snd) ∧ Wr (x_1.snd < (↑(List.length x.fst) : Int)) ∧ Wr (Bool.true = Bool.true) ∧ Wr ((List.length
  x_1.fst + List.length (IntKind.wrap IntKind.u8 (List.getD x.fst (Int.toNat x_1.snd) (0 : Int)) :: nilL Int)) * (1 : Nat) ≤ (140737488355328 : Nat)) ∧ Wr (TxI x.fst (x_1.fst ++ IntKind.wrap IntKind.u8 (List.getD x.fst
  (Int.toNat x_1.snd) (0 : Int)) :: nilL Int) (IntKind.wrap IntKind.i64 (x_1.snd + (1 : Int)))) ∧ Wr (List.length x.fst - Int.toNat (IntKind.wrap IntKind.i64 (x_1.snd + (1 : Int))) < List.length x.fst - Int.toNat x_1.snd)
  ∧ Wr (IntKind.wrap IntKind.i64 (x_1.snd + (1 : Int)) = IntKind.wrap IntKind.i64 (x_1.snd + (1 : Int))) ∧ Wr (x.fst = x.fst) ∧ Wr (x_1.fst ++ IntKind.wrap IntKind.u8 (List.getD x.fst (Int.toNat x_1.snd) (0 : Int)) ::
  nilL Int = x_1.fst ++ IntKind.wrap IntKind.u8 (List.getD x.fst (Int.toNat x_1.snd) (0 : Int)) :: nilL Int)) ((x_1.fst, ()) = (txt x.fst, ()))) := by kernel_rfl
theorem v93_eq : vcFn g93 300 Tryz.f93 cSameP = ( ∀ (x : (List (ByteArray × List (List (Int × (Int × Int × Int × Int × Int × Int × Int × Int × Unit) × Int × Unit)) × Unit) × List ((Int × (Int × Int × Int × Int × Int × Int × Int × Int × Unit) × Int × Unit) × List Int ×
  Unit) × Int × List Int × Unit) × (List (ByteArray × List (List (Int × (Int × Int × Int × Int × Int × Int × Int × Int × Unit) × Int × Unit)) × Unit) × List ((Int × (Int × Int × Int × Int × Int × Int × Int × Int × Unit) ×
  Int × Unit) × List Int × Unit) × Int × List Int × Unit) × Unit), Wr (x.fst = x.snd.fst ∧ Sm x.fst) → (Wr (SpI x.fst.fst (0 : Int)) ∧ Wr ((0 : Int) = (0 : Int)) ∧ Wr (x.fst.fst = x.fst.fst) ∧ Wr (x.fst.snd.fst =
  x.fst.snd.fst) ∧ Wr (x.fst.snd.snd.fst = x.fst.snd.snd.fst) ∧ Wr (x.fst.snd.snd.snd.fst = x.fst.snd.snd.snd.fst) ∧ Wr (x.snd.fst.fst = x.snd.fst.fst) ∧ Wr (x.snd.fst.snd.fst = x.snd.fst.snd.fst) ∧ Wr
  (x.snd.fst.snd.snd.fst = x.snd.fst.snd.snd.fst) ∧ Wr (x.snd.fst.snd.snd.snd.fst = x.snd.fst.snd.snd.snd.fst)) ∧ ∀ (x_1 : Int), Wr (SpI x.fst.fst x_1) → bcase (Decidable.decide (x_1 < (↑(List.length x.fst.fst) : Int)))
  (Wr ((0 : Int) ≤ x_1) ∧ Wr (x_1 < (↑(List.length x.fst.fst) : Int)) ∧ Wr (Bool.true = Bool.true) ∧ Wr ((0 : Int) ≤ x_1) ∧ Wr (x_1 < (↑(List.length x.snd.fst.fst) : Int)) ∧ Wr (Bool.true = Bool.true) ∧ bcase
  (!Decidable.decide ((List.getD x.fst.fst (Int.toNat x_1) (Ty.zero ZoneT)).fst = (List.getD x.snd.fst.fst (Int.toNat x_1) (Ty.zero ZoneT)).fst) || !Decidable.decide ((↑(List.length (List.getD x.fst.fst (Int.toNat x_1)
  (Ty.zero ZoneT)).snd.fst) : Int) = (↑(List.length (List.getD x.snd.fst.fst (Int.toNat x_1) (Ty.zero ZoneT)).snd.fst) : Int))) ((Bool.false, ()) = (Bool.true, ())) ((Wr (Sp2I x.fst x_1 (0 : Int) (List.getD x.fst.fst
  (Int.toNat x_1) (Ty.zero ZoneT))) ∧ Wr ((0 : Int) = (0 : Int)) ∧ Wr (x_1 = x_1) ∧ Wr ((List.getD x.fst.fst (Int.toNat x_1) (Ty.zero ZoneT)).fst = (List.getD x.fst.fst (Int.toNat x_1) (Ty.zero ZoneT)).fst) ∧ Wr
  ((List.getD x.fst.fst (Int.toNat x_1) (Ty.zero ZoneT)).snd.fst = (List.getD x.fst.fst (Int.toNat x_1) (Ty.zero ZoneT)).snd.fst) ∧ Wr ((List.getD x.snd.fst.fst (Int.toNat x_1) (Ty.zero ZoneT)).fst = (List.getD
  x.snd.fst.fst (Int.toNat x_1) (Ty.zero ZoneT)).fst) ∧ Wr ((List.getD x.snd.fst.fst (Int.toNat x_1) (Ty.zero ZoneT)).snd.fst = (List.getD x.snd.fst.fst (Int.toNat x_1) (Ty.zero ZoneT)).snd.fst) ∧ Wr (x.fst.fst =
  x.fst.fst) ∧ Wr (x.fst.snd.fst = x.fst.snd.fst) ∧ Wr (x.fst.snd.snd.fst = x.fst.snd.snd.fst) ∧ Wr (x.fst.snd.snd.snd.fst = x.fst.snd.snd.snd.fst) ∧ Wr (x.snd.fst.fst = x.snd.fst.fst) ∧ Wr (x.snd.fst.snd.fst =
  x.snd.fst.snd.fst) ∧ Wr (x.snd.fst.snd.snd.fst = x.snd.fst.snd.snd.fst) ∧ Wr (x.snd.fst.snd.snd.snd.fst = x.snd.fst.snd.snd.snd.fst)) ∧ ∀ (x_2 : Int), Wr (Sp2I x.fst x_1 x_2 (List.getD x.fst.fst (Int.toNat x_1) (Ty.zero
  ZoneT))) → bcase (Decidable.decide (x_2 < (↑(List.length (List.getD x.fst.fst (Int.toNat x_1) (Ty.zero ZoneT)).snd.fst) : Int))) (Wr ((0 : Int) ≤ x_2) ∧ Wr (x_2 < (↑(List.length (List.getD x.fst.fst (Int.toNat x_1)
  (Ty.zero ZoneT)).snd.fst) : Int)) ∧ Wr (Bool.true = Bool.true) ∧ Wr ((0 : Int) ≤ x_2) ∧ Wr (x_2 < (↑(List.length (List.getD x.snd.fst.fst (Int.toNat x_1) (Ty.zero ZoneT)).snd.fst) : Int)) ∧ Wr (Bool.true = Bool.true) ∧
  Wr (List.getD (List.getD x.fst.fst (Int.toNat x_1) (Ty.zero ZoneT)).snd.fst (Int.toNat x_2) (Ty.zero AdL) = List.getD (List.getD x.snd.fst.fst (Int.toNat x_1) (Ty.zero ZoneT)).snd.fst (Int.toNat x_2) (Ty.zero AdL) ∧
  List.length (List.getD (List.getD x.fst.fst (Int.toNat x_1) (Ty.zero ZoneT)).snd.fst (Int.toNat x_2) (Ty.zero AdL)) ≤ (140737488355328 : Nat)) ∧ Wr (Sp2I x.fst x_1 (IntKind.wrap IntKind.i64 (x_2 + (1 : Int))) (List.getD
  x.fst.fst (Int.toNat x_1) (Ty.zero ZoneT))) ∧ Wr (List.length (List.getD x.fst.fst (Int.toNat x_1) (Ty.zero ZoneT)).snd.fst - Int.toNat (IntKind.wrap IntKind.i64 (x_2 + (1 : Int))) < List.length (List.getD x.fst.fst
  (Int.toNat x_1) (Ty.zero ZoneT)).snd.fst - Int.toNat x_2) ∧ Wr (IntKind.wrap IntKind.i64 (x_2 + (1 : Int)) = IntKind.wrap IntKind.i64 (x_2 + (1 : Int))) ∧ Wr (x_1 = x_1) ∧ Wr ((List.getD x.fst.fst (Int.toNat x_1)
  (Ty.zero ZoneT)).fst = (List.getD x.fst.fst (Int.toNat x_1) (Ty.zero ZoneT)).fst) ∧ Wr ((List.getD x.fst.fst (Int.toNat x_1) (Ty.zero ZoneT)).snd.fst = (List.getD x.fst.fst (Int.toNat x_1) (Ty.zero ZoneT)).snd.fst) ∧ Wr
  ((List.getD x.snd.fst.fst (Int.toNat x_1) (Ty.zero ZoneT)).fst = (List.getD x.snd.fst.fst (Int.toNat x_1) (Ty.zero ZoneT)).fst) ∧ Wr ((List.getD x.snd.fst.fst (Int.toNat x_1) (Ty.zero ZoneT)).snd.fst = (List.getD
  x.snd.fst.fst (Int.toNat x_1) (Ty.zero ZoneT)).snd.fst) ∧ Wr (x.fst.fst = x.fst.fst) ∧ Wr (x.fst.snd.fst = x.fst.snd.fst) ∧ Wr (x.fst.snd.snd.fst = x.fst.snd.snd.fst) ∧ Wr (x.fst.snd.snd.snd.fst = x.fst.snd.snd.snd.fst)
  ∧ Wr (x.snd.fst.fst = x.snd.fst.fst) ∧ Wr (x.snd.fst.snd.fst = x.snd.fst.snd.fst) ∧ Wr (x.snd.fst.snd.snd.fst = x.snd.fst.snd.snd.fst) ∧ Wr (x.snd.fst.snd.snd.snd.fst = x.snd.fst.snd.snd.snd.fst)) (Wr (SpI x.fst.fst
  (IntKind.wrap IntKind.i64 (x_1 + (1 : Int)))) ∧ Wr (List.length x.fst.fst - Int.toNat (IntKind.wrap IntKind.i64 (x_1 + (1 : Int))) < List.length x.fst.fst - Int.toNat x_1) ∧ Wr (IntKind.wrap IntKind.i64 (x_1 + (1 :
  Int)) = IntKind.wrap IntKind.i64 (x_1 + (1 : Int))) ∧ Wr (x.fst.fst = x.fst.fst) ∧ Wr (x.fst.snd.fst = x.fst.snd.fst) ∧ Wr (x.fst.snd.snd.fst = x.fst.snd.snd.fst) ∧ Wr (x.fst.snd.snd.snd.fst = x.fst.snd.snd.snd.fst) ∧
  Wr (x.snd.fst.fst = x.snd.fst.fst) ∧ Wr (x.snd.fst.snd.fst = x.snd.fst.snd.fst) ∧ Wr (x.snd.fst.snd.snd.fst = x.snd.fst.snd.snd.fst) ∧ Wr (x.snd.fst.snd.snd.snd.fst = x.snd.fst.snd.snd.snd.fst)))) ((Wr (SpI
  x.fst.snd.fst (0 : Int)) ∧ Wr ((0 : Int) = (0 : Int)) ∧ Wr (x.fst.fst = x.fst.fst) ∧ Wr (x.fst.snd.fst = x.fst.snd.fst) ∧ Wr (x.fst.snd.snd.fst = x.fst.snd.snd.fst) ∧ Wr (x.fst.snd.snd.snd.fst = x.fst.snd.snd.snd.fst) ∧
  Wr (x.snd.fst.fst = x.snd.fst.fst) ∧ Wr (x.snd.fst.snd.fst = x.snd.fst.snd.fst) ∧ Wr (x.snd.fst.snd.snd.fst = x.snd.fst.snd.snd.fst) ∧ Wr (x.snd.fst.snd.snd.snd.fst = x.snd.fst.snd.snd.snd.fst)) ∧ ∀ (x_2 : Int), Wr (SpI
  x.fst.snd.fst x_2) → bcase (Decidable.decide (x_2 < (↑(List.length x.fst.snd.fst) : Int))) (Wr ((0 : Int) ≤ x_2) ∧ Wr (x_2 < (↑(List.length x.fst.snd.fst) : Int)) ∧ Wr (Bool.true = Bool.true) ∧ Wr (Bool.true =
  Bool.true) ∧ Wr ((0 : Int) ≤ x_2) ∧ Wr (x_2 < (↑(List.length x.snd.fst.snd.fst) : Int)) ∧ Wr (Bool.true = Bool.true) ∧ Wr (Bool.true = Bool.true) ∧ Wr ((!!Ty.eqb (Ty.cons (Ty.int IntKind.i8) (Ty.cons (Ty.arr (8 : Nat)
  (Ty.int IntKind.u16)) (Ty.cons (Ty.int IntKind.i64) Ty.unit))) (List.getD x.fst.snd.fst (Int.toNat x_2) (Ty.zero FatT)).fst (List.getD x.snd.fst.snd.fst (Int.toNat x_2) (Ty.zero FatT)).fst) = Bool.true → (0 : Int) ≤
  x_2) ∧ Wr ((!!Ty.eqb (Ty.cons (Ty.int IntKind.i8) (Ty.cons (Ty.arr (8 : Nat) (Ty.int IntKind.u16)) (Ty.cons (Ty.int IntKind.i64) Ty.unit))) (List.getD x.fst.snd.fst (Int.toNat x_2) (Ty.zero FatT)).fst (List.getD
  x.snd.fst.snd.fst (Int.toNat x_2) (Ty.zero FatT)).fst) = Bool.true → x_2 < (↑(List.length x.fst.snd.fst) : Int)) ∧ Wr ((!!Ty.eqb (Ty.cons (Ty.int IntKind.i8) (Ty.cons (Ty.arr (8 : Nat) (Ty.int IntKind.u16)) (Ty.cons
  (Ty.int IntKind.i64) Ty.unit))) (List.getD x.fst.snd.fst (Int.toNat x_2) (Ty.zero FatT)).fst (List.getD x.snd.fst.snd.fst (Int.toNat x_2) (Ty.zero FatT)).fst) = Bool.true → Bool.true = Bool.true) ∧ Wr ((!!Ty.eqb
  (Ty.cons (Ty.int IntKind.i8) (Ty.cons (Ty.arr (8 : Nat) (Ty.int IntKind.u16)) (Ty.cons (Ty.int IntKind.i64) Ty.unit))) (List.getD x.fst.snd.fst (Int.toNat x_2) (Ty.zero FatT)).fst (List.getD x.snd.fst.snd.fst (Int.toNat
  x_2) (Ty.zero FatT)).fst) = Bool.true → Bool.true = Bool.true) ∧ Wr ((!!Ty.eqb (Ty.cons (Ty.int IntKind.i8) (Ty.cons (Ty.arr (8 : Nat) (Ty.int IntKind.u16)) (Ty.cons (Ty.int IntKind.i64) Ty.unit))) (List.getD
  x.fst.snd.fst (Int.toNat x_2) (Ty.zero FatT)).fst (List.getD x.snd.fst.snd.fst (Int.toNat x_2) (Ty.zero FatT)).fst) = Bool.true → List.length (List.getD x.fst.snd.fst (Int.toNat x_2) (Ty.zero FatT)).snd.fst ≤
  (140737488355328 : Nat)) ∧ Wr ((!!Ty.eqb (Ty.cons (Ty.int IntKind.i8) (Ty.cons (Ty.arr (8 : Nat) (Ty.int IntKind.u16)) (Ty.cons (Ty.int IntKind.i64) Ty.unit))) (List.getD x.fst.snd.fst (Int.toNat x_2) (Ty.zero
  FatT)).fst (List.getD x.snd.fst.snd.fst (Int.toNat x_2) (Ty.zero FatT)).fst) = Bool.true → List.length (txt (List.getD x.fst.snd.fst (Int.toNat x_2) (Ty.zero FatT)).snd.fst) ≤ Go.maxLen) ∧ Wr ((!!Ty.eqb (Ty.cons (Ty.int
  IntKind.i8) (Ty.cons (Ty.arr (8 : Nat) (Ty.int IntKind.u16)) (Ty.cons (Ty.int IntKind.i64) Ty.unit))) (List.getD x.fst.snd.fst (Int.toNat x_2) (Ty.zero FatT)).fst (List.getD x.snd.fst.snd.fst (Int.toNat x_2) (Ty.zero
  FatT)).fst) = Bool.true → (0 : Int) ≤ x_2) ∧ Wr ((!!Ty.eqb (Ty.cons (Ty.int IntKind.i8) (Ty.cons (Ty.arr (8 : Nat) (Ty.int IntKind.u16)) (Ty.cons (Ty.int IntKind.i64) Ty.unit))) (List.getD x.fst.snd.fst (Int.toNat x_2)
  (Ty.zero FatT)).fst (List.getD x.snd.fst.snd.fst (Int.toNat x_2) (Ty.zero FatT)).fst) = Bool.true → x_2 < (↑(List.length x.snd.fst.snd.fst) : Int)) ∧ Wr ((!!Ty.eqb (Ty.cons (Ty.int IntKind.i8) (Ty.cons (Ty.arr (8 : Nat)
  (Ty.int IntKind.u16)) (Ty.cons (Ty.int IntKind.i64) Ty.unit))) (List.getD x.fst.snd.fst (Int.toNat x_2) (Ty.zero FatT)).fst (List.getD x.snd.fst.snd.fst (Int.toNat x_2) (Ty.zero FatT)).fst) = Bool.true → Bool.true =
  Bool.true) ∧ Wr ((!!Ty.eqb (Ty.cons (Ty.int IntKind.i8) (Ty.cons (Ty.arr (8 : Nat) (Ty.int IntKind.u16)) (Ty.cons (Ty.int IntKind.i64) Ty.unit))) (List.getD x.fst.snd.fst (Int.toNat x_2) (Ty.zero FatT)).fst (List.getD
  x.snd.fst.snd.fst (Int.toNat x_2) (Ty.zero FatT)).fst) = Bool.true → Bool.true = Bool.true) ∧ Wr ((!!Ty.eqb (Ty.cons (Ty.int IntKind.i8) (Ty.cons (Ty.arr (8 : Nat) (Ty.int IntKind.u16)) (Ty.cons (Ty.int IntKind.i64)
  Ty.unit))) (List.getD x.fst.snd.fst (Int.toNat x_2) (Ty.zero FatT)).fst (List.getD x.snd.fst.snd.fst (Int.toNat x_2) (Ty.zero FatT)).fst) = Bool.true → List.length (List.getD x.snd.fst.snd.fst (Int.toNat x_2) (Ty.zero
  FatT)).snd.fst ≤ (140737488355328 : Nat)) ∧ Wr ((!!Ty.eqb (Ty.cons (Ty.int IntKind.i8) (Ty.cons (Ty.arr (8 : Nat) (Ty.int IntKind.u16)) (Ty.cons (Ty.int IntKind.i64) Ty.unit))) (List.getD x.fst.snd.fst (Int.toNat x_2)
  (Ty.zero FatT)).fst (List.getD x.snd.fst.snd.fst (Int.toNat x_2) (Ty.zero FatT)).fst) = Bool.true → List.length (txt (List.getD x.snd.fst.snd.fst (Int.toNat x_2) (Ty.zero FatT)).snd.fst) ≤ Go.maxLen) ∧ bcase (!Ty.eqb
  (Ty.cons (Ty.int IntKind.i8) (Ty.cons (Ty.arr (8 : Nat) (Ty.int IntKind.u16)) (Ty.cons (Ty.int IntKind.i64) Ty.unit))) (List.getD x.fst.snd.fst (Int.toNat x_2) (Ty.zero FatT)).fst (List.getD x.snd.fst.snd.fst (Int.toNat
  x_2) (Ty.zero FatT)).fst || !Decidable.decide (strI (txt (List.getD x.fst.snd.fst (Int.toNat x_2) (Ty.zero FatT)).snd.fst) = strI (txt (List.getD x.snd.fst.snd.fst (Int.toNat x_2) (Ty.zero FatT)).snd.fst)))
  ((Bool.false, ()) = (Bool.true, ())) (Wr (SpI x.fst.snd.fst (IntKind.wrap IntKind.i64 (x_2 + (1 : Int)))) ∧ Wr (List.length x.fst.snd.fst - Int.toNat (IntKind.wrap IntKind.i64 (x_2 + (1 : Int))) < List.length
  x.fst.snd.fst - Int.toNat x_2) ∧ Wr (IntKind.wrap IntKind.i64 (x_2 + (1 : Int)) = IntKind.wrap IntKind.i64 (x_2 + (1 : Int))) ∧ Wr (x.fst.fst = x.fst.fst) ∧ Wr (x.fst.snd.fst = x.fst.snd.fst) ∧ Wr (x.fst.snd.snd.fst =
  x.fst.snd.snd.fst) ∧ Wr (x.fst.snd.snd.snd.fst = x.fst.snd.snd.snd.fst) ∧ Wr (x.snd.fst.fst = x.snd.fst.fst) ∧ Wr (x.snd.fst.snd.fst = x.snd.fst.snd.fst) ∧ Wr (x.snd.fst.snd.snd.fst = x.snd.fst.snd.snd.fst) ∧ Wr
  (x.snd.fst.snd.snd.snd.fst = x.snd.fst.snd.snd.snd.fst))) ((Bool.true, ()) = (Bool.true, ())))) := by kernel_rfl
theorem v38_eq : vcFn g38 300 Tryz.f38 cSameP = ( ∀ (x : (List (ByteArray × List (List (Int × (Int × Int × Int × Int × Int × Int × Int × Int × Unit) × Int × Unit)) × Unit) × List ((Int × (Int × Int × Int × Int × Int × Int × Int × Int × Unit) × Int × Unit) × List Int ×
  Unit) × Int × List Int × Unit) × (List (ByteArray × List (List (Int × (Int × Int × Int × Int × Int × Int × Int × Int × Unit) × Int × Unit)) × Unit) × List ((Int × (Int × Int × Int × Int × Int × Int × Int × Int × Unit) ×
  Int × Unit) × List Int × Unit) × Int × List Int × Unit) × Unit), Wr (x.fst = x.snd.fst ∧ Sm x.fst) → Wr (Decidable.decide (x.fst.snd.snd.fst = x.snd.fst.snd.snd.fst) = Bool.true → x.fst.snd.snd.snd.fst =
  x.snd.fst.snd.snd.snd.fst ∧ List.length x.fst.snd.snd.snd.fst ≤ (140737488355328 : Nat)) ∧ Wr ((Decidable.decide (x.fst.snd.snd.fst = x.snd.fst.snd.snd.fst) && Bool.true && Decidable.decide ((↑(List.length x.fst.fst) :
  Int) = (↑(List.length x.snd.fst.fst) : Int)) && Decidable.decide ((↑(List.length x.fst.snd.fst) : Int) = (↑(List.length x.snd.fst.snd.fst) : Int))) = Bool.true → x.fst = x.snd.fst ∧ Sm x.fst) ∧ (Decidable.decide
  (x.fst.snd.snd.fst = x.snd.fst.snd.snd.fst) && Bool.true && Decidable.decide ((↑(List.length x.fst.fst) : Int) = (↑(List.length x.snd.fst.fst) : Int)) && Decidable.decide ((↑(List.length x.fst.snd.fst) : Int) =
  (↑(List.length x.snd.fst.snd.fst) : Int)) && Bool.true, ()) = (Bool.true, ())) := by kernel_rfl
theorem v12_eq : vcFn g12 300 Tryz.f12 cSameW = ( ∀ (x : ((List (ByteArray × List (List (Int × (Int × Int × Int × Int × Int × Int × Int × Int × Unit) × Int × Unit)) × Unit) × List ((Int × (Int × Int × Int × Int × Int × Int × Int × Int × Unit) × Int × Unit) × List Int ×
  Unit) × Int × List Int × Unit) × Int × List ((Int × (Int × Int × Int × Int × Int × Int × Int × Int × Unit) × Int × Unit) × Int × Int × Int × Bool × Unit) × List (Int × (Int × (Int × Int × Int × Int × Int × Int × Int ×
  Int × Unit) × Int × Unit) × Int × Bool × Bool × Unit) × List (Int × ByteArray × Int × Bool × Unit) × Int × List (Bool × Int × Int × Unit) × Unit) × ((List (ByteArray × List (List (Int × (Int × Int × Int × Int × Int ×
  Int × Int × Int × Unit) × Int × Unit)) × Unit) × List ((Int × (Int × Int × Int × Int × Int × Int × Int × Int × Unit) × Int × Unit) × List Int × Unit) × Int × List Int × Unit) × Int × List ((Int × (Int × Int × Int × Int
  × Int × Int × Int × Int × Unit) × Int × Unit) × Int × Int × Int × Bool × Unit) × List (Int × (Int × (Int × Int × Int × Int × Int × Int × Int × Int × Unit) × Int × Unit) × Int × Bool × Bool × Unit) × List (Int ×
  ByteArray × Int × Bool × Unit) × Int × List (Bool × Int × Int × Unit) × Unit) × Unit), Wr (x.fst = x.snd.fst ∧ SmW x.fst) → Wr (x.fst.fst = x.snd.fst.fst ∧ Sm x.fst.fst) ∧ Wr ((Bool.true && Decidable.decide
  (x.fst.snd.fst = x.snd.fst.snd.fst) && Decidable.decide (x.fst.snd.snd.snd.snd.snd.fst = x.snd.fst.snd.snd.snd.snd.snd.fst)) = Bool.true → x.fst.snd.snd.fst = x.snd.fst.snd.snd.fst ∧ List.length x.fst.snd.snd.fst ≤
  (140737488355328 : Nat)) ∧ Wr ((Bool.true && Decidable.decide (x.fst.snd.fst = x.snd.fst.snd.fst) && Decidable.decide (x.fst.snd.snd.snd.snd.snd.fst = x.snd.fst.snd.snd.snd.snd.snd.fst) && Bool.true) = Bool.true →
  x.fst.snd.snd.snd.snd.snd.snd.fst = x.snd.fst.snd.snd.snd.snd.snd.snd.fst ∧ List.length x.fst.snd.snd.snd.snd.snd.snd.fst ≤ (140737488355328 : Nat)) ∧ Wr ((Bool.true && Decidable.decide (x.fst.snd.fst =
  x.snd.fst.snd.fst) && Decidable.decide (x.fst.snd.snd.snd.snd.snd.fst = x.snd.fst.snd.snd.snd.snd.snd.fst) && Bool.true && Bool.true) = Bool.true → x.fst.snd.snd.snd.fst = x.snd.fst.snd.snd.snd.fst ∧ List.length
  x.fst.snd.snd.snd.fst ≤ (140737488355328 : Nat)) ∧ Wr ((Bool.true && Decidable.decide (x.fst.snd.fst = x.snd.fst.snd.fst) && Decidable.decide (x.fst.snd.snd.snd.snd.snd.fst = x.snd.fst.snd.snd.snd.snd.snd.fst) &&
  Bool.true && Bool.true && Bool.true) = Bool.true → x.fst.snd.snd.snd.snd.fst = x.snd.fst.snd.snd.snd.snd.fst ∧ List.length x.fst.snd.snd.snd.snd.fst ≤ (140737488355328 : Nat)) ∧ (Bool.true && Decidable.decide
  (x.fst.snd.fst = x.snd.fst.snd.fst) && Decidable.decide (x.fst.snd.snd.snd.snd.snd.fst = x.snd.fst.snd.snd.snd.snd.snd.fst) && Bool.true && Bool.true && Bool.true && Bool.true, ()) = (Bool.true, ())) := by kernel_rfl
theorem v4_eq : vcFn g4 300 Tryz.f4 ((cLw aPlays)) = ( ∀ (x : (List (ByteArray × List (List (Int × (Int × Int × Int × Int × Int × Int × Int × Int × Unit) × Int × Unit)) × Unit) × List ((Int × (Int × Int × Int × Int × Int × Int × Int × Int × Unit) × Int × Unit) × List Int ×
  Unit) × Int × List Int × Unit) × List (Int × Int × Int × (Int × (Int × Int × Int × Int × Int × Int × Int × Int × Unit) × Int × Unit) × Unit) × Unit), Wr True → Wr (Bool.true = Bool.true) ∧ (Wr ((0 : Int) ≤ (0 : Int)) ∧
  Wr ((↑(List.length x.fst.snd.snd.snd.fst) : Int) = (↑(List.length x.fst.snd.snd.snd.fst) : Int)) ∧ Wr ((0 : Int) = (0 : Int)) ∧ Wr (x.fst.fst = x.fst.fst) ∧ Wr (x.fst.snd.fst = x.fst.snd.fst) ∧ Wr (x.fst.snd.snd.fst =
  x.fst.snd.snd.fst) ∧ Wr (x.fst.snd.snd.snd.fst = x.fst.snd.snd.snd.fst) ∧ Wr ((newW x.fst).fst.fst = (newW x.fst).fst.fst) ∧ Wr ((newW x.fst).fst.snd.fst = (newW x.fst).fst.snd.fst) ∧ Wr ((newW x.fst).fst.snd.snd.fst =
  (newW x.fst).fst.snd.snd.fst) ∧ Wr ((newW x.fst).fst.snd.snd.snd.fst = (newW x.fst).fst.snd.snd.snd.fst) ∧ Wr ((newW x.fst).snd.fst = (newW x.fst).snd.fst) ∧ Wr ((newW x.fst).snd.snd.fst = (newW x.fst).snd.snd.fst) ∧ Wr
  ((newW x.fst).snd.snd.snd.fst = (newW x.fst).snd.snd.snd.fst) ∧ Wr ((newW x.fst).snd.snd.snd.snd.fst = (newW x.fst).snd.snd.snd.snd.fst) ∧ Wr ((newW x.fst).snd.snd.snd.snd.snd.fst = (newW x.fst).snd.snd.snd.snd.snd.fst)
  ∧ Wr ((newW x.fst).snd.snd.snd.snd.snd.snd.fst = (newW x.fst).snd.snd.snd.snd.snd.snd.fst) ∧ Wr ((newW x.fst).fst.fst = (newW x.fst).fst.fst) ∧ Wr ((newW x.fst).fst.snd.fst = (newW x.fst).fst.snd.fst) ∧ Wr ((newW
  x.fst).fst.snd.snd.fst = (newW x.fst).fst.snd.snd.fst) ∧ Wr ((newW x.fst).fst.snd.snd.snd.fst = (newW x.fst).fst.snd.snd.snd.fst) ∧ Wr ((newW x.fst).snd.fst = (newW x.fst).snd.fst) ∧ Wr ((newW x.fst).snd.snd.fst = (newW
  x.fst).snd.snd.fst) ∧ Wr ((newW x.fst).snd.snd.snd.fst = (newW x.fst).snd.snd.snd.fst) ∧ Wr ((newW x.fst).snd.snd.snd.snd.fst = (newW x.fst).snd.snd.snd.snd.fst) ∧ Wr ((newW x.fst).snd.snd.snd.snd.snd.fst = (newW
  x.fst).snd.snd.snd.snd.snd.fst) ∧ Wr ((newW x.fst).snd.snd.snd.snd.snd.snd.fst = (newW x.fst).snd.snd.snd.snd.snd.snd.fst) ∧ Wr (x.fst.fst = x.fst.fst) ∧ Wr (x.fst.snd.fst = x.fst.snd.fst) ∧ Wr (x.fst.snd.snd.fst =
  x.fst.snd.snd.fst) ∧ Wr (x.fst.snd.snd.snd.fst = x.fst.snd.snd.snd.fst)) ∧ ∀ (x_1 : Int × Int), Wr ((0 : Int) ≤ x_1.snd) → bcase (Decidable.decide (x_1.snd < (↑(List.length x.fst.fst) : Int)) && Decidable.decide
  (x_1.snd ≤ (40 : Int))) (Wr ((0 : Int) ≤ x_1.snd) ∧ Wr (x_1.snd < (↑(List.length x.fst.fst) : Int)) ∧ Wr (Bool.true = Bool.true) ∧ Wr (Bool.true = Bool.true) ∧ Wr ((!Decidable.decide ((↑(List.length (List.getD x.fst.fst
  (Int.toNat x_1.snd) (Ty.zero ZoneT)).snd.fst) : Int) > (60 : Int))) = Bool.true → (0 : Int) ≤ x_1.snd) ∧ Wr ((!Decidable.decide ((↑(List.length (List.getD x.fst.fst (Int.toNat x_1.snd) (Ty.zero ZoneT)).snd.fst) : Int) >
  (60 : Int))) = Bool.true → x_1.snd < (↑(List.length x.fst.fst) : Int)) ∧ Wr ((!Decidable.decide ((↑(List.length (List.getD x.fst.fst (Int.toNat x_1.snd) (Ty.zero ZoneT)).snd.fst) : Int) > (60 : Int))) = Bool.true →
  Bool.true = Bool.true) ∧ Wr ((!Decidable.decide ((↑(List.length (List.getD x.fst.fst (Int.toNat x_1.snd) (Ty.zero ZoneT)).snd.fst) : Int) > (60 : Int))) = Bool.true → Bool.true = Bool.true) ∧ bcase (Decidable.decide
  ((↑(List.length (List.getD x.fst.fst (Int.toNat x_1.snd) (Ty.zero ZoneT)).snd.fst) : Int) > (60 : Int)) || Decidable.decide ((↑(ByteArray.size (List.getD x.fst.fst (Int.toNat x_1.snd) (Ty.zero ZoneT)).fst) : Int) > (400
  : Int))) (Wr True ∧ (Bool.true, ()) = (Bool.true, ())) ((Wr (Gr2I x.fst.fst x_1.snd (0 : Int)) ∧ Wr (x_1.fst = x_1.fst) ∧ Wr ((0 : Int) = (0 : Int)) ∧ Wr (x_1.snd = x_1.snd) ∧ Wr (x.fst.fst = x.fst.fst) ∧ Wr
  (x.fst.snd.fst = x.fst.snd.fst) ∧ Wr (x.fst.snd.snd.fst = x.fst.snd.snd.fst) ∧ Wr (x.fst.snd.snd.snd.fst = x.fst.snd.snd.snd.fst) ∧ Wr ((newW x.fst).fst.fst = (newW x.fst).fst.fst) ∧ Wr ((newW x.fst).fst.snd.fst = (newW
  x.fst).fst.snd.fst) ∧ Wr ((newW x.fst).fst.snd.snd.fst = (newW x.fst).fst.snd.snd.fst) ∧ Wr ((newW x.fst).fst.snd.snd.snd.fst = (newW x.fst).fst.snd.snd.snd.fst) ∧ Wr ((newW x.fst).snd.fst = (newW x.fst).snd.fst) ∧ Wr
  ((newW x.fst).snd.snd.fst = (newW x.fst).snd.snd.fst) ∧ Wr ((newW x.fst).snd.snd.snd.fst = (newW x.fst).snd.snd.snd.fst) ∧ Wr ((newW x.fst).snd.snd.snd.snd.fst = (newW x.fst).snd.snd.snd.snd.fst) ∧ Wr ((newW
  x.fst).snd.snd.snd.snd.snd.fst = (newW x.fst).snd.snd.snd.snd.snd.fst) ∧ Wr ((newW x.fst).snd.snd.snd.snd.snd.snd.fst = (newW x.fst).snd.snd.snd.snd.snd.snd.fst) ∧ Wr ((newW x.fst).fst.fst = (newW x.fst).fst.fst) ∧ Wr
  ((newW x.fst).fst.snd.fst = (newW x.fst).fst.snd.fst) ∧ Wr ((newW x.fst).fst.snd.snd.fst = (newW x.fst).fst.snd.snd.fst) ∧ Wr ((newW x.fst).fst.snd.snd.snd.fst = (newW x.fst).fst.snd.snd.snd.fst) ∧ Wr ((newW
  x.fst).snd.fst = (newW x.fst).snd.fst) ∧ Wr ((newW x.fst).snd.snd.fst = (newW x.fst).snd.snd.fst) ∧ Wr ((newW x.fst).snd.snd.snd.fst = (newW x.fst).snd.snd.snd.fst) ∧ Wr ((newW x.fst).snd.snd.snd.snd.fst = (newW
  x.fst).snd.snd.snd.snd.fst) ∧ Wr ((newW x.fst).snd.snd.snd.snd.snd.fst = (newW x.fst).snd.snd.snd.snd.snd.fst) ∧ Wr ((newW x.fst).snd.snd.snd.snd.snd.snd.fst = (newW x.fst).snd.snd.snd.snd.snd.snd.fst) ∧ Wr (x.fst.fst =
  x.fst.fst) ∧ Wr (x.fst.snd.fst = x.fst.snd.fst) ∧ Wr (x.fst.snd.snd.fst = x.fst.snd.snd.fst) ∧ Wr (x.fst.snd.snd.snd.fst = x.fst.snd.snd.snd.fst)) ∧ ∀ (x_2 : Int × Int), Wr (Gr2I x.fst.fst x_1.snd x_2.snd) → Wr ((0 :
  Int) ≤ x_1.snd) ∧ Wr (x_1.snd < (↑(List.length x.fst.fst) : Int)) ∧ Wr (Bool.true = Bool.true) ∧ Wr (Bool.true = Bool.true) ∧ bcase (Decidable.decide (x_2.snd < (↑(List.length (List.getD x.fst.fst (Int.toNat x_1.snd)
  (Ty.zero ZoneT)).snd.fst) : Int))) (Wr ((0 : Int) ≤ x_1.snd) ∧ Wr (x_1.snd < (↑(List.length x.fst.fst) : Int)) ∧ Wr (Bool.true = Bool.true) ∧ Wr (Bool.true = Bool.true) ∧ Wr ((0 : Int) ≤ x_2.snd) ∧ Wr (x_2.snd <
  (↑(List.length (List.getD x.fst.fst (Int.toNat x_1.snd) (Ty.zero ZoneT)).snd.fst) : Int)) ∧ Wr (Bool.true = Bool.true) ∧ Wr (Gr2I x.fst.fst x_1.snd (IntKind.wrap IntKind.i64 (x_2.snd + (1 : Int)))) ∧ Wr ((100 : Nat) -
  Int.toNat (IntKind.wrap IntKind.i64 (x_2.snd + (1 : Int))) < (100 : Nat) - Int.toNat x_2.snd) ∧ Wr (IntKind.wrap IntKind.i64 (x_2.fst + Min.min (↑(List.length (List.getD (List.getD x.fst.fst (Int.toNat x_1.snd) (Ty.zero
  ZoneT)).snd.fst (Int.toNat x_2.snd) (Ty.zero AdL))) : Int) (1000 : Int)) = IntKind.wrap IntKind.i64 (x_2.fst + Min.min (↑(List.length (List.getD (List.getD x.fst.fst (Int.toNat x_1.snd) (Ty.zero ZoneT)).snd.fst
  (Int.toNat x_2.snd) (Ty.zero AdL))) : Int) (1000 : Int))) ∧ Wr (IntKind.wrap IntKind.i64 (x_2.snd + (1 : Int)) = IntKind.wrap IntKind.i64 (x_2.snd + (1 : Int))) ∧ Wr (x_1.snd = x_1.snd) ∧ Wr (x.fst.fst = x.fst.fst) ∧ Wr
  (x.fst.snd.fst = x.fst.snd.fst) ∧ Wr (x.fst.snd.snd.fst = x.fst.snd.snd.fst) ∧ Wr (x.fst.snd.snd.snd.fst = x.fst.snd.snd.snd.fst) ∧ Wr ((newW x.fst).fst.fst = (newW x.fst).fst.fst) ∧ Wr ((newW x.fst).fst.snd.fst = (newW
  x.fst).fst.snd.fst) ∧ Wr ((newW x.fst).fst.snd.snd.fst = (newW x.fst).fst.snd.snd.fst) ∧ Wr ((newW x.fst).fst.snd.snd.snd.fst = (newW x.fst).fst.snd.snd.snd.fst) ∧ Wr ((newW x.fst).snd.fst = (newW x.fst).snd.fst) ∧ Wr
  ((newW x.fst).snd.snd.fst = (newW x.fst).snd.snd.fst) ∧ Wr ((newW x.fst).snd.snd.snd.fst = (newW x.fst).snd.snd.snd.fst) ∧ Wr ((newW x.fst).snd.snd.snd.snd.fst = (newW x.fst).snd.snd.snd.snd.fst) ∧ Wr ((newW
  x.fst).snd.snd.snd.snd.snd.fst = (newW x.fst).snd.snd.snd.snd.snd.fst) ∧ Wr ((newW x.fst).snd.snd.snd.snd.snd.snd.fst = (newW x.fst).snd.snd.snd.snd.snd.snd.fst) ∧ Wr ((newW x.fst).fst.fst = (newW x.fst).fst.fst) ∧ Wr
  ((newW x.fst).fst.snd.fst = (newW x.fst).fst.snd.fst) ∧ Wr ((newW x.fst).fst.snd.snd.fst = (newW x.fst).fst.snd.snd.fst) ∧ Wr ((newW x.fst).fst.snd.snd.snd.fst = (newW x.fst).fst.snd.snd.snd.fst) ∧ Wr ((newW
  x.fst).snd.fst = (newW x.fst).snd.fst) ∧ Wr ((newW x.fst).snd.snd.fst = (newW x.fst).snd.snd.fst) ∧ Wr ((newW x.fst).snd.snd.snd.fst = (newW x.fst).snd.snd.snd.fst) ∧ Wr ((newW x.fst).snd.snd.snd.snd.fst = (newW
  x.fst).snd.snd.snd.snd.fst) ∧ Wr ((newW x.fst).snd.snd.snd.snd.snd.fst = (newW x.fst).snd.snd.snd.snd.snd.fst) ∧ Wr ((newW x.fst).snd.snd.snd.snd.snd.snd.fst = (newW x.fst).snd.snd.snd.snd.snd.snd.fst) ∧ Wr (x.fst.fst =
  x.fst.fst) ∧ Wr (x.fst.snd.fst = x.fst.snd.fst) ∧ Wr (x.fst.snd.snd.fst = x.fst.snd.snd.fst) ∧ Wr (x.fst.snd.snd.snd.fst = x.fst.snd.snd.snd.fst)) (Wr ((0 : Int) ≤ IntKind.wrap IntKind.i64 (x_1.snd + (1 : Int))) ∧ Wr
  (List.length x.fst.fst - Int.toNat (IntKind.wrap IntKind.i64 (x_1.snd + (1 : Int))) < List.length x.fst.fst - Int.toNat x_1.snd) ∧ Wr (x_2.fst = x_2.fst) ∧ Wr (IntKind.wrap IntKind.i64 (x_1.snd + (1 : Int)) =
  IntKind.wrap IntKind.i64 (x_1.snd + (1 : Int))) ∧ Wr (x.fst.fst = x.fst.fst) ∧ Wr (x.fst.snd.fst = x.fst.snd.fst) ∧ Wr (x.fst.snd.snd.fst = x.fst.snd.snd.fst) ∧ Wr (x.fst.snd.snd.snd.fst = x.fst.snd.snd.snd.fst) ∧ Wr
  ((newW x.fst).fst.fst = (newW x.fst).fst.fst) ∧ Wr ((newW x.fst).fst.snd.fst = (newW x.fst).fst.snd.fst) ∧ Wr ((newW x.fst).fst.snd.snd.fst = (newW x.fst).fst.snd.snd.fst) ∧ Wr ((newW x.fst).fst.snd.snd.snd.fst = (newW
  x.fst).fst.snd.snd.snd.fst) ∧ Wr ((newW x.fst).snd.fst = (newW x.fst).snd.fst) ∧ Wr ((newW x.fst).snd.snd.fst = (newW x.fst).snd.snd.fst) ∧ Wr ((newW x.fst).snd.snd.snd.fst = (newW x.fst).snd.snd.snd.fst) ∧ Wr ((newW
  x.fst).snd.snd.snd.snd.fst = (newW x.fst).snd.snd.snd.snd.fst) ∧ Wr ((newW x.fst).snd.snd.snd.snd.snd.fst = (newW x.fst).snd.snd.snd.snd.snd.fst) ∧ Wr ((newW x.fst).snd.snd.snd.snd.snd.snd.fst = (newW
  x.fst).snd.snd.snd.snd.snd.snd.fst) ∧ Wr ((newW x.fst).fst.fst = (newW x.fst).fst.fst) ∧ Wr ((newW x.fst).fst.snd.fst = (newW x.fst).fst.snd.fst) ∧ Wr ((newW x.fst).fst.snd.snd.fst = (newW x.fst).fst.snd.snd.fst) ∧ Wr
  ((newW x.fst).fst.snd.snd.snd.fst = (newW x.fst).fst.snd.snd.snd.fst) ∧ Wr ((newW x.fst).snd.fst = (newW x.fst).snd.fst) ∧ Wr ((newW x.fst).snd.snd.fst = (newW x.fst).snd.snd.fst) ∧ Wr ((newW x.fst).snd.snd.snd.fst =
  (newW x.fst).snd.snd.snd.fst) ∧ Wr ((newW x.fst).snd.snd.snd.snd.fst = (newW x.fst).snd.snd.snd.snd.fst) ∧ Wr ((newW x.fst).snd.snd.snd.snd.snd.fst = (newW x.fst).snd.snd.snd.snd.snd.fst) ∧ Wr ((newW
  x.fst).snd.snd.snd.snd.snd.snd.fst = (newW x.fst).snd.snd.snd.snd.snd.snd.fst) ∧ Wr (x.fst.fst = x.fst.fst) ∧ Wr (x.fst.snd.fst = x.fst.snd.fst) ∧ Wr (x.fst.snd.snd.fst = x.fst.snd.snd.fst) ∧ Wr (x.fst.snd.snd.snd.fst =
  x.fst.snd.snd.snd.fst)))) ((Wr ((0 : Int) ≤ (0 : Int)) ∧ Wr (x_1.fst = x_1.fst) ∧ Wr ((0 : Int) = (0 : Int)) ∧ Wr (x.fst.fst = x.fst.fst) ∧ Wr (x.fst.snd.fst = x.fst.snd.fst) ∧ Wr (x.fst.snd.snd.fst = x.fst.snd.snd.fst)
  ∧ Wr (x.fst.snd.snd.snd.fst = x.fst.snd.snd.snd.fst) ∧ Wr ((newW x.fst).fst.fst = (newW x.fst).fst.fst) ∧ Wr ((newW x.fst).fst.snd.fst = (newW x.fst).fst.snd.fst) ∧ Wr ((newW x.fst).fst.snd.snd.fst = (newW
  x.fst).fst.snd.snd.fst) ∧ Wr ((newW x.fst).fst.snd.snd.snd.fst = (newW x.fst).fst.snd.snd.snd.fst) ∧ Wr ((newW x.fst).snd.fst = (newW x.fst).snd.fst) ∧ Wr ((newW x.fst).snd.snd.fst = (newW x.fst).snd.snd.fst) ∧ Wr
  ((newW x.fst).snd.snd.snd.fst = (newW x.fst).snd.snd.snd.fst) ∧ Wr ((newW x.fst).snd.snd.snd.snd.fst = (newW x.fst).snd.snd.snd.snd.fst) ∧ Wr ((newW x.fst).snd.snd.snd.snd.snd.fst = (newW x.fst).snd.snd.snd.snd.snd.fst)
  ∧ Wr ((newW x.fst).snd.snd.snd.snd.snd.snd.fst = (newW x.fst).snd.snd.snd.snd.snd.snd.fst) ∧ Wr ((newW x.fst).fst.fst = (newW x.fst).fst.fst) ∧ Wr ((newW x.fst).fst.snd.fst = (newW x.fst).fst.snd.fst) ∧ Wr ((newW
  x.fst).fst.snd.snd.fst = (newW x.fst).fst.snd.snd.fst) ∧ Wr ((newW x.fst).fst.snd.snd.snd.fst = (newW x.fst).fst.snd.snd.snd.fst) ∧ Wr ((newW x.fst).snd.fst = (newW x.fst).snd.fst) ∧ Wr ((newW x.fst).snd.snd.fst = (newW
  x.fst).snd.snd.fst) ∧ Wr ((newW x.fst).snd.snd.snd.fst = (newW x.fst).snd.snd.snd.fst) ∧ Wr ((newW x.fst).snd.snd.snd.snd.fst = (newW x.fst).snd.snd.snd.snd.fst) ∧ Wr ((newW x.fst).snd.snd.snd.snd.snd.fst = (newW
  x.fst).snd.snd.snd.snd.snd.fst) ∧ Wr ((newW x.fst).snd.snd.snd.snd.snd.snd.fst = (newW x.fst).snd.snd.snd.snd.snd.snd.fst) ∧ Wr (x.fst.fst = x.fst.fst) ∧ Wr (x.fst.snd.fst = x.fst.snd.fst) ∧ Wr (x.fst.snd.snd.fst =
  x.fst.snd.snd.fst) ∧ Wr (x.fst.snd.snd.snd.fst = x.fst.snd.snd.snd.fst)) ∧ ∀ (x_2 : Int × Int), Wr ((0 : Int) ≤ x_2.snd) → bcase (Decidable.decide (x_2.snd < (↑(List.length x.fst.snd.fst) : Int)) && Decidable.decide
  (x_2.snd ≤ (100 : Int))) (Wr ((0 : Int) ≤ x_2.snd) ∧ Wr (x_2.snd < (↑(List.length x.fst.snd.fst) : Int)) ∧ Wr (Bool.true = Bool.true) ∧ Wr (Bool.true = Bool.true) ∧ Wr ((0 : Int) ≤ IntKind.wrap IntKind.i64 (x_2.snd + (1
  : Int))) ∧ Wr (List.length x.fst.snd.fst - Int.toNat (IntKind.wrap IntKind.i64 (x_2.snd + (1 : Int))) < List.length x.fst.snd.fst - Int.toNat x_2.snd) ∧ Wr (IntKind.wrap IntKind.i64 (x_2.fst + Min.min (↑(List.length
  (List.getD x.fst.snd.fst (Int.toNat x_2.snd) (Ty.zero FatT)).snd.fst) : Int) (1000 : Int)) = IntKind.wrap IntKind.i64 (x_2.fst + Min.min (↑(List.length (List.getD x.fst.snd.fst (Int.toNat x_2.snd) (Ty.zero
  FatT)).snd.fst) : Int) (1000 : Int))) ∧ Wr (IntKind.wrap IntKind.i64 (x_2.snd + (1 : Int)) = IntKind.wrap IntKind.i64 (x_2.snd + (1 : Int))) ∧ Wr (x.fst.fst = x.fst.fst) ∧ Wr (x.fst.snd.fst = x.fst.snd.fst) ∧ Wr
  (x.fst.snd.snd.fst = x.fst.snd.snd.fst) ∧ Wr (x.fst.snd.snd.snd.fst = x.fst.snd.snd.snd.fst) ∧ Wr ((newW x.fst).fst.fst = (newW x.fst).fst.fst) ∧ Wr ((newW x.fst).fst.snd.fst = (newW x.fst).fst.snd.fst) ∧ Wr ((newW
  x.fst).fst.snd.snd.fst = (newW x.fst).fst.snd.snd.fst) ∧ Wr ((newW x.fst).fst.snd.snd.snd.fst = (newW x.fst).fst.snd.snd.snd.fst) ∧ Wr ((newW x.fst).snd.fst = (newW x.fst).snd.fst) ∧ Wr ((newW x.fst).snd.snd.fst = (newW
  x.fst).snd.snd.fst) ∧ Wr ((newW x.fst).snd.snd.snd.fst = (newW x.fst).snd.snd.snd.fst) ∧ Wr ((newW x.fst).snd.snd.snd.snd.fst = (newW x.fst).snd.snd.snd.snd.fst) ∧ Wr ((newW x.fst).snd.snd.snd.snd.snd.fst = (newW
  x.fst).snd.snd.snd.snd.snd.fst) ∧ Wr ((newW x.fst).snd.snd.snd.snd.snd.snd.fst = (newW x.fst).snd.snd.snd.snd.snd.snd.fst) ∧ Wr ((newW x.fst).fst.fst = (newW x.fst).fst.fst) ∧ Wr ((newW x.fst).fst.snd.fst = (newW
  x.fst).fst.snd.fst) ∧ Wr ((newW x.fst).fst.snd.snd.fst = (newW x.fst).fst.snd.snd.fst) ∧ Wr ((newW x.fst).fst.snd.snd.snd.fst = (newW x.fst).fst.snd.snd.snd.fst) ∧ Wr ((newW x.fst).snd.fst = (newW x.fst).snd.fst) ∧ Wr
  ((newW x.fst).snd.snd.fst = (newW x.fst).snd.snd.fst) ∧ Wr ((newW x.fst).snd.snd.snd.fst = (newW x.fst).snd.snd.snd.fst) ∧ Wr ((newW x.fst).snd.snd.snd.snd.fst = (newW x.fst).snd.snd.snd.snd.fst) ∧ Wr ((newW
  x.fst).snd.snd.snd.snd.snd.fst = (newW x.fst).snd.snd.snd.snd.snd.fst) ∧ Wr ((newW x.fst).snd.snd.snd.snd.snd.snd.fst = (newW x.fst).snd.snd.snd.snd.snd.snd.fst) ∧ Wr (x.fst.fst = x.fst.fst) ∧ Wr (x.fst.snd.fst =
  x.fst.snd.fst) ∧ Wr (x.fst.snd.snd.fst = x.fst.snd.snd.fst) ∧ Wr (x.fst.snd.snd.snd.fst = x.fst.snd.snd.snd.fst)) (bcase (Decidable.decide ((↑(List.length x.fst.fst) : Int) > (40 : Int)) || Decidable.decide
  ((↑(List.length x.fst.snd.fst) : Int) > (100 : Int)) || Decidable.decide (x_2.fst > (3000 : Int)) || !Decidable.decide (check x.fst = (0 : Int)) || Decidable.decide ((↑(List.length x.snd.fst) : Int) > (100 : Int))) (Wr
  True ∧ (Bool.true, ()) = (Bool.true, ())) ((Wr (PyI x.fst x.snd.fst (PyS.mk (0 : Int) (newW x.fst) (0 : Int) (0 : Int))) ∧ Wr ((0 : Int) = (0 : Int)) ∧ Wr ((0 : Int) = (0 : Int)) ∧ Wr ((0 : Int) = (0 : Int)) ∧ Wr
  (x.snd.fst = x.snd.fst) ∧ Wr ((newW x.fst).fst.fst = (newW x.fst).fst.fst) ∧ Wr ((newW x.fst).fst.snd.fst = (newW x.fst).fst.snd.fst) ∧ Wr ((newW x.fst).fst.snd.snd.fst = (newW x.fst).fst.snd.snd.fst) ∧ Wr ((newW
  x.fst).fst.snd.snd.snd.fst = (newW x.fst).fst.snd.snd.snd.fst) ∧ Wr ((newW x.fst).snd.fst = (newW x.fst).snd.fst) ∧ Wr ((newW x.fst).snd.snd.fst = (newW x.fst).snd.snd.fst) ∧ Wr ((newW x.fst).snd.snd.snd.fst = (newW
  x.fst).snd.snd.snd.fst) ∧ Wr ((newW x.fst).snd.snd.snd.snd.fst = (newW x.fst).snd.snd.snd.snd.fst) ∧ Wr ((newW x.fst).snd.snd.snd.snd.snd.fst = (newW x.fst).snd.snd.snd.snd.snd.fst) ∧ Wr ((newW
  x.fst).snd.snd.snd.snd.snd.snd.fst = (newW x.fst).snd.snd.snd.snd.snd.snd.fst) ∧ Wr (x.fst.fst = x.fst.fst) ∧ Wr (x.fst.snd.fst = x.fst.snd.fst) ∧ Wr (x.fst.snd.snd.fst = x.fst.snd.snd.fst) ∧ Wr (x.fst.snd.snd.snd.fst =
  x.fst.snd.snd.snd.fst)) ∧ ∀ (x_3 : PyS), Wr (PyI x.fst x.snd.fst x_3) → bcase (Decidable.decide (x_3.i < (↑(List.length x.snd.fst) : Int))) (Wr ((0 : Int) ≤ x_3.i) ∧ Wr (x_3.i < (↑(List.length x.snd.fst) : Int)) ∧ Wr
  (Bool.true = Bool.true) ∧ bcase (Decidable.decide ((List.getD x.snd.fst (Int.toNat x_3.i) (Ty.zero ActT)).fst = (0 : Int))) (Wr (Bool.true = Bool.true) ∧ Wr (PcI x.fst x.snd.fst x_3.i x_3.w (PcS.mk (tickW x_3.w) (tickE
  x_3.w) x_3.well x_3.under)) ∧ Wr (tickE x_3.w = tickE x_3.w) ∧ Wr (x_3.well = x_3.well) ∧ Wr (x_3.under = x_3.under) ∧ Wr (x.snd.fst = x.snd.fst) ∧ Wr (x_3.i = x_3.i) ∧ Wr ((tickW x_3.w).fst.fst = (tickW x_3.w).fst.fst)
  ∧ Wr ((tickW x_3.w).fst.snd.fst = (tickW x_3.w).fst.snd.fst) ∧ Wr ((tickW x_3.w).fst.snd.snd.fst = (tickW x_3.w).fst.snd.snd.fst) ∧ Wr ((tickW x_3.w).fst.snd.snd.snd.fst = (tickW x_3.w).fst.snd.snd.snd.fst) ∧ Wr ((tickW
  x_3.w).snd.fst = (tickW x_3.w).snd.fst) ∧ Wr ((tickW x_3.w).snd.snd.fst = (tickW x_3.w).snd.snd.fst) ∧ Wr ((tickW x_3.w).snd.snd.snd.fst = (tickW x_3.w).snd.snd.snd.fst) ∧ Wr ((tickW x_3.w).snd.snd.snd.snd.fst = (tickW
  x_3.w).snd.snd.snd.snd.fst) ∧ Wr ((tickW x_3.w).snd.snd.snd.snd.snd.fst = (tickW x_3.w).snd.snd.snd.snd.snd.fst) ∧ Wr ((tickW x_3.w).snd.snd.snd.snd.snd.snd.fst = (tickW x_3.w).snd.snd.snd.snd.snd.snd.fst) ∧ Wr
  (x.fst.fst = x.fst.fst) ∧ Wr (x.fst.snd.fst = x.fst.snd.fst) ∧ Wr (x.fst.snd.snd.fst = x.fst.snd.snd.fst) ∧ Wr (x.fst.snd.snd.snd.fst = x.fst.snd.snd.snd.fst) ∧ Wr (x_3.w.fst.fst = x_3.w.fst.fst) ∧ Wr (x_3.w.fst.snd.fst
  = x_3.w.fst.snd.fst) ∧ Wr (x_3.w.fst.snd.snd.fst = x_3.w.fst.snd.snd.fst) ∧ Wr (x_3.w.fst.snd.snd.snd.fst = x_3.w.fst.snd.snd.snd.fst) ∧ Wr (x_3.w.snd.fst = x_3.w.snd.fst) ∧ Wr (x_3.w.snd.snd.fst = x_3.w.snd.snd.fst) ∧
  Wr (x_3.w.snd.snd.snd.fst = x_3.w.snd.snd.snd.fst) ∧ Wr (x_3.w.snd.snd.snd.snd.fst = x_3.w.snd.snd.snd.snd.fst) ∧ Wr (x_3.w.snd.snd.snd.snd.snd.fst = x_3.w.snd.snd.snd.snd.snd.fst) ∧ Wr
  (x_3.w.snd.snd.snd.snd.snd.snd.fst = x_3.w.snd.snd.snd.snd.snd.snd.fst)) (bcase (Decidable.decide ((List.getD x.snd.fst (Int.toNat x_3.i) (Ty.zero ActT)).fst = (1 : Int))) (Wr (okN x_3.w.snd.snd.fst = Bool.true) ∧ Wr
  (PcI x.fst x.snd.fst x_3.i x_3.w (PcS.mk (dropW x_3.w) (dropE x_3.w) x_3.well x_3.under)) ∧ Wr (dropE x_3.w = dropE x_3.w) ∧ Wr (x_3.well = x_3.well) ∧ Wr (x_3.under = x_3.under) ∧ Wr (x.snd.fst = x.snd.fst) ∧ Wr (x_3.i
  = x_3.i) ∧ Wr ((dropW x_3.w).fst.fst = (dropW x_3.w).fst.fst) ∧ Wr ((dropW x_3.w).fst.snd.fst = (dropW x_3.w).fst.snd.fst) ∧ Wr ((dropW x_3.w).fst.snd.snd.fst = (dropW x_3.w).fst.snd.snd.fst) ∧ Wr ((dropW
  x_3.w).fst.snd.snd.snd.fst = (dropW x_3.w).fst.snd.snd.snd.fst) ∧ Wr ((dropW x_3.w).snd.fst = (dropW x_3.w).snd.fst) ∧ Wr ((dropW x_3.w).snd.snd.fst = (dropW x_3.w).snd.snd.fst) ∧ Wr ((dropW x_3.w).snd.snd.snd.fst =
  (dropW x_3.w).snd.snd.snd.fst) ∧ Wr ((dropW x_3.w).snd.snd.snd.snd.fst = (dropW x_3.w).snd.snd.snd.snd.fst) ∧ Wr ((dropW x_3.w).snd.snd.snd.snd.snd.fst = (dropW x_3.w).snd.snd.snd.snd.snd.fst) ∧ Wr ((dropW
  x_3.w).snd.snd.snd.snd.snd.snd.fst = (dropW x_3.w).snd.snd.snd.snd.snd.snd.fst) ∧ Wr (x.fst.fst = x.fst.fst) ∧ Wr (x.fst.snd.fst = x.fst.snd.fst) ∧ Wr (x.fst.snd.snd.fst = x.fst.snd.snd.fst) ∧ Wr (x.fst.snd.snd.snd.fst
  = x.fst.snd.snd.snd.fst) ∧ Wr (x_3.w.fst.fst = x_3.w.fst.fst) ∧ Wr (x_3.w.fst.snd.fst = x_3.w.fst.snd.fst) ∧ Wr (x_3.w.fst.snd.snd.fst = x_3.w.fst.snd.snd.fst) ∧ Wr (x_3.w.fst.snd.snd.snd.fst =
  x_3.w.fst.snd.snd.snd.fst) ∧ Wr (x_3.w.snd.fst = x_3.w.snd.fst) ∧ Wr (x_3.w.snd.snd.fst = x_3.w.snd.snd.fst) ∧ Wr (x_3.w.snd.snd.snd.fst = x_3.w.snd.snd.snd.fst) ∧ Wr (x_3.w.snd.snd.snd.snd.fst =
  x_3.w.snd.snd.snd.snd.fst) ∧ Wr (x_3.w.snd.snd.snd.snd.snd.fst = x_3.w.snd.snd.snd.snd.snd.fst) ∧ Wr (x_3.w.snd.snd.snd.snd.snd.snd.fst = x_3.w.snd.snd.snd.snd.snd.snd.fst)) (bcase (Decidable.decide ((List.getD
  x.snd.fst (Int.toNat x_3.i) (Ty.zero ActT)).fst = (2 : Int))) (Wr (okW x_3.w = Bool.true) ∧ bcase (Decidable.decide (dialE x_3.w (List.getD x.snd.fst (Int.toNat x_3.i) (Ty.zero ActT)).snd.fst (List.getD x.snd.fst
  (Int.toNat x_3.i) (Ty.zero ActT)).snd.snd.snd.fst = (0 : Int))) (Wr (PcI x.fst x.snd.fst x_3.i x_3.w (PcS.mk (dialW x_3.w (List.getD x.snd.fst (Int.toNat x_3.i) (Ty.zero ActT)).snd.fst (List.getD x.snd.fst (Int.toNat
  x_3.i) (Ty.zero ActT)).snd.snd.snd.fst) (dialE x_3.w (List.getD x.snd.fst (Int.toNat x_3.i) (Ty.zero ActT)).snd.fst (List.getD x.snd.fst (Int.toNat x_3.i) (Ty.zero ActT)).snd.snd.snd.fst) x_3.well (IntKind.wrap
  IntKind.i64 (x_3.under + (1 : Int))))) ∧ Wr (dialE x_3.w (List.getD x.snd.fst (Int.toNat x_3.i) (Ty.zero ActT)).snd.fst (List.getD x.snd.fst (Int.toNat x_3.i) (Ty.zero ActT)).snd.snd.snd.fst = dialE x_3.w (List.getD
  x.snd.fst (Int.toNat x_3.i) (Ty.zero ActT)).snd.fst (List.getD x.snd.fst (Int.toNat x_3.i) (Ty.zero ActT)).snd.snd.snd.fst) ∧ Wr (x_3.well = x_3.well) ∧ Wr (IntKind.wrap IntKind.i64 (x_3.under + (1 : Int)) =
  IntKind.wrap IntKind.i64 (x_3.under + (1 : Int))) ∧ Wr (x.snd.fst = x.snd.fst) ∧ Wr (x_3.i = x_3.i) ∧ Wr ((dialW x_3.w (List.getD x.snd.fst (Int.toNat x_3.i) (Ty.zero ActT)).snd.fst (List.getD x.snd.fst (Int.toNat
  x_3.i) (Ty.zero ActT)).snd.snd.snd.fst).fst.fst = (dialW x_3.w (List.getD x.snd.fst (Int.toNat x_3.i) (Ty.zero ActT)).snd.fst (List.getD x.snd.fst (Int.toNat x_3.i) (Ty.zero ActT)).snd.snd.snd.fst).fst.fst) ∧ Wr ((dialW
  x_3.w (List.getD x.snd.fst (Int.toNat x_3.i) (Ty.zero ActT)).snd.fst (List.getD x.snd.fst (Int.toNat x_3.i) (Ty.zero ActT)).snd.snd.snd.fst).fst.snd.fst = (dialW x_3.w (List.getD x.snd.fst (Int.toNat x_3.i) (Ty.zero
  ActT)).snd.fst (List.getD x.snd.fst (Int.toNat x_3.i) (Ty.zero ActT)).snd.snd.snd.fst).fst.snd.fst) ∧ Wr ((dialW x_3.w (List.getD x.snd.fst (Int.toNat x_3.i) (Ty.zero ActT)).snd.fst (List.getD x.snd.fst (Int.toNat
  x_3.i) (Ty.zero ActT)).snd.snd.snd.fst).fst.snd.snd.fst = (dialW x_3.w (List.getD x.snd.fst (Int.toNat x_3.i) (Ty.zero ActT)).snd.fst (List.getD x.snd.fst (Int.toNat x_3.i) (Ty.zero
  ActT)).snd.snd.snd.fst).fst.snd.snd.fst) ∧ Wr ((dialW x_3.w (List.getD x.snd.fst (Int.toNat x_3.i) (Ty.zero ActT)).snd.fst (List.getD x.snd.fst (Int.toNat x_3.i) (Ty.zero ActT)).snd.snd.snd.fst).fst.snd.snd.snd.fst =
  (dialW x_3.w (List.getD x.snd.fst (Int.toNat x_3.i) (Ty.zero ActT)).snd.fst (List.getD x.snd.fst (Int.toNat x_3.i) (Ty.zero ActT)).snd.snd.snd.fst).fst.snd.snd.snd.fst) ∧ Wr ((dialW x_3.w (List.getD x.snd.fst (Int.toNat
  x_3.i) (Ty.zero ActT)).snd.fst (List.getD x.snd.fst (Int.toNat x_3.i) (Ty.zero ActT)).snd.snd.snd.fst).snd.fst = (dialW x_3.w (List.getD x.snd.fst (Int.toNat x_3.i) (Ty.zero ActT)).snd.fst (List.getD x.snd.fst
  (Int.toNat x_3.i) (Ty.zero ActT)).snd.snd.snd.fst).snd.fst) ∧ Wr ((dialW x_3.w (List.getD x.snd.fst (Int.toNat x_3.i) (Ty.zero ActT)).snd.fst (List.getD x.snd.fst (Int.toNat x_3.i) (Ty.zero
  ActT)).snd.snd.snd.fst).snd.snd.fst = (dialW x_3.w (List.getD x.snd.fst (Int.toNat x_3.i) (Ty.zero ActT)).snd.fst (List.getD x.snd.fst (Int.toNat x_3.i) (Ty.zero ActT)).snd.snd.snd.fst).snd.snd.fst) ∧ Wr ((dialW x_3.w
  (List.getD x.snd.fst (Int.toNat x_3.i) (Ty.zero ActT)).snd.fst (List.getD x.snd.fst (Int.toNat x_3.i) (Ty.zero ActT)).snd.snd.snd.fst).snd.snd.snd.fst = (dialW x_3.w (List.getD x.snd.fst (Int.toNat x_3.i) (Ty.zero
  ActT)).snd.fst (List.getD x.snd.fst (Int.toNat x_3.i) (Ty.zero ActT)).snd.snd.snd.fst).snd.snd.snd.fst) ∧ Wr ((dialW x_3.w (List.getD x.snd.fst (Int.toNat x_3.i) (Ty.zero ActT)).snd.fst (List.getD x.snd.fst (Int.toNat
  x_3.i) (Ty.zero ActT)).snd.snd.snd.fst).snd.snd.snd.snd.fst = (dialW x_3.w (List.getD x.snd.fst (Int.toNat x_3.i) (Ty.zero ActT)).snd.fst (List.getD x.snd.fst (Int.toNat x_3.i) (Ty.zero
  ActT)).snd.snd.snd.fst).snd.snd.snd.snd.fst) ∧ Wr ((dialW x_3.w (List.getD x.snd.fst (Int.toNat x_3.i) (Ty.zero ActT)).snd.fst (List.getD x.snd.fst (Int.toNat x_3.i) (Ty.zero
  ActT)).snd.snd.snd.fst).snd.snd.snd.snd.snd.fst = (dialW x_3.w (List.getD x.snd.fst (Int.toNat x_3.i) (Ty.zero ActT)).snd.fst (List.getD x.snd.fst (Int.toNat x_3.i) (Ty.zero
  ActT)).snd.snd.snd.fst).snd.snd.snd.snd.snd.fst) ∧ Wr ((dialW x_3.w (List.getD x.snd.fst (Int.toNat x_3.i) (Ty.zero ActT)).snd.fst (List.getD x.snd.fst (Int.toNat x_3.i) (Ty.zero
  ActT)).snd.snd.snd.fst).snd.snd.snd.snd.snd.snd.fst = (dialW x_3.w (List.getD x.snd.fst (Int.toNat x_3.i) (Ty.zero ActT)).snd.fst (List.getD x.snd.fst (Int.toNat x_3.i) (Ty.zero
  ActT)).snd.snd.snd.fst).snd.snd.snd.snd.snd.snd.fst) ∧ Wr (x.fst.fst = x.fst.fst) ∧ Wr (x.fst.snd.fst = x.fst.snd.fst) ∧ Wr (x.fst.snd.snd.fst = x.fst.snd.snd.fst) ∧ Wr (x.fst.snd.snd.snd.fst = x.fst.snd.snd.snd.fst) ∧
  Wr (x_3.w.fst.fst = x_3.w.fst.fst) ∧ Wr (x_3.w.fst.snd.fst = x_3.w.fst.snd.fst) ∧ Wr (x_3.w.fst.snd.snd.fst = x_3.w.fst.snd.snd.fst) ∧ Wr (x_3.w.fst.snd.snd.snd.fst = x_3.w.fst.snd.snd.snd.fst) ∧ Wr (x_3.w.snd.fst =
  x_3.w.snd.fst) ∧ Wr (x_3.w.snd.snd.fst = x_3.w.snd.snd.fst) ∧ Wr (x_3.w.snd.snd.snd.fst = x_3.w.snd.snd.snd.fst) ∧ Wr (x_3.w.snd.snd.snd.snd.fst = x_3.w.snd.snd.snd.snd.fst) ∧ Wr (x_3.w.snd.snd.snd.snd.snd.fst =
  x_3.w.snd.snd.snd.snd.snd.fst) ∧ Wr (x_3.w.snd.snd.snd.snd.snd.snd.fst = x_3.w.snd.snd.snd.snd.snd.snd.fst)) (Wr (PcI x.fst x.snd.fst x_3.i x_3.w (PcS.mk (dialW x_3.w (List.getD x.snd.fst (Int.toNat x_3.i) (Ty.zero
  ActT)).snd.fst (List.getD x.snd.fst (Int.toNat x_3.i) (Ty.zero ActT)).snd.snd.snd.fst) (dialE x_3.w (List.getD x.snd.fst (Int.toNat x_3.i) (Ty.zero ActT)).snd.fst (List.getD x.snd.fst (Int.toNat x_3.i) (Ty.zero
  ActT)).snd.snd.snd.fst) x_3.well x_3.under)) ∧ Wr (dialE x_3.w (List.getD x.snd.fst (Int.toNat x_3.i) (Ty.zero ActT)).snd.fst (List.getD x.snd.fst (Int.toNat x_3.i) (Ty.zero ActT)).snd.snd.snd.fst = dialE x_3.w
  (List.getD x.snd.fst (Int.toNat x_3.i) (Ty.zero ActT)).snd.fst (List.getD x.snd.fst (Int.toNat x_3.i) (Ty.zero ActT)).snd.snd.snd.fst) ∧ Wr (x_3.well = x_3.well) ∧ Wr (x_3.under = x_3.under) ∧ Wr (x.snd.fst = x.snd.fst)
  ∧ Wr (x_3.i = x_3.i) ∧ Wr ((dialW x_3.w (List.getD x.snd.fst (Int.toNat x_3.i) (Ty.zero ActT)).snd.fst (List.getD x.snd.fst (Int.toNat x_3.i) (Ty.zero ActT)).snd.snd.snd.fst).fst.fst = (dialW x_3.w (List.getD x.snd.fst
  (Int.toNat x_3.i) (Ty.zero ActT)).snd.fst (List.getD x.snd.fst (Int.toNat x_3.i) (Ty.zero ActT)).snd.snd.snd.fst).fst.fst) ∧ Wr ((dialW x_3.w (List.getD x.snd.fst (Int.toNat x_3.i) (Ty.zero ActT)).snd.fst (List.getD
  x.snd.fst (Int.toNat x_3.i) (Ty.zero ActT)).snd.snd.snd.fst).fst.snd.fst = (dialW x_3.w (List.getD x.snd.fst (Int.toNat x_3.i) (Ty.zero ActT)).snd.fst (List.getD x.snd.fst (Int.toNat x_3.i) (Ty.zero
  ActT)).snd.snd.snd.fst).fst.snd.fst) ∧ Wr ((dialW x_3.w (List.getD x.snd.fst (Int.toNat x_3.i) (Ty.zero ActT)).snd.fst (List.getD x.snd.fst (Int.toNat x_3.i) (Ty.zero ActT)).snd.snd.snd.fst).fst.snd.snd.fst = (dialW
  x_3.w (List.getD x.snd.fst (Int.toNat x_3.i) (Ty.zero ActT)).snd.fst (List.getD x.snd.fst (Int.toNat x_3.i) (Ty.zero ActT)).snd.snd.snd.fst).fst.snd.snd.fst) ∧ Wr ((dialW x_3.w (List.getD x.snd.fst (Int.toNat x_3.i)
  (Ty.zero ActT)).snd.fst (List.getD x.snd.fst (Int.toNat x_3.i) (Ty.zero ActT)).snd.snd.snd.fst).fst.snd.snd.snd.fst = (dialW x_3.w (List.getD x.snd.fst (Int.toNat x_3.i) (Ty.zero ActT)).snd.fst (List.getD x.snd.fst
  (Int.toNat x_3.i) (Ty.zero ActT)).snd.snd.snd.fst).fst.snd.snd.snd.fst) ∧ Wr ((dialW x_3.w (List.getD x.snd.fst (Int.toNat x_3.i) (Ty.zero ActT)).snd.fst (List.getD x.snd.fst (Int.toNat x_3.i) (Ty.zero
  ActT)).snd.snd.snd.fst).snd.fst = (dialW x_3.w (List.getD x.snd.fst (Int.toNat x_3.i) (Ty.zero ActT)).snd.fst (List.getD x.snd.fst (Int.toNat x_3.i) (Ty.zero ActT)).snd.snd.snd.fst).snd.fst) ∧ Wr ((dialW x_3.w
  (List.getD x.snd.fst (Int.toNat x_3.i) (Ty.zero ActT)).snd.fst (List.getD x.snd.fst (Int.toNat x_3.i) (Ty.zero ActT)).snd.snd.snd.fst).snd.snd.fst = (dialW x_3.w (List.getD x.snd.fst (Int.toNat x_3.i) (Ty.zero
  ActT)).snd.fst (List.getD x.snd.fst (Int.toNat x_3.i) (Ty.zero ActT)).snd.snd.snd.fst).snd.snd.fst) ∧ Wr ((dialW x_3.w (List.getD x.snd.fst (Int.toNat x_3.i) (Ty.zero ActT)).snd.fst (List.getD x.snd.fst (Int.toNat
  x_3.i) (Ty.zero ActT)).snd.snd.snd.fst).snd.snd.snd.fst = (dialW x_3.w (List.getD x.snd.fst (Int.toNat x_3.i) (Ty.zero ActT)).snd.fst (List.getD x.snd.fst (Int.toNat x_3.i) (Ty.zero
  ActT)).snd.snd.snd.fst).snd.snd.snd.fst) ∧ Wr ((dialW x_3.w (List.getD x.snd.fst (Int.toNat x_3.i) (Ty.zero ActT)).snd.fst (List.getD x.snd.fst (Int.toNat x_3.i) (Ty.zero ActT)).snd.snd.snd.fst).snd.snd.snd.snd.fst =
  (dialW x_3.w (List.getD x.snd.fst (Int.toNat x_3.i) (Ty.zero ActT)).snd.fst (List.getD x.snd.fst (Int.toNat x_3.i) (Ty.zero ActT)).snd.snd.snd.fst).snd.snd.snd.snd.fst) ∧ Wr ((dialW x_3.w (List.getD x.snd.fst (Int.toNat
  x_3.i) (Ty.zero ActT)).snd.fst (List.getD x.snd.fst (Int.toNat x_3.i) (Ty.zero ActT)).snd.snd.snd.fst).snd.snd.snd.snd.snd.fst = (dialW x_3.w (List.getD x.snd.fst (Int.toNat x_3.i) (Ty.zero ActT)).snd.fst (List.getD
  x.snd.fst (Int.toNat x_3.i) (Ty.zero ActT)).snd.snd.snd.fst).snd.snd.snd.snd.snd.fst) ∧ Wr ((dialW x_3.w (List.getD x.snd.fst (Int.toNat x_3.i) (Ty.zero ActT)).snd.fst (List.getD x.snd.fst (Int.toNat x_3.i) (Ty.zero
  ActT)).snd.snd.snd.fst).snd.snd.snd.snd.snd.snd.fst = (dialW x_3.w (List.getD x.snd.fst (Int.toNat x_3.i) (Ty.zero ActT)).snd.fst (List.getD x.snd.fst (Int.toNat x_3.i) (Ty.zero
  ActT)).snd.snd.snd.fst).snd.snd.snd.snd.snd.snd.fst) ∧ Wr (x.fst.fst = x.fst.fst) ∧ Wr (x.fst.snd.fst = x.fst.snd.fst) ∧ Wr (x.fst.snd.snd.fst = x.fst.snd.snd.fst) ∧ Wr (x.fst.snd.snd.snd.fst = x.fst.snd.snd.snd.fst) ∧
  Wr (x_3.w.fst.fst = x_3.w.fst.fst) ∧ Wr (x_3.w.fst.snd.fst = x_3.w.fst.snd.fst) ∧ Wr (x_3.w.fst.snd.snd.fst = x_3.w.fst.snd.snd.fst) ∧ Wr (x_3.w.fst.snd.snd.snd.fst = x_3.w.fst.snd.snd.snd.fst) ∧ Wr (x_3.w.snd.fst =
  x_3.w.snd.fst) ∧ Wr (x_3.w.snd.snd.fst = x_3.w.snd.snd.fst) ∧ Wr (x_3.w.snd.snd.snd.fst = x_3.w.snd.snd.snd.fst) ∧ Wr (x_3.w.snd.snd.snd.snd.fst = x_3.w.snd.snd.snd.snd.fst) ∧ Wr (x_3.w.snd.snd.snd.snd.snd.fst =
  x_3.w.snd.snd.snd.snd.snd.fst) ∧ Wr (x_3.w.snd.snd.snd.snd.snd.snd.fst = x_3.w.snd.snd.snd.snd.snd.snd.fst))) (bcase (Decidable.decide ((List.getD x.snd.fst (Int.toNat x_3.i) (Ty.zero ActT)).fst = (3 : Int))) (Wr (okW
  x_3.w = Bool.true) ∧ Wr ((okW (cutW x_3.w (List.getD x.snd.fst (Int.toNat x_3.i) (Ty.zero ActT)).snd.fst) && lenA (nilL (Int × (Int × Int × Int × Int × Int × Int × Int × Int × Unit) × Int × Unit))) = Bool.true) ∧ Wr
  ((okW x_3.w && lenA (nilL (Int × (Int × Int × Int × Int × Int × Int × Int × Int × Unit) × Int × Unit))) = Bool.true) ∧ bcase (!Decidable.decide (underW (cutW x_3.w (List.getD x.snd.fst (Int.toNat x_3.i) (Ty.zero
  ActT)).snd.fst) (nilL (Int × (Int × Int × Int × Int × Int × Int × Int × Int × Unit) × Int × Unit)) = underW x_3.w (nilL (Int × (Int × Int × Int × Int × Int × Int × Int × Int × Unit) × Int × Unit)))) ((Bool.false, ()) =
  (Bool.true, ())) (Wr (PcI x.fst x.snd.fst x_3.i x_3.w (PcS.mk (cutW x_3.w (List.getD x.snd.fst (Int.toNat x_3.i) (Ty.zero ActT)).snd.fst) (0 : Int) x_3.well x_3.under)) ∧ Wr ((0 : Int) = (0 : Int)) ∧ Wr (x_3.well =
  x_3.well) ∧ Wr (x_3.under = x_3.under) ∧ Wr (x.snd.fst = x.snd.fst) ∧ Wr (x_3.i = x_3.i) ∧ Wr ((cutW x_3.w (List.getD x.snd.fst (Int.toNat x_3.i) (Ty.zero ActT)).snd.fst).fst.fst = (cutW x_3.w (List.getD x.snd.fst
  (Int.toNat x_3.i) (Ty.zero ActT)).snd.fst).fst.fst) ∧ Wr ((cutW x_3.w (List.getD x.snd.fst (Int.toNat x_3.i) (Ty.zero ActT)).snd.fst).fst.snd.fst = (cutW x_3.w (List.getD x.snd.fst (Int.toNat x_3.i) (Ty.zero
  ActT)).snd.fst).fst.snd.fst) ∧ Wr ((cutW x_3.w (List.getD x.snd.fst (Int.toNat x_3.i) (Ty.zero ActT)).snd.fst).fst.snd.snd.fst = (cutW x_3.w (List.getD x.snd.fst (Int.toNat x_3.i) (Ty.zero
  ActT)).snd.fst).fst.snd.snd.fst) ∧ Wr ((cutW x_3.w (List.getD x.snd.fst (Int.toNat x_3.i) (Ty.zero ActT)).snd.fst).fst.snd.snd.snd.fst = (cutW x_3.w (List.getD x.snd.fst (Int.toNat x_3.i) (Ty.zero
  ActT)).snd.fst).fst.snd.snd.snd.fst) ∧ Wr ((cutW x_3.w (List.getD x.snd.fst (Int.toNat x_3.i) (Ty.zero ActT)).snd.fst).snd.fst = (cutW x_3.w (List.getD x.snd.fst (Int.toNat x_3.i) (Ty.zero ActT)).snd.fst).snd.fst) ∧ Wr
  ((cutW x_3.w (List.getD x.snd.fst (Int.toNat x_3.i) (Ty.zero ActT)).snd.fst).snd.snd.fst = (cutW x_3.w (List.getD x.snd.fst (Int.toNat x_3.i) (Ty.zero ActT)).snd.fst).snd.snd.fst) ∧ Wr ((cutW x_3.w (List.getD x.snd.fst
  (Int.toNat x_3.i) (Ty.zero ActT)).snd.fst).snd.snd.snd.fst = (cutW x_3.w (List.getD x.snd.fst (Int.toNat x_3.i) (Ty.zero ActT)).snd.fst).snd.snd.snd.fst) ∧ Wr ((cutW x_3.w (List.getD x.snd.fst (Int.toNat x_3.i) (Ty.zero
  ActT)).snd.fst).snd.snd.snd.snd.fst = (cutW x_3.w (List.getD x.snd.fst (Int.toNat x_3.i) (Ty.zero ActT)).snd.fst).snd.snd.snd.snd.fst) ∧ Wr ((cutW x_3.w (List.getD x.snd.fst (Int.toNat x_3.i) (Ty.zero
  ActT)).snd.fst).snd.snd.snd.snd.snd.fst = (cutW x_3.w (List.getD x.snd.fst (Int.toNat x_3.i) (Ty.zero ActT)).snd.fst).snd.snd.snd.snd.snd.fst) ∧ Wr ((cutW x_3.w (List.getD x.snd.fst (Int.toNat x_3.i) (Ty.zero
  ActT)).snd.fst).snd.snd.snd.snd.snd.snd.fst = (cutW x_3.w (List.getD x.snd.fst (Int.toNat x_3.i) (Ty.zero ActT)).snd.fst).snd.snd.snd.snd.snd.snd.fst) ∧ Wr (x.fst.fst = x.fst.fst) ∧ Wr (x.fst.snd.fst = x.fst.snd.fst) ∧
  Wr (x.fst.snd.snd.fst = x.fst.snd.snd.fst) ∧ Wr (x.fst.snd.snd.snd.fst = x.fst.snd.snd.snd.fst) ∧ Wr (x_3.w.fst.fst = x_3.w.fst.fst) ∧ Wr (x_3.w.fst.snd.fst = x_3.w.fst.snd.fst) ∧ Wr (x_3.w.fst.snd.snd.fst =
  x_3.w.fst.snd.snd.fst) ∧ Wr (x_3.w.fst.snd.snd.snd.fst = x_3.w.fst.snd.snd.snd.fst) ∧ Wr (x_3.w.snd.fst = x_3.w.snd.fst) ∧ Wr (x_3.w.snd.snd.fst = x_3.w.snd.snd.fst) ∧ Wr (x_3.w.snd.snd.snd.fst = x_3.w.snd.snd.snd.fst)
  ∧ Wr (x_3.w.snd.snd.snd.snd.fst = x_3.w.snd.snd.snd.snd.fst) ∧ Wr (x_3.w.snd.snd.snd.snd.snd.fst = x_3.w.snd.snd.snd.snd.snd.fst) ∧ Wr (x_3.w.snd.snd.snd.snd.snd.snd.fst = x_3.w.snd.snd.snd.snd.snd.snd.fst))) (bcase
  (Decidable.decide ((List.getD x.snd.fst (Int.toNat x_3.i) (Ty.zero ActT)).fst = (4 : Int))) (Wr (okW x_3.w = Bool.true) ∧ Wr (okW x_3.w = Bool.true) ∧ bcase (!readyW x_3.w (List.getD x.snd.fst (Int.toNat x_3.i) (Ty.zero
  ActT)).snd.fst == Decidable.decide (endE x_3.w (List.getD x.snd.fst (Int.toNat x_3.i) (Ty.zero ActT)).snd.fst = (0 : Int))) ((Bool.false, ()) = (Bool.true, ())) (bcase (Decidable.decide (endE x_3.w (List.getD x.snd.fst
  (Int.toNat x_3.i) (Ty.zero ActT)).snd.fst = (0 : Int))) (bcase (Decidable.decide ((endM x_3.w (List.getD x.snd.fst (Int.toNat x_3.i) (Ty.zero ActT)).snd.fst).snd.snd.snd.snd.snd.fst = (0 : Int))) (bcase
  (!Decidable.decide ((endM x_3.w (List.getD x.snd.fst (Int.toNat x_3.i) (Ty.zero ActT)).snd.fst).snd.snd.snd.fst = (↑(List.length x_3.w.snd.snd.fst) : Int))) ((Bool.false, ()) = (Bool.true, ())) (Wr (okW (endW x_3.w
  (List.getD x.snd.fst (Int.toNat x_3.i) (Ty.zero ActT)).snd.fst) = Bool.true) ∧ bcase (readyW (endW x_3.w (List.getD x.snd.fst (Int.toNat x_3.i) (Ty.zero ActT)).snd.fst) (List.getD x.snd.fst (Int.toNat x_3.i) (Ty.zero
  ActT)).snd.fst) ((Bool.false, ()) = (Bool.true, ())) (Wr (PcI x.fst x.snd.fst x_3.i x_3.w (PcS.mk (endW x_3.w (List.getD x.snd.fst (Int.toNat x_3.i) (Ty.zero ActT)).snd.fst) (endE x_3.w (List.getD x.snd.fst (Int.toNat
  x_3.i) (Ty.zero ActT)).snd.fst) (IntKind.wrap IntKind.i64 (x_3.well + (1 : Int))) (IntKind.wrap IntKind.i64 (x_3.under - (1 : Int))))) ∧ Wr (endE x_3.w (List.getD x.snd.fst (Int.toNat x_3.i) (Ty.zero ActT)).snd.fst =
  endE x_3.w (List.getD x.snd.fst (Int.toNat x_3.i) (Ty.zero ActT)).snd.fst) ∧ Wr (IntKind.wrap IntKind.i64 (x_3.well + (1 : Int)) = IntKind.wrap IntKind.i64 (x_3.well + (1 : Int))) ∧ Wr (IntKind.wrap IntKind.i64
  (x_3.under - (1 : Int)) = IntKind.wrap IntKind.i64 (x_3.under - (1 : Int))) ∧ Wr (x.snd.fst = x.snd.fst) ∧ Wr (x_3.i = x_3.i) ∧ Wr ((endW x_3.w (List.getD x.snd.fst (Int.toNat x_3.i) (Ty.zero ActT)).snd.fst).fst.fst =
  (endW x_3.w (List.getD x.snd.fst (Int.toNat x_3.i) (Ty.zero ActT)).snd.fst).fst.fst) ∧ Wr ((endW x_3.w (List.getD x.snd.fst (Int.toNat x_3.i) (Ty.zero ActT)).snd.fst).fst.snd.fst = (endW x_3.w (List.getD x.snd.fst
  (Int.toNat x_3.i) (Ty.zero ActT)).snd.fst).fst.snd.fst) ∧ Wr ((endW x_3.w (List.getD x.snd.fst (Int.toNat x_3.i) (Ty.zero ActT)).snd.fst).fst.snd.snd.fst = (endW x_3.w (List.getD x.snd.fst (Int.toNat x_3.i) (Ty.zero
  ActT)).snd.fst).fst.snd.snd.fst) ∧ Wr ((endW x_3.w (List.getD x.snd.fst (Int.toNat x_3.i) (Ty.zero ActT)).snd.fst).fst.snd.snd.snd.fst = (endW x_3.w (List.getD x.snd.fst (Int.toNat x_3.i) (Ty.zero
  ActT)).snd.fst).fst.snd.snd.snd.fst) ∧ Wr ((endW x_3.w (List.getD x.snd.fst (Int.toNat x_3.i) (Ty.zero ActT)).snd.fst).snd.fst = (endW x_3.w (List.getD x.snd.fst (Int.toNat x_3.i) (Ty.zero ActT)).snd.fst).snd.fst) ∧ Wr
  ((endW x_3.w (List.getD x.snd.fst (Int.toNat x_3.i) (Ty.zero ActT)).snd.fst).snd.snd.fst = (endW x_3.w (List.getD x.snd.fst (Int.toNat x_3.i) (Ty.zero ActT)).snd.fst).snd.snd.fst) ∧ Wr ((endW x_3.w (List.getD x.snd.fst
  (Int.toNat x_3.i) (Ty.zero ActT)).snd.fst).snd.snd.snd.fst = (endW x_3.w (List.getD x.snd.fst (Int.toNat x_3.i) (Ty.zero ActT)).snd.fst).snd.snd.snd.fst) ∧ Wr ((endW x_3.w (List.getD x.snd.fst (Int.toNat x_3.i) (Ty.zero
  ActT)).snd.fst).snd.snd.snd.snd.fst = (endW x_3.w (List.getD x.snd.fst (Int.toNat x_3.i) (Ty.zero ActT)).snd.fst).snd.snd.snd.snd.fst) ∧ Wr ((endW x_3.w (List.getD x.snd.fst (Int.toNat x_3.i) (Ty.zero
  ActT)).snd.fst).snd.snd.snd.snd.snd.fst = (endW x_3.w (List.getD x.snd.fst (Int.toNat x_3.i) (Ty.zero ActT)).snd.fst).snd.snd.snd.snd.snd.fst) ∧ Wr ((endW x_3.w (List.getD x.snd.fst (Int.toNat x_3.i) (Ty.zero
  ActT)).snd.fst).snd.snd.snd.snd.snd.snd.fst = (endW x_3.w (List.getD x.snd.fst (Int.toNat x_3.i) (Ty.zero ActT)).snd.fst).snd.snd.snd.snd.snd.snd.fst) ∧ Wr (x.fst.fst = x.fst.fst) ∧ Wr (x.fst.snd.fst = x.fst.snd.fst) ∧
  Wr (x.fst.snd.snd.fst = x.fst.snd.snd.fst) ∧ Wr (x.fst.snd.snd.snd.fst = x.fst.snd.snd.snd.fst) ∧ Wr (x_3.w.fst.fst = x_3.w.fst.fst) ∧ Wr (x_3.w.fst.snd.fst = x_3.w.fst.snd.fst) ∧ Wr (x_3.w.fst.snd.snd.fst =
  x_3.w.fst.snd.snd.fst) ∧ Wr (x_3.w.fst.snd.snd.snd.fst = x_3.w.fst.snd.snd.snd.fst) ∧ Wr (x_3.w.snd.fst = x_3.w.snd.fst) ∧ Wr (x_3.w.snd.snd.fst = x_3.w.snd.snd.fst) ∧ Wr (x_3.w.snd.snd.snd.fst = x_3.w.snd.snd.snd.fst)
  ∧ Wr (x_3.w.snd.snd.snd.snd.fst = x_3.w.snd.snd.snd.snd.fst) ∧ Wr (x_3.w.snd.snd.snd.snd.snd.fst = x_3.w.snd.snd.snd.snd.snd.fst) ∧ Wr (x_3.w.snd.snd.snd.snd.snd.snd.fst = x_3.w.snd.snd.snd.snd.snd.snd.fst)))) (Wr (okW
  (endW x_3.w (List.getD x.snd.fst (Int.toNat x_3.i) (Ty.zero ActT)).snd.fst) = Bool.true) ∧ bcase (readyW (endW x_3.w (List.getD x.snd.fst (Int.toNat x_3.i) (Ty.zero ActT)).snd.fst) (List.getD x.snd.fst (Int.toNat x_3.i)
  (Ty.zero ActT)).snd.fst) ((Bool.false, ()) = (Bool.true, ())) (Wr (PcI x.fst x.snd.fst x_3.i x_3.w (PcS.mk (endW x_3.w (List.getD x.snd.fst (Int.toNat x_3.i) (Ty.zero ActT)).snd.fst) (endE x_3.w (List.getD x.snd.fst
  (Int.toNat x_3.i) (Ty.zero ActT)).snd.fst) x_3.well (IntKind.wrap IntKind.i64 (x_3.under - (1 : Int))))) ∧ Wr (endE x_3.w (List.getD x.snd.fst (Int.toNat x_3.i) (Ty.zero ActT)).snd.fst = endE x_3.w (List.getD x.snd.fst
  (Int.toNat x_3.i) (Ty.zero ActT)).snd.fst) ∧ Wr (x_3.well = x_3.well) ∧ Wr (IntKind.wrap IntKind.i64 (x_3.under - (1 : Int)) = IntKind.wrap IntKind.i64 (x_3.under - (1 : Int))) ∧ Wr (x.snd.fst = x.snd.fst) ∧ Wr (x_3.i =
  x_3.i) ∧ Wr ((endW x_3.w (List.getD x.snd.fst (Int.toNat x_3.i) (Ty.zero ActT)).snd.fst).fst.fst = (endW x_3.w (List.getD x.snd.fst (Int.toNat x_3.i) (Ty.zero ActT)).snd.fst).fst.fst) ∧ Wr ((endW x_3.w (List.getD
  x.snd.fst (Int.toNat x_3.i) (Ty.zero ActT)).snd.fst).fst.snd.fst = (endW x_3.w (List.getD x.snd.fst (Int.toNat x_3.i) (Ty.zero ActT)).snd.fst).fst.snd.fst) ∧ Wr ((endW x_3.w (List.getD x.snd.fst (Int.toNat x_3.i)
  (Ty.zero ActT)).snd.fst).fst.snd.snd.fst = (endW x_3.w (List.getD x.snd.fst (Int.toNat x_3.i) (Ty.zero ActT)).snd.fst).fst.snd.snd.fst) ∧ Wr ((endW x_3.w (List.getD x.snd.fst (Int.toNat x_3.i) (Ty.zero
  ActT)).snd.fst).fst.snd.snd.snd.fst = (endW x_3.w (List.getD x.snd.fst (Int.toNat x_3.i) (Ty.zero ActT)).snd.fst).fst.snd.snd.snd.fst) ∧ Wr ((endW x_3.w (List.getD x.snd.fst (Int.toNat x_3.i) (Ty.zero
  ActT)).snd.fst).snd.fst = (endW x_3.w (List.getD x.snd.fst (Int.toNat x_3.i) (Ty.zero ActT)).snd.fst).snd.fst) ∧ Wr ((endW x_3.w (List.getD x.snd.fst (Int.toNat x_3.i) (Ty.zero ActT)).snd.fst).snd.snd.fst = (endW x_3.w
  (List.getD x.snd.fst (Int.toNat x_3.i) (Ty.zero ActT)).snd.fst).snd.snd.fst) ∧ Wr ((endW x_3.w (List.getD x.snd.fst (Int.toNat x_3.i) (Ty.zero ActT)).snd.fst).snd.snd.snd.fst = (endW x_3.w (List.getD x.snd.fst
  (Int.toNat x_3.i) (Ty.zero ActT)).snd.fst).snd.snd.snd.fst) ∧ Wr ((endW x_3.w (List.getD x.snd.fst (Int.toNat x_3.i) (Ty.zero ActT)).snd.fst).snd.snd.snd.snd.fst = (endW x_3.w (List.getD x.snd.fst (Int.toNat x_3.i)
  (Ty.zero ActT)).snd.fst).snd.snd.snd.snd.fst) ∧ Wr ((endW x_3.w (List.getD x.snd.fst (Int.toNat x_3.i) (Ty.zero ActT)).snd.fst).snd.snd.snd.snd.snd.fst = (endW x_3.w (List.getD x.snd.fst (Int.toNat x_3.i) (Ty.zero
  ActT)).snd.fst).snd.snd.snd.snd.snd.fst) ∧ Wr ((endW x_3.w (List.getD x.snd.fst (Int.toNat x_3.i) (Ty.zero ActT)).snd.fst).snd.snd.snd.snd.snd.snd.fst = (endW x_3.w (List.getD x.snd.fst (Int.toNat x_3.i) (Ty.zero
  ActT)).snd.fst).snd.snd.snd.snd.snd.snd.fst) ∧ Wr (x.fst.fst = x.fst.fst) ∧ Wr (x.fst.snd.fst = x.fst.snd.fst) ∧ Wr (x.fst.snd.snd.fst = x.fst.snd.snd.fst) ∧ Wr (x.fst.snd.snd.snd.fst = x.fst.snd.snd.snd.fst) ∧ Wr
  (x_3.w.fst.fst = x_3.w.fst.fst) ∧ Wr (x_3.w.fst.snd.fst = x_3.w.fst.snd.fst) ∧ Wr (x_3.w.fst.snd.snd.fst = x_3.w.fst.snd.snd.fst) ∧ Wr (x_3.w.fst.snd.snd.snd.fst = x_3.w.fst.snd.snd.snd.fst) ∧ Wr (x_3.w.snd.fst =
  x_3.w.snd.fst) ∧ Wr (x_3.w.snd.snd.fst = x_3.w.snd.snd.fst) ∧ Wr (x_3.w.snd.snd.snd.fst = x_3.w.snd.snd.snd.fst) ∧ Wr (x_3.w.snd.snd.snd.snd.fst = x_3.w.snd.snd.snd.snd.fst) ∧ Wr (x_3.w.snd.snd.snd.snd.snd.fst =
  x_3.w.snd.snd.snd.snd.snd.fst) ∧ Wr (x_3.w.snd.snd.snd.snd.snd.snd.fst = x_3.w.snd.snd.snd.snd.snd.snd.fst)))) (Wr (PcI x.fst x.snd.fst x_3.i x_3.w (PcS.mk (endW x_3.w (List.getD x.snd.fst (Int.toNat x_3.i) (Ty.zero
  ActT)).snd.fst) (endE x_3.w (List.getD x.snd.fst (Int.toNat x_3.i) (Ty.zero ActT)).snd.fst) x_3.well x_3.under)) ∧ Wr (endE x_3.w (List.getD x.snd.fst (Int.toNat x_3.i) (Ty.zero ActT)).snd.fst = endE x_3.w (List.getD
  x.snd.fst (Int.toNat x_3.i) (Ty.zero ActT)).snd.fst) ∧ Wr (x_3.well = x_3.well) ∧ Wr (x_3.under = x_3.under) ∧ Wr (x.snd.fst = x.snd.fst) ∧ Wr (x_3.i = x_3.i) ∧ Wr ((endW x_3.w (List.getD x.snd.fst (Int.toNat x_3.i)
  (Ty.zero ActT)).snd.fst).fst.fst = (endW x_3.w (List.getD x.snd.fst (Int.toNat x_3.i) (Ty.zero ActT)).snd.fst).fst.fst) ∧ Wr ((endW x_3.w (List.getD x.snd.fst (Int.toNat x_3.i) (Ty.zero ActT)).snd.fst).fst.snd.fst =
  (endW x_3.w (List.getD x.snd.fst (Int.toNat x_3.i) (Ty.zero ActT)).snd.fst).fst.snd.fst) ∧ Wr ((endW x_3.w (List.getD x.snd.fst (Int.toNat x_3.i) (Ty.zero ActT)).snd.fst).fst.snd.snd.fst = (endW x_3.w (List.getD
  x.snd.fst (Int.toNat x_3.i) (Ty.zero ActT)).snd.fst).fst.snd.snd.fst) ∧ Wr ((endW x_3.w (List.getD x.snd.fst (Int.toNat x_3.i) (Ty.zero ActT)).snd.fst).fst.snd.snd.snd.fst = (endW x_3.w (List.getD x.snd.fst (Int.toNat
  x_3.i) (Ty.zero ActT)).snd.fst).fst.snd.snd.snd.fst) ∧ Wr ((endW x_3.w (List.getD x.snd.fst (Int.toNat x_3.i) (Ty.zero ActT)).snd.fst).snd.fst = (endW x_3.w (List.getD x.snd.fst (Int.toNat x_3.i) (Ty.zero
  ActT)).snd.fst).snd.fst) ∧ Wr ((endW x_3.w (List.getD x.snd.fst (Int.toNat x_3.i) (Ty.zero ActT)).snd.fst).snd.snd.fst = (endW x_3.w (List.getD x.snd.fst (Int.toNat x_3.i) (Ty.zero ActT)).snd.fst).snd.snd.fst) ∧ Wr
  ((endW x_3.w (List.getD x.snd.fst (Int.toNat x_3.i) (Ty.zero ActT)).snd.fst).snd.snd.snd.fst = (endW x_3.w (List.getD x.snd.fst (Int.toNat x_3.i) (Ty.zero ActT)).snd.fst).snd.snd.snd.fst) ∧ Wr ((endW x_3.w (List.getD
  x.snd.fst (Int.toNat x_3.i) (Ty.zero ActT)).snd.fst).snd.snd.snd.snd.fst = (endW x_3.w (List.getD x.snd.fst (Int.toNat x_3.i) (Ty.zero ActT)).snd.fst).snd.snd.snd.snd.fst) ∧ Wr ((endW x_3.w (List.getD x.snd.fst
  (Int.toNat x_3.i) (Ty.zero ActT)).snd.fst).snd.snd.snd.snd.snd.fst = (endW x_3.w (List.getD x.snd.fst (Int.toNat x_3.i) (Ty.zero ActT)).snd.fst).snd.snd.snd.snd.snd.fst) ∧ Wr ((endW x_3.w (List.getD x.snd.fst (Int.toNat
  x_3.i) (Ty.zero ActT)).snd.fst).snd.snd.snd.snd.snd.snd.fst = (endW x_3.w (List.getD x.snd.fst (Int.toNat x_3.i) (Ty.zero ActT)).snd.fst).snd.snd.snd.snd.snd.snd.fst) ∧ Wr (x.fst.fst = x.fst.fst) ∧ Wr (x.fst.snd.fst =
  x.fst.snd.fst) ∧ Wr (x.fst.snd.snd.fst = x.fst.snd.snd.fst) ∧ Wr (x.fst.snd.snd.snd.fst = x.fst.snd.snd.snd.fst) ∧ Wr (x_3.w.fst.fst = x_3.w.fst.fst) ∧ Wr (x_3.w.fst.snd.fst = x_3.w.fst.snd.fst) ∧ Wr
  (x_3.w.fst.snd.snd.fst = x_3.w.fst.snd.snd.fst) ∧ Wr (x_3.w.fst.snd.snd.snd.fst = x_3.w.fst.snd.snd.snd.fst) ∧ Wr (x_3.w.snd.fst = x_3.w.snd.fst) ∧ Wr (x_3.w.snd.snd.fst = x_3.w.snd.snd.fst) ∧ Wr (x_3.w.snd.snd.snd.fst
  = x_3.w.snd.snd.snd.fst) ∧ Wr (x_3.w.snd.snd.snd.snd.fst = x_3.w.snd.snd.snd.snd.fst) ∧ Wr (x_3.w.snd.snd.snd.snd.snd.fst = x_3.w.snd.snd.snd.snd.snd.fst) ∧ Wr (x_3.w.snd.snd.snd.snd.snd.snd.fst =
  x_3.w.snd.snd.snd.snd.snd.snd.fst)))) (bcase (Decidable.decide ((List.getD x.snd.fst (Int.toNat x_3.i) (Ty.zero ActT)).fst = (5 : Int))) (Wr (okW x_3.w = Bool.true) ∧ Wr (PcI x.fst x.snd.fst x_3.i x_3.w (PcS.mk (shutW
  x_3.w (List.getD x.snd.fst (Int.toNat x_3.i) (Ty.zero ActT)).snd.snd.fst) (shutE x_3.w (List.getD x.snd.fst (Int.toNat x_3.i) (Ty.zero ActT)).snd.snd.fst) x_3.well x_3.under)) ∧ Wr (shutE x_3.w (List.getD x.snd.fst
  (Int.toNat x_3.i) (Ty.zero ActT)).snd.snd.fst = shutE x_3.w (List.getD x.snd.fst (Int.toNat x_3.i) (Ty.zero ActT)).snd.snd.fst) ∧ Wr (x_3.well = x_3.well) ∧ Wr (x_3.under = x_3.under) ∧ Wr (x.snd.fst = x.snd.fst) ∧ Wr
  (x_3.i = x_3.i) ∧ Wr ((shutW x_3.w (List.getD x.snd.fst (Int.toNat x_3.i) (Ty.zero ActT)).snd.snd.fst).fst.fst = (shutW x_3.w (List.getD x.snd.fst (Int.toNat x_3.i) (Ty.zero ActT)).snd.snd.fst).fst.fst) ∧ Wr ((shutW
  x_3.w (List.getD x.snd.fst (Int.toNat x_3.i) (Ty.zero ActT)).snd.snd.fst).fst.snd.fst = (shutW x_3.w (List.getD x.snd.fst (Int.toNat x_3.i) (Ty.zero ActT)).snd.snd.fst).fst.snd.fst) ∧ Wr ((shutW x_3.w (List.getD
  x.snd.fst (Int.toNat x_3.i) (Ty.zero ActT)).snd.snd.fst).fst.snd.snd.fst = (shutW x_3.w (List.getD x.snd.fst (Int.toNat x_3.i) (Ty.zero ActT)).snd.snd.fst).fst.snd.snd.fst) ∧ Wr ((shutW x_3.w (List.getD x.snd.fst
  (Int.toNat x_3.i) (Ty.zero ActT)).snd.snd.fst).fst.snd.snd.snd.fst = (shutW x_3.w (List.getD x.snd.fst (Int.toNat x_3.i) (Ty.zero ActT)).snd.snd.fst).fst.snd.snd.snd.fst) ∧ Wr ((shutW x_3.w (List.getD x.snd.fst
  (Int.toNat x_3.i) (Ty.zero ActT)).snd.snd.fst).snd.fst = (shutW x_3.w (List.getD x.snd.fst (Int.toNat x_3.i) (Ty.zero ActT)).snd.snd.fst).snd.fst) ∧ Wr ((shutW x_3.w (List.getD x.snd.fst (Int.toNat x_3.i) (Ty.zero
  ActT)).snd.snd.fst).snd.snd.fst = (shutW x_3.w (List.getD x.snd.fst (Int.toNat x_3.i) (Ty.zero ActT)).snd.snd.fst).snd.snd.fst) ∧ Wr ((shutW x_3.w (List.getD x.snd.fst (Int.toNat x_3.i) (Ty.zero
  ActT)).snd.snd.fst).snd.snd.snd.fst = (shutW x_3.w (List.getD x.snd.fst (Int.toNat x_3.i) (Ty.zero ActT)).snd.snd.fst).snd.snd.snd.fst) ∧ Wr ((shutW x_3.w (List.getD x.snd.fst (Int.toNat x_3.i) (Ty.zero
  ActT)).snd.snd.fst).snd.snd.snd.snd.fst = (shutW x_3.w (List.getD x.snd.fst (Int.toNat x_3.i) (Ty.zero ActT)).snd.snd.fst).snd.snd.snd.snd.fst) ∧ Wr ((shutW x_3.w (List.getD x.snd.fst (Int.toNat x_3.i) (Ty.zero
  ActT)).snd.snd.fst).snd.snd.snd.snd.snd.fst = (shutW x_3.w (List.getD x.snd.fst (Int.toNat x_3.i) (Ty.zero ActT)).snd.snd.fst).snd.snd.snd.snd.snd.fst) ∧ Wr ((shutW x_3.w (List.getD x.snd.fst (Int.toNat x_3.i) (Ty.zero
  ActT)).snd.snd.fst).snd.snd.snd.snd.snd.snd.fst = (shutW x_3.w (List.getD x.snd.fst (Int.toNat x_3.i) (Ty.zero ActT)).snd.snd.fst).snd.snd.snd.snd.snd.snd.fst) ∧ Wr (x.fst.fst = x.fst.fst) ∧ Wr (x.fst.snd.fst =
  x.fst.snd.fst) ∧ Wr (x.fst.snd.snd.fst = x.fst.snd.snd.fst) ∧ Wr (x.fst.snd.snd.snd.fst = x.fst.snd.snd.snd.fst) ∧ Wr (x_3.w.fst.fst = x_3.w.fst.fst) ∧ Wr (x_3.w.fst.snd.fst = x_3.w.fst.snd.fst) ∧ Wr
  (x_3.w.fst.snd.snd.fst = x_3.w.fst.snd.snd.fst) ∧ Wr (x_3.w.fst.snd.snd.snd.fst = x_3.w.fst.snd.snd.snd.fst) ∧ Wr (x_3.w.snd.fst = x_3.w.snd.fst) ∧ Wr (x_3.w.snd.snd.fst = x_3.w.snd.snd.fst) ∧ Wr (x_3.w.snd.snd.snd.fst
  = x_3.w.snd.snd.snd.fst) ∧ Wr (x_3.w.snd.snd.snd.snd.fst = x_3.w.snd.snd.snd.snd.fst) ∧ Wr (x_3.w.snd.snd.snd.snd.snd.fst = x_3.w.snd.snd.snd.snd.snd.fst) ∧ Wr (x_3.w.snd.snd.snd.snd.snd.snd.fst =
  x_3.w.snd.snd.snd.snd.snd.snd.fst)) (Wr (PcI x.fst x.snd.fst x_3.i x_3.w (PcS.mk x_3.w (0 : Int) x_3.well x_3.under)) ∧ Wr ((0 : Int) = (0 : Int)) ∧ Wr (x_3.well = x_3.well) ∧ Wr (x_3.under = x_3.under) ∧ Wr (x.snd.fst
  = x.snd.fst) ∧ Wr (x_3.i = x_3.i) ∧ Wr (x_3.w.fst.fst = x_3.w.fst.fst) ∧ Wr (x_3.w.fst.snd.fst = x_3.w.fst.snd.fst) ∧ Wr (x_3.w.fst.snd.snd.fst = x_3.w.fst.snd.snd.fst) ∧ Wr (x_3.w.fst.snd.snd.snd.fst =
  x_3.w.fst.snd.snd.snd.fst) ∧ Wr (x_3.w.snd.fst = x_3.w.snd.fst) ∧ Wr (x_3.w.snd.snd.fst = x_3.w.snd.snd.fst) ∧ Wr (x_3.w.snd.snd.snd.fst = x_3.w.snd.snd.snd.fst) ∧ Wr (x_3.w.snd.snd.snd.snd.fst =
  x_3.w.snd.snd.snd.snd.fst) ∧ Wr (x_3.w.snd.snd.snd.snd.snd.fst = x_3.w.snd.snd.snd.snd.snd.fst) ∧ Wr (x_3.w.snd.snd.snd.snd.snd.snd.fst = x_3.w.snd.snd.snd.snd.snd.snd.fst) ∧ Wr (x.fst.fst = x.fst.fst) ∧ Wr
  (x.fst.snd.fst = x.fst.snd.fst) ∧ Wr (x.fst.snd.snd.fst = x.fst.snd.snd.fst) ∧ Wr (x.fst.snd.snd.snd.fst = x.fst.snd.snd.snd.fst) ∧ Wr (x_3.w.fst.fst = x_3.w.fst.fst) ∧ Wr (x_3.w.fst.snd.fst = x_3.w.fst.snd.fst) ∧ Wr
  (x_3.w.fst.snd.snd.fst = x_3.w.fst.snd.snd.fst) ∧ Wr (x_3.w.fst.snd.snd.snd.fst = x_3.w.fst.snd.snd.snd.fst) ∧ Wr (x_3.w.snd.fst = x_3.w.snd.fst) ∧ Wr (x_3.w.snd.snd.fst = x_3.w.snd.snd.fst) ∧ Wr (x_3.w.snd.snd.snd.fst
  = x_3.w.snd.snd.snd.fst) ∧ Wr (x_3.w.snd.snd.snd.snd.fst = x_3.w.snd.snd.snd.snd.fst) ∧ Wr (x_3.w.snd.snd.snd.snd.snd.fst = x_3.w.snd.snd.snd.snd.snd.fst) ∧ Wr (x_3.w.snd.snd.snd.snd.snd.snd.fst =
  x_3.w.snd.snd.snd.snd.snd.snd.fst))))))) ∧ ∀ (x_4 : PcS), Wr (PcI x.fst x.snd.fst x_3.i x_3.w x_4) → Wr ((!Decidable.decide (x_4.f = (0 : Int))) = Bool.true → x_4.o = x_3.w ∧ SmW x_4.o) ∧ bcase (!Decidable.decide (x_4.f
  = (0 : Int)) && !Bool.true) ((Bool.false, ()) = (Bool.true, ())) (Wr (okSM x_4.o.snd.snd.fst x_4.o.snd.snd.snd.snd.snd.snd.fst = Bool.true) ∧ Wr ((!(!Decidable.decide (Go.Sk.check x_4.o.snd.snd.fst
  x_4.o.snd.snd.snd.snd.snd.snd.fst = (0 : Int)) || !Decidable.decide ((↑(List.length x_4.o.snd.snd.fst) : Int) = x_4.well))) = Bool.true → (okW x_4.o && lenA (nilL (Int × (Int × Int × Int × Int × Int × Int × Int × Int ×
  Unit) × Int × Unit))) = Bool.true) ∧ bcase (!Decidable.decide (Go.Sk.check x_4.o.snd.snd.fst x_4.o.snd.snd.snd.snd.snd.snd.fst = (0 : Int)) || !Decidable.decide ((↑(List.length x_4.o.snd.snd.fst) : Int) = x_4.well) ||
  !Decidable.decide (underW x_4.o (nilL (Int × (Int × Int × Int × Int × Int × Int × Int × Int × Unit) × Int × Unit)) = x_4.under) || Decidable.decide (x_4.o.snd.fst < (0 : Int)) || Decidable.decide (x_4.o.snd.fst >
  x_4.o.fst.snd.snd.fst)) ((Bool.false, ()) = (Bool.true, ())) (Wr (PyI x.fst x.snd.fst (PyS.mk (IntKind.wrap IntKind.i64 (x_3.i + (1 : Int))) x_4.o x_4.well x_4.under)) ∧ Wr (List.length x.snd.fst - Int.toNat
  (IntKind.wrap IntKind.i64 (x_3.i + (1 : Int))) < List.length x.snd.fst - Int.toNat x_3.i) ∧ Wr (IntKind.wrap IntKind.i64 (x_3.i + (1 : Int)) = IntKind.wrap IntKind.i64 (x_3.i + (1 : Int))) ∧ Wr (x_4.well = x_4.well) ∧
  Wr (x_4.under = x_4.under) ∧ Wr (x.snd.fst = x.snd.fst) ∧ Wr (x_4.o.fst.fst = x_4.o.fst.fst) ∧ Wr (x_4.o.fst.snd.fst = x_4.o.fst.snd.fst) ∧ Wr (x_4.o.fst.snd.snd.fst = x_4.o.fst.snd.snd.fst) ∧ Wr
  (x_4.o.fst.snd.snd.snd.fst = x_4.o.fst.snd.snd.snd.fst) ∧ Wr (x_4.o.snd.fst = x_4.o.snd.fst) ∧ Wr (x_4.o.snd.snd.fst = x_4.o.snd.snd.fst) ∧ Wr (x_4.o.snd.snd.snd.fst = x_4.o.snd.snd.snd.fst) ∧ Wr
  (x_4.o.snd.snd.snd.snd.fst = x_4.o.snd.snd.snd.snd.fst) ∧ Wr (x_4.o.snd.snd.snd.snd.snd.fst = x_4.o.snd.snd.snd.snd.snd.fst) ∧ Wr (x_4.o.snd.snd.snd.snd.snd.snd.fst = x_4.o.snd.snd.snd.snd.snd.snd.fst) ∧ Wr (x.fst.fst =
  x.fst.fst) ∧ Wr (x.fst.snd.fst = x.fst.snd.fst) ∧ Wr (x.fst.snd.snd.fst = x.fst.snd.snd.fst) ∧ Wr (x.fst.snd.snd.snd.fst = x.fst.snd.snd.snd.fst)))) (Wr True ∧ (Bool.true, ()) = (Bool.true, ())))))) := by kernel_rfl
end Go.Proofs.YtfhlceooobabcaaGreatDoor.Wd
set_option linter.all false
namespace Go.Proofs.YtfhlceooobabcaaGreatDoor.Wd
open Go Go.Eng Go.Lb Go.Ad
set_option maxRecDepth 100000
set_option maxHeartbeats 4000000

theorem v26 : Vc g26 300 Tryz.f26 (cSameL AdT) := by
  constructor
  rw [v26_eq]
  simp only [Wr_iff, bcase_iff, true_and, and_true, decide_eq_true_eq, decide_eq_false_iff_not, Bool.and_eq_true, Bool.and_eq_false_iff, Bool.or_eq_true, Bool.or_eq_false_iff, Bool.not_eq_true', Bool.not_eq_false', Option.map_some, Option.getD_some, Option.isSome_some, Option.isSome_map, imp_self, nilL, noneO]
  rintro ⟨l, m, ⟨⟩⟩ hx
  dsimp only at hx ⊢
  obtain ⟨rfl, hl⟩ := hx
  refine ⟨fun h => absurd rfl h, fun _ => ⟨⟨by omega, by omega⟩, fun i hu => ⟨fun hi => ⟨hu.1, hi, hu.1, hi, fun h => ?_, fun _ => ?_⟩, fun _ => trivial⟩⟩⟩
  · exfalso
    exact absurd ((eqb_self AdT (by decide) _).symm.trans h) (by decide)
  · have e : IntKind.wrap .i64 (i + 1) = i + 1 := w64 (by omega) (by omega)
    rw [e]
    omega
theorem v130 : Vc g130 300 Tryz.f130 cTxt := by
  constructor
  rw [v130_eq]
  simp only [Wr_iff, bcase_iff, true_and, and_true, decide_eq_true_eq, decide_eq_false_iff_not, Bool.and_eq_true, Bool.and_eq_false_iff, Bool.or_eq_true, Bool.or_eq_false_iff, Bool.not_eq_true', Bool.not_eq_false', Option.map_some, Option.getD_some, Option.isSome_some, Option.isSome_map, imp_self, nilL, noneO]
  rintro ⟨l, ⟨⟩⟩ hx
  dsimp only at hx ⊢
  refine ⟨⟨by omega, by omega, rfl⟩, fun ⟨o, i⟩ h => ⟨fun hi => ?_, fun hi => ?_⟩⟩
  · have h0 := h.i0
    have ha := h.a
    dsimp only at h0 ha hi ⊢
    have e : IntKind.wrap .i64 (i + 1) = i + 1 := w64 (by omega) (by omega)
    rw [e]
    have hlen : o.length + 1 ≤ 140737488355328 := by rw [ha, txt, List.length_map, List.length_take]; omega
    refine ⟨h0, hi, by simp only [List.length_cons, List.length_nil]; omega, ⟨by omega, by omega, ?_⟩, by omega⟩
    rw [take_succ l i 0 h0 hi, txt, List.map_append, ha]
    rfl
  · have ha := h.a
    have : l.take i.toNat = l := take_all h.i1 hi
    dsimp only at ha ⊢
    rw [ha, this]
theorem v38 : Vc g38 300 Tryz.f38 cSameP := by
  constructor
  rw [v38_eq]
  simp only [Wr_iff, bcase_iff, true_and, and_true, decide_eq_true_eq, decide_eq_false_iff_not, Bool.and_eq_true, Bool.and_eq_false_iff, Bool.or_eq_true, Bool.or_eq_false_iff, Bool.not_eq_true', Bool.not_eq_false', Option.map_some, Option.getD_some, Option.isSome_some, Option.isSome_map, imp_self, nilL, noneO]
  rintro ⟨p, q, ⟨⟩⟩ hx
  dsimp only at hx ⊢
  obtain ⟨rfl, hs⟩ := hx
  exact ⟨fun _ => ⟨rfl, hs.d⟩, fun _ => ⟨rfl, hs⟩, by simp⟩
theorem v12 : Vc g12 300 Tryz.f12 cSameW := by
  constructor
  rw [v12_eq]
  simp only [Wr_iff, bcase_iff, true_and, and_true, decide_eq_true_eq, decide_eq_false_iff_not, Bool.and_eq_true, Bool.and_eq_false_iff, Bool.or_eq_true, Bool.or_eq_false_iff, Bool.not_eq_true', Bool.not_eq_false', Option.map_some, Option.getD_some, Option.isSome_some, Option.isSome_map, imp_self, nilL, noneO]
  rintro ⟨p, q, ⟨⟩⟩ hx
  dsimp only at hx ⊢
  obtain ⟨rfl, hs⟩ := hx
  exact ⟨⟨rfl, hs.p⟩, fun _ => ⟨rfl, hs.s⟩, fun _ => ⟨rfl, hs.m⟩, fun _ => ⟨rfl, hs.d⟩, fun _ => ⟨rfl, hs.l⟩, by simp⟩
theorem v93 : Vc g93 300 Tryz.f93 cSameP := by
  constructor
  rw [v93_eq]
  simp only [Wr_iff, bcase_iff, true_and, and_true, decide_eq_true_eq, decide_eq_false_iff_not, Bool.and_eq_true, Bool.and_eq_false_iff, Bool.or_eq_true, Bool.or_eq_false_iff, Bool.not_eq_true', Bool.not_eq_false', Option.map_some, Option.getD_some, Option.isSome_some, Option.isSome_map, imp_self, nilL, noneO]
  rintro ⟨p, q, ⟨⟩⟩ hx
  dsimp only at hx ⊢
  obtain ⟨rfl, hs⟩ := hx
  have hz := hs.z
  have hf := hs.f
  refine ⟨⟨by omega, by omega⟩, fun i hu => ⟨fun hi => ?_, fun hi => ⟨⟨by omega, by omega⟩, fun j hv => ⟨fun hj => ?_, fun _ => trivial⟩⟩⟩⟩
  · have h0 := hu.i0
    have hza := hs.za _ (getD_memA (z := ZoneT.zero) h0 hi)
    have hw : IntKind.wrap .i64 (i + 1) = i + 1 := w64 (by omega) (by omega)
    rw [hw]
    refine ⟨h0, hi, h0, hi, fun h => ?_, fun _ => ⟨⟨h0, hi, rfl, by omega, by omega⟩, fun k hk => ⟨fun hkl => ?_, fun _ => ⟨⟨by omega, by omega⟩, by omega⟩⟩⟩⟩
    · exfalso
      rcases h with h | h
      · exact h rfl
      · exact h rfl
    · have hk0 := hk.k0
      have hk1 : (p.1.getD i.toNat ZoneT.zero).2.1.length ≤ 1000000 := hza.1
      have hm := hza.2 _ (getD_memA (z := AdL.zero) hk0 hkl)
      have hw2 : IntKind.wrap .i64 (k + 1) = k + 1 := w64 (by omega) (by omega)
      rw [hw2]
      exact ⟨hk0, hkl, hk0, hkl, ⟨rfl, hm⟩, ⟨h0, hi, rfl, by omega, by omega⟩, by omega⟩
  · have h0 := hv.i0
    have hfa : (p.2.1.getD j.toNat FatT.zero).2.1.length ≤ 140737488355328 := hs.fa _ (getD_memA (z := FatT.zero) h0 hj)
    have hw : IntKind.wrap .i64 (j + 1) = j + 1 := w64 (by omega) (by omega)
    rw [hw]
    have hq := eqb_self AdT (by decide) (p.2.1.getD j.toNat FatT.zero).1
    have ht : (txt (p.2.1.getD j.toNat FatT.zero).2.1).length ≤ maxLen := by
      rw [txt, List.length_map]; unfold maxLen; omega
    refine ⟨h0, hj, h0, hj, fun _ => h0, fun _ => hj, fun _ => trivial, fun _ => trivial, fun _ => hfa, fun _ => ht, fun _ => h0, fun _ => hj, fun _ => trivial, fun _ => trivial, fun _ => hfa, fun _ => ht, fun h => ?_, fun _ => ⟨⟨by omega, by omega⟩, by omega⟩⟩
    exfalso
    rcases h with h | h
    · exact absurd (hq.symm.trans h) (by decide)
    · exact h rfl
end Go.Proofs.YtfhlceooobabcaaGreatDoor.Wd
set_option linter.all false
namespace Go.Proofs.YtfhlceooobabcaaGreatDoor.Wd
open Go Go.Eng Go.Lb Go.Ad
set_option maxRecDepth 100000
set_option maxHeartbeats 8000000

/-! what is so of any plan that may be -/
theorem ck_ticks {p : Pl} (hc : checkB p = true) : p.2.2.1 ≤ 200 ∧ 0 ≤ p.2.2.1 := by
  have h := (check_iff p).1 hc
  exact ⟨h.2.2.2.2.2.1, h.2.2.2.2.1⟩
theorem okP_of {p : Pl} (hc : checkB p = true) : okP p = true := by
  have h := (check_iff p).1 hc
  refine (okP_iff p).2 ⟨by have := h.2.2.1.1; omega, fun f hf => ?_⟩
  have := (fate_iff f).1 (List.all_eq_true.1 h.2.2.1.2 f hf)
  omega
theorem sm_of {p : Pl} (hc : checkB p = true) : Sm p := by
  have h := (check_iff p).1 hc
  refine ⟨by have := h.1.1; omega, fun z hz => ?_, by have := h.2.2.1.1; omega, fun f hf => ?_, by have := h.2.2.2.2.2.2.1; omega⟩
  · have h1 := (zone_iff z).1 (List.all_eq_true.1 h.1.2 z hz)
    refine ⟨by have := h1.2.1.2; omega, fun r hr => ?_⟩
    have h2 := List.all_eq_true.1 h1.2.2 r hr
    simp only [rowOk, Bool.and_eq_true, decide_eq_true_eq] at h2
    have := h2.1
    omega
  · have := (fate_iff f).1 (List.all_eq_true.1 h.2.2.1.2 f hf)
    omega
section
variable {p : Pl} {b : Int} {w : Wd} {we un : Int}
theorem PlB.okW (h : PlB p b w we un) (hb : b ≤ 100) : okW w = true := by
  have h1 := h.nd
  have h2 := h.ns
  have h3 := h.nm
  exact (okW_iff _).2 ⟨by omega, by omega, by omega, by rw [h.pl]; exact okP_of h.c⟩
theorem PlB.sm (h : PlB p b w we un) (hb : b ≤ 100) : SmW w := by
  have h1 := h.nd
  have h2 := h.ns
  have h3 := h.nm
  exact ⟨by rw [h.pl]; exact sm_of h.c, by omega, by omega, by rw [h.nl]; simp, by omega⟩
theorem PlB.mono (h : PlB p b w we un) : PlB p (b + 1) w we un :=
  { h with nd := by have := h.nd; omega, ns := by have := h.ns; omega, nm := by have := h.nm; omega, sh := fun s hs => by have := h.sh s hs; omega }
/-! how many are under way -/
def notOver (d : Dl) : Bool := !overD d
theorem under_nil (w : Wd) : underW w [] = ((w.2.2.2.1.filter notOver).length : Nat) := by
  have e : (underB ([] : List Ad)) = notOver := by funext d; simp [underB, notOver]
  unfold underW
  rw [e]
theorem cnt_set {q : Dl → Bool} {l : List Dl} {k : Nat} (hk : k < l.length) (y : Dl) : ((l.set k y).filter q).length + (bif q (l.getD k zDl) then 1 else 0) = (l.filter q).length + (bif q y then 1 else 0) := by
  have e1 : l = l.take k ++ l.getD k zDl :: l.drop (k + 1) := by
    rw [List.getD_eq_getElem?_getD, List.getElem?_eq_getElem hk, Option.getD_some, ← List.drop_eq_getElem_cons hk, List.take_append_drop]
  have e2 : l.set k y = l.take k ++ y :: l.drop (k + 1) := by rw [List.set_eq_take_append_cons_drop, if_pos hk]
  have e3 : (l.filter q).length = ((l.take k ++ l.getD k zDl :: l.drop (k + 1)).filter q).length := congrArg (fun z => (List.filter q z).length) e1
  rw [e2, e3]
  simp only [List.filter_append, List.length_append, List.filter_cons]
  cases q y <;> cases q (l.getD k zDl) <;> simp <;> omega
theorem ix_map (l : List Dl) (b : Int) : ixD l b = idxZ (fun n => decide (n = b)) (l.map fun d => d.1) := by
  unfold ixD idxZ
  rw [List.any_map, List.findIdx_map]
  rfl
theorem ix_set {l : List Dl} {k : Int} (h0 : 0 ≤ k) (hk : k < l.length) {f : Dl → Dl} (hf : ∀ d, (f d).1 = d.1) (b : Int) : ixD (setDl l k f) b = ixD l b := by
  rw [ix_map, ix_map]
  congr 1
  unfold setDl getDl
  rw [List.map_set, hf]
  have hk' : k.toNat < l.length := by omega
  have : (l.getD k.toNat zDl).1 = (l.map fun d : Dl => d.1)[k.toNat]'(by rw [List.length_map]; exact hk') := by
    rw [List.getElem_map, List.getD_eq_getElem?_getD, List.getElem?_eq_getElem hk']
    rfl
  rw [this, List.set_getElem_self]
theorem len_set (l : List Dl) (k : Int) (f : Dl → Dl) : (setDl l k f).length = l.length := by unfold setDl; rw [List.length_set]
theorem ix_ok {l : List Dl} {b : Int} (h : 0 ≤ ixD l b) : ixD l b < l.length := idx_lt h

/-! the acts -/
theorem PlB.tick (h : PlB p b w we un) : PlB p (b + 1) (tickW w) we un ∧ (tickE w ≠ 0 → tickW w = w) := by
  have hm := h.mono
  unfold tickW tickE
  have ht := ck_ticks h.c
  have c0 := h.c0
  have c1 := h.c1
  have hpl := h.pl
  by_cases hc : w.1.2.2.1 ≤ w.2.1
  · rw [decide_eq_true hc]; exact ⟨hm, fun _ => rfl⟩
  · rw [decide_eq_false hc]
    have hc' : ¬ p.2.2.1 ≤ w.2.1 := by rw [← hpl]; exact hc
    have e : IntKind.wrap .i64 (w.2.1 + 1) = w.2.1 + 1 := w64 (by omega) (by omega)
    simp only [cond_false, e]
    exact ⟨{ hm with pl := hpl, c0 := by simp only; omega, c1 := by simp only; omega, la := by rcases h.la with q | q; exact .inl q; exact .inr (by simp only; omega) }, fun hne => absurd rfl hne⟩
theorem PlB.drop (h : PlB p b w we un) : PlB p (b + 1) (dropW w) we un ∧ (dropE w ≠ 0 → dropW w = w) := by
  have hm := h.mono
  unfold dropW dropE
  cases canDrop w with
  | false => exact ⟨hm, fun _ => rfl⟩
  | true =>
    simp only [cond_true]
    refine ⟨?_, fun hne => absurd rfl hne⟩
    generalize dropN w = n
    generalize IntKind.wrap .i64 (w.2.2.2.2.2.1 + 1) = dd
    by_cases hd : Sk.drE w.2.2.1 n = 0
    · rw [decide_eq_true hd]
      simp only [cond_true]
      have ho : Sk.opens w.2.2.1 n = true := by
        cases ho : Sk.opens w.2.2.1 n with
        | true => rfl
        | false => simp [Sk.drE, ho] at hd
      have ha : Sk.drA w.2.2.1 n = Sk.deadL w.2.2.1 n := by simp [Sk.drA, ho]
      have hin := ((opens_iff _ _).1 ho).1
      rw [ha]
      refine { hm with pl := h.pl, ck := Sk.check_dead h.ck, well := ?_, ns := ?_, sh := ?_ }
      · show ((Sk.deadL w.2.2.1 n).length : Int) = we
        rw [Sk.deadL, List.length_set]; exact h.well
      · show ((Sk.deadL w.2.2.1 n).length : Int) ≤ b + 1
        rw [Sk.deadL, List.length_set]; have := h.ns; omega
      · intro s hs
        have hs : s ∈ Sk.deadL w.2.2.1 n := hs
        rcases List.mem_or_eq_of_mem_set hs with q | q
        · have := h.sh s q; omega
        · have hmem := getD_memA (z := SockT.zero) hin.1 hin.2
          have hs0 := h.sh _ hmem
          have e : Sk.shutOf s = Sk.shutOf (w.2.2.1.getD n.toNat SockT.zero) := by rw [q]; rfl
          rw [e]
          exact ⟨hs0.1, Int.le_trans hs0.2 (by omega)⟩
    · rw [decide_eq_false hd]
      exact { hm with pl := h.pl }
theorem PlB.dial (h : PlB p b w we un) (by_ : Int) (a : Ad) : (dialE w by_ a = 0 → PlB p (b + 1) (dialW w by_ a) we (un + 1)) ∧ (dialE w by_ a ≠ 0 → dialW w by_ a = w) := by
  refine ⟨fun h0 => ?_, fun h0 => by rw [dialW, decide_eq_false h0]; rfl⟩
  rw [dialW, h0]
  have hm := h.mono
  refine { hm with pl := h.pl, under := ?_, nd := ?_ }
  · have hu := h.under
    rw [under_nil] at hu ⊢
    show ((List.filter notOver (w.2.2.2.1 ++ [_])).length : Int) = un + 1
    rw [List.filter_append, List.length_append, ← hu]
    rfl
  · show ((w.2.2.2.1 ++ [_]).length : Int) ≤ b + 1
    rw [List.length_append, List.length_singleton]; have := h.nd; omega
theorem PlB.cut (h : PlB p b w we un) (by_ : Int) : PlB p (b + 1) (cutW w by_) we un ∧ underW (cutW w by_) [] = underW w [] := by
  have hm := h.mono
  unfold cutW
  cases hc : decide (0 ≤ ixD w.2.2.2.1 by_) && !overD (getDl w.2.2.2.1 (ixD w.2.2.2.1 by_)) with
  | false => exact ⟨hm, rfl⟩
  | true =>
    simp only [Bool.and_eq_true, decide_eq_true_eq] at hc
    have hk := ix_ok hc.1
    have hu : underW (putDl w (setDl w.2.2.2.1 (ixD w.2.2.2.1 by_) cutD)) [] = underW w [] := by
      rw [under_nil, under_nil]
      have := cnt_set (q := notOver) (l := w.2.2.2.1) (k := (ixD w.2.2.2.1 by_).toNat) (by omega) (cutD (getDl w.2.2.2.1 (ixD w.2.2.2.1 by_)))
      have e : notOver (cutD (getDl w.2.2.2.1 (ixD w.2.2.2.1 by_))) = notOver (w.2.2.2.1.getD (ixD w.2.2.2.1 by_).toNat zDl) := rfl
      rw [e] at this
      have := Nat.add_right_cancel this
      exact congrArg (fun n : Nat => (n : Int)) this
    refine ⟨{ hm with pl := h.pl, under := by rw [← h.under]; exact hu, nd := ?_ }, hu⟩
    show ((setDl w.2.2.2.1 (ixD w.2.2.2.1 by_) cutD).length : Int) ≤ b + 1
    rw [len_set]; have := h.nd; omega
theorem PlB.shut (h : PlB p b w we un) (hb : b ≤ 100) (n : Int) : PlB p (b + 1) (shutW w n) we un ∧ (shutE w n ≠ 0 → shutW w n = w) := by
  have hm := h.mono
  unfold shutW
  by_cases he : shutE w n = 0
  · rw [decide_eq_true he]
    refine ⟨?_, fun hne => absurd he hne⟩
    simp only [cond_true]
    have hr : Sk.inR n w.2.2.1 = true := by
      cases hr : Sk.inR n w.2.2.1 with
      | true => rfl
      | false => simp [shutE, Sk.shE, hr] at he
    have ha : Sk.shA w.2.2.1 n = Sk.shutL w.2.2.1 n := by simp [Sk.shA, hr]
    have hb' : Sk.shB w.2.2.1 w.2.2.2.2.2.2.1 n w.2.1 = Sk.addM w.2.2.2.2.2.2.1 true n w.2.1 := by simp [Sk.shB, hr]
    rw [ha, hb']
    have hin := (inR_iff n w.2.2.1).1 hr
    have hmem := getD_memA (z := SockT.zero) hin.1 hin.2
    have hs := h.sh _ hmem
    obtain ⟨v, hv⟩ : ∃ v : Int, Sk.shutOf (w.2.2.1.getD n.toNat SockT.zero) = v := ⟨_, rfl⟩
    have hs1 : 0 ≤ v ∧ v ≤ b := by rw [← hv]; exact hs
    have hw : IntKind.wrap .i64 (Sk.shutOf (w.2.2.1.getD n.toNat SockT.zero) + 1) = Sk.shutOf (w.2.2.1.getD n.toNat SockT.zero) + 1 := by
      rw [hv]; exact w64 (by omega) (by omega)
    refine { hm with pl := h.pl, ck := Sk.check_shut h.ck h.la hr hw, la := .inr (by show Sk.lastAt (Sk.addM w.2.2.2.2.2.2.1 true n w.2.1) ≤ w.2.1; rw [Sk.lastAt_snoc]; exact Int.le_refl _), well := ?_, ns := ?_, nm := ?_, sh := ?_ }
    · show ((Sk.shutL w.2.2.1 n).length : Int) = we
      rw [Sk.shutL, List.length_set]; exact h.well
    · show ((Sk.shutL w.2.2.1 n).length : Int) ≤ b + 1
      rw [Sk.shutL, List.length_set]; have := h.ns; omega
    · show ((Sk.addM w.2.2.2.2.2.2.1 true n w.2.1).length : Int) ≤ b + 1
      rw [Sk.addM, List.length_append, List.length_singleton]; have := h.nm; omega
    · intro s hs'
      have hs' : s ∈ Sk.shutL w.2.2.1 n := hs'
      rcases List.mem_or_eq_of_mem_set hs' with q | q
      · have := h.sh s q; omega
      · have e : Sk.shutOf s = IntKind.wrap .i64 (Sk.shutOf (w.2.2.1.getD n.toNat SockT.zero) + 1) := by rw [q]; rfl
        rw [e, hw, hv]; omega
  · rw [decide_eq_false he]; exact ⟨hm, fun _ => rfl⟩
/-- a dial's end -/
theorem PlB.end_ (h : PlB p b w we un) (by_ : Int) (hr : readyW w by_ = true) : endE w by_ = 0 ∧ readyW (endW w by_) by_ = false ∧
    ((endM w by_).2.2.2.2.2.1 = 0 → (endM w by_).2.2.2.1 = (w.2.2.1.length : Int) ∧ PlB p (b + 1) (endW w by_) (we + 1) (un - 1)) ∧ (¬ (endM w by_).2.2.2.2.2.1 = 0 → PlB p (b + 1) (endW w by_) we (un - 1)) := by
  have hm := h.mono
  have hr' := hr
  unfold readyW at hr'
  simp only [Bool.and_eq_true, decide_eq_true_eq] at hr'
  obtain ⟨h0, hrd⟩ := hr'
  have hk := ix_ok h0
  have hno : overD (getDl w.2.2.2.1 (ixD w.2.2.2.1 by_)) = false := by
    unfold readyD at hrd
    simp only [Bool.and_eq_true, Bool.not_eq_true'] at hrd
    exact hrd.1
  have hds : (endW w by_).2.2.2.1 = endDs w by_ := by
    unfold endW
    rw [hr]
    cases decide (fateOf w by_ = 0) <;> rfl
  have hlen : ((endDs w by_).length : Int) ≤ b + 1 := by unfold endDs; rw [len_set]; have := h.nd; omega
  have hun : ((List.filter notOver (endDs w by_)).length : Int) = un - 1 := by
    have hu := h.under
    rw [under_nil] at hu
    have := cnt_set (q := notOver) (l := w.2.2.2.1) (k := (ixD w.2.2.2.1 by_).toNat) (by omega) (endD (getDl w.2.2.2.1 (ixD w.2.2.2.1 by_)))
    have e1 : notOver (endD (getDl w.2.2.2.1 (ixD w.2.2.2.1 by_))) = false := rfl
    have e2 : notOver (w.2.2.2.1.getD (ixD w.2.2.2.1 by_).toNat zDl) = true := by
      show (!overD (getDl w.2.2.2.1 (ixD w.2.2.2.1 by_))) = true
      rw [hno]; rfl
    rw [e1, e2] at this
    simp only [cond_true, cond_false, Nat.add_zero] at this
    have e3 : endDs w by_ = w.2.2.2.1.set (ixD w.2.2.2.1 by_).toNat (endD (getDl w.2.2.2.1 (ixD w.2.2.2.1 by_))) := rfl
    rw [e3]
    omega
  refine ⟨by rw [endE, hr]; rfl, ?_, fun hE => ?_, fun hE => ?_⟩
  · unfold readyW
    have e1 : ixD (endDs w by_) by_ = ixD w.2.2.2.1 by_ := ix_set (f := endD) h0 hk (fun d => rfl) by_
    rw [hds, e1]
    have e2 : getDl (endDs w by_) (ixD w.2.2.2.1 by_) = endD (getDl w.2.2.2.1 (ixD w.2.2.2.1 by_)) := get_set h0 hk
    rw [e2]
    have e3 : readyD (endD (getDl w.2.2.2.1 (ixD w.2.2.2.1 by_))) = false := rfl
    rw [e3, Bool.and_false]
  · have hf : fateOf w by_ = 0 := by
      by_cases hf : fateOf w by_ = 0
      · exact hf
      · rw [endM, hr, decide_eq_false hf] at hE
        exact absurd hE (by show ¬ (160 : Int) = 0; decide)
    refine ⟨by rw [endM, hr, hf]; rfl, ?_⟩
    rw [endW, hr, hf]
    refine { hm with pl := h.pl, ck := ?_, la := .inr ?_, well := ?_, under := ?_, nd := hlen, ns := ?_, nm := ?_, sh := ?_ }
    · exact Sk.check_open h.ck h.la (getDl w.2.2.2.1 (ixD w.2.2.2.1 by_)).2.1 by_
    · show Sk.lastAt (Sk.addM w.2.2.2.2.2.2.1 false (w.2.2.1.length : Int) w.2.1) ≤ w.2.1
      rw [Sk.lastAt_snoc]; exact Int.le_refl _
    · show ((w.2.2.1 ++ [_]).length : Int) = we + 1
      rw [List.length_append, List.length_singleton]; have := h.well; omega
    · rw [under_nil]; exact hun
    · show ((w.2.2.1 ++ [_]).length : Int) ≤ b + 1
      rw [List.length_append, List.length_singleton]; have := h.ns; omega
    · show ((w.2.2.2.2.2.2.1 ++ [_]).length : Int) ≤ b + 1
      rw [List.length_append, List.length_singleton]; have := h.nm; omega
    · intro s hs
      have hs : s ∈ w.2.2.1 ++ [newS (getDl w.2.2.2.1 (ixD w.2.2.2.1 by_)).2.1 by_ w.2.1] := hs
      rcases List.mem_append.1 hs with q | q
      · have := h.sh s q; omega
      · simp only [List.mem_singleton] at q
        have e : Sk.shutOf s = 0 := by rw [q]; rfl
        have := h.nd
        rw [e]; omega
  · have hf : ¬ fateOf w by_ = 0 := fun hf => hE (by rw [endM, hr, hf]; rfl)
    rw [endW, hr, decide_eq_false hf]
    refine { hm with pl := h.pl, under := ?_, nd := hlen }
    rw [under_nil]; exact hun
end
end Go.Proofs.YtfhlceooobabcaaGreatDoor.Wd
set_option linter.all false
namespace Go.Proofs.YtfhlceooobabcaaGreatDoor.Wd
open Go Go.Eng Go.Lb Go.Ad
set_option maxRecDepth 100000
set_option maxHeartbeats 8000000

theorem under_b {p : Pl} {b : Int} {w : Wd} {we un : Int} (h : PlB p b w we un) : 0 ≤ un ∧ un ≤ b := by
  have h1 := h.under
  have h2 := h.nd
  rw [under_nil] at h1
  have := List.length_filter_le notOver w.2.2.2.1
  omega
theorem new_b {p : Pl} (hc : checkB p = true) : PlB p 0 (newW p) 0 0 := by
  have ht := ck_ticks hc
  have e : newW p = (p, 0, [], [], [], 0, [], ()) := by rw [newW, hc]; rfl
  rw [e]
  exact ⟨hc, rfl, Int.le_refl _, ht.2, rfl, .inl rfl, rfl, rfl, Int.le_refl _, Int.le_refl _, Int.le_refl _, rfl, fun s hs => by cases hs⟩
theorem v4 : Vc g4 300 Tryz.f4 (cLw aPlays) := by
  constructor
  rw [v4_eq]
  simp only [Wr_iff, bcase_iff, true_and, and_true, decide_eq_true_eq, decide_eq_false_iff_not, Bool.and_eq_true, Bool.and_eq_false_iff, Bool.or_eq_true, Bool.or_eq_false_iff, Bool.not_eq_true', Bool.not_eq_false', Option.map_some, Option.getD_some, Option.isSome_some, Option.isSome_map, imp_self, nilL, noneO]
  rintro ⟨p, l, ⟨⟩⟩ _
  dsimp only
  refine ⟨by omega, fun ⟨n1, i⟩ hi0 => ⟨fun hi => ?_, fun _ => ⟨by omega, fun ⟨n2, i2⟩ hi2 => ⟨fun hi => ?_, fun _ => ?_⟩⟩⟩⟩
  · dsimp only at hi0 hi ⊢
    refine ⟨hi0, hi.1, fun _ => hi0, fun _ => hi.1, fun _ => trivial, fun _ => trivial, fun _ => trivial, fun hk => ⟨⟨hi0, hi.1, hi.2, by omega, ?_⟩, fun ⟨n3, k⟩ hu => ⟨hi0, hi.1, fun hk2 => ⟨hi0, hi.1, hu.k0, hk2, ?_⟩, fun _ => ?_⟩⟩⟩
    · have := hk.1
      show (p.1.getD i.toNat ZoneT.zero).2.1.length ≤ 60
      omega
    · have h0 := hu.k0
      have hm : (p.1.getD i.toNat ZoneT.zero).2.1.length ≤ 60 := hu.m
      dsimp only at h0 hk2 ⊢
      have e : IntKind.wrap .i64 (k + 1) = k + 1 := w64 (by omega) (by omega)
      rw [e]
      exact ⟨⟨hi0, hi.1, hi.2, by omega, hm⟩, by omega⟩
    · have e : IntKind.wrap .i64 (i + 1) = i + 1 := w64 (by omega) (by omega)
      rw [e]
      have := hi.1
      omega
  · dsimp only at hi2 hi ⊢
    have e : IntKind.wrap .i64 (i2 + 1) = i2 + 1 := w64 (by omega) (by omega)
    rw [e]
    have := hi.1
    omega
  · refine ⟨fun _ => trivial, fun h => ?_⟩
    have hck := (check_0 p).1 h.1.2
    have hn : l.length ≤ 100 := by have := h.2; omega
    refine ⟨⟨hn, Int.le_refl _, by show (0 : Int) ≤ l.length; omega, new_b hck⟩, fun ⟨i, w, we, un⟩ I => ⟨fun hi => ?_, fun _ => trivial⟩⟩
    have i0 : 0 ≤ i := I.i0
    have S : PlB p i w we un := I.s
    dsimp only at hi ⊢
    have bi : i ≤ 100 := by omega
    have bi1 : i + 1 ≤ 100 := by omega
    have ok := S.okW bi
    have okn : okN w.2.2.1 = true := decide_eq_true (by have := S.ns; omega)
    have ub := under_b S
    have wb : 0 ≤ we ∧ we ≤ i := ⟨by rw [← S.well]; exact Int.natCast_nonneg _, by rw [← S.well]; exact S.ns⟩
    have e1 : IntKind.wrap .i64 (un + 1) = un + 1 := w64 (by omega) (by omega)
    have e2 : IntKind.wrap .i64 (we + 1) = we + 1 := w64 (by omega) (by omega)
    have e3 : IntKind.wrap .i64 (un - 1) = un - 1 := by simp [IntKind.wrap, IntKind.signed, IntKind.bits]; omega
    have e4 : IntKind.wrap .i64 (i + 1) = i + 1 := w64 (by omega) (by omega)
    rw [e1, e2, e3, e4]
    have mk : ∀ {o : Wd} {f we' un' : Int}, (f ≠ 0 → o = w) → PlB p (i + 1) o we' un' → PcI p l i w ⟨o, f, we', un'⟩ := fun no s => ⟨hn, i0, hi, no, s⟩
    have no0 : ∀ {o : Wd}, (0 : Int) ≠ 0 → o = w := fun h => absurd rfl h
    generalize l.getD i.toNat ActT.zero = ac
    refine ⟨i0, hi, ⟨fun _ => mk S.tick.2 S.tick.1, fun _ => ⟨fun _ => ⟨okn, mk S.drop.2 S.drop.1⟩, fun _ => ⟨fun _ => ⟨ok, fun h0 => mk (S.dial _ _).2 ((S.dial _ _).1 h0), fun h0 => mk (S.dial _ _).2 ?_⟩,
      fun _ => ⟨fun _ => ?_, fun _ => ⟨fun _ => ⟨ok, ok, ?_⟩, fun _ => ⟨fun _ => ⟨ok, mk (S.shut bi _).2 (S.shut bi _).1⟩, fun _ => mk no0 S.mono⟩⟩⟩⟩⟩⟩, fun ⟨o, f, we', un'⟩ C => ?_⟩
    · rw [(S.dial _ _).2 h0]; exact S.mono
    · have hc := S.cut ac.2.1
      exact ⟨ok, ⟨hc.1.okW bi1, rfl⟩, ⟨ok, rfl⟩, fun h => absurd hc.2 h, fun _ => mk no0 hc.1⟩
    · cases hr : readyW w ac.2.1 with
      | false =>
        have he : endE w ac.2.1 = 100 := by rw [endE, hr]; rfl
        have hw : endW w ac.2.1 = w := by rw [endW, hr]; rfl
        rw [he, hw]
        exact ⟨fun h => by simp at h, fun _ => ⟨fun h => absurd h (by decide), fun _ => mk (fun _ => rfl) S.mono⟩⟩
      | true =>
        obtain ⟨he, hnr, hE0, hE1⟩ := S.end_ ac.2.1 hr
        rw [he, hnr]
        refine ⟨fun h => by simp at h, fun _ => ⟨fun _ => ⟨fun hE => ⟨fun h => absurd (hE0 hE).1 h, fun _ => ⟨(hE0 hE).2.okW bi1, fun h => (nomatch h), fun _ => mk no0 (hE0 hE).2⟩⟩, fun hE => ⟨(hE1 hE).okW bi1, fun h => (nomatch h), fun _ => mk no0 (hE1 hE)⟩⟩, fun h => absurd rfl h⟩⟩
    · have CS : PlB p (i + 1) o we' un' := C.s
      have no : f ≠ 0 → o = w := C.no
      dsimp only
      have q2 := CS.ns
      have q3 := CS.nm
      have q4 := CS.well
      have q5 := CS.under
      have q6 := CS.c0
      have q7 := CS.c1
      have q8 := CS.pl
      have q9 := CS.ck
      refine ⟨fun hf => ⟨no hf, CS.sm bi1⟩, fun h => (nomatch h.2), fun _ => ⟨?_, fun _ => ⟨CS.okW bi1, rfl⟩, fun h => ?_, fun _ => ⟨⟨hn, by show 0 ≤ i + 1; omega, by show i + 1 ≤ (l.length : Int); omega, CS⟩, by omega⟩⟩⟩
      · simp only [okSM, Bool.and_eq_true, decide_eq_true_eq]
        exact ⟨by omega, by omega⟩
      · exfalso
        rw [q8] at h
        rcases h with (((h | h) | h) | h) | h
        · exact h q9
        · exact h q4
        · exact h q5
        · exact absurd h (by omega)
        · exact absurd h (by omega)
end Go.Proofs.YtfhlceooobabcaaGreatDoor.Wd
namespace Go.Proofs.YtfhlceooobabcaaGreatDoor.Wd
open Go Go.Eng Go.Lb Go.Ad
set_option maxRecDepth 100000
theorem val26 : Valid Tryz.prog GW 26 (cSameL AdT) := mkValid gws Tb.mix Tb.tab_ok Tb.eqs_ok g26 rfl allV_nil allI_nil Tryz.func26 (by kernel_rfl) v26
theorem val130 : Valid Tryz.prog GW 130 cTxt := mkValid gws Tb.mix Tb.tab_ok Tb.eqs_ok g130 rfl allV_nil allI_nil Tryz.func130 (by kernel_rfl) v130
theorem val93 : Valid Tryz.prog GW 93 cSameP := mkValid gws Tb.mix Tb.tab_ok Tb.eqs_ok g93 rfl (allV_cons val26 (allV_cons val130 allV_nil)) allI_nil Tryz.func93 (by kernel_rfl) v93
theorem val38 : Valid Tryz.prog GW 38 cSameP := mkValid gws Tb.mix Tb.tab_ok Tb.eqs_ok g38 rfl (allV_cons val92 (allV_cons val93 allV_nil)) allI_nil Tryz.func38 (by kernel_rfl) v38
theorem val12 : Valid Tryz.prog GW 12 cSameW := mkValid gws Tb.mix Tb.tab_ok Tb.eqs_ok g12 rfl (allV_cons val38 (allV_cons val39 (allV_cons val40 (allV_cons val41 (allV_cons val42 allV_nil))))) allI_nil Tryz.func12 (by kernel_rfl) v12
theorem v9B : vcB g9 300 Tryz.f9 cWk.r (cWk.F ()) = true := by kernel_rfl
theorem v9 : Vc g9 300 Tryz.f9 cWk := Vc.ofB (r := cWk.r) (y := cWk.F ()) v9B
theorem val9 : Valid Tryz.prog GW 9 cWk := mkValid gws Tb.mix Tb.tab_ok Tb.eqs_ok g9 rfl (allV_cons val10 (allV_cons val17 (allV_cons val18 (allV_cons val19 (allV_cons val20 (allV_cons val21 allV_nil)))))) (allI_cons Tryz.func35 (by kernel_rfl) allI_nil) Tryz.func9 (by kernel_rfl) v9
theorem val4 : Valid Tryz.prog GW 4 ((cLw aPlays)) := mkValid gws Tb.mix Tb.tab_ok Tb.eqs_ok g4 rfl (allV_cons val9 (allV_cons val10 (allV_cons val12 (allV_cons val13 (allV_cons val15 (allV_cons val17 (allV_cons val18 (allV_cons val19 (allV_cons val20 (allV_cons val21 (allV_cons val22 (allV_cons val23 allV_nil)))))))))))) (allI_cons Tryz.func7 (by kernel_rfl) allI_nil) Tryz.func4 (by kernel_rfl) v4
end Go.Proofs.YtfhlceooobabcaaGreatDoor.Wd
set_option maxRecDepth 100000
namespace Go.Proofs.YtfhlceooobabcaaGreatDoor.Wd
open Go Go.Eng Go.Lb Go.Ad
/-! the document: names -/
def cOne : Contract := conD (.cons .str .unit) (.cons I32 (.cons I64 .unit)) (fun x => szOk x.1 && decide (0 < x.1.size)) fun x => (one1 x.1, (one2 x.1, ()))
def cValid1 : Contract := conD (.cons .str .unit) (.cons .bool .unit) (fun x => szOk x.1) fun x => (validB x.1, ())
def vRest (s : ByteArray) (p : Int) (st : Bool) (la : Int) : Bool := vGo (its (restL s p.toNat)) st la.toNat
structure ValidI (s : ByteArray) (st : Bool) (la p : Int) : Prop where
  l0 : 0 ≤ la
  l1 : la ≤ 1114111
  p0 : 0 ≤ p
  p1 : p ≤ s.size
  a : vRest s p st la = vRest s 0 true 46
def valid1L : LoopAnn where
  α := Bool × Int × Int
  keep := [0]
  okeep := []
  nxt := 5
  env := fun _ x => [(3, .dat .bool x.1), (4, .dat I32 x.2.1), (5, .dat I64 x.2.2)]
  own := fun _ _ => []
  inv := fun s x => ValidI (bDat .str s 0).out x.1 x.2.1 x.2.2
  mu := fun s x => (bDat .str s 0).out.size - x.2.2.toNat
  pick := some fun e s => ((bDat .bool s 3).out, (bDat I32 s 4).out, (bDat I64 s 5).out)
def goodIt (q : It) : Prop := ∃ c, q.1 = some c ∧ (isSign c = true ∨ c = 46)
structure FoldI (s : ByteArray) (out : List Int) (p : Int) : Prop where
  v : validB s = true
  p0 : 0 ≤ p
  p1 : p ≤ s.size
  n : out.length ≤ 4 * p.toNat
  g : ∀ q ∈ its (restL s p.toNat), goodIt q
  a : (out.map fun n => UInt8.ofNat n.toNat) ++ foldL (restL s p.toNat) = foldL (bytesL s)
def fold2L : LoopAnn where
  α := List Int × Int
  keep := [0]
  okeep := []
  nxt := 30
  env := fun _ x => [(4, .own 20), (5, .dat I64 x.2)]
  own := fun _ x => [(20, .row 5 U8 x.1)]
  inv := fun s x => FoldI (bDat .str s 0).out x.1 x.2
  mu := fun s x => (bDat .str s 0).out.size - x.2.toNat
  pick := some fun _ s => ((bRow U8 s 4).out, (bDat I64 s 5).out)
/-! the document: addresses -/
def cMay1 : Contract := conD (.cons AdT .unit) (.cons .bool .unit) (fun _ => true) fun x => (may1 x.1, ())
structure May2I (a : Ad) (i : Int) : Prop where
  i0 : 2 ≤ i
  i1 : i ≤ 8
  z : a.1 = 4 → ∀ k : Nat, 2 ≤ k → (k : Int) < i → (gl a.2.1).getD k 0 = 0
def may2L : LoopAnn where
  α := Int
  keep := [1]
  okeep := [0]
  nxt := 30
  env := fun _ x => [(3, .dat I64 x)]
  own := fun _ _ => []
  inv := fun s x => May2I (cDat AdT s 1 0).out x
  mu := fun _ x => 8 - x.toNat
  pick := some fun _ s => (bDat I64 s 3).out
def mayRL : LoopAnn where
  α := Int
  keep := [0]
  okeep := []
  nxt := 30
  env := fun _ x => [(3, .dat I64 x)]
  own := fun _ _ => []
  inv := fun s x => MayI (bDat AdL s 0).out x
  mu := fun s x => List.length (α := Ad) (bDat AdL s 0).out - x.toNat
  pick := some fun _ s => (bDat I64 s 3).out
/-! the document's -/
def cFoldR : Contract := conD (.cons .str .unit) (.cons .str (.cons I64 .unit)) (fun x => szOk x.1) fun x => (fold1 x.1, (fold2 x.1, ()))
/-! the document: plans -/
def onceA (l : List Ad) : Bool := decide l.Nodup && mayA l
def cOnce : Contract := conD (.cons AdL .unit) (.cons .bool .unit) (fun x => lenA x.1) fun x => (onceA x.1, ())
structure OnO {α κ : Type} (k : α → κ) (l : List α) (i : Int) : Prop where
  i0 : 0 ≤ i
  i1 : i ≤ l.length
  d : ((l.take i.toNat).map k).Nodup
structure OnK {α κ : Type} (k : α → κ) (l : List α) (z : α) (i j : Int) : Prop where
  o : OnO k l i
  i2 : i < l.length
  j0 : 0 ≤ j
  j1 : j ≤ i
  n : ¬ k (l.getD i.toNat z) ∈ (l.take j.toNat).map k
def idK (a : Ad) : Ad := a
def onL : LoopAnn where
  α := Int
  keep := [0, 2]
  okeep := []
  nxt := 30
  env := fun _ x => [(3, .dat I64 x)]
  own := fun _ _ => []
  inv := fun s x => OnO idK (bDat AdL s 0).out x
  mu := fun s x => List.length (α := Ad) (bDat AdL s 0).out - x.toNat
  pick := some fun _ s => (bDat I64 s 3).out
def onK : LoopAnn where
  α := Int
  keep := [0, 2, 3]
  okeep := []
  nxt := 40
  env := fun _ x => [(4, .dat I64 x)]
  own := fun _ _ => []
  inv := fun s x => OnK idK (bDat AdL s 0).out zA (bDat I64 s 3).out x
  mu := fun s x => (bDat I64 s 3).out.toNat - x.toNat
  pick := some fun _ s => (bDat I64 s 4).out
def okZ (z : Zn) : Bool := decide (z.1.size ≤ 400)
def okZs (l : List Zn) : Bool := decide (l.length ≤ 40) && l.all okZ
def zonesB (l : List Zn) : Bool := decide (l.length ≤ 8) && (l.all zoneOk && unlN l)
def cZones : Contract := conD (.cons (.sl ZoneT) .unit) (.cons .bool .unit) (fun x => okZs x.1) fun x => (zonesB x.1, ())
structure ZnO (l : List Zn) (i : Int) : Prop where
  o : OnO nameOf l i
  a : (l.take i.toNat).all zoneOk = true
structure ZnK (l : List Zn) (i j : Int) : Prop where
  o : ZnO l i
  k : OnK nameOf l ZoneT.zero i j
structure ZnR (l : List Zn) (i j : Int) : Prop where
  o : ZnO l i
  i2 : i < l.length
  n : ¬ nameOf (l.getD i.toNat ZoneT.zero) ∈ (l.take i.toNat).map nameOf
  j0 : 0 ≤ j
  j1 : j ≤ (l.getD i.toNat ZoneT.zero).2.1.length
  m : (l.getD i.toNat ZoneT.zero).2.1.length ≤ 32
  a : ((l.getD i.toNat ZoneT.zero).2.1.take j.toNat).all rowOk = true
def znL : LoopAnn where
  α := Int
  keep := [0, 2]
  okeep := []
  nxt := 30
  env := fun _ x => [(3, .dat I64 x)]
  own := fun _ _ => []
  inv := fun s x => ZnO (bDat (.sl ZoneT) s 0).out x
  mu := fun s x => List.length (α := Zn) (bDat (.sl ZoneT) s 0).out - x.toNat
  pick := some fun _ s => (bDat I64 s 3).out
def znK : LoopAnn where
  α := Int
  keep := [0, 2, 3]
  okeep := []
  nxt := 400
  env := fun _ x => [(6, .dat I64 x)]
  own := fun _ _ => []
  inv := fun s x => ZnK (bDat (.sl ZoneT) s 0).out (bDat I64 s 3).out x
  mu := fun s x => (bDat I64 s 3).out.toNat - x.toNat
  pick := some fun _ s => (bDat I64 s 6).out
def znR : LoopAnn where
  α := Int
  keep := [0, 2, 3]
  okeep := []
  nxt := 500
  env := fun _ x => [(7, .dat I64 x)]
  own := fun _ _ => []
  inv := fun s x => ZnR (bDat (.sl ZoneT) s 0).out (bDat I64 s 3).out x
  mu := fun _ x => 32 - x.toNat
  pick := some fun _ s => (bDat I64 s 7).out
def fatesB (l : List Ft) : Bool := decide (l.length ≤ 32) && (l.all fateOk && unlF l)
def okFs (l : List Ft) : Bool := decide (l.length ≤ 100)
def cFates : Contract := conD (.cons (.sl FatT) .unit) (.cons .bool .unit) (fun x => okFs x.1) fun x => (fatesB x.1, ())
structure FaO (l : List Ft) (i : Int) : Prop where
  o : OnO adOf l i
  a : (l.take i.toNat).all fateOk = true
structure FaK (l : List Ft) (i j : Int) : Prop where
  o : FaO l i
  k : OnK adOf l FatT.zero i j
structure FaR (l : List Ft) (i j : Int) : Prop where
  o : FaO l i
  i2 : i < l.length
  n : ¬ adOf (l.getD i.toNat FatT.zero) ∈ (l.take i.toNat).map adOf
  j0 : 0 ≤ j
  j1 : j ≤ (l.getD i.toNat FatT.zero).2.1.length
  m : (l.getD i.toNat FatT.zero).2.1.length ≤ 32
  a : ((l.getD i.toNat FatT.zero).2.1.take j.toNat).all fateIn = true
def faL : LoopAnn where
  α := Int
  keep := [0, 2]
  okeep := []
  nxt := 30
  env := fun _ x => [(3, .dat I64 x)]
  own := fun _ _ => []
  inv := fun s x => FaO (bDat (.sl FatT) s 0).out x
  mu := fun s x => List.length (α := Ft) (bDat (.sl FatT) s 0).out - x.toNat
  pick := some fun _ s => (bDat I64 s 3).out
def faK : LoopAnn where
  α := Int
  keep := [0, 2, 3]
  okeep := []
  nxt := 400
  env := fun _ x => [(4, .dat I64 x)]
  own := fun _ _ => []
  inv := fun s x => FaK (bDat (.sl FatT) s 0).out (bDat I64 s 3).out x
  mu := fun s x => (bDat I64 s 3).out.toNat - x.toNat
  pick := some fun _ s => (bDat I64 s 4).out
def faR : LoopAnn where
  α := Int
  keep := [0, 2, 3]
  okeep := []
  nxt := 500
  env := fun _ x => [(5, .dat I64 x)]
  own := fun _ _ => []
  inv := fun s x => FaR (bDat (.sl FatT) s 0).out (bDat I64 s 3).out x
  mu := fun _ x => 32 - x.toNat
  pick := some fun _ s => (bDat I64 s 5).out
def okQ (p : Pl) : Bool := okZs p.1 && okFs p.2.1
def cCheckR : Contract := conD (.cons PlanT .unit) (.cons I64 .unit) (fun x => okQ x.1) fun x => (check x.1, ())
structure DrI (l : List Int) (i : Int) : Prop where
  i0 : 0 ≤ i
  i1 : i ≤ l.length
  m : l.length ≤ 16
  a : (l.take i.toNat).all dropOk = true
def drL : LoopAnn where
  α := Int
  keep := [1, 2]
  okeep := [0]
  nxt := 700
  env := fun _ x => [(3, .dat I64 x)]
  own := fun _ _ => []
  inv := fun s x => DrI (cDat (.sl I64) s 1 3).out x
  mu := fun s x => List.length (α := Int) (cDat (.sl I64) s 1 3).out - x.toNat
  pick := some fun _ s => (bDat I64 s 3).out
/-! the document: the world -/
def cNewR : Contract := conD (.cons PlanT .unit) (.cons WorldT (.cons I64 .unit)) (fun x => okQ x.1) fun x => (newW x.1, (check x.1, ()))
def cCopyS : Contract := conD (.cons (.sl SockT) .unit) (.cons (.sl SockT) .unit) (fun x => okN x.1) fun x => (x.1, ())
/-! what is too great -/
def min1 (n : Nat) : Int := min (n : Int) 1000
def sumB {α : Type} (f : α → Int) : List α → Int
  | [] => 0
  | x :: r => f x + sumB f r
def rowN (l : List Ad) : Int := min1 l.length
def zonN (z : Zn) : Int := sumB rowN z.2.1
def fatN (f : Ft) : Int := min1 f.2.1.length
def badZ (z : Zn) : Bool := decide (60 < z.2.1.length) || decide (400 < z.1.size)
def gN0 (p : Pl) (i : Nat) : Int := (p.2.2.2.1.length : Int) + sumB zonN (p.1.take i)
def gN1 (p : Pl) (i : Nat) : Int := gN0 p 41 + sumB fatN (p.2.1.take i)
def greatP (p : Pl) : Bool := (p.1.take 41).any badZ || (decide (40 < p.1.length) || (decide (100 < p.2.1.length) || decide (3000 < IntKind.wrap .i64 (gN1 p 101))))
def okR (p : Pl) : Bool := decide (p.2.2.2.1.length ≤ 140737488355328)
def cGreatP : Contract := conD (.cons PlanT .unit) (.cons .bool .unit) (fun x => okR x.1) fun x => (greatP x.1, ())
structure Gp1 (p : Pl) (n i : Int) : Prop where
  i0 : 0 ≤ i
  i1 : i ≤ p.1.length
  i2 : i ≤ 41
  a : (p.1.take i.toNat).any badZ = false
  n : n = IntKind.wrap .i64 (gN0 p i.toNat)
structure Gp2 (p : Pl) (i n k : Int) : Prop where
  i0 : 0 ≤ i
  i1 : i < p.1.length
  i2 : i ≤ 40
  a : (p.1.take i.toNat).any badZ = false
  b : badZ (p.1.getD i.toNat ZoneT.zero) = false
  k0 : 0 ≤ k
  k1 : k ≤ (p.1.getD i.toNat ZoneT.zero).2.1.length
  n : n = IntKind.wrap .i64 (gN0 p i.toNat + sumB rowN ((p.1.getD i.toNat ZoneT.zero).2.1.take k.toNat))
structure Gp3 (p : Pl) (n i : Int) : Prop where
  i0 : 0 ≤ i
  i1 : i ≤ p.2.1.length
  i2 : i ≤ 101
  a : (p.1.take 41).any badZ = false
  n : n = IntKind.wrap .i64 (gN1 p i.toNat)
def gp1 : LoopAnn where
  α := Int × Int
  keep := [1, 2]
  okeep := [0]
  nxt := 2000
  env := fun _ x => [(3, .dat I64 x.1), (4, .dat I64 x.2)]
  own := fun _ _ => []
  inv := fun s x => Gp1 (cDat PlanT s 1 0).out x.1 x.2
  mu := fun _ x => 41 - x.2.toNat
  pick := some fun _ s => ((bDat I64 s 3).out, (bDat I64 s 4).out)
def gp2 : LoopAnn where
  α := Int × Int
  keep := [1, 2, 4]
  okeep := [0]
  nxt := 2500
  env := fun _ x => [(3, .dat I64 x.1), (5, .dat I64 x.2)]
  own := fun _ _ => []
  inv := fun s x => Gp2 (cDat PlanT s 1 0).out (bDat I64 s 4).out x.1 x.2
  mu := fun s x => 61 - x.2.toNat
  pick := some fun _ s => ((bDat I64 s 3).out, (bDat I64 s 5).out)
def gp3 : LoopAnn where
  α := Int × Int
  keep := [1, 2]
  okeep := [0]
  nxt := 3000
  env := fun _ x => [(3, .dat I64 x.1), (6, .dat I64 x.2)]
  own := fun _ _ => []
  inv := fun s x => Gp3 (cDat PlanT s 1 0).out x.1 x.2
  mu := fun _ x => 101 - x.2.toNat
  pick := some fun _ s => ((bDat I64 s 3).out, (bDat I64 s 6).out)
def greatS (l : List Sk) (m : List Mk) : Bool := decide (300 < l.length) || decide (600 < m.length)
def cGreatS : Contract := conD (.cons (.sl SockT) (.cons (.sl MarkT) .unit)) (.cons .bool .unit) (fun _ => true) fun x => (greatS x.1 x.2.1, ())
def greatW (w : Wd) : Bool := greatP w.1 || (greatS w.2.2.1 w.2.2.2.2.2.2.1 || (decide (400 < w.2.2.2.1.length) || decide (400 < w.2.2.2.2.1.length)))
def cGreatW : Contract := conD (.cons WorldT .unit) (.cons .bool .unit) (fun x => okR x.1.1) fun x => (greatW x.1, ())
/-! the law -/
abbrev aPlans : Ty := .cons PlanT (.cons WorldT .unit)
def cLs (a : Ty) : Contract := { a := a, r := .cons .bool .unit, pre := Bnd a, F := fun _ => (true, ()) }
end Go.Proofs.YtfhlceooobabcaaGreatDoor.Wd
namespace Go.Proofs.YtfhlceooobabcaaGreatDoor.Wd
open Go Go.Eng Go.Lb Go.Ad
set_option maxRecDepth 100000
noncomputable def g151 : Cfg := { tab := Tb.tab, cons := [], inls := [], loops := [], cuts := [], unroll := false, arrs := [], keys := [] }
noncomputable def g171 : Cfg := { tab := Tb.tab, cons := [(151, cLetter)], inls := [], loops := [], cuts := [], unroll := false, arrs := [], keys := [] }
noncomputable def g150 : Cfg := { tab := Tb.tab, cons := [], inls := [(172, Tryz.f172)], loops := [], cuts := [], unroll := true, arrs := [], keys := [] }
noncomputable def g149 : Cfg := { tab := Tb.tab, cons := [(150, cOne), (171, cSign)], inls := [], loops := [(5, valid1L)], cuts := [], unroll := false, arrs := [], keys := [] }
noncomputable def g128 : Cfg := { tab := Tb.tab, cons := [(149, cValid1), (150, cOne), (151, cLetter)], inls := [], loops := [(5, fold2L)], cuts := [], unroll := false, arrs := [], keys := [] }
noncomputable def g112 : Cfg := { tab := Tb.tab, cons := [], inls := [], loops := [(4, may2L)], cuts := [], unroll := false, arrs := [], keys := [] }
noncomputable def g77 : Cfg := { tab := Tb.tab, cons := [(112, cMay1)], inls := [], loops := [(2, mayRL)], cuts := [], unroll := false, arrs := [], keys := [] }
noncomputable def g129 : Cfg := { tab := Tb.tab, cons := [(77, cMay)], inls := [], loops := [(2, onL), (5, onK)], cuts := [], unroll := false, arrs := [], keys := [] }
noncomputable def g90 : Cfg := { tab := Tb.tab, cons := [(128, cFoldR), (129, cOnce)], inls := [], loops := [(2, znL), (8, znK), (13, znR)], cuts := [], unroll := false, arrs := [], keys := [] }
noncomputable def g91 : Cfg := { tab := Tb.tab, cons := [(77, cMay)], inls := [], loops := [(2, faL), (7, faK), (12, faR)], cuts := [], unroll := false, arrs := [], keys := [] }
noncomputable def g37 : Cfg := { tab := Tb.tab, cons := [(90, cZones), (91, cFates)], inls := [], loops := [(4, drL)], cuts := [], unroll := false, arrs := [], keys := [] }
noncomputable def g11 : Cfg := { tab := Tb.tab, cons := [(37, cCheckR)], inls := [], loops := [], cuts := [], unroll := false, arrs := [], keys := [] }
noncomputable def g14 : Cfg := { tab := Tb.tab, cons := [], inls := [], loops := [], cuts := [], unroll := false, arrs := [], keys := [] }
noncomputable def g96 : Cfg := { tab := Tb.tab, cons := [], inls := [], loops := [], cuts := [], unroll := false, arrs := [], keys := [] }
noncomputable def g44 : Cfg := { tab := Tb.tab, cons := [(96, (cClone 111 64 SockT))], inls := [], loops := [], cuts := [], unroll := false, arrs := [], keys := [] }
noncomputable def g16 : Cfg := { tab := Tb.tab, cons := [(44, cDropS)], inls := [], loops := [], cuts := [], unroll := false, arrs := [], keys := [] }
noncomputable def g7 : Cfg := { tab := Tb.tab, cons := [], inls := [], loops := [(3, gp1), (8, gp2), (12, gp3)], cuts := [], unroll := false, arrs := [], keys := [] }
noncomputable def g34 : Cfg := { tab := Tb.tab, cons := [], inls := [], loops := [], cuts := [], unroll := false, arrs := [], keys := [] }
noncomputable def g8 : Cfg := { tab := Tb.tab, cons := [(7, cGreatP), (34, cGreatS)], inls := [], loops := [], cuts := [], unroll := false, arrs := [], keys := [] }
noncomputable def g3 : Cfg := { tab := Tb.tab, cons := [(7, cGreatP), (8, cGreatW), (9, cWk), (10, cNew), (11, cNewR), (12, cSameW), (13, cTick), (14, cTick), (15, cDropW), (16, cDropW)], inls := [], loops := [], cuts := [], unroll := false, arrs := [], keys := [] }
end Go.Proofs.YtfhlceooobabcaaGreatDoor.Wd

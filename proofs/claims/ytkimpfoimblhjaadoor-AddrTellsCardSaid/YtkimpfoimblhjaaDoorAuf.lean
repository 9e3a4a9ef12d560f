/-
  A text of mine, of several parts: SrVc, SrQ, SrP, StP, StV, SoDef4, SbCfg, SbVc, SbP, SbV, SoDef5, ScCfg, ScVc, ScP, ScV, SdCfg, SdVc, SdP, SdV.
-/
import Derived.Test.YtkimpfoimblhjaaDoorAua
import Derived.Test.YtkimpfoimblhjaaDoorAub
import Derived.Test.YtkimpfoimblhjaaDoorAuc
import Derived.Test.YtkimpfoimblhjaaDoorAud
import Derived.Test.YtkimpfoimblhjaaDoorAue
set_option linter.all false
namespace Go.Proofs.YtkimpfoimblhjaaDoor.Ad
open Go Go.Eng Go.Lb Go.Ad Lb Go.Proofs.St
set_option maxRecDepth 100000
theorem m149_eq : vcFnM g149 149 400 Tryd.f149 cSwr = ( ∀ (xs : List (Ad)) (y : Int × Int × Int × Unit), Wr (SwP xs y.1 y.2.1 y.2.2.1) → (Wr (SwI y.2.2.1 (0 : Int)) ∧ E ((0 : Int)) ∧ E y.1 ∧ E y.2.1 ∧ E y.2.2.1 ∧ Wr (xs = swrF zA (Int.toNat y.1) (Int.toNat y.2.1) (Int.toNat
  (0 : Int)) xs)) ∧ ∀ (x : Int), Wr (SwI y.2.2.1 x) → bcase (decide (x < y.2.2.1)) (Wr ((0 : Int) ≤ IntKind.wrap IntKind.i64 (y.2.1 + x)) ∧ Wr (IntKind.wrap IntKind.i64 (y.2.1 + x) < (↑(List.length (swrF zA (Int.toNat
  y.1) (Int.toNat y.2.1) (Int.toNat x) xs)) : Int)) ∧ Wr ((0 : Int) ≤ IntKind.wrap IntKind.i64 (y.1 + x)) ∧ Wr (IntKind.wrap IntKind.i64 (y.1 + x) < (↑(List.length (swrF zA (Int.toNat y.1) (Int.toNat y.2.1) (Int.toNat x)
  xs)) : Int)) ∧ Wr ((0 : Int) ≤ IntKind.wrap IntKind.i64 (y.1 + x)) ∧ Wr (IntKind.wrap IntKind.i64 (y.1 + x) < (↑(List.length (swrF zA (Int.toNat y.1) (Int.toNat y.2.1) (Int.toNat x) xs)) : Int)) ∧ Wr ((0 : Int) ≤
  IntKind.wrap IntKind.i64 (y.2.1 + x)) ∧ Wr (IntKind.wrap IntKind.i64 (y.2.1 + x) < (↑(List.length (List.set (swrF zA (Int.toNat y.1) (Int.toNat y.2.1) (Int.toNat x) xs) (Int.toNat (IntKind.wrap IntKind.i64 (y.1 + x)))
  (List.getD (swrF zA (Int.toNat y.1) (Int.toNat y.2.1) (Int.toNat x) xs) (Int.toNat (IntKind.wrap IntKind.i64 (y.2.1 + x))) (Ty.zero AdT)))) : Int)) ∧ Wr (SwI y.2.2.1 (IntKind.wrap IntKind.i64 (x + (1 : Int)))) ∧ Wr
  (Int.toNat (y.2.2.1 - IntKind.wrap IntKind.i64 (x + (1 : Int))) < Int.toNat (y.2.2.1 - x)) ∧ E (IntKind.wrap IntKind.i64 (x + (1 : Int))) ∧ E y.1 ∧ E y.2.1 ∧ E y.2.2.1 ∧ Wr (List.set (List.set (swrF zA (Int.toNat y.1)
  (Int.toNat y.2.1) (Int.toNat x) xs) (Int.toNat (IntKind.wrap IntKind.i64 (y.1 + x))) (List.getD (swrF zA (Int.toNat y.1) (Int.toNat y.2.1) (Int.toNat x) xs) (Int.toNat (IntKind.wrap IntKind.i64 (y.2.1 + x))) (Ty.zero
  AdT))) (Int.toNat (IntKind.wrap IntKind.i64 (y.2.1 + x))) (List.getD (swrF zA (Int.toNat y.1) (Int.toNat y.2.1) (Int.toNat x) xs) (Int.toNat (IntKind.wrap IntKind.i64 (y.1 + x))) (Ty.zero AdT)) = swrF zA (Int.toNat y.1)
  (Int.toNat y.2.1) (Int.toNat (IntKind.wrap IntKind.i64 (x + (1 : Int)))) xs)) (swrF zA (Int.toNat y.1) (Int.toNat y.2.1) (Int.toNat x) xs = swrF zA (Int.toNat y.1) (Int.toNat y.2.1) (Int.toNat y.2.2.1) xs)) := by kernel_rfl
theorem m136_eq : vcFnM g136 136 400 Tryd.f136 cRotM = ( ∀ (xs : List (Ad)) (y : Int × Int × Int × Unit), Wr (RoP xs y.1 y.2.1 y.2.2.1) → (Wr (RoI xs y.1 y.2.1 y.2.2.1 (IntKind.wrap IntKind.i64 (y.2.1 - y.1), IntKind.wrap IntKind.i64 (y.2.2.1 - y.2.1), xs)) ∧ E (IntKind.wrap
  IntKind.i64 (y.2.1 - y.1)) ∧ E (IntKind.wrap IntKind.i64 (y.2.2.1 - y.2.1)) ∧ E y.1 ∧ E y.2.1 ∧ E y.2.2.1 ∧ E xs) ∧ ∀ (x : Int × Int × List (Ad)), Wr (RoI xs y.1 y.2.1 y.2.2.1 x) → bcase (!decide (x.1 = x.2.1)) (bcase
  (decide (x.1 > x.2.1)) (Wr (SwP x.2.2 (IntKind.wrap IntKind.i64 (y.2.1 - x.1)) y.2.1 x.2.1) ∧ Wr (RoI xs y.1 y.2.1 y.2.2.1 (IntKind.wrap IntKind.i64 (x.1 - x.2.1), x.2.1, swrF zA (Int.toNat (IntKind.wrap IntKind.i64
  (y.2.1 - x.1))) (Int.toNat y.2.1) (Int.toNat x.2.1) x.2.2)) ∧ Wr (Int.toNat (IntKind.wrap IntKind.i64 (x.1 - x.2.1) + x.2.1) < Int.toNat (x.1 + x.2.1)) ∧ E (IntKind.wrap IntKind.i64 (x.1 - x.2.1)) ∧ E x.2.1 ∧ E y.1 ∧ E
  y.2.1 ∧ E y.2.2.1 ∧ E (swrF zA (Int.toNat (IntKind.wrap IntKind.i64 (y.2.1 - x.1))) (Int.toNat y.2.1) (Int.toNat x.2.1) x.2.2)) (Wr (SwP x.2.2 (IntKind.wrap IntKind.i64 (y.2.1 - x.1)) (IntKind.wrap IntKind.i64
  (IntKind.wrap IntKind.i64 (y.2.1 + x.2.1) - x.1)) x.1) ∧ Wr (RoI xs y.1 y.2.1 y.2.2.1 (x.1, IntKind.wrap IntKind.i64 (x.2.1 - x.1), swrF zA (Int.toNat (IntKind.wrap IntKind.i64 (y.2.1 - x.1))) (Int.toNat (IntKind.wrap
  IntKind.i64 (IntKind.wrap IntKind.i64 (y.2.1 + x.2.1) - x.1))) (Int.toNat x.1) x.2.2)) ∧ Wr (Int.toNat (x.1 + IntKind.wrap IntKind.i64 (x.2.1 - x.1)) < Int.toNat (x.1 + x.2.1)) ∧ E x.1 ∧ E (IntKind.wrap IntKind.i64
  (x.2.1 - x.1)) ∧ E y.1 ∧ E y.2.1 ∧ E y.2.2.1 ∧ E (swrF zA (Int.toNat (IntKind.wrap IntKind.i64 (y.2.1 - x.1))) (Int.toNat (IntKind.wrap IntKind.i64 (IntKind.wrap IntKind.i64 (y.2.1 + x.2.1) - x.1))) (Int.toNat x.1)
  x.2.2))) (Wr (SwP x.2.2 (IntKind.wrap IntKind.i64 (y.2.1 - x.1)) y.2.1 x.1) ∧ swrF zA (Int.toNat (IntKind.wrap IntKind.i64 (y.2.1 - x.1))) (Int.toNat y.2.1) (Int.toNat x.1) x.2.2 = rotF (Int.toNat y.1) (Int.toNat y.2.1)
  (Int.toNat y.2.2.1) xs)) := by kernel_rfl
theorem m120_eq : vcFnM g120 120 400 Tryd.f120 cInsM = ( ∀ (xs : List (Ad)) (y : Int × Int × Unit), Wr (InP xs y.1 y.2.1) → (Wr (IoI xs y.1 y.2.1 (IntKind.wrap IntKind.i64 (y.1 + (1 : Int)), xs)) ∧ E (IntKind.wrap IntKind.i64 (y.1 + (1 : Int))) ∧ E y.1 ∧ E y.2.1 ∧ E xs) ∧ ∀ (x
  : Int × List (Ad)), Wr (IoI xs y.1 y.2.1 x) → bcase (decide (x.1 < y.2.1)) ((Wr (IiI x.2 y.1 x.1 x) ∧ E x.1 ∧ E y.1 ∧ E y.2.1 ∧ E x.1 ∧ E x.2) ∧ ∀ (x_1 : Int × List (Ad)), Wr (IiI x.2 y.1 x.1 x_1) → Wr (decide (x_1.1 >
  y.1) = true → (0 : Int) ≤ x_1.1) ∧ Wr (decide (x_1.1 > y.1) = true → x_1.1 < (↑(List.length x_1.2) : Int)) ∧ Wr (decide (x_1.1 > y.1) = true → (0 : Int) ≤ IntKind.wrap IntKind.i64 (x_1.1 - (1 : Int))) ∧ Wr (decide
  (x_1.1 > y.1) = true → IntKind.wrap IntKind.i64 (x_1.1 - (1 : Int)) < (↑(List.length x_1.2) : Int)) ∧ Wr (decide (x_1.1 > y.1) = true → true = true) ∧ bcase (decide (x_1.1 > y.1) && decide (cmpA (List.getD x_1.2
  (Int.toNat x_1.1) (Ty.zero AdT)) (List.getD x_1.2 (Int.toNat (IntKind.wrap IntKind.i64 (x_1.1 - (1 : Int)))) (Ty.zero AdT)) < (0 : Int))) (Wr ((0 : Int) ≤ IntKind.wrap IntKind.i64 (x_1.1 - (1 : Int))) ∧ Wr (IntKind.wrap
  IntKind.i64 (x_1.1 - (1 : Int)) < (↑(List.length x_1.2) : Int)) ∧ Wr ((0 : Int) ≤ x_1.1) ∧ Wr (x_1.1 < (↑(List.length x_1.2) : Int)) ∧ Wr ((0 : Int) ≤ x_1.1) ∧ Wr (x_1.1 < (↑(List.length x_1.2) : Int)) ∧ Wr ((0 : Int) ≤
  IntKind.wrap IntKind.i64 (x_1.1 - (1 : Int))) ∧ Wr (IntKind.wrap IntKind.i64 (x_1.1 - (1 : Int)) < (↑(List.length (List.set x_1.2 (Int.toNat x_1.1) (List.getD x_1.2 (Int.toNat (IntKind.wrap IntKind.i64 (x_1.1 - (1 :
  Int)))) (Ty.zero AdT)))) : Int)) ∧ Wr (IiI x.2 y.1 x.1 (IntKind.wrap IntKind.i64 (x_1.1 - (1 : Int)), List.set (List.set x_1.2 (Int.toNat x_1.1) (List.getD x_1.2 (Int.toNat (IntKind.wrap IntKind.i64 (x_1.1 - (1 :
  Int)))) (Ty.zero AdT))) (Int.toNat (IntKind.wrap IntKind.i64 (x_1.1 - (1 : Int)))) (List.getD x_1.2 (Int.toNat x_1.1) (Ty.zero AdT)))) ∧ Wr (Int.toNat (IntKind.wrap IntKind.i64 (x_1.1 - (1 : Int)) - y.1) < Int.toNat
  (x_1.1 - y.1)) ∧ E (IntKind.wrap IntKind.i64 (x_1.1 - (1 : Int))) ∧ E y.1 ∧ E y.2.1 ∧ E x.1 ∧ E (List.set (List.set x_1.2 (Int.toNat x_1.1) (List.getD x_1.2 (Int.toNat (IntKind.wrap IntKind.i64 (x_1.1 - (1 : Int))))
  (Ty.zero AdT))) (Int.toNat (IntKind.wrap IntKind.i64 (x_1.1 - (1 : Int)))) (List.getD x_1.2 (Int.toNat x_1.1) (Ty.zero AdT)))) (Wr (IoI xs y.1 y.2.1 (IntKind.wrap IntKind.i64 (x.1 + (1 : Int)), x_1.2)) ∧ Wr (Int.toNat
  (y.2.1 - IntKind.wrap IntKind.i64 (x.1 + (1 : Int))) < Int.toNat (y.2.1 - x.1)) ∧ E (IntKind.wrap IntKind.i64 (x.1 + (1 : Int))) ∧ E y.1 ∧ E y.2.1 ∧ E x_1.2)) (x.2 = segS ltA (Int.toNat y.1) (Int.toNat y.2.1) xs)) := by kernel_rfl
theorem m121_eq (k : Nat) : vcFnM (g121 k) 121 400 Tryd.f121 (cSym (k + 1)) = ( ∀ (xs : List (Ad)) (y : Int × Int × Int × Unit), Wr (MeP (k + (1 : Nat)) xs y.1 y.2.1 y.2.2.1) → bcase (decide (IntKind.wrap IntKind.i64 (y.2.1 - y.1) = (1 : Int))) ((Wr (S1I xs y.1 y.2.1 y.2.2.1 (y.2.1, y.2.2.1)) ∧ E
  y.2.1 ∧ E y.2.2.1 ∧ E y.1 ∧ E y.2.1 ∧ E y.2.2.1 ∧ E xs) ∧ ∀ (x : Int × Int), Wr (S1I xs y.1 y.2.1 y.2.2.1 x) → bcase (decide (x.1 < x.2)) (Wr ((0 : Int) ≤ (1 : Int)) ∧ Wr ((0 : Int) ≤ IntKind.wrap IntKind.i64 (Int.fdiv
  (IntKind.wrap IntKind.u64 (IntKind.wrap IntKind.i64 (x.1 + x.2))) ((2 : Int) ^ Min.min (Int.toNat (1 : Int)) (IntKind.bits IntKind.u64)))) ∧ Wr (IntKind.wrap IntKind.i64 (Int.fdiv (IntKind.wrap IntKind.u64 (IntKind.wrap
  IntKind.i64 (x.1 + x.2))) ((2 : Int) ^ Min.min (Int.toNat (1 : Int)) (IntKind.bits IntKind.u64))) < (↑(List.length xs) : Int)) ∧ Wr ((0 : Int) ≤ y.1) ∧ Wr (y.1 < (↑(List.length xs) : Int)) ∧ E true ∧ bcase (decide (cmpA
  (List.getD xs (Int.toNat (IntKind.wrap IntKind.i64 (Int.fdiv (IntKind.wrap IntKind.u64 (IntKind.wrap IntKind.i64 (x.1 + x.2))) ((2 : Int) ^ Min.min (Int.toNat (1 : Int)) (IntKind.bits IntKind.u64))))) (Ty.zero AdT))
  (List.getD xs (Int.toNat y.1) (Ty.zero AdT)) < (0 : Int))) (Wr (S1I xs y.1 y.2.1 y.2.2.1 (IntKind.wrap IntKind.i64 (IntKind.wrap IntKind.i64 (Int.fdiv (IntKind.wrap IntKind.u64 (IntKind.wrap IntKind.i64 (x.1 + x.2)))
  ((2 : Int) ^ Min.min (Int.toNat (1 : Int)) (IntKind.bits IntKind.u64))) + (1 : Int)), x.2)) ∧ Wr (Int.toNat (x.2 - IntKind.wrap IntKind.i64 (IntKind.wrap IntKind.i64 (Int.fdiv (IntKind.wrap IntKind.u64 (IntKind.wrap
  IntKind.i64 (x.1 + x.2))) ((2 : Int) ^ Min.min (Int.toNat (1 : Int)) (IntKind.bits IntKind.u64))) + (1 : Int))) < Int.toNat (x.2 - x.1)) ∧ E (IntKind.wrap IntKind.i64 (IntKind.wrap IntKind.i64 (Int.fdiv (IntKind.wrap
  IntKind.u64 (IntKind.wrap IntKind.i64 (x.1 + x.2))) ((2 : Int) ^ Min.min (Int.toNat (1 : Int)) (IntKind.bits IntKind.u64))) + (1 : Int))) ∧ E x.2 ∧ E y.1 ∧ E y.2.1 ∧ E y.2.2.1 ∧ E xs) (Wr (S1I xs y.1 y.2.1 y.2.2.1 (x.1,
  IntKind.wrap IntKind.i64 (Int.fdiv (IntKind.wrap IntKind.u64 (IntKind.wrap IntKind.i64 (x.1 + x.2))) ((2 : Int) ^ Min.min (Int.toNat (1 : Int)) (IntKind.bits IntKind.u64))))) ∧ Wr (Int.toNat (IntKind.wrap IntKind.i64
  (Int.fdiv (IntKind.wrap IntKind.u64 (IntKind.wrap IntKind.i64 (x.1 + x.2))) ((2 : Int) ^ Min.min (Int.toNat (1 : Int)) (IntKind.bits IntKind.u64))) - x.1) < Int.toNat (x.2 - x.1)) ∧ E x.1 ∧ E (IntKind.wrap IntKind.i64
  (Int.fdiv (IntKind.wrap IntKind.u64 (IntKind.wrap IntKind.i64 (x.1 + x.2))) ((2 : Int) ^ Min.min (Int.toNat (1 : Int)) (IntKind.bits IntKind.u64)))) ∧ E y.1 ∧ E y.2.1 ∧ E y.2.2.1 ∧ E xs)) ((Wr (U1I y.1 x.1 y.1) ∧ E y.1
  ∧ E y.1 ∧ E y.2.1 ∧ E y.2.2.1 ∧ E x.1 ∧ Wr (xs = rotF (Int.toNat y.1) (Int.toNat y.1 + (1 : Nat)) (Int.toNat y.1 + (1 : Nat)) xs)) ∧ ∀ (x_1 : Int), Wr (U1I y.1 x.1 x_1) → bcase (decide (x_1 < IntKind.wrap IntKind.i64
  (x.1 - (1 : Int)))) (Wr ((0 : Int) ≤ IntKind.wrap IntKind.i64 (x_1 + (1 : Int))) ∧ Wr (IntKind.wrap IntKind.i64 (x_1 + (1 : Int)) < (↑(List.length (rotF (Int.toNat y.1) (Int.toNat y.1 + (1 : Nat)) (Int.toNat x_1 + (1 :
  Nat)) xs)) : Int)) ∧ Wr ((0 : Int) ≤ x_1) ∧ Wr (x_1 < (↑(List.length (rotF (Int.toNat y.1) (Int.toNat y.1 + (1 : Nat)) (Int.toNat x_1 + (1 : Nat)) xs)) : Int)) ∧ Wr ((0 : Int) ≤ x_1) ∧ Wr (x_1 < (↑(List.length (rotF
  (Int.toNat y.1) (Int.toNat y.1 + (1 : Nat)) (Int.toNat x_1 + (1 : Nat)) xs)) : Int)) ∧ Wr ((0 : Int) ≤ IntKind.wrap IntKind.i64 (x_1 + (1 : Int))) ∧ Wr (IntKind.wrap IntKind.i64 (x_1 + (1 : Int)) < (↑(List.length
  (List.set (rotF (Int.toNat y.1) (Int.toNat y.1 + (1 : Nat)) (Int.toNat x_1 + (1 : Nat)) xs) (Int.toNat x_1) (List.getD (rotF (Int.toNat y.1) (Int.toNat y.1 + (1 : Nat)) (Int.toNat x_1 + (1 : Nat)) xs) (Int.toNat
  (IntKind.wrap IntKind.i64 (x_1 + (1 : Int)))) (Ty.zero AdT)))) : Int)) ∧ Wr (U1I y.1 x.1 (IntKind.wrap IntKind.i64 (x_1 + (1 : Int)))) ∧ Wr (Int.toNat (x.1 - IntKind.wrap IntKind.i64 (x_1 + (1 : Int))) < Int.toNat (x.1
  - x_1)) ∧ E (IntKind.wrap IntKind.i64 (x_1 + (1 : Int))) ∧ E y.1 ∧ E y.2.1 ∧ E y.2.2.1 ∧ E x.1 ∧ Wr (List.set (List.set (rotF (Int.toNat y.1) (Int.toNat y.1 + (1 : Nat)) (Int.toNat x_1 + (1 : Nat)) xs) (Int.toNat x_1)
  (List.getD (rotF (Int.toNat y.1) (Int.toNat y.1 + (1 : Nat)) (Int.toNat x_1 + (1 : Nat)) xs) (Int.toNat (IntKind.wrap IntKind.i64 (x_1 + (1 : Int)))) (Ty.zero AdT))) (Int.toNat (IntKind.wrap IntKind.i64 (x_1 + (1 :
  Int)))) (List.getD (rotF (Int.toNat y.1) (Int.toNat y.1 + (1 : Nat)) (Int.toNat x_1 + (1 : Nat)) xs) (Int.toNat x_1) (Ty.zero AdT)) = rotF (Int.toNat y.1) (Int.toNat y.1 + (1 : Nat)) (Int.toNat (IntKind.wrap IntKind.i64
  (x_1 + (1 : Int))) + (1 : Nat)) xs)) (rotF (Int.toNat y.1) (Int.toNat y.1 + (1 : Nat)) (Int.toNat x_1 + (1 : Nat)) xs = segS ltA (Int.toNat y.1) (Int.toNat y.2.2.1) xs))) (bcase (decide (IntKind.wrap IntKind.i64
  (y.2.2.1 - y.2.1) = (1 : Int))) ((Wr (S2I xs y.1 y.2.1 (y.1, y.2.1)) ∧ E y.1 ∧ E y.2.1 ∧ E y.1 ∧ E y.2.1 ∧ E y.2.2.1 ∧ E xs) ∧ ∀ (x : Int × Int), Wr (S2I xs y.1 y.2.1 x) → bcase (decide (x.1 < x.2)) (Wr ((0 : Int) ≤ (1
  : Int)) ∧ Wr ((0 : Int) ≤ y.2.1) ∧ Wr (y.2.1 < (↑(List.length xs) : Int)) ∧ Wr ((0 : Int) ≤ IntKind.wrap IntKind.i64 (Int.fdiv (IntKind.wrap IntKind.u64 (IntKind.wrap IntKind.i64 (x.1 + x.2))) ((2 : Int) ^ Min.min
  (Int.toNat (1 : Int)) (IntKind.bits IntKind.u64)))) ∧ Wr (IntKind.wrap IntKind.i64 (Int.fdiv (IntKind.wrap IntKind.u64 (IntKind.wrap IntKind.i64 (x.1 + x.2))) ((2 : Int) ^ Min.min (Int.toNat (1 : Int)) (IntKind.bits
  IntKind.u64))) < (↑(List.length xs) : Int)) ∧ E true ∧ bcase (!decide (cmpA (List.getD xs (Int.toNat y.2.1) (Ty.zero AdT)) (List.getD xs (Int.toNat (IntKind.wrap IntKind.i64 (Int.fdiv (IntKind.wrap IntKind.u64
  (IntKind.wrap IntKind.i64 (x.1 + x.2))) ((2 : Int) ^ Min.min (Int.toNat (1 : Int)) (IntKind.bits IntKind.u64))))) (Ty.zero AdT)) < (0 : Int))) (Wr (S2I xs y.1 y.2.1 (IntKind.wrap IntKind.i64 (IntKind.wrap IntKind.i64
  (Int.fdiv (IntKind.wrap IntKind.u64 (IntKind.wrap IntKind.i64 (x.1 + x.2))) ((2 : Int) ^ Min.min (Int.toNat (1 : Int)) (IntKind.bits IntKind.u64))) + (1 : Int)), x.2)) ∧ Wr (Int.toNat (x.2 - IntKind.wrap IntKind.i64
  (IntKind.wrap IntKind.i64 (Int.fdiv (IntKind.wrap IntKind.u64 (IntKind.wrap IntKind.i64 (x.1 + x.2))) ((2 : Int) ^ Min.min (Int.toNat (1 : Int)) (IntKind.bits IntKind.u64))) + (1 : Int))) < Int.toNat (x.2 - x.1)) ∧ E
  (IntKind.wrap IntKind.i64 (IntKind.wrap IntKind.i64 (Int.fdiv (IntKind.wrap IntKind.u64 (IntKind.wrap IntKind.i64 (x.1 + x.2))) ((2 : Int) ^ Min.min (Int.toNat (1 : Int)) (IntKind.bits IntKind.u64))) + (1 : Int))) ∧ E
  x.2 ∧ E y.1 ∧ E y.2.1 ∧ E y.2.2.1 ∧ E xs) (Wr (S2I xs y.1 y.2.1 (x.1, IntKind.wrap IntKind.i64 (Int.fdiv (IntKind.wrap IntKind.u64 (IntKind.wrap IntKind.i64 (x.1 + x.2))) ((2 : Int) ^ Min.min (Int.toNat (1 : Int))
  (IntKind.bits IntKind.u64))))) ∧ Wr (Int.toNat (IntKind.wrap IntKind.i64 (Int.fdiv (IntKind.wrap IntKind.u64 (IntKind.wrap IntKind.i64 (x.1 + x.2))) ((2 : Int) ^ Min.min (Int.toNat (1 : Int)) (IntKind.bits
  IntKind.u64))) - x.1) < Int.toNat (x.2 - x.1)) ∧ E x.1 ∧ E (IntKind.wrap IntKind.i64 (Int.fdiv (IntKind.wrap IntKind.u64 (IntKind.wrap IntKind.i64 (x.1 + x.2))) ((2 : Int) ^ Min.min (Int.toNat (1 : Int)) (IntKind.bits
  IntKind.u64)))) ∧ E y.1 ∧ E y.2.1 ∧ E y.2.2.1 ∧ E xs)) ((Wr (U2I y.2.1 x.1 y.2.1) ∧ E y.2.1 ∧ E y.1 ∧ E y.2.1 ∧ E y.2.2.1 ∧ E x.1 ∧ Wr (xs = rotF (Int.toNat y.2.1) (Int.toNat y.2.1) (Int.toNat y.2.1 + (1 : Nat)) xs)) ∧
  ∀ (x_1 : Int), Wr (U2I y.2.1 x.1 x_1) → bcase (decide (x_1 > x.1)) (Wr ((0 : Int) ≤ IntKind.wrap IntKind.i64 (x_1 - (1 : Int))) ∧ Wr (IntKind.wrap IntKind.i64 (x_1 - (1 : Int)) < (↑(List.length (rotF (Int.toNat x_1)
  (Int.toNat y.2.1) (Int.toNat y.2.1 + (1 : Nat)) xs)) : Int)) ∧ Wr ((0 : Int) ≤ x_1) ∧ Wr (x_1 < (↑(List.length (rotF (Int.toNat x_1) (Int.toNat y.2.1) (Int.toNat y.2.1 + (1 : Nat)) xs)) : Int)) ∧ Wr ((0 : Int) ≤ x_1) ∧
  Wr (x_1 < (↑(List.length (rotF (Int.toNat x_1) (Int.toNat y.2.1) (Int.toNat y.2.1 + (1 : Nat)) xs)) : Int)) ∧ Wr ((0 : Int) ≤ IntKind.wrap IntKind.i64 (x_1 - (1 : Int))) ∧ Wr (IntKind.wrap IntKind.i64 (x_1 - (1 : Int))
  < (↑(List.length (List.set (rotF (Int.toNat x_1) (Int.toNat y.2.1) (Int.toNat y.2.1 + (1 : Nat)) xs) (Int.toNat x_1) (List.getD (rotF (Int.toNat x_1) (Int.toNat y.2.1) (Int.toNat y.2.1 + (1 : Nat)) xs) (Int.toNat
  (IntKind.wrap IntKind.i64 (x_1 - (1 : Int)))) (Ty.zero AdT)))) : Int)) ∧ Wr (U2I y.2.1 x.1 (IntKind.wrap IntKind.i64 (x_1 - (1 : Int)))) ∧ Wr (Int.toNat (IntKind.wrap IntKind.i64 (x_1 - (1 : Int)) - x.1) < Int.toNat
  (x_1 - x.1)) ∧ E (IntKind.wrap IntKind.i64 (x_1 - (1 : Int))) ∧ E y.1 ∧ E y.2.1 ∧ E y.2.2.1 ∧ E x.1 ∧ Wr (List.set (List.set (rotF (Int.toNat x_1) (Int.toNat y.2.1) (Int.toNat y.2.1 + (1 : Nat)) xs) (Int.toNat x_1)
  (List.getD (rotF (Int.toNat x_1) (Int.toNat y.2.1) (Int.toNat y.2.1 + (1 : Nat)) xs) (Int.toNat (IntKind.wrap IntKind.i64 (x_1 - (1 : Int)))) (Ty.zero AdT))) (Int.toNat (IntKind.wrap IntKind.i64 (x_1 - (1 : Int))))
  (List.getD (rotF (Int.toNat x_1) (Int.toNat y.2.1) (Int.toNat y.2.1 + (1 : Nat)) xs) (Int.toNat x_1) (Ty.zero AdT)) = rotF (Int.toNat (IntKind.wrap IntKind.i64 (x_1 - (1 : Int)))) (Int.toNat y.2.1) (Int.toNat y.2.1 + (1
  : Nat)) xs)) (rotF (Int.toNat x_1) (Int.toNat y.2.1) (Int.toNat y.2.1 + (1 : Nat)) xs = segS ltA (Int.toNat y.1) (Int.toNat y.2.2.1) xs))) (Wr ((0 : Int) ≤ (1 : Int)) ∧ bcase (decide (y.2.1 > IntKind.wrap IntKind.i64
  (Int.fdiv (IntKind.wrap IntKind.u64 (IntKind.wrap IntKind.i64 (y.1 + y.2.2.1))) ((2 : Int) ^ Min.min (Int.toNat (1 : Int)) (IntKind.bits IntKind.u64))))) (Wr (IntKind.wrap IntKind.i64 (IntKind.wrap IntKind.i64
  (IntKind.wrap IntKind.i64 (Int.fdiv (IntKind.wrap IntKind.u64 (IntKind.wrap IntKind.i64 (y.1 + y.2.2.1))) ((2 : Int) ^ Min.min (Int.toNat (1 : Int)) (IntKind.bits IntKind.u64))) + y.2.1) - y.2.2.1) = (↑(cutS (Int.toNat
  y.1) (Int.toNat y.2.1) (Int.toNat y.2.2.1)) : Int) ∧ IntKind.wrap IntKind.i64 (Int.fdiv (IntKind.wrap IntKind.u64 (IntKind.wrap IntKind.i64 (y.1 + y.2.2.1))) ((2 : Int) ^ Min.min (Int.toNat (1 : Int)) (IntKind.bits
  IntKind.u64))) = (↑(cutR (Int.toNat y.1) (Int.toNat y.2.1) (Int.toNat y.2.2.1)) : Int)) ∧ E (IntKind.wrap IntKind.i64 (IntKind.wrap IntKind.i64 (IntKind.wrap IntKind.i64 (Int.fdiv (IntKind.wrap IntKind.u64 (IntKind.wrap
  IntKind.i64 (y.1 + y.2.2.1))) ((2 : Int) ^ Min.min (Int.toNat (1 : Int)) (IntKind.bits IntKind.u64))) + y.2.1) - y.2.2.1)) ∧ E (IntKind.wrap IntKind.i64 (Int.fdiv (IntKind.wrap IntKind.u64 (IntKind.wrap IntKind.i64 (y.1
  + y.2.2.1))) ((2 : Int) ^ Min.min (Int.toNat (1 : Int)) (IntKind.bits IntKind.u64)))) ∧ E y.1 ∧ E y.2.1 ∧ E y.2.2.1 ∧ E (IntKind.wrap IntKind.i64 (Int.fdiv (IntKind.wrap IntKind.u64 (IntKind.wrap IntKind.i64 (y.1 +
  y.2.2.1))) ((2 : Int) ^ Min.min (Int.toNat (1 : Int)) (IntKind.bits IntKind.u64)))) ∧ E (IntKind.wrap IntKind.i64 (IntKind.wrap IntKind.i64 (Int.fdiv (IntKind.wrap IntKind.u64 (IntKind.wrap IntKind.i64 (y.1 + y.2.2.1)))
  ((2 : Int) ^ Min.min (Int.toNat (1 : Int)) (IntKind.bits IntKind.u64))) + y.2.1)) ∧ E xs) (Wr (y.1 = (↑(cutS (Int.toNat y.1) (Int.toNat y.2.1) (Int.toNat y.2.2.1)) : Int) ∧ y.2.1 = (↑(cutR (Int.toNat y.1) (Int.toNat
  y.2.1) (Int.toNat y.2.2.1)) : Int)) ∧ E y.1 ∧ E y.2.1 ∧ E y.1 ∧ E y.2.1 ∧ E y.2.2.1 ∧ E (IntKind.wrap IntKind.i64 (Int.fdiv (IntKind.wrap IntKind.u64 (IntKind.wrap IntKind.i64 (y.1 + y.2.2.1))) ((2 : Int) ^ Min.min
  (Int.toNat (1 : Int)) (IntKind.bits IntKind.u64)))) ∧ E (IntKind.wrap IntKind.i64 (IntKind.wrap IntKind.i64 (Int.fdiv (IntKind.wrap IntKind.u64 (IntKind.wrap IntKind.i64 (y.1 + y.2.2.1))) ((2 : Int) ^ Min.min (Int.toNat
  (1 : Int)) (IntKind.bits IntKind.u64))) + y.2.1)) ∧ E xs) ∧ ∀ (x : Int × Int), Wr (x.1 = (↑(cutS (Int.toNat y.1) (Int.toNat y.2.1) (Int.toNat y.2.2.1)) : Int) ∧ x.2 = (↑(cutR (Int.toNat y.1) (Int.toNat y.2.1) (Int.toNat
  y.2.2.1)) : Int)) → (Wr (S3I xs y.1 y.2.1 y.2.2.1 x) ∧ E x.1 ∧ E x.2 ∧ E y.1 ∧ E y.2.1 ∧ E y.2.2.1 ∧ E (IntKind.wrap IntKind.i64 (Int.fdiv (IntKind.wrap IntKind.u64 (IntKind.wrap IntKind.i64 (y.1 + y.2.2.1))) ((2 : Int)
  ^ Min.min (Int.toNat (1 : Int)) (IntKind.bits IntKind.u64)))) ∧ E (IntKind.wrap IntKind.i64 (IntKind.wrap IntKind.i64 (Int.fdiv (IntKind.wrap IntKind.u64 (IntKind.wrap IntKind.i64 (y.1 + y.2.2.1))) ((2 : Int) ^ Min.min
  (Int.toNat (1 : Int)) (IntKind.bits IntKind.u64))) + y.2.1)) ∧ E (IntKind.wrap IntKind.i64 (IntKind.wrap IntKind.i64 (IntKind.wrap IntKind.i64 (Int.fdiv (IntKind.wrap IntKind.u64 (IntKind.wrap IntKind.i64 (y.1 +
  y.2.2.1))) ((2 : Int) ^ Min.min (Int.toNat (1 : Int)) (IntKind.bits IntKind.u64))) + y.2.1) - (1 : Int))) ∧ E xs) ∧ ∀ (x : Int × Int), Wr (S3I xs y.1 y.2.1 y.2.2.1 x) → bcase (decide (x.1 < x.2)) (Wr ((0 : Int) ≤ (1 :
  Int)) ∧ Wr ((0 : Int) ≤ IntKind.wrap IntKind.i64 (IntKind.wrap IntKind.i64 (IntKind.wrap IntKind.i64 (IntKind.wrap IntKind.i64 (Int.fdiv (IntKind.wrap IntKind.u64 (IntKind.wrap IntKind.i64 (y.1 + y.2.2.1))) ((2 : Int) ^
  Min.min (Int.toNat (1 : Int)) (IntKind.bits IntKind.u64))) + y.2.1) - (1 : Int)) - IntKind.wrap IntKind.i64 (Int.fdiv (IntKind.wrap IntKind.u64 (IntKind.wrap IntKind.i64 (x.1 + x.2))) ((2 : Int) ^ Min.min (Int.toNat (1
  : Int)) (IntKind.bits IntKind.u64))))) ∧ Wr (IntKind.wrap IntKind.i64 (IntKind.wrap IntKind.i64 (IntKind.wrap IntKind.i64 (IntKind.wrap IntKind.i64 (Int.fdiv (IntKind.wrap IntKind.u64 (IntKind.wrap IntKind.i64 (y.1 +
  y.2.2.1))) ((2 : Int) ^ Min.min (Int.toNat (1 : Int)) (IntKind.bits IntKind.u64))) + y.2.1) - (1 : Int)) - IntKind.wrap IntKind.i64 (Int.fdiv (IntKind.wrap IntKind.u64 (IntKind.wrap IntKind.i64 (x.1 + x.2))) ((2 : Int)
  ^ Min.min (Int.toNat (1 : Int)) (IntKind.bits IntKind.u64)))) < (↑(List.length xs) : Int)) ∧ Wr ((0 : Int) ≤ IntKind.wrap IntKind.i64 (Int.fdiv (IntKind.wrap IntKind.u64 (IntKind.wrap IntKind.i64 (x.1 + x.2))) ((2 :
  Int) ^ Min.min (Int.toNat (1 : Int)) (IntKind.bits IntKind.u64)))) ∧ Wr (IntKind.wrap IntKind.i64 (Int.fdiv (IntKind.wrap IntKind.u64 (IntKind.wrap IntKind.i64 (x.1 + x.2))) ((2 : Int) ^ Min.min (Int.toNat (1 : Int))
  (IntKind.bits IntKind.u64))) < (↑(List.length xs) : Int)) ∧ E true ∧ bcase (!decide (cmpA (List.getD xs (Int.toNat (IntKind.wrap IntKind.i64 (IntKind.wrap IntKind.i64 (IntKind.wrap IntKind.i64 (IntKind.wrap IntKind.i64
  (Int.fdiv (IntKind.wrap IntKind.u64 (IntKind.wrap IntKind.i64 (y.1 + y.2.2.1))) ((2 : Int) ^ Min.min (Int.toNat (1 : Int)) (IntKind.bits IntKind.u64))) + y.2.1) - (1 : Int)) - IntKind.wrap IntKind.i64 (Int.fdiv
  (IntKind.wrap IntKind.u64 (IntKind.wrap IntKind.i64 (x.1 + x.2))) ((2 : Int) ^ Min.min (Int.toNat (1 : Int)) (IntKind.bits IntKind.u64)))))) (Ty.zero AdT)) (List.getD xs (Int.toNat (IntKind.wrap IntKind.i64 (Int.fdiv
  (IntKind.wrap IntKind.u64 (IntKind.wrap IntKind.i64 (x.1 + x.2))) ((2 : Int) ^ Min.min (Int.toNat (1 : Int)) (IntKind.bits IntKind.u64))))) (Ty.zero AdT)) < (0 : Int))) (Wr (S3I xs y.1 y.2.1 y.2.2.1 (IntKind.wrap
  IntKind.i64 (IntKind.wrap IntKind.i64 (Int.fdiv (IntKind.wrap IntKind.u64 (IntKind.wrap IntKind.i64 (x.1 + x.2))) ((2 : Int) ^ Min.min (Int.toNat (1 : Int)) (IntKind.bits IntKind.u64))) + (1 : Int)), x.2)) ∧ Wr
  (Int.toNat (x.2 - IntKind.wrap IntKind.i64 (IntKind.wrap IntKind.i64 (Int.fdiv (IntKind.wrap IntKind.u64 (IntKind.wrap IntKind.i64 (x.1 + x.2))) ((2 : Int) ^ Min.min (Int.toNat (1 : Int)) (IntKind.bits IntKind.u64))) +
  (1 : Int))) < Int.toNat (x.2 - x.1)) ∧ E (IntKind.wrap IntKind.i64 (IntKind.wrap IntKind.i64 (Int.fdiv (IntKind.wrap IntKind.u64 (IntKind.wrap IntKind.i64 (x.1 + x.2))) ((2 : Int) ^ Min.min (Int.toNat (1 : Int))
  (IntKind.bits IntKind.u64))) + (1 : Int))) ∧ E x.2 ∧ E y.1 ∧ E y.2.1 ∧ E y.2.2.1 ∧ E (IntKind.wrap IntKind.i64 (Int.fdiv (IntKind.wrap IntKind.u64 (IntKind.wrap IntKind.i64 (y.1 + y.2.2.1))) ((2 : Int) ^ Min.min
  (Int.toNat (1 : Int)) (IntKind.bits IntKind.u64)))) ∧ E (IntKind.wrap IntKind.i64 (IntKind.wrap IntKind.i64 (Int.fdiv (IntKind.wrap IntKind.u64 (IntKind.wrap IntKind.i64 (y.1 + y.2.2.1))) ((2 : Int) ^ Min.min (Int.toNat
  (1 : Int)) (IntKind.bits IntKind.u64))) + y.2.1)) ∧ E (IntKind.wrap IntKind.i64 (IntKind.wrap IntKind.i64 (IntKind.wrap IntKind.i64 (Int.fdiv (IntKind.wrap IntKind.u64 (IntKind.wrap IntKind.i64 (y.1 + y.2.2.1))) ((2 :
  Int) ^ Min.min (Int.toNat (1 : Int)) (IntKind.bits IntKind.u64))) + y.2.1) - (1 : Int))) ∧ E xs) (Wr (S3I xs y.1 y.2.1 y.2.2.1 (x.1, IntKind.wrap IntKind.i64 (Int.fdiv (IntKind.wrap IntKind.u64 (IntKind.wrap IntKind.i64
  (x.1 + x.2))) ((2 : Int) ^ Min.min (Int.toNat (1 : Int)) (IntKind.bits IntKind.u64))))) ∧ Wr (Int.toNat (IntKind.wrap IntKind.i64 (Int.fdiv (IntKind.wrap IntKind.u64 (IntKind.wrap IntKind.i64 (x.1 + x.2))) ((2 : Int) ^
  Min.min (Int.toNat (1 : Int)) (IntKind.bits IntKind.u64))) - x.1) < Int.toNat (x.2 - x.1)) ∧ E x.1 ∧ E (IntKind.wrap IntKind.i64 (Int.fdiv (IntKind.wrap IntKind.u64 (IntKind.wrap IntKind.i64 (x.1 + x.2))) ((2 : Int) ^
  Min.min (Int.toNat (1 : Int)) (IntKind.bits IntKind.u64)))) ∧ E y.1 ∧ E y.2.1 ∧ E y.2.2.1 ∧ E (IntKind.wrap IntKind.i64 (Int.fdiv (IntKind.wrap IntKind.u64 (IntKind.wrap IntKind.i64 (y.1 + y.2.2.1))) ((2 : Int) ^
  Min.min (Int.toNat (1 : Int)) (IntKind.bits IntKind.u64)))) ∧ E (IntKind.wrap IntKind.i64 (IntKind.wrap IntKind.i64 (Int.fdiv (IntKind.wrap IntKind.u64 (IntKind.wrap IntKind.i64 (y.1 + y.2.2.1))) ((2 : Int) ^ Min.min
  (Int.toNat (1 : Int)) (IntKind.bits IntKind.u64))) + y.2.1)) ∧ E (IntKind.wrap IntKind.i64 (IntKind.wrap IntKind.i64 (IntKind.wrap IntKind.i64 (Int.fdiv (IntKind.wrap IntKind.u64 (IntKind.wrap IntKind.i64 (y.1 +
  y.2.2.1))) ((2 : Int) ^ Min.min (Int.toNat (1 : Int)) (IntKind.bits IntKind.u64))) + y.2.1) - (1 : Int))) ∧ E xs)) (bcase (decide (x.1 < y.2.1) && decide (y.2.1 < IntKind.wrap IntKind.i64 (IntKind.wrap IntKind.i64
  (IntKind.wrap IntKind.i64 (Int.fdiv (IntKind.wrap IntKind.u64 (IntKind.wrap IntKind.i64 (y.1 + y.2.2.1))) ((2 : Int) ^ Min.min (Int.toNat (1 : Int)) (IntKind.bits IntKind.u64))) + y.2.1) - x.1))) (Wr (RoP xs x.1 y.2.1
  (IntKind.wrap IntKind.i64 (IntKind.wrap IntKind.i64 (IntKind.wrap IntKind.i64 (Int.fdiv (IntKind.wrap IntKind.u64 (IntKind.wrap IntKind.i64 (y.1 + y.2.2.1))) ((2 : Int) ^ Min.min (Int.toNat (1 : Int)) (IntKind.bits
  IntKind.u64))) + y.2.1) - x.1))) ∧ bcase (decide (y.1 < x.1) && decide (x.1 < IntKind.wrap IntKind.i64 (Int.fdiv (IntKind.wrap IntKind.u64 (IntKind.wrap IntKind.i64 (y.1 + y.2.2.1))) ((2 : Int) ^ Min.min (Int.toNat (1 :
  Int)) (IntKind.bits IntKind.u64))))) (Wr (MeP k (rotF (Int.toNat x.1) (Int.toNat y.2.1) (Int.toNat (IntKind.wrap IntKind.i64 (IntKind.wrap IntKind.i64 (IntKind.wrap IntKind.i64 (Int.fdiv (IntKind.wrap IntKind.u64
  (IntKind.wrap IntKind.i64 (y.1 + y.2.2.1))) ((2 : Int) ^ Min.min (Int.toNat (1 : Int)) (IntKind.bits IntKind.u64))) + y.2.1) - x.1))) xs) y.1 x.1 (IntKind.wrap IntKind.i64 (Int.fdiv (IntKind.wrap IntKind.u64
  (IntKind.wrap IntKind.i64 (y.1 + y.2.2.1))) ((2 : Int) ^ Min.min (Int.toNat (1 : Int)) (IntKind.bits IntKind.u64))))) ∧ bcase (decide (IntKind.wrap IntKind.i64 (Int.fdiv (IntKind.wrap IntKind.u64 (IntKind.wrap
  IntKind.i64 (y.1 + y.2.2.1))) ((2 : Int) ^ Min.min (Int.toNat (1 : Int)) (IntKind.bits IntKind.u64))) < IntKind.wrap IntKind.i64 (IntKind.wrap IntKind.i64 (IntKind.wrap IntKind.i64 (Int.fdiv (IntKind.wrap IntKind.u64
  (IntKind.wrap IntKind.i64 (y.1 + y.2.2.1))) ((2 : Int) ^ Min.min (Int.toNat (1 : Int)) (IntKind.bits IntKind.u64))) + y.2.1) - x.1)) && decide (IntKind.wrap IntKind.i64 (IntKind.wrap IntKind.i64 (IntKind.wrap
  IntKind.i64 (Int.fdiv (IntKind.wrap IntKind.u64 (IntKind.wrap IntKind.i64 (y.1 + y.2.2.1))) ((2 : Int) ^ Min.min (Int.toNat (1 : Int)) (IntKind.bits IntKind.u64))) + y.2.1) - x.1) < y.2.2.1)) (Wr (MeP k (segS ltA
  (Int.toNat y.1) (Int.toNat (IntKind.wrap IntKind.i64 (Int.fdiv (IntKind.wrap IntKind.u64 (IntKind.wrap IntKind.i64 (y.1 + y.2.2.1))) ((2 : Int) ^ Min.min (Int.toNat (1 : Int)) (IntKind.bits IntKind.u64))))) (rotF
  (Int.toNat x.1) (Int.toNat y.2.1) (Int.toNat (IntKind.wrap IntKind.i64 (IntKind.wrap IntKind.i64 (IntKind.wrap IntKind.i64 (Int.fdiv (IntKind.wrap IntKind.u64 (IntKind.wrap IntKind.i64 (y.1 + y.2.2.1))) ((2 : Int) ^
  Min.min (Int.toNat (1 : Int)) (IntKind.bits IntKind.u64))) + y.2.1) - x.1))) xs)) (IntKind.wrap IntKind.i64 (Int.fdiv (IntKind.wrap IntKind.u64 (IntKind.wrap IntKind.i64 (y.1 + y.2.2.1))) ((2 : Int) ^ Min.min (Int.toNat
  (1 : Int)) (IntKind.bits IntKind.u64)))) (IntKind.wrap IntKind.i64 (IntKind.wrap IntKind.i64 (IntKind.wrap IntKind.i64 (Int.fdiv (IntKind.wrap IntKind.u64 (IntKind.wrap IntKind.i64 (y.1 + y.2.2.1))) ((2 : Int) ^ Min.min
  (Int.toNat (1 : Int)) (IntKind.bits IntKind.u64))) + y.2.1) - x.1)) y.2.2.1) ∧ segS ltA (Int.toNat (IntKind.wrap IntKind.i64 (Int.fdiv (IntKind.wrap IntKind.u64 (IntKind.wrap IntKind.i64 (y.1 + y.2.2.1))) ((2 : Int) ^
  Min.min (Int.toNat (1 : Int)) (IntKind.bits IntKind.u64))))) (Int.toNat y.2.2.1) (segS ltA (Int.toNat y.1) (Int.toNat (IntKind.wrap IntKind.i64 (Int.fdiv (IntKind.wrap IntKind.u64 (IntKind.wrap IntKind.i64 (y.1 +
  y.2.2.1))) ((2 : Int) ^ Min.min (Int.toNat (1 : Int)) (IntKind.bits IntKind.u64))))) (rotF (Int.toNat x.1) (Int.toNat y.2.1) (Int.toNat (IntKind.wrap IntKind.i64 (IntKind.wrap IntKind.i64 (IntKind.wrap IntKind.i64
  (Int.fdiv (IntKind.wrap IntKind.u64 (IntKind.wrap IntKind.i64 (y.1 + y.2.2.1))) ((2 : Int) ^ Min.min (Int.toNat (1 : Int)) (IntKind.bits IntKind.u64))) + y.2.1) - x.1))) xs)) = segS ltA (Int.toNat y.1) (Int.toNat
  y.2.2.1) xs) (segS ltA (Int.toNat y.1) (Int.toNat (IntKind.wrap IntKind.i64 (Int.fdiv (IntKind.wrap IntKind.u64 (IntKind.wrap IntKind.i64 (y.1 + y.2.2.1))) ((2 : Int) ^ Min.min (Int.toNat (1 : Int)) (IntKind.bits
  IntKind.u64))))) (rotF (Int.toNat x.1) (Int.toNat y.2.1) (Int.toNat (IntKind.wrap IntKind.i64 (IntKind.wrap IntKind.i64 (IntKind.wrap IntKind.i64 (Int.fdiv (IntKind.wrap IntKind.u64 (IntKind.wrap IntKind.i64 (y.1 +
  y.2.2.1))) ((2 : Int) ^ Min.min (Int.toNat (1 : Int)) (IntKind.bits IntKind.u64))) + y.2.1) - x.1))) xs) = segS ltA (Int.toNat y.1) (Int.toNat y.2.2.1) xs)) (bcase (decide (IntKind.wrap IntKind.i64 (Int.fdiv
  (IntKind.wrap IntKind.u64 (IntKind.wrap IntKind.i64 (y.1 + y.2.2.1))) ((2 : Int) ^ Min.min (Int.toNat (1 : Int)) (IntKind.bits IntKind.u64))) < IntKind.wrap IntKind.i64 (IntKind.wrap IntKind.i64 (IntKind.wrap
  IntKind.i64 (Int.fdiv (IntKind.wrap IntKind.u64 (IntKind.wrap IntKind.i64 (y.1 + y.2.2.1))) ((2 : Int) ^ Min.min (Int.toNat (1 : Int)) (IntKind.bits IntKind.u64))) + y.2.1) - x.1)) && decide (IntKind.wrap IntKind.i64
  (IntKind.wrap IntKind.i64 (IntKind.wrap IntKind.i64 (Int.fdiv (IntKind.wrap IntKind.u64 (IntKind.wrap IntKind.i64 (y.1 + y.2.2.1))) ((2 : Int) ^ Min.min (Int.toNat (1 : Int)) (IntKind.bits IntKind.u64))) + y.2.1) - x.1)
  < y.2.2.1)) (Wr (MeP k (rotF (Int.toNat x.1) (Int.toNat y.2.1) (Int.toNat (IntKind.wrap IntKind.i64 (IntKind.wrap IntKind.i64 (IntKind.wrap IntKind.i64 (Int.fdiv (IntKind.wrap IntKind.u64 (IntKind.wrap IntKind.i64 (y.1
  + y.2.2.1))) ((2 : Int) ^ Min.min (Int.toNat (1 : Int)) (IntKind.bits IntKind.u64))) + y.2.1) - x.1))) xs) (IntKind.wrap IntKind.i64 (Int.fdiv (IntKind.wrap IntKind.u64 (IntKind.wrap IntKind.i64 (y.1 + y.2.2.1))) ((2 :
  Int) ^ Min.min (Int.toNat (1 : Int)) (IntKind.bits IntKind.u64)))) (IntKind.wrap IntKind.i64 (IntKind.wrap IntKind.i64 (IntKind.wrap IntKind.i64 (Int.fdiv (IntKind.wrap IntKind.u64 (IntKind.wrap IntKind.i64 (y.1 +
  y.2.2.1))) ((2 : Int) ^ Min.min (Int.toNat (1 : Int)) (IntKind.bits IntKind.u64))) + y.2.1) - x.1)) y.2.2.1) ∧ segS ltA (Int.toNat (IntKind.wrap IntKind.i64 (Int.fdiv (IntKind.wrap IntKind.u64 (IntKind.wrap IntKind.i64
  (y.1 + y.2.2.1))) ((2 : Int) ^ Min.min (Int.toNat (1 : Int)) (IntKind.bits IntKind.u64))))) (Int.toNat y.2.2.1) (rotF (Int.toNat x.1) (Int.toNat y.2.1) (Int.toNat (IntKind.wrap IntKind.i64 (IntKind.wrap IntKind.i64
  (IntKind.wrap IntKind.i64 (Int.fdiv (IntKind.wrap IntKind.u64 (IntKind.wrap IntKind.i64 (y.1 + y.2.2.1))) ((2 : Int) ^ Min.min (Int.toNat (1 : Int)) (IntKind.bits IntKind.u64))) + y.2.1) - x.1))) xs) = segS ltA
  (Int.toNat y.1) (Int.toNat y.2.2.1) xs) (rotF (Int.toNat x.1) (Int.toNat y.2.1) (Int.toNat (IntKind.wrap IntKind.i64 (IntKind.wrap IntKind.i64 (IntKind.wrap IntKind.i64 (Int.fdiv (IntKind.wrap IntKind.u64 (IntKind.wrap
  IntKind.i64 (y.1 + y.2.2.1))) ((2 : Int) ^ Min.min (Int.toNat (1 : Int)) (IntKind.bits IntKind.u64))) + y.2.1) - x.1))) xs = segS ltA (Int.toNat y.1) (Int.toNat y.2.2.1) xs))) (bcase (decide (y.1 < x.1) && decide (x.1 <
  IntKind.wrap IntKind.i64 (Int.fdiv (IntKind.wrap IntKind.u64 (IntKind.wrap IntKind.i64 (y.1 + y.2.2.1))) ((2 : Int) ^ Min.min (Int.toNat (1 : Int)) (IntKind.bits IntKind.u64))))) (Wr (MeP k xs y.1 x.1 (IntKind.wrap
  IntKind.i64 (Int.fdiv (IntKind.wrap IntKind.u64 (IntKind.wrap IntKind.i64 (y.1 + y.2.2.1))) ((2 : Int) ^ Min.min (Int.toNat (1 : Int)) (IntKind.bits IntKind.u64))))) ∧ bcase (decide (IntKind.wrap IntKind.i64 (Int.fdiv
  (IntKind.wrap IntKind.u64 (IntKind.wrap IntKind.i64 (y.1 + y.2.2.1))) ((2 : Int) ^ Min.min (Int.toNat (1 : Int)) (IntKind.bits IntKind.u64))) < IntKind.wrap IntKind.i64 (IntKind.wrap IntKind.i64 (IntKind.wrap
  IntKind.i64 (Int.fdiv (IntKind.wrap IntKind.u64 (IntKind.wrap IntKind.i64 (y.1 + y.2.2.1))) ((2 : Int) ^ Min.min (Int.toNat (1 : Int)) (IntKind.bits IntKind.u64))) + y.2.1) - x.1)) && decide (IntKind.wrap IntKind.i64
  (IntKind.wrap IntKind.i64 (IntKind.wrap IntKind.i64 (Int.fdiv (IntKind.wrap IntKind.u64 (IntKind.wrap IntKind.i64 (y.1 + y.2.2.1))) ((2 : Int) ^ Min.min (Int.toNat (1 : Int)) (IntKind.bits IntKind.u64))) + y.2.1) - x.1)
  < y.2.2.1)) (Wr (MeP k (segS ltA (Int.toNat y.1) (Int.toNat (IntKind.wrap IntKind.i64 (Int.fdiv (IntKind.wrap IntKind.u64 (IntKind.wrap IntKind.i64 (y.1 + y.2.2.1))) ((2 : Int) ^ Min.min (Int.toNat (1 : Int))
  (IntKind.bits IntKind.u64))))) xs) (IntKind.wrap IntKind.i64 (Int.fdiv (IntKind.wrap IntKind.u64 (IntKind.wrap IntKind.i64 (y.1 + y.2.2.1))) ((2 : Int) ^ Min.min (Int.toNat (1 : Int)) (IntKind.bits IntKind.u64))))
  (IntKind.wrap IntKind.i64 (IntKind.wrap IntKind.i64 (IntKind.wrap IntKind.i64 (Int.fdiv (IntKind.wrap IntKind.u64 (IntKind.wrap IntKind.i64 (y.1 + y.2.2.1))) ((2 : Int) ^ Min.min (Int.toNat (1 : Int)) (IntKind.bits
  IntKind.u64))) + y.2.1) - x.1)) y.2.2.1) ∧ segS ltA (Int.toNat (IntKind.wrap IntKind.i64 (Int.fdiv (IntKind.wrap IntKind.u64 (IntKind.wrap IntKind.i64 (y.1 + y.2.2.1))) ((2 : Int) ^ Min.min (Int.toNat (1 : Int))
  (IntKind.bits IntKind.u64))))) (Int.toNat y.2.2.1) (segS ltA (Int.toNat y.1) (Int.toNat (IntKind.wrap IntKind.i64 (Int.fdiv (IntKind.wrap IntKind.u64 (IntKind.wrap IntKind.i64 (y.1 + y.2.2.1))) ((2 : Int) ^ Min.min
  (Int.toNat (1 : Int)) (IntKind.bits IntKind.u64))))) xs) = segS ltA (Int.toNat y.1) (Int.toNat y.2.2.1) xs) (segS ltA (Int.toNat y.1) (Int.toNat (IntKind.wrap IntKind.i64 (Int.fdiv (IntKind.wrap IntKind.u64
  (IntKind.wrap IntKind.i64 (y.1 + y.2.2.1))) ((2 : Int) ^ Min.min (Int.toNat (1 : Int)) (IntKind.bits IntKind.u64))))) xs = segS ltA (Int.toNat y.1) (Int.toNat y.2.2.1) xs)) (bcase (decide (IntKind.wrap IntKind.i64
  (Int.fdiv (IntKind.wrap IntKind.u64 (IntKind.wrap IntKind.i64 (y.1 + y.2.2.1))) ((2 : Int) ^ Min.min (Int.toNat (1 : Int)) (IntKind.bits IntKind.u64))) < IntKind.wrap IntKind.i64 (IntKind.wrap IntKind.i64 (IntKind.wrap
  IntKind.i64 (Int.fdiv (IntKind.wrap IntKind.u64 (IntKind.wrap IntKind.i64 (y.1 + y.2.2.1))) ((2 : Int) ^ Min.min (Int.toNat (1 : Int)) (IntKind.bits IntKind.u64))) + y.2.1) - x.1)) && decide (IntKind.wrap IntKind.i64
  (IntKind.wrap IntKind.i64 (IntKind.wrap IntKind.i64 (Int.fdiv (IntKind.wrap IntKind.u64 (IntKind.wrap IntKind.i64 (y.1 + y.2.2.1))) ((2 : Int) ^ Min.min (Int.toNat (1 : Int)) (IntKind.bits IntKind.u64))) + y.2.1) - x.1)
  < y.2.2.1)) (Wr (MeP k xs (IntKind.wrap IntKind.i64 (Int.fdiv (IntKind.wrap IntKind.u64 (IntKind.wrap IntKind.i64 (y.1 + y.2.2.1))) ((2 : Int) ^ Min.min (Int.toNat (1 : Int)) (IntKind.bits IntKind.u64)))) (IntKind.wrap
  IntKind.i64 (IntKind.wrap IntKind.i64 (IntKind.wrap IntKind.i64 (Int.fdiv (IntKind.wrap IntKind.u64 (IntKind.wrap IntKind.i64 (y.1 + y.2.2.1))) ((2 : Int) ^ Min.min (Int.toNat (1 : Int)) (IntKind.bits IntKind.u64))) +
  y.2.1) - x.1)) y.2.2.1) ∧ segS ltA (Int.toNat (IntKind.wrap IntKind.i64 (Int.fdiv (IntKind.wrap IntKind.u64 (IntKind.wrap IntKind.i64 (y.1 + y.2.2.1))) ((2 : Int) ^ Min.min (Int.toNat (1 : Int)) (IntKind.bits
  IntKind.u64))))) (Int.toNat y.2.2.1) xs = segS ltA (Int.toNat y.1) (Int.toNat y.2.2.1) xs) (xs = segS ltA (Int.toNat y.1) (Int.toNat y.2.2.1) xs))))))) := by kernel_rfl
theorem m99_eq : vcFnM g99 99 400 Tryd.f99 cSta = ( ∀ (xs : List (Ad)) (y : Int × Unit), Wr (y.1 = (↑(List.length xs) : Int) ∧ List.length xs ≤ (60 : Nat)) → (Wr (T1I xs y.1 ((0 : Int), (20 : Int), xs)) ∧ E ((0 : Int)) ∧ E ((20 : Int)) ∧ E y.1 ∧ E ((20 : Int)) ∧ E xs) ∧ ∀
  (x : Int × Int × List (Ad)), Wr (T1I xs y.1 x) → bcase (decide (x.2.1 ≤ y.1)) (Wr (InP x.2.2 x.1 x.2.1) ∧ Wr (T1I xs y.1 (x.2.1, IntKind.wrap IntKind.i64 (x.2.1 + (20 : Int)), segS ltA (Int.toNat x.1) (Int.toNat x.2.1)
  x.2.2)) ∧ Wr (Int.toNat ((60 : Int) - x.2.1) < Int.toNat ((60 : Int) - x.1)) ∧ E x.2.1 ∧ E (IntKind.wrap IntKind.i64 (x.2.1 + (20 : Int))) ∧ E y.1 ∧ E ((20 : Int)) ∧ E (segS ltA (Int.toNat x.1) (Int.toNat x.2.1) x.2.2))
  (Wr (InP x.2.2 x.1 y.1) ∧ (Wr (T2I (segS ltA (Int.toNat x.1) (Int.toNat y.1) x.2.2) y.1 ((20 : Int), segS ltA (Int.toNat x.1) (Int.toNat y.1) x.2.2)) ∧ E ((20 : Int)) ∧ E y.1 ∧ E (segS ltA (Int.toNat x.1) (Int.toNat
  y.1) x.2.2)) ∧ ∀ (x_1 : Int × List (Ad)), Wr (T2I (segS ltA (Int.toNat x.1) (Int.toNat y.1) x.2.2) y.1 x_1) → bcase (decide (x_1.1 < y.1)) ((Wr (T3I x_1.2 y.1 x_1.1 ((0 : Int), IntKind.wrap IntKind.i64 ((2 : Int) *
  x_1.1), x_1.2)) ∧ E ((0 : Int)) ∧ E (IntKind.wrap IntKind.i64 ((2 : Int) * x_1.1)) ∧ E y.1 ∧ E x_1.1 ∧ E x_1.2) ∧ ∀ (x_2 : Int × Int × List (Ad)), Wr (T3I x_1.2 y.1 x_1.1 x_2) → bcase (decide (x_2.2.1 ≤ y.1)) (Wr (MeP
  (100 : Nat) x_2.2.2 x_2.1 (IntKind.wrap IntKind.i64 (x_2.1 + x_1.1)) x_2.2.1) ∧ Wr (T3I x_1.2 y.1 x_1.1 (x_2.2.1, IntKind.wrap IntKind.i64 (x_2.2.1 + IntKind.wrap IntKind.i64 ((2 : Int) * x_1.1)), segS ltA (Int.toNat
  x_2.1) (Int.toNat x_2.2.1) x_2.2.2)) ∧ Wr (Int.toNat ((100 : Int) - x_2.2.1) < Int.toNat ((100 : Int) - x_2.1)) ∧ E x_2.2.1 ∧ E (IntKind.wrap IntKind.i64 (x_2.2.1 + IntKind.wrap IntKind.i64 ((2 : Int) * x_1.1))) ∧ E y.1
  ∧ E x_1.1 ∧ E (segS ltA (Int.toNat x_2.1) (Int.toNat x_2.2.1) x_2.2.2)) (bcase (decide (IntKind.wrap IntKind.i64 (x_2.1 + x_1.1) < y.1)) (Wr (MeP (100 : Nat) x_2.2.2 x_2.1 (IntKind.wrap IntKind.i64 (x_2.1 + x_1.1)) y.1)
  ∧ Wr (T2I (segS ltA (Int.toNat x.1) (Int.toNat y.1) x.2.2) y.1 (IntKind.wrap IntKind.i64 (x_1.1 * (2 : Int)), segS ltA (Int.toNat x_2.1) (Int.toNat y.1) x_2.2.2)) ∧ Wr (Int.toNat ((80 : Int) - IntKind.wrap IntKind.i64
  (x_1.1 * (2 : Int))) < Int.toNat ((80 : Int) - x_1.1)) ∧ E (IntKind.wrap IntKind.i64 (x_1.1 * (2 : Int))) ∧ E y.1 ∧ E (segS ltA (Int.toNat x_2.1) (Int.toNat y.1) x_2.2.2)) (Wr (T2I (segS ltA (Int.toNat x.1) (Int.toNat
  y.1) x.2.2) y.1 (IntKind.wrap IntKind.i64 (x_1.1 * (2 : Int)), x_2.2.2)) ∧ Wr (Int.toNat ((80 : Int) - IntKind.wrap IntKind.i64 (x_1.1 * (2 : Int))) < Int.toNat ((80 : Int) - x_1.1)) ∧ E (IntKind.wrap IntKind.i64 (x_1.1
  * (2 : Int))) ∧ E y.1 ∧ E x_2.2.2))) (x_1.2 = srt ltA xs))) := by kernel_rfl
theorem m73_eq : vcFnM g73 73 400 Tryd.f73 cSort = ( ∀ (xs : List (Ad)) (y : Unit), Wr (List.length xs ≤ (60 : Nat)) → Wr ((↑(List.length xs) : Int) = (↑(List.length xs) : Int) ∧ List.length xs ≤ (60 : Nat)) ∧ srt ltA xs = srt ltA xs) := by kernel_rfl
end Go.Proofs.YtkimpfoimblhjaaDoor.Ad
set_option linter.all false
namespace Go.Proofs.YtkimpfoimblhjaaDoor.Ad
open Go Go.Eng Go.Lb Go.Ad Lb Go.Proofs.St
set_option maxRecDepth 100000
theorem cmpI_c (a b : Int) : (a < b ∧ cmpI a b = -1) ∨ (a = b ∧ cmpI a b = 0) ∨ (b < a ∧ cmpI a b = 1) := by
  unfold cmpI
  by_cases h : a < b
  · rw [decide_eq_true h]; exact .inl ⟨h, rfl⟩
  · rw [decide_eq_false h]
    by_cases h2 : a > b
    · rw [decide_eq_true h2]; exact .inr (.inr ⟨h2, rfl⟩)
    · rw [decide_eq_false h2]; exact .inr (.inl ⟨by omega, rfl⟩)
theorem cmpL_self : ∀ l : List Int, cmpL l l = 0
  | [] => rfl
  | x :: r => by
    have := cmpI_c x x
    unfold cmpL
    rw [decide_eq_true (by omega)]; exact cmpL_self r
theorem cmpL_neg : ∀ l m : List Int, cmpL m l = - cmpL l m
  | [], [] => rfl
  | [], _ :: _ => rfl
  | _ :: _, [] => rfl
  | x :: r, y :: s => by
    have h1 := cmpI_c x y
    have h2 := cmpI_c y x
    unfold cmpL
    by_cases h : cmpI x y = 0
    · rw [decide_eq_true h, decide_eq_true (show cmpI y x = 0 by omega)]; exact cmpL_neg r s
    · rw [decide_eq_false h, decide_eq_false (show ¬ cmpI y x = 0 by omega)]
      show cmpI y x = - cmpI x y
      omega
theorem cmpL_eq : ∀ {l m : List Int}, cmpL l m = 0 → l = m
  | [], [], _ => rfl
  | [], _ :: _, h => by cases h
  | _ :: _, [], h => by cases h
  | x :: r, y :: s, h => by
    have h1 := cmpI_c x y
    unfold cmpL at h
    by_cases h2 : cmpI x y = 0
    · rw [decide_eq_true h2] at h
      rw [cmpL_eq (l := r) (m := s) h, show x = y by omega]
    · rw [decide_eq_false h2] at h
      exact absurd h h2
theorem cmpL_tr : ∀ {l m n : List Int}, cmpL l m < 0 → cmpL m n < 0 → cmpL l n < 0
  | [], [], _, h, _ => by simp [cmpL] at h
  | _ :: _, [], _, h, _ => by simp [cmpL] at h
  | [], _ :: _, [], _, h => by simp [cmpL] at h
  | [], _ :: _, _ :: _, _, _ => by simp [cmpL]
  | _ :: _, _ :: _, [], _, h => by simp [cmpL] at h
  | x :: r, y :: s, z :: t, h, k => by
    have h1 := cmpI_c x y
    have h2 := cmpI_c y z
    have h3 := cmpI_c x z
    unfold cmpL at h k ⊢
    by_cases c1 : cmpI x y = 0
    · rw [decide_eq_true c1] at h
      by_cases c2 : cmpI y z = 0
      · rw [decide_eq_true c2] at k
        rw [decide_eq_true (show cmpI x z = 0 by omega)]
        exact cmpL_tr (l := r) (m := s) (n := t) h k
      · rw [decide_eq_false c2] at k
        have k : cmpI y z < 0 := k
        rw [decide_eq_false (show ¬ cmpI x z = 0 by omega)]
        show cmpI x z < 0
        omega
    · rw [decide_eq_false c1] at h
      have h : cmpI x y < 0 := h
      by_cases c2 : cmpI y z = 0
      · rw [decide_eq_false (show ¬ cmpI x z = 0 by omega)]
        show cmpI x z < 0
        omega
      · rw [decide_eq_false c2] at k
        have k : cmpI y z < 0 := k
        rw [decide_eq_false (show ¬ cmpI x z = 0 by omega)]
        show cmpI x z < 0
        omega
theorem cmpL_snoc : ∀ {l m : List Int} (p q : Int), l.length = m.length → cmpL (l ++ [p]) (m ++ [q]) = orF [cmpL l m, cmpI p q]
  | [], [], p, q, _ => by
    have h := cmpI_c p q
    show (bif decide (cmpI p q = 0) then 0 else cmpI p q) = (bif decide (cmpI p q = 0) then 0 else cmpI p q)
    rfl
  | [], _ :: _, _, _, h => by simp at h
  | _ :: _, [], _, _, h => by simp at h
  | x :: r, y :: s, p, q, h => by
    have ih := cmpL_snoc (l := r) (m := s) p q (by simpa using h)
    show (bif decide (cmpI x y = 0) then cmpL (r ++ [p]) (s ++ [q]) else cmpI x y) = orF [(bif decide (cmpI x y = 0) then cmpL r s else cmpI x y), cmpI p q]
    by_cases c : cmpI x y = 0
    · rw [decide_eq_true c]; exact ih
    · rw [decide_eq_false c]
      show cmpI x y = (bif decide (cmpI x y = 0) then _ else cmpI x y)
      rw [decide_eq_false c]; rfl
def keyA (a : Ad) : List Int := a.1 :: (gsL a.2.1 ++ [a.2.2.1])
theorem cmpA_key (a b : Ad) : cmpA a b = cmpL (keyA a) (keyA b) := by
  unfold cmpA keyA
  show (bif decide (cmpI a.1 b.1 = 0) then orF [cmpL (gsL a.2.1) (gsL b.2.1), cmpI a.2.2.1 b.2.2.1] else cmpI a.1 b.1) = (bif decide (cmpI a.1 b.1 = 0) then cmpL (gsL a.2.1 ++ [a.2.2.1]) (gsL b.2.1 ++ [b.2.2.1]) else cmpI a.1 b.1)
  rw [cmpL_snoc (l := gsL a.2.1) (m := gsL b.2.1) a.2.2.1 b.2.2.1 (by rfl)]
theorem keyA_inj {a b : Ad} (h : keyA a = keyA b) : a = b := by
  obtain ⟨f, ⟨a1, a2, a3, a4, a5, a6, a7, a8, ⟨⟩⟩, p, ⟨⟩⟩ := a
  obtain ⟨f', ⟨b1, b2, b3, b4, b5, b6, b7, b8, ⟨⟩⟩, p', ⟨⟩⟩ := b
  unfold keyA gsL at h
  simp only [List.cons_append, List.nil_append, List.cons.injEq, and_true] at h
  obtain ⟨rfl, rfl, rfl, rfl, rfl, rfl, rfl, rfl, rfl, rfl⟩ := h
  rfl
theorem ordA : Ord ltA := by
  refine ⟨fun a => ?_, fun a b c h k => ?_, fun a b h k => ?_⟩
  · unfold ltA; rw [cmpA_key, cmpL_self]; rfl
  · unfold ltA at *
    rw [cmpA_key] at *
    exact decide_eq_true (cmpL_tr (of_decide_eq_true h) (of_decide_eq_true k))
  · unfold ltA at *
    rw [cmpA_key] at *
    have h := of_decide_eq_false h
    have k := of_decide_eq_false k
    have e := cmpL_neg (keyA a) (keyA b)
    exact keyA_inj (cmpL_eq (by omega))
end Go.Proofs.YtkimpfoimblhjaaDoor.Ad
set_option linter.all false
namespace Go.Proofs.YtkimpfoimblhjaaDoor.Ad
open Go Go.Eng Go.Lb Go.Ad Lb Go.Proofs.St
set_option maxRecDepth 100000
set_option maxHeartbeats 4000000
theorem m149 : VcM g149 149 400 Tryd.f149 cSwr := by
  constructor
  rw [m149_eq]
  simp only [Wr_iff, E_iff, bcase_iff, true_and, and_true, decide_eq_true_eq, decide_eq_false_iff_not, Bool.and_eq_true, Bool.and_eq_false_iff, Bool.or_eq_true, Bool.or_eq_false_iff, Bool.not_eq_true', Bool.not_eq_false', Option.map_some, Option.getD_some, Option.isSome_some, Option.isSome_map, imp_self, nilL, noneO]
  rintro xs ⟨a, b, n, ⟨⟩⟩ ⟨a0, n0, ab, bl, hl⟩
  dsimp only [Big] at a0 n0 ab bl hl ⊢
  refine ⟨⟨⟨Int.le_refl _, n0⟩, (swr_zero (by omega) (by omega)).symm⟩, fun x hx => ⟨fun hi => ?_, fun hi => ?_⟩⟩
  · have x0 := hx.i0
    have e1 : IntKind.wrap .i64 (a + x) = a + x := wrapS (by omega) (by omega)
    have e2 : IntKind.wrap .i64 (b + x) = b + x := wrapS (by omega) (by omega)
    have e3 : IntKind.wrap .i64 (x + 1) = x + 1 := wrapS (by omega) (by omega)
    have e := swr_succ (z := zA) (a := a.toNat) (b := b.toNat) (i := x.toNat) (xs := xs) (by omega) (by omega)
    rw [e1, e2, e3, List.length_set, swr_len]
    rw [show a.toNat + x.toNat = (a + x).toNat by omega, show b.toNat + x.toNat = (b + x).toNat by omega, show x.toNat + 1 = (x + 1).toNat by omega] at e
    exact ⟨by omega, by omega, by omega, by omega, by omega, by omega, by omega, by omega, ⟨by omega, by omega⟩, by omega, e⟩
  · have := hx.i1
    rw [show x = n by omega]
theorem m136 : VcM g136 136 400 Tryd.f136 cRotM := by
  constructor
  rw [m136_eq]
  simp only [Wr_iff, E_iff, bcase_iff, true_and, and_true, decide_eq_true_eq, decide_eq_false_iff_not, Bool.and_eq_true, Bool.and_eq_false_iff, Bool.or_eq_true, Bool.or_eq_false_iff, Bool.not_eq_true', Bool.not_eq_false', Option.map_some, Option.getD_some, Option.isSome_some, Option.isSome_map, imp_self, nilL, noneO]
  rintro xs ⟨a, m, b, ⟨⟩⟩ ⟨a0, am, mb, bl, hl⟩
  dsimp only [Big] at a0 am mb bl hl ⊢
  have e1 : IntKind.wrap .i64 (m - a) = m - a := wrapS (by omega) (by omega)
  have e2 : IntKind.wrap .i64 (b - m) = b - m := wrapS (by omega) (by omega)
  rw [e1, e2]
  refine ⟨⟨by show 1 ≤ m - a; omega, Int.le_refl _, by show 1 ≤ b - m; omega, Int.le_refl _, rfl, ?_⟩, fun x hx => ?_⟩
  · show rotF (m - (m - a)).toNat m.toNat (m + (b - m)).toNat xs = _
    rw [show m - (m - a) = a by omega, show m + (b - m) = b by omega]
  obtain ⟨i, j, r⟩ := x
  obtain ⟨i0, i1, j0, j1, rl, he⟩ := hx
  dsimp only at i0 i1 j0 j1 rl he ⊢
  have w1 : IntKind.wrap .i64 (m - i) = m - i := wrapS (by omega) (by omega)
  have w2 : IntKind.wrap .i64 (i - j) = i - j := wrapS (by omega) (by omega)
  have w3 : IntKind.wrap .i64 (m + j) = m + j := wrapS (by omega) (by omega)
  have w4 : IntKind.wrap .i64 (m + j - i) = m + j - i := wrapS (by omega) (by omega)
  have w5 : IntKind.wrap .i64 (j - i) = j - i := wrapS (by omega) (by omega)
  rw [w1, w2, w3, w4, w5]
  refine ⟨fun hne => ⟨fun hg => ⟨⟨by omega, by omega, by omega, by omega, by show r.length ≤ 100000; omega⟩, ⟨by show 1 ≤ i - j; omega, by show i - j ≤ m - a; omega, j0, j1, by rw [swr_len]; exact rl, ?_⟩, by omega⟩, fun hg => ⟨⟨by omega, by omega, by omega, by omega, by show r.length ≤ 100000; omega⟩, ⟨i0, i1, by show 1 ≤ j - i; omega, by show j - i ≤ b - m; omega, by rw [swr_len]; exact rl, ?_⟩, by omega⟩⟩, fun he' => ⟨⟨by omega, by omega, by omega, by omega, by show r.length ≤ 100000; omega⟩, ?_⟩⟩
  · show rotF (m - (i - j)).toNat m.toNat (m + j).toNat (swrF zA (m - i).toNat m.toNat j.toNat r) = _
    have h := rot_step1 (z := zA) (s := (m - i).toNat) (m := m.toNat) (e := (m + j).toNat) (r := r) (by omega) (by omega) (by omega) (by omega)
    rw [show (m + j).toNat - m.toNat = j.toNat by omega, show (m - i).toNat + j.toNat = (m - (i - j)).toNat by omega] at h
    rw [h]; exact he
  · show rotF (m - i).toNat m.toNat (m + (j - i)).toNat (swrF zA (m - i).toNat (m + j - i).toNat i.toNat r) = _
    have h := rot_step2 (z := zA) (s := (m - i).toNat) (m := m.toNat) (e := (m + j).toNat) (r := r) (by omega) (by omega) (by omega) (by omega)
    rw [show m.toNat - (m - i).toNat = i.toNat by omega, show (m + j).toNat - i.toNat = (m + j - i).toNat by omega] at h
    rw [show m + (j - i) = m + j - i by omega, h]; exact he
  · have h := rot_fin (z := zA) (s := (m - i).toNat) (m := m.toNat) (e := (m + j).toNat) (r := r) (by omega) (by omega) (by omega) (by omega)
    rw [show m.toNat - (m - i).toNat = i.toNat by omega] at h
    rw [h]; exact he
theorem m120 : VcM g120 120 400 Tryd.f120 cInsM := by
  constructor
  rw [m120_eq]
  simp only [Wr_iff, E_iff, bcase_iff, true_and, and_true, decide_eq_true_eq, decide_eq_false_iff_not, Bool.and_eq_true, Bool.and_eq_false_iff, Bool.or_eq_true, Bool.or_eq_false_iff, Bool.not_eq_true', Bool.not_eq_false', Option.map_some, Option.getD_some, Option.isSome_some, Option.isSome_map, imp_self, nilL, noneO]
  rintro xs ⟨a, b, ⟨⟩⟩ ⟨a0, ab, bl, hl⟩
  dsimp only [Big] at a0 ab bl hl ⊢
  have e1 : IntKind.wrap .i64 (a + 1) = a + 1 := wrapS (by omega) (by omega)
  rw [e1]
  refine ⟨⟨Int.le_refl _, .inr rfl, PSeg.refl _ _ _, fun p q h1 h2 h3 => ?_⟩, fun x hx => ?_⟩
  · have h3 : q < (a + 1).toNat := h3
    omega
  obtain ⟨i, r⟩ := x
  obtain ⟨i0, i1, hp, hu⟩ := hx
  dsimp only at i0 i1 hp hu ⊢
  have rl := hp.len
  refine ⟨fun hi => ⟨⟨by show a ≤ i; omega, Int.le_refl _, PSeg.refl _ _ _, fun p q h1 h2 h3 h4 => hu p q h1 h2 ?_⟩, fun x1 hx1 => ?_⟩, fun hi => ?_⟩
  · have h4 : q ≠ i.toNat := h4
    omega
  · obtain ⟨j, r'⟩ := x1
    obtain ⟨j0, j1, hp1, hu1⟩ := hx1
    dsimp only at j0 j1 hp1 hu1 ⊢
    have rl1 := hp1.len
    have w1 : IntKind.wrap .i64 (j - 1) = j - 1 := wrapS (by omega) (by omega)
    have w2 : IntKind.wrap .i64 (i + 1) = i + 1 := wrapS (by omega) (by omega)
    rw [w1, w2]
    have lt_of : ∀ {x y : Ad}, cmpA x y < 0 → ltA x y = true := fun h => decide_eq_true h
    have nlt_of : ∀ {x y : Ad}, ¬ cmpA x y < 0 → ltA x y = false := fun h => decide_eq_false h
    refine ⟨fun h => by omega, fun h => by omega, fun h => by omega, fun h => by omega, fun _ => trivial, fun h => ?_, fun h => ?_⟩
    · obtain ⟨hj, hc⟩ := h
      have hlt := lt_of hc
      rw [List.length_set]
      refine ⟨by omega, by omega, by omega, by omega, by omega, by omega, by omega, by omega, ?_, by omega⟩
      have hs : PSeg zA a.toNat (i.toNat + 1) r' (swp zA j.toNat (j - 1).toNat r') := swp_seg (by omega) (by omega) (by omega) (by omega) (by omega)
      refine ⟨by show a ≤ j - 1; omega, by show j - 1 ≤ i; omega, hp1.trans hs, fun p q h1 h2 h3 h4 => ?_⟩
      have h4 : q ≠ (j - 1).toNat := h4
      have g := fun k => swp_get (z := zA) (i := j.toNat) (j := (j - 1).toNat) (r := r') (by omega) (by omega) k
      show ltA ((swp zA j.toNat (j - 1).toNat r').getD q zA) ((swp zA j.toNat (j - 1).toNat r').getD p zA) = false
      rw [g, g, if_neg h4]
      by_cases c1 : q = j.toNat
      · rw [if_pos c1]
        by_cases c2 : p = (j - 1).toNat
        · rw [if_pos c2]; exact ordA.asym hlt
        · rw [if_neg c2, if_neg (by omega)]
          exact hu1 p (j - 1).toNat h1 (by omega) (by omega) (by omega)
      · rw [if_neg c1]
        by_cases c2 : p = (j - 1).toNat
        · rw [if_pos c2]; exact hu1 j.toNat q (by omega) (by omega) h3 c1
        · rw [if_neg c2]
          by_cases c3 : p = j.toNat
          · rw [if_pos c3]; exact hu1 (j - 1).toNat q (by omega) (by omega) h3 c1
          · rw [if_neg c3]; exact hu1 p q h1 h2 h3 c1
    · refine ⟨⟨by show a + 1 ≤ i + 1; omega, .inl (by show i + 1 ≤ b; omega), hp.trans (hp1.mono (Nat.le_refl _) (by omega)), fun p q h1 h2 h3 => ?_⟩, by omega⟩
      have h3 : q < (i + 1).toNat := h3
      by_cases c1 : q = j.toNat
      · have hj : a < j := by omega
        have hn : ltA (r'.getD j.toNat zA) (r'.getD (j - 1).toNat zA) = false := by
          rcases h with h | h
          · omega
          · exact nlt_of h
        show ltA (r'.getD q zA) (r'.getD p zA) = false
        rw [c1]
        by_cases c2 : p = (j - 1).toNat
        · rw [c2]; exact hn
        · exact ordA.le (hu1 p (j - 1).toNat h1 (by omega) (by omega) (by omega)) hn
      · exact hu1 p q h1 h2 (by omega) c1
  · refine seg_unique ordA (by omega) (by omega) hp fun p q h1 h2 h3 => ?_
    exact hu p q h1 h2 (by omega)
theorem Bls.of_seg {k : Nat} {a e : Nat} {r : List Ad} (ha : a ≤ e) (he : e ≤ r.length) (h : Bls k a r) (hk : ∀ p q, p < q → q < e → p / k = q / k → a ≤ q → a ≤ p) : Bls k e (segS ltA a e r) := fun p q h1 h2 h3 => by
  obtain ⟨p1, u1⟩ := segS_ok (z := zA) ordA ha he
  by_cases c : a ≤ q
  · exact u1 p q (hk p q h1 h2 h3 c) h1 h2
  · rw [p1.e q (by omega), p1.e p (by omega)]
    exact h p q h1 (by omega) h3
theorem divK {k : Int} (hk : k = 20 ∨ k = 40 ∨ k = 80) {p q : Nat} (h20 : k = 20 → p / 20 = q / 20) (h40 : k = 40 → p / 40 = q / 40) (h80 : k = 80 → p / 80 = q / 80) : p / k.toNat = q / k.toNat := by
  rcases hk with rfl | rfl | rfl
  · exact h20 rfl
  · exact h40 rfl
  · exact h80 rfl
theorem getD_outS {r : List Ad} {k : Nat} (h : r.length ≤ k) : r.getD k zA = zA := by
  rw [List.getD_eq_getElem?_getD, List.getElem?_eq_none h]; rfl
theorem m99 : VcM g99 99 400 Tryd.f99 cSta := by
  constructor
  rw [m99_eq]
  simp only [Wr_iff, E_iff, bcase_iff, true_and, and_true, decide_eq_true_eq, decide_eq_false_iff_not, Bool.and_eq_true, Bool.and_eq_false_iff, Bool.or_eq_true, Bool.or_eq_false_iff, Bool.not_eq_true', Bool.not_eq_false', Option.map_some, Option.getD_some, Option.isSome_some, Option.isSome_map, imp_self, nilL, noneO]
  rintro xs ⟨n, ⟨⟩⟩ ⟨hn, hl⟩
  dsimp only at hn hl ⊢
  refine ⟨⟨.inl rfl, rfl, by show 0 ≤ n; omega, .refl _, fun p q h1 h2 h3 => by have h2 : q < 0 := h2; omega⟩, fun x hx => ?_⟩
  obtain ⟨a, b, r⟩ := x
  obtain ⟨ha, hb, han, hp, hu⟩ := hx
  dsimp only at ha hb han hp hu ⊢
  subst hb
  have rl := hp.length_eq
  refine ⟨fun hi => ?_, fun hi => ?_⟩
  · have w1 : IntKind.wrap .i64 (a + 20 + 20) = a + 20 + 20 := wrapS (by omega) (by omega)
    rw [w1]
    have hs := (segS_ok (z := zA) ordA (a := a.toNat) (b := (a + 20).toNat) (xs := r) (by omega) (by omega)).1
    refine ⟨⟨by omega, by omega, by omega, by show r.length ≤ 100000; omega⟩, ⟨?_, rfl, hi, hs.p.trans hp, ?_⟩, by omega⟩
    · show a + 20 = 0 ∨ a + 20 = 20 ∨ a + 20 = 40 ∨ a + 20 = 60
      omega
    · refine Bls.of_seg (by omega) (by omega) hu fun p q h1 h2 h3 h4 => ?_
      rcases ha with rfl | rfl | rfl | rfl <;> omega
  · have hs := (segS_ok (z := zA) ordA (a := a.toNat) (b := n.toNat) (xs := r) (by omega) (by omega)).1
    have hB : Bls 20 n.toNat (segS ltA a.toNat n.toNat r) := by
      refine Bls.of_seg (by omega) (by omega) hu fun p q h1 h2 h3 h4 => ?_
      rcases ha with rfl | rfl | rfl | rfl <;> omega
    have hp0 : (segS ltA a.toNat n.toNat r).Perm xs := hs.p.trans hp
    generalize segS ltA a.toNat n.toNat r = r0 at hp0 hB ⊢
    clear hs
    refine ⟨⟨by omega, by omega, by omega, by show r.length ≤ 100000; omega⟩, ⟨.inl rfl, .refl _, hB⟩, fun x1 hx1 => ?_⟩
    obtain ⟨k, r1⟩ := x1
    obtain ⟨hk, hp1, hu1⟩ := hx1
    dsimp only at hk hp1 hu1 ⊢
    have rl0 := hp0.length_eq
    have rl1 := hp1.length_eq
    refine ⟨fun hi1 => ?_, fun hi1 => ?_⟩
    · have w1 : IntKind.wrap .i64 (2 * k) = 2 * k := wrapS (by omega) (by omega)
      have w2 : IntKind.wrap .i64 (k * 2) = 2 * k := by rw [Int.mul_comm]; exact w1
      rw [w1, w2]
      refine ⟨⟨.inl rfl, by show 2 * k = 0 + 2 * k; omega, by show 0 ≤ n; omega, .refl _, fun p q h1 h2 h3 => by have h3 : q < 0 := h3; omega, hu1⟩, fun x2 hx2 => ?_⟩
      obtain ⟨a2, b2, r2⟩ := x2
      obtain ⟨ha2, hb2, han2, hp2, hu2, hv2⟩ := hx2
      dsimp only at ha2 hb2 han2 hp2 hu2 hv2 ⊢
      subst hb2
      have rl2 := hp2.length_eq
      have w3 : IntKind.wrap .i64 (a2 + k) = a2 + k := wrapS (by omega) (by omega)
      have w4 : IntKind.wrap .i64 (a2 + 2 * k + 2 * k) = a2 + 2 * k + 2 * k := wrapS (by omega) (by omega)
      rw [w3, w4]
      refine ⟨fun hi2 => ?_, fun hi2 => ⟨fun hi3 => ?_, fun hi3 => ?_⟩⟩
      · have ha0 : a2 = 0 := by omega
        subst ha0
        have hs := segS_ok (z := zA) ordA (a := Int.toNat 0) (b := (0 + 2 * k).toNat) (xs := r2) (by omega) (by omega)
        refine ⟨⟨by omega, by omega, by omega, by omega, by show r2.length ≤ 100000; omega, fun p q h1 h2 h3 => hv2 p q h2 (by omega) ?_, fun p q h1 h2 h3 => hv2 p q h2 (by omega) ?_, by omega⟩, ⟨.inr (by show 0 + 2 * k = 2 * k; omega), rfl, hi2, hs.1.p.trans hp2, hs.2, fun p q h1 h2 h3 => ?_⟩, by omega⟩
        · exact divK hk (fun e => by omega) (fun e => by omega) (fun e => by omega)
        · exact divK hk (fun e => by omega) (fun e => by omega) (fun e => by omega)
        · by_cases c : q < (0 + 2 * k).toNat
          · exact hs.2 p q (by omega) h1 c
          · have hpc : (0 + 2 * k).toNat ≤ p := by
              rcases hk with h | h | h
              · rw [show k.toNat = 20 by omega] at h3; omega
              · rw [show k.toNat = 40 by omega] at h3; omega
              · omega
            show ltA ((segS ltA (Int.toNat 0) (0 + 2 * k).toNat r2).getD q zA) ((segS ltA (Int.toNat 0) (0 + 2 * k).toNat r2).getD p zA) = false
            rw [hs.1.e q (by omega), hs.1.e p (by omega)]
            exact hv2 p q h1 h2 h3
      · have hs := segS_ok (z := zA) ordA (a := a2.toNat) (b := n.toNat) (xs := r2) (by omega) (by omega)
        refine ⟨⟨by omega, by omega, by omega, by omega, by show r2.length ≤ 100000; omega, fun p q h1 h2 h3 => hv2 p q h2 (by omega) ?_, fun p q h1 h2 h3 => hv2 p q h2 (by omega) ?_, by omega⟩, ⟨?_, (hs.1.p.trans hp2).trans hp1, fun p q h1 h2 h3 => ?_⟩, by omega⟩
        · exact divK hk (fun e => by omega) (fun e => by omega) (fun e => by omega)
        · exact divK hk (fun e => by omega) (fun e => by omega) (fun e => by omega)
        · show 2 * k = 20 ∨ 2 * k = 40 ∨ 2 * k = 80
          omega
        · have h3 : p / (2 * k).toNat = q / (2 * k).toNat := h3
          show ltA ((segS ltA a2.toNat n.toNat r2).getD q zA) ((segS ltA a2.toNat n.toNat r2).getD p zA) = false
          by_cases c : q < a2.toNat
          · rw [hs.1.e q (by omega), hs.1.e p (by omega)]
            exact hu2 p q (Nat.zero_le _) h1 c
          · exact hs.2 p q (by
              rcases hk with h | h | h
              · rw [show (2 * k).toNat = 40 by omega] at h3; omega
              · rw [show (2 * k).toNat = 80 by omega] at h3; omega
              · rw [show (2 * k).toNat = 160 by omega] at h3; omega) h1 h2
      · refine ⟨⟨?_, hp2.trans hp1, fun p q h1 h2 h3 => ?_⟩, by omega⟩
        · show 2 * k = 20 ∨ 2 * k = 40 ∨ 2 * k = 80
          omega
        · have h3 : p / (2 * k).toNat = q / (2 * k).toNat := h3
          show ltA (r2.getD q zA) (r2.getD p zA) = false
          by_cases c : q < a2.toNat
          · exact hu2 p q (Nat.zero_le _) h1 c
          · exact hv2 p q h1 h2 (by
              rcases hk with h | h | h
              · rw [show (2 * k).toNat = 40 by omega] at h3; rw [show k.toNat = 20 by omega]; omega
              · rw [show (2 * k).toNat = 80 by omega] at h3; rw [show k.toNat = 40 by omega]; omega
              · rw [show (2 * k).toNat = 160 by omega] at h3; rw [show k.toNat = 80 by omega]; omega)
    · have hps : PSeg zA 0 xs.length xs r1 := ⟨hp1.trans hp0, fun j hj => by
        rw [getD_outS (by omega), getD_outS (by omega)]⟩
      rw [← segS_all]
      refine seg_unique ordA (Nat.zero_le _) (Nat.le_refl _) hps fun p q h1 h2 h3 => hu1 p q h2 (by omega) ?_
      exact divK hk (fun e => by omega) (fun e => by omega) (fun e => by omega)
theorem m73 : VcM g73 73 400 Tryd.f73 cSort := by
  constructor
  rw [m73_eq]
  simp only [Wr_iff, E_iff, bcase_iff, true_and, and_true, decide_eq_true_eq, decide_eq_false_iff_not, Bool.and_eq_true, Bool.and_eq_false_iff, Bool.or_eq_true, Bool.or_eq_false_iff, Bool.not_eq_true', Bool.not_eq_false', Option.map_some, Option.getD_some, Option.isSome_some, Option.isSome_map, imp_self, nilL, noneO]
  intro _ _
  trivial
end Go.Proofs.YtkimpfoimblhjaaDoor.Ad
set_option linter.all false
namespace Go.Proofs.YtkimpfoimblhjaaDoor.Ad
open Go Go.Eng Go.Lb Go.Ad Lb Go.Proofs.St
set_option maxRecDepth 100000
set_option maxHeartbeats 4000000
theorem half_id {n : Int} (h0 : 0 ≤ n) (h1 : n ≤ 1000000) : IntKind.wrap .i64 (Int.fdiv (IntKind.wrap .u64 (IntKind.wrap .i64 n)) ((2 : Int) ^ min (Int.toNat 1) (IntKind.bits .u64))) = n / 2 := by
  rw [show IntKind.wrap .i64 n = n from wrapS (by omega) (by omega), show IntKind.wrap .u64 n = n by simp [IntKind.wrap, IntKind.signed, IntKind.bits]; omega]
  show IntKind.wrap .i64 (Int.fdiv n 2) = n / 2
  rw [Int.fdiv_eq_ediv_of_nonneg _ (by decide)]
  exact wrapS (by omega) (by omega)
theorem lt_of {x y : Ad} (h : cmpA x y < 0) : ltA x y = true := decide_eq_true h
theorem nlt_of {x y : Ad} (h : ¬ cmpA x y < 0) : ltA x y = false := decide_eq_false h
theorem up_lt {a b : Nat} {xs : List Ad} (hu : UpOn ltA zA a b xs) {k h : Nat} {y : Ad} (h1 : a ≤ k) (h2 : k ≤ h) (h3 : h < b) (hl : ltA (xs.getD h zA) y = true) : ltA (xs.getD k zA) y = true := by
  by_cases e : k = h
  · rw [e]; exact hl
  · cases hk : ltA (xs.getD k zA) y with
    | true => rfl
    | false =>
      -- y ≤ xs[k] ≤ xs[h], and xs[h] < y
      have := ordA.le hk (hu k h h1 (by omega) h3)
      rw [hl] at this; cases this
theorem up_nlt {a b : Nat} {xs : List Ad} (hu : UpOn ltA zA a b xs) {k h : Nat} {y : Ad} (h1 : a ≤ h) (h2 : h ≤ k) (h3 : k < b) (hl : ltA (xs.getD h zA) y = false) : ltA (xs.getD k zA) y = false := by
  by_cases e : k = h
  · rw [e]; exact hl
  · exact ordA.le hl (hu h k h1 (by omega) h3)
theorem lo_nlt {a b : Nat} {xs : List Ad} (hu : UpOn ltA zA a b xs) {k h : Nat} {y : Ad} (h1 : a ≤ k) (h2 : k ≤ h) (h3 : h < b) (hl : ltA y (xs.getD h zA) = false) : ltA y (xs.getD k zA) = false := by
  by_cases e : k = h
  · rw [e]; exact hl
  · exact ordA.le (hu k h h1 (by omega) h3) hl
theorem lo_lt {a b : Nat} {xs : List Ad} (hu : UpOn ltA zA a b xs) {k h : Nat} {y : Ad} (h1 : a ≤ h) (h2 : h ≤ k) (h3 : k < b) (hl : ltA y (xs.getD h zA) = true) : ltA y (xs.getD k zA) = true := by
  cases hk : ltA y (xs.getD k zA) with
  | true => rfl
  | false => have := lo_nlt hu h1 h2 h3 hk; rw [hl] at this; cases this
theorem m121 (k : Nat) : VcM (g121 k) 121 400 Tryd.f121 (cSym (k + 1)) := by
  constructor
  rw [m121_eq]
  simp only [Wr_iff, E_iff, bcase_iff, true_and, and_true, decide_eq_true_eq, decide_eq_false_iff_not, Bool.and_eq_true, Bool.and_eq_false_iff, Bool.or_eq_true, Bool.or_eq_false_iff, Bool.not_eq_true', Bool.not_eq_false', Option.map_some, Option.getD_some, Option.isSome_some, Option.isSome_map, imp_self, nilL, noneO]
  rintro xs ⟨a, m, b, ⟨⟩⟩ ⟨a0, am, mb, bl, hl, u1, u2, hk⟩
  dsimp only [Big] at a0 am mb bl hl u1 u2 hk ⊢
  have w1 : IntKind.wrap .i64 (m - a) = m - a := wrapS (by omega) (by omega)
  have w2 : IntKind.wrap .i64 (b - m) = b - m := wrapS (by omega) (by omega)
  have w3 : IntKind.wrap .i64 (Int.fdiv (IntKind.wrap .u64 (IntKind.wrap .i64 (a + b))) ((2 : Int) ^ min (Int.toNat 1) (IntKind.bits .u64))) = (a + b) / 2 := half_id (by omega) (by omega)
  have w4 : IntKind.wrap .i64 ((a + b) / 2 + m) = (a + b) / 2 + m := wrapS (by omega) (by omega)
  have w5 : IntKind.wrap .i64 ((a + b) / 2 + m - 1) = (a + b) / 2 + m - 1 := wrapS (by omega) (by omega)
  have w6 : IntKind.wrap .i64 ((a + b) / 2 + m - b) = (a + b) / 2 + m - b := wrapS (by omega) (by omega)
  rw [w1, w2, w3, w4, w5, w6]
  refine ⟨fun h1 => ⟨⟨Int.le_refl _, by show m ≤ b; omega, Int.le_refl _, fun k h2 h3 => ?_, fun k h2 h3 => ?_⟩, fun x hx => ?_⟩, fun h1 => ⟨fun h2 => ⟨⟨Int.le_refl _, by show a ≤ m; omega, Int.le_refl _, fun k h2 h3 => ?_, fun k h2 h3 => ?_⟩, fun x hx => ?_⟩, fun h2 => ⟨by decide, ⟨fun hm => ?_, fun hm => ?_⟩, fun x hx => ?_⟩⟩⟩
  · have h3 : k < m.toNat := h3
    omega
  · have h2 : b.toNat ≤ k := h2
    omega
  · -- one ahead of many
    obtain ⟨i, j⟩ := x
    obtain ⟨i0, ij, j1, hL, hG⟩ := hx
    dsimp only at i0 ij j1 hL hG ⊢
    have hma : m.toNat = a.toNat + 1 := by omega
    refine ⟨fun hi => ?_, fun hi => ⟨⟨⟨Int.le_refl _, by show a ≤ i - 1; omega⟩, (rot_id zA (by omega) (by omega)).2.symm⟩, fun y hy => ⟨fun hi2 => ?_, fun hi2 => ?_⟩⟩⟩
    · have w7 : IntKind.wrap .i64 (Int.fdiv (IntKind.wrap .u64 (IntKind.wrap .i64 (i + j))) ((2 : Int) ^ min (Int.toNat 1) (IntKind.bits .u64))) = (i + j) / 2 := half_id (by omega) (by omega)
      have w8 : IntKind.wrap .i64 ((i + j) / 2 + 1) = (i + j) / 2 + 1 := wrapS (by omega) (by omega)
      rw [w7, w8]
      refine ⟨by decide, by omega, by omega, by omega, by omega, fun hc => ⟨⟨by show m ≤ (i + j) / 2 + 1; omega, by show (i + j) / 2 + 1 ≤ j; omega, j1, fun k h2 h3 => ?_, hG⟩, by omega⟩, fun hc => ⟨⟨i0, by show i ≤ (i + j) / 2; omega, by show (i + j) / 2 ≤ b; omega, hL, fun k h2 h3 => ?_⟩, by omega⟩⟩
      · have h3 : k < ((i + j) / 2 + 1).toNat := h3
        exact up_lt u2 h2 (show k ≤ ((i + j) / 2).toNat by omega) (by omega) (lt_of hc)
      · have h2 : ((i + j) / 2).toNat ≤ k := h2
        exact up_nlt u2 (show m.toNat ≤ ((i + j) / 2).toNat by omega) h2 h3 (nlt_of hc)
    · obtain ⟨y0, y1⟩ := hy
      have w7 : IntKind.wrap .i64 (i - 1) = i - 1 := wrapS (by omega) (by omega)
      rw [w7] at hi2
      have w8 : IntKind.wrap .i64 (y + 1) = y + 1 := wrapS (by omega) (by omega)
      have e := rot_up (z := zA) (a := a.toNat) (k := y.toNat) (xs := xs) (by omega) (by omega)
      rw [w8, List.length_set, rot_len (by omega) (by omega) (by omega)]
      rw [show y.toNat + 2 = (y + 1).toNat + 1 by omega] at e
      rw [show swp zA y.toNat (y.toNat + 1) (rotF a.toNat (a.toNat + 1) (y.toNat + 1) xs) = swp zA y.toNat (y + 1).toNat (rotF a.toNat (a.toNat + 1) (y.toNat + 1) xs) by rw [show y.toNat + 1 = (y + 1).toNat by omega]] at e
      exact ⟨by omega, by omega, by omega, by omega, by omega, by omega, by omega, by omega, ⟨by omega, by omega⟩, by omega, e⟩
    · obtain ⟨y0, y1⟩ := hy
      have w7 : IntKind.wrap .i64 (i - 1) = i - 1 := wrapS (by omega) (by omega)
      rw [w7] at hi2
      rw [show y.toNat + 1 = i.toNat by omega]
      rw [hma] at u2 hL
      exact merge_one ordA (by omega) (by omega) (by omega) u2 hL fun k h3 h4 => hG k (by omega) h4
  · have h3 : k < a.toNat := h3
    omega
  · have h2 : m.toNat ≤ k := h2
    omega
  · -- many ahead of one
    obtain ⟨i, j⟩ := x
    obtain ⟨i0, ij, j1, hL, hG⟩ := hx
    dsimp only at i0 ij j1 hL hG ⊢
    have hmb : b.toNat = m.toNat + 1 := by omega
    refine ⟨fun hi => ?_, fun hi => ⟨⟨⟨by show i ≤ m; omega, Int.le_refl _⟩, (rot_id zA (by omega) (by omega)).1.symm⟩, fun y hy => ⟨fun hi2 => ?_, fun hi2 => ?_⟩⟩⟩
    · have w7 : IntKind.wrap .i64 (Int.fdiv (IntKind.wrap .u64 (IntKind.wrap .i64 (i + j))) ((2 : Int) ^ min (Int.toNat 1) (IntKind.bits .u64))) = (i + j) / 2 := half_id (by omega) (by omega)
      have w8 : IntKind.wrap .i64 ((i + j) / 2 + 1) = (i + j) / 2 + 1 := wrapS (by omega) (by omega)
      rw [w7, w8]
      refine ⟨by decide, by omega, by omega, by omega, by omega, fun hc => ⟨⟨by show a ≤ (i + j) / 2 + 1; omega, by show (i + j) / 2 + 1 ≤ j; omega, j1, fun k h2 h3 => ?_, hG⟩, by omega⟩, fun hc => ⟨⟨i0, by show i ≤ (i + j) / 2; omega, by show (i + j) / 2 ≤ m; omega, hL, fun k h2 h3 => ?_⟩, by omega⟩⟩
      · have h3 : k < ((i + j) / 2 + 1).toNat := h3
        exact lo_nlt u1 h2 (show k ≤ ((i + j) / 2).toNat by omega) (by omega) (nlt_of hc)
      · have h2 : ((i + j) / 2).toNat ≤ k := h2
        exact lo_lt u1 (show a.toNat ≤ ((i + j) / 2).toNat by omega) h2 h3 (lt_of hc)
    · obtain ⟨y0, y1⟩ := hy
      have w8 : IntKind.wrap .i64 (y - 1) = y - 1 := wrapS (by omega) (by omega)
      have e := rot_dn (z := zA) (m := m.toNat) (k := (y - 1).toNat) (xs := xs) (by omega) (by omega)
      rw [show (y - 1).toNat + 1 = y.toNat by omega] at e
      rw [w8, List.length_set, rot_len (by omega) (by omega) (by omega)]
      exact ⟨by omega, by omega, by omega, by omega, by omega, by omega, by omega, by omega, ⟨by omega, by omega⟩, by omega, e⟩
    · obtain ⟨y0, y1⟩ := hy
      rw [show y.toNat = i.toNat by omega, hmb]
      exact merge_last ordA (by omega) (by omega) (by omega) u1 hL fun k h3 h4 => hG k (by omega) h4
  · rw [cutS, cutR, if_pos (by omega), if_pos (by omega)]
    omega
  · rw [cutS, cutR, if_neg (by omega), if_neg (by omega)]
    omega
  · -- in two
    obtain ⟨s0, r0⟩ := x
    obtain ⟨rfl, rfl⟩ := hx
    have cS : (cutS a.toNat m.toNat b.toNat : Int) = if m > (a + b) / 2 then (a + b) / 2 + m - b else a := by
      unfold cutS; split <;> split <;> omega
    have cR : (cutR a.toNat m.toNat b.toNat : Int) = if m > (a + b) / 2 then (a + b) / 2 else m := by
      unfold cutR; split <;> split <;> omega
    have cSR : cutS a.toNat m.toNat b.toNat ≤ cutR a.toNat m.toNat b.toNat := by
      unfold cutS cutR; split <;> omega
    have cSa : (a : Int) ≤ cutS a.toNat m.toNat b.toNat := by rw [cS]; split <;> omega
    have cRm : (cutR a.toNat m.toNat b.toNat : Int) ≤ m := by rw [cR]; split <;> omega
    have cRh : (cutR a.toNat m.toNat b.toNat : Int) ≤ (a + b) / 2 := by rw [cR]; split <;> omega
    have cSb : (a + b) / 2 + m - b ≤ (cutS a.toNat m.toNat b.toNat : Int) := by rw [cS]; split <;> omega
    have hmid : (a.toNat + b.toNat) / 2 = ((a + b) / 2).toNat := by omega
    refine ⟨⟨Int.le_refl _, by show (cutS a.toNat m.toNat b.toNat : Int) ≤ cutR a.toNat m.toNat b.toNat; omega, Int.le_refl _, fun c h3 h4 => ?_, fun c h3 h4 => ?_⟩, fun x hx => ?_⟩
    · have h4 : c < Int.toNat (cutS a.toNat m.toNat b.toNat : Int) := h4
      omega
    · have h3 : Int.toNat (cutR a.toNat m.toNat b.toNat : Int) ≤ c := h3
      omega
    obtain ⟨i, j⟩ := x
    obtain ⟨i0, ij, j1, hL, hG⟩ := hx
    dsimp only at i0 ij j1 hL hG ⊢
    refine ⟨fun hi => ?_, fun hi => ?_⟩
    · have w7 : IntKind.wrap .i64 (Int.fdiv (IntKind.wrap .u64 (IntKind.wrap .i64 (i + j))) ((2 : Int) ^ min (Int.toNat 1) (IntKind.bits .u64))) = (i + j) / 2 := half_id (by omega) (by omega)
      have w8 : IntKind.wrap .i64 ((i + j) / 2 + 1) = (i + j) / 2 + 1 := wrapS (by omega) (by omega)
      have w9 : IntKind.wrap .i64 ((a + b) / 2 + m - 1 - (i + j) / 2) = (a + b) / 2 + m - 1 - (i + j) / 2 := wrapS (by omega) (by omega)
      rw [w7, w8, w9]
      have hp : ∀ c : Nat, cutS a.toNat m.toNat b.toNat ≤ c → c < cutR a.toNat m.toNat b.toNat → m.toNat ≤ (a.toNat + b.toNat) / 2 + m.toNat - 1 - c ∧ (a.toNat + b.toNat) / 2 + m.toNat - 1 - c < b.toNat := fun c h3 h4 => by omega
      have eh : ((a + b) / 2 + m - 1 - (i + j) / 2).toNat = (a.toNat + b.toNat) / 2 + m.toNat - 1 - ((i + j) / 2).toNat := by omega
      rw [eh]
      generalize hc0 : ((i + j) / 2).toNat = c0 at *
      refine ⟨by decide, by omega, by omega, by omega, by omega, fun hc => ⟨⟨by show _ ≤ (i + j) / 2 + 1; omega, by show (i + j) / 2 + 1 ≤ j; omega, j1, fun c h3 h4 => ?_, hG⟩, by omega⟩, fun hc => ⟨⟨i0, by show i ≤ (i + j) / 2; omega, by show (i + j) / 2 ≤ _; omega, hL, fun c h3 h4 => ?_⟩, by omega⟩⟩
      · have h4 : c < ((i + j) / 2 + 1).toNat := h4
        -- xs[c] ≤ xs[c0] ≤ xs[p - c0] ≤ xs[p - c]
        have q := lo_nlt u1 (show a.toNat ≤ c by omega) (show c ≤ c0 by omega) (by omega) (nlt_of hc)
        exact up_nlt u2 (hp c0 (by omega) (by omega)).1 (show (a.toNat + b.toNat) / 2 + m.toNat - 1 - c0 ≤ (a.toNat + b.toNat) / 2 + m.toNat - 1 - c by omega) (hp c h3 (by omega)).2 q
      · have h3 : ((i + j) / 2).toNat ≤ c := h3
        have q := lo_lt u1 (show a.toNat ≤ c0 by omega) (show c0 ≤ c by omega) (by omega) (lt_of hc)
        exact up_lt u2 (hp c (by omega) h4).1 (show (a.toNat + b.toNat) / 2 + m.toNat - 1 - c ≤ (a.toNat + b.toNat) / 2 + m.toNat - 1 - c0 by omega) (hp c0 (by omega) (by omega)).2 q
    · have hij : i = j := by omega
      subst hij
      have w7 : IntKind.wrap .i64 ((a + b) / 2 + m - i) = (a + b) / 2 + m - i := wrapS (by omega) (by omega)
      rw [w7]
      have hc : CutI ltA zA a.toNat m.toNat b.toNat xs (cutS a.toNat m.toNat b.toNat) (cutR a.toNat m.toNat b.toNat) i.toNat := ⟨by omega, by omega, hL, hG⟩
      have hA := merge_all (r1 := _) (r2 := _) (r3 := _) ordA (show a.toNat < m.toNat by omega) (show m.toNat < b.toNat by omega) (by omega) u1 u2 hc rfl rfl rfl
      obtain ⟨v1, v2, v3, v4, vx⟩ := cut_ok ordA (show a.toNat < m.toNat by omega) (show m.toNat < b.toNat by omega) (by omega) u1 u2 hc
      have e1 : (a.toNat + b.toNat) / 2 + m.toNat - i.toNat = ((a + b) / 2 + m - i).toNat := by omega
      rw [e1, hmid] at hA v2 v3
      rw [e1] at v1 v4
      clear vx
      obtain ⟨q1, q2, q3, q4, q5, q6⟩ := cut_b (show a.toNat < m.toNat by omega) (show m.toNat < b.toNat by omega) hc.lo hc.hi
      rw [hmid] at q5 q6 q3 q4
      generalize hen : (a + b) / 2 + m - i = en at *
      generalize hmd : (a + b) / 2 = mid at *
      have fin : ∀ r1 : List Ad, r1.length = xs.length → UpOn ltA zA a.toNat i.toNat r1 → UpOn ltA zA i.toNat mid.toNat r1 → UpOn ltA zA mid.toNat en.toNat r1 → UpOn ltA zA en.toNat b.toNat r1 →
          (if mid.toNat < en.toNat ∧ en.toNat < b.toNat then segS ltA mid.toNat b.toNat (if a.toNat < i.toNat ∧ i.toNat < mid.toNat then segS ltA a.toNat mid.toNat r1 else r1) else (if a.toNat < i.toNat ∧ i.toNat < mid.toNat then segS ltA a.toNat mid.toNat r1 else r1)) = segS ltA a.toNat b.toNat xs →
          (a < i ∧ i < mid → MeP k r1 a i mid ∧ (mid < en ∧ en < b → MeP k (segS ltA a.toNat mid.toNat r1) mid en b ∧ segS ltA mid.toNat b.toNat (segS ltA a.toNat mid.toNat r1) = segS ltA a.toNat b.toNat xs) ∧ (¬ mid < en ∨ ¬ en < b → segS ltA a.toNat mid.toNat r1 = segS ltA a.toNat b.toNat xs)) ∧
          (¬ a < i ∨ ¬ i < mid → (mid < en ∧ en < b → MeP k r1 mid en b ∧ segS ltA mid.toNat b.toNat r1 = segS ltA a.toNat b.toNat xs) ∧ (¬ mid < en ∨ ¬ en < b → r1 = segS ltA a.toNat b.toNat xs)) := by
        intro r1 rl x1 x2 x3 x4 hE
        obtain ⟨p1, z1⟩ := segS_ok (z := zA) ordA (a := a.toNat) (b := mid.toNat) (xs := r1) (by omega) (by omega)
        have pl := p1.len
        refine ⟨fun c2 => ⟨⟨a0, c2.1, c2.2, by omega, by show r1.length ≤ 100000; omega, x1, x2, by omega⟩, fun c3 => ⟨⟨by omega, c3.1, c3.2, by omega, by show (segS ltA a.toNat mid.toNat r1).length ≤ 100000; omega, x3.seg_of p1 (.inr (Nat.le_refl _)), x4.seg_of p1 (.inr (by omega)), by omega⟩, ?_⟩, fun c3 => ?_⟩, fun c2 => ⟨fun c3 => ⟨⟨by omega, c3.1, c3.2, by omega, by show r1.length ≤ 100000; omega, x3, x4, by omega⟩, ?_⟩, fun c3 => ?_⟩⟩
        · rw [if_pos (by omega), if_pos (by omega)] at hE; exact hE
        · rw [if_neg (by omega), if_pos (by omega)] at hE; exact hE
        · rw [if_pos (by omega), if_neg (by omega)] at hE; exact hE
        · rw [if_neg (by omega), if_neg (by omega)] at hE; exact hE
      refine ⟨fun c1 => ⟨⟨by omega, c1.1, c1.2, by omega, by show xs.length ≤ 100000; omega⟩, ?_⟩, fun c1 => ?_⟩
      · rw [if_pos (show i.toNat < m.toNat ∧ m.toNat < en.toNat by omega)] at hA
        exact fin _ (rot_len (by omega) (by omega) (by omega)) v1 v2 v3 v4 hA
      · rw [if_neg (show ¬ (i.toNat < m.toNat ∧ m.toNat < en.toNat) by omega)] at hA
        have eR : rotF i.toNat m.toNat en.toNat xs = xs := by
          by_cases c : i.toNat = m.toNat
          · rw [c]; exact (rot_id zA (by omega) (by omega)).1
          · rw [show en.toNat = m.toNat by omega]; exact (rot_id zA (by omega) (by omega)).2
        rw [eR] at v1 v2 v3 v4
        exact fin _ rfl v1 v2 v3 v4 hA
end Go.Proofs.YtkimpfoimblhjaaDoor.Ad
set_option linter.all false
namespace Go.Proofs.YtkimpfoimblhjaaDoor.Ad
open Go Go.Eng Go.Lb Go.Ad Lb Go.Proofs.St
set_option maxRecDepth 100000
abbrev TT : World → Prop := fun _ => True
theorem mval149 {G : World → Prop} : MValid Tryd.prog G 149 cSwr := mkValidR Tb.mix Tb.tab_ok Tb.eqs_ok (by kernel_rfl) g149 rfl allM_nil (allV_cons val71 allV_nil) allI_nil Tryd.func149 (by kernel_rfl) rfl rfl m149
theorem mval136 {G : World → Prop} : MValid Tryd.prog G 136 cRotM := mkValidR Tb.mix Tb.tab_ok Tb.eqs_ok (by kernel_rfl) g136 rfl (allM_cons (mval149 (G := TT)) allM_nil) (allV_cons val71 allV_nil) allI_nil Tryd.func136 (by kernel_rfl) rfl rfl m136
theorem mval120 {G : World → Prop} : MValid Tryd.prog G 120 cInsM := mkValidR Tb.mix Tb.tab_ok Tb.eqs_ok (by kernel_rfl) g120 rfl allM_nil (allV_cons val71 allV_nil) allI_nil Tryd.func120 (by kernel_rfl) rfl rfl m120
theorem mval121 : ∀ k : Nat, MValid Tryd.prog TT 121 (cSym k)
  | 0 => ⟨⟨Tryd.f121, Tryd.func121, by kernel_rfl, by kernel_rfl⟩, fun w _ base S v xs cs y ys _ _ _ _ _ _ _ hp => by
    have h1 := MeP.am hp
    have h2 := MeP.mb hp
    have h3 := MeP.k hp
    omega⟩
  | k + 1 => mkValidR Tb.mix Tb.tab_ok Tb.eqs_ok (by kernel_rfl) (g121 k) rfl (allM_cons (mval136 (G := TT)) (allM_cons (mval121 k) allM_nil)) (allV_cons val71 allV_nil) allI_nil Tryd.func121 (by kernel_rfl) rfl rfl (m121 k)
theorem mval99 {G : World → Prop} : MValid Tryd.prog G 99 cSta := mkValidR Tb.mix Tb.tab_ok Tb.eqs_ok (by kernel_rfl) g99 rfl (allM_cons (mval120 (G := TT)) (allM_cons (mval121 100) allM_nil)) (allV_cons val71 allV_nil) allI_nil Tryd.func99 (by kernel_rfl) rfl rfl m99
theorem mval73 {G : World → Prop} : MValid Tryd.prog G 73 cSort := mkValidR Tb.mix Tb.tab_ok Tb.eqs_ok (by kernel_rfl) g73 rfl (allM_cons (mval99 (G := TT)) allM_nil) (allV_cons val71 allV_nil) allI_nil Tryd.func73 (by kernel_rfl) rfl rfl m73
end Go.Proofs.YtkimpfoimblhjaaDoor.Ad
set_option maxRecDepth 100000
namespace Go.Proofs.YtkimpfoimblhjaaDoor.Ad
open Go Go.Eng Go.Lb Go.Ad Lb Go.Proofs.St
def cLessA : Contract := conD (.cons AdT (.cons AdT .unit)) (.cons .bool .unit) (fun _ => true) fun x => (ltA x.1 x.2.1, ())
def cSortedA : Contract := conD (.cons AdL .unit) (.cons AdL .unit) (fun x => decide (List.length (α := Ad) x.1 ≤ 60)) fun x => (srt ltA x.1, ())
def cntA (a : Ad) (l : List Ad) : Int := (l.countP fun y => Ty.eqb AdT y a : Nat)
def cCount : Contract := conD (.cons AdL (.cons AdT .unit)) (.cons I64 .unit) (fun x => decide (List.length (α := Ad) x.1 ≤ 1000)) fun x => (cntA x.2.1 x.1, ())
structure CnI (a : Ad) (l : List Ad) (i n : Int) : Prop where
  i0 : 0 ≤ i
  i1 : i ≤ l.length
  e : n = cntA a (l.take i.toNat)
def cnA : LoopAnn where
  α := Int × Int
  keep := [0, 3]
  okeep := [0]
  nxt := 9000
  env := fun _ x => [(6, .dat I64 x.1), (5, .dat I64 x.2)]
  own := fun _ _ => []
  inv := fun s x => CnI (cDat AdT s 3 0).out (bDat AdL s 0).out x.1 x.2
  mu := fun s x => List.length (α := Ad) (bDat AdL s 0).out - x.1.toNat
  pick := some fun _ s => ((bDat I64 s 6).out, (bDat I64 s 5).out)
abbrev aOrd : Ty := .cons AdT (.cons AdT (.cons AdT (.cons AdL .unit)))
structure OlI (n : Nat) (i : Int) : Prop where
  i0 : 0 ≤ i
  i1 : i ≤ n
def olA : LoopAnn where
  α := Int
  keep := [3, 12]
  okeep := []
  nxt := 9000
  env := fun _ i => [(13, .dat I64 i)]
  own := fun _ _ => []
  inv := fun s i => OlI (List.length (α := Ad) (bDat AdL s 12).out) i
  mu := fun s i => List.length (α := Ad) (bDat AdL s 12).out - i.toNat
  pick := some fun _ s => (bDat I64 s 13).out
structure N3I (l : List Bool) (i n : Int) : Prop where
  i0 : 0 ≤ i
  i1 : i ≤ l.length
  e : n = ((l.take i.toNat).countP id : Nat)
def n3A : LoopAnn where
  α := Int × Int
  keep := [3, 4, 5, 6, 27, 28]
  okeep := [0, 1, 2]
  nxt := 9000
  env := fun _ x => [(29, .dat I64 x.1), (9, .dat I64 x.2)]
  own := fun s _ => match Go.Eng.look s.env 27 with
    | .own o => [(o, lookO s.own o)]
    | _ => []
  inv := fun s x => N3I (bRow .bool s 27).out x.1 x.2
  mu := fun s x => (bRow .bool s 27).out.length - x.1.toNat
  pick := some fun _ s => ((bDat I64 s 29).out, (bDat I64 s 9).out)
end Go.Proofs.YtkimpfoimblhjaaDoor.Ad
namespace Go.Proofs.YtkimpfoimblhjaaDoor.Ad
open Go Go.Eng Go.Lb Go.Ad Lb Go.Proofs.St
set_option maxRecDepth 100000
noncomputable def g72 : Cfg := { tab := Tb.tab, cons := [], inls := [], loops := [], cuts := [], unroll := false, arrs := [], keys := [] }
noncomputable def g42 : Cfg := { tab := Tb.tab, cons := [(71, cComp)], inls := [], loops := [], cuts := [], unroll := false, arrs := [], keys := [] }
noncomputable def g43 : Cfg := { tab := Tb.tab, cons := [(72, (cClone 26 32 AdT))], mcons := [(73, cSort)], inls := [], loops := [], cuts := [], unroll := false, arrs := [], keys := [] }
noncomputable def g44 : Cfg := { tab := Tb.tab, cons := [], inls := [], loops := [(3, cnA)], cuts := [], unroll := false, arrs := [], keys := [] }
noncomputable def g13 : Cfg := { tab := Tb.tab, cons := [(16, cWk), (42, cLessA), (43, cSortedA), (44, cCount)], inls := [], loops := [(5, n3A), (16, olA)], cuts := [], unroll := false, arrs := [], keys := [] }
end Go.Proofs.YtkimpfoimblhjaaDoor.Ad
namespace Go.Proofs.YtkimpfoimblhjaaDoor.Ad
open Go Go.Eng Go.Lb Go.Ad Lb Go.Proofs.St
set_option maxRecDepth 100000
theorem v72_eq : vcFn g72 300 Tryd.f72 ((cClone 26 32 AdT)) = ( ∀ (x : List (Ad) × Unit), Wr (decide (List.length x.1 * (32 : Nat) ≤ (140737488355328 : Nat)) = true) → ∀ (b : Bool), Wr (b = true → x.1 = nilL (Ad)) → bcase b (x.1 = nilL (Ad)) (Wr ((List.length (nilL (Ad)) +
  List.length x.1) * (32 : Nat) ≤ (140737488355328 : Nat)) ∧ nilL (Ad) ++ x.1 = x.1)) := by kernel_rfl
theorem v42_eq : vcFn g42 300 Tryd.f42 cLessA = ( ∀ (x : (Ad) × (Ad) × Unit), E true → E true ∧ (decide (cmpA x.1 x.2.1 < (0 : Int)), ()) = (ltA x.1 x.2.1, ())) := by kernel_rfl
theorem v43_eq : vcFn g43 300 Tryd.f43 cSortedA.T = ( ∀ (x : List (Ad) × Unit), Wr (typedB (Ty.cons AdL Ty.unit) x = true ∧ decide (List.length x.1 ≤ (60 : Nat)) = true) → Wr (decide (List.length x.1 * (32 : Nat) ≤ (140737488355328 : Nat)) = true) ∧ Wr (List.length x.1 ≤
  (60 : Nat)) ∧ (srt ltA x.1, ()) = (srt ltA x.1, ())) := by kernel_rfl
end Go.Proofs.YtkimpfoimblhjaaDoor.Ad
set_option linter.all false
namespace Go.Proofs.YtkimpfoimblhjaaDoor.Ad
open Go Go.Eng Go.Lb Go.Ad Lb Go.Proofs.St
set_option maxRecDepth 100000
set_option maxHeartbeats 4000000
theorem anyG {P : Program} {G : World → Prop} {g : FuncId} {c : Contract} (h : Valid P (fun _ => True) g c) : Valid P G g c := ⟨h.1, fun w _ => h.2 w trivial⟩
theorem eqAA (a b : Ad) : Ty.eqb AdT a b = decide (a = b) := by
  cases h : Ty.eqb AdT a b with
  | true => rw [eqb_eq AdT rfl a b h]; simp
  | false =>
    refine (decide_eq_false fun e => ?_).symm
    subst e
    obtain ⟨f, ⟨a1, a2, a3, a4, a5, a6, a7, a8, ⟨⟩⟩, p, ⟨⟩⟩ := a
    have : Ty.eqb AdT (f, (a1, a2, a3, a4, a5, a6, a7, a8, PUnit.unit), p, PUnit.unit) (f, (a1, a2, a3, a4, a5, a6, a7, a8, PUnit.unit), p, PUnit.unit) = true := by simp [Ty.eqb, Ty.arr]
    exact absurd (this.symm.trans h) (by decide)
theorem v72 : Vc g72 300 Tryd.f72 (cClone 26 32 AdT) := by
  constructor
  rw [v72_eq]
  simp only [Wr_iff, E_iff, bcase_iff, true_and, and_true, decide_eq_true_eq, decide_eq_false_iff_not, Bool.and_eq_true, Bool.and_eq_false_iff, Bool.or_eq_true, Bool.or_eq_false_iff, Bool.not_eq_true', Bool.not_eq_false', Option.map_some, Option.getD_some, Option.isSome_some, Option.isSome_map, imp_self, nilL, noneO]
  rintro ⟨l, ⟨⟩⟩ hl b hb
  dsimp only at *
  exact ⟨hb, fun _ => ⟨by simpa using hl, rfl⟩⟩
theorem v42 : Vc g42 300 Tryd.f42 cLessA := by
  constructor
  rw [v42_eq]
  simp only [Wr_iff, E_iff, bcase_iff, true_and, and_true, decide_eq_true_eq, decide_eq_false_iff_not, Bool.and_eq_true, Bool.and_eq_false_iff, Bool.or_eq_true, Bool.or_eq_false_iff, Bool.not_eq_true', Bool.not_eq_false', Option.map_some, Option.getD_some, Option.isSome_some, Option.isSome_map, imp_self, nilL, noneO]
  rintro ⟨a, b, ⟨⟩⟩ -
  rfl
theorem v43 : Vc g43 300 Tryd.f43 cSortedA.T := by
  constructor
  rw [v43_eq]
  simp only [Wr_iff, E_iff, bcase_iff, true_and, and_true, decide_eq_true_eq, decide_eq_false_iff_not, Bool.and_eq_true, Bool.and_eq_false_iff, Bool.or_eq_true, Bool.or_eq_false_iff, Bool.not_eq_true', Bool.not_eq_false', Option.map_some, Option.getD_some, Option.isSome_some, Option.isSome_map, imp_self, nilL, noneO]
  rintro ⟨l, ⟨⟩⟩ ⟨-, hl⟩
  dsimp only at *
  exact ⟨by omega, hl⟩
end Go.Proofs.YtkimpfoimblhjaaDoor.Ad
namespace Go.Proofs.YtkimpfoimblhjaaDoor.Ad
open Go Go.Eng Go.Lb Go.Ad Lb Go.Proofs.St
set_option maxRecDepth 100000
theorem val72 : Valid Tryd.prog GA 72 ((cClone 26 32 AdT)) := mkValid gas Tb.mix Tb.tab_ok Tb.eqs_ok g72 rfl allV_nil allI_nil Tryd.func72 (by kernel_rfl) v72
theorem val42 : Valid Tryd.prog GA 42 cLessA := mkValid gas Tb.mix Tb.tab_ok Tb.eqs_ok g42 rfl (allV_cons (anyG val71) allV_nil) allI_nil Tryd.func42 (by kernel_rfl) v42
theorem val43 : Valid Tryd.prog GA 43 cSortedA := Valid.T (mkValidM gas Tb.mix Tb.tab_ok Tb.eqs_ok (by kernel_rfl) g43 rfl (allM_cons mval73 allM_nil) (allV_cons val72 allV_nil) allI_nil Tryd.func43 (by kernel_rfl) v43)
end Go.Proofs.YtkimpfoimblhjaaDoor.Ad
set_option maxRecDepth 100000
namespace Go.Proofs.YtkimpfoimblhjaaDoor.Ad
open Go Go.Eng Go.Lb Go.Ad Lb Go.Proofs.St
structure L8I (g h : G8) (i : Int) : Prop where
  i0 : 0 ≤ i
  i1 : i ≤ 8
  e : cmpL ((gsL g).drop i.toNat) ((gsL h).drop i.toNat) = cmpL (gsL g) (gsL h)
def l8A : LoopAnn where
  α := Int
  keep := [2, 3]
  okeep := [0, 1]
  nxt := 9000
  env := fun _ i => [(5, .dat I64 i)]
  own := fun _ _ => []
  inv := fun s i => L8I (cDat AdT s 2 0).out.2.1 (cDat AdT s 3 0).out.2.1 i
  mu := fun _ i => 8 - i.toNat
  pick := some fun _ s => (bDat I64 s 5).out
structure SrI (l : List Ad) (x : Int × List Ad) : Prop where
  i0 : 0 ≤ x.1
  i1 : x.1 ≤ l.length
  e : x.2 = srt ltA (l.take x.1.toNat)
def srA : LoopAnn where
  α := Int × List Ad
  keep := [0]
  okeep := []
  nxt := 9000
  env := fun _ x => [(4, .dat I64 x.1), (3, .own 3000)]
  own := fun _ x => [(3000, .row 26 AdT x.2)]
  inv := fun s x => SrI (bDat AdL s 0).out x
  mu := fun s x => List.length (α := Ad) (bDat AdL s 0).out - x.1.toNat
  pick := some fun _ s => ((bDat I64 s 4).out, (bRow AdT s 3).out)
structure SkI (a : Ad) (o : List Ad) (k : Int) : Prop where
  k0 : 0 ≤ k
  k1 : k ≤ o.length
  l : ∀ q, q < k.toNat → ltA a (o.getD q zA) = false
def skA : LoopAnn where
  α := Int
  keep := [0, 3, 4]
  okeep := [3000]
  nxt := 9100
  env := fun _ k => [(5, .dat I64 k)]
  own := fun _ _ => []
  inv := fun s k => SkI (List.getD (α := Ad) (bDat AdL s 0).out (bDat I64 s 4).out.toNat zA) (bRow AdT s 3).out k
  mu := fun s k => (bRow AdT s 3).out.length - k.toNat
  pick := some fun _ s => (bDat I64 s 5).out
def ofSL : LoopAnn where
  α := List Ad × Int
  keep := [0, 1]
  okeep := []
  nxt := 9000
  env := fun _ x => [(5, .own 3000), (6, .dat I64 x.2)]
  own := fun _ x => [(3000, .row 26 AdT x.1)]
  inv := fun s x => OfI (bDat I8 s 0).out (bDat AdL s 1).out x.1 x.2
  mu := fun s x => List.length (α := Ad) (bDat AdL s 1).out - x.2.toNat
  pick := some fun _ s => ((bRow AdT s 5).out, (bDat I64 s 6).out)
abbrev aTells : Ty := .cons AdT (.cons AdT (.cons .str (.cons AdL (.cons I8 .unit))))
end Go.Proofs.YtkimpfoimblhjaaDoor.Ad
namespace Go.Proofs.YtkimpfoimblhjaaDoor.Ad
open Go Go.Eng Go.Lb Go.Ad Lb Go.Proofs.St
set_option maxRecDepth 100000
noncomputable def g48 : Cfg := { tab := Tb.tab, cons := [], inls := [], loops := [(4, l8A)], cuts := [], unroll := false, arrs := [], keys := [] }
noncomputable def g49 : Cfg := { tab := Tb.tab, cons := [(48, cLessA)], inls := [], loops := [(3, srA), (6, skA)], cuts := [], unroll := false, arrs := [], keys := [] }
noncomputable def g50 : Cfg := { tab := Tb.tab, cons := [], inls := [], loops := [(3, ofSL)], cuts := [], unroll := false, arrs := [], keys := [] }
end Go.Proofs.YtkimpfoimblhjaaDoor.Ad
namespace Go.Proofs.YtkimpfoimblhjaaDoor.Ad
open Go Go.Eng Go.Lb Go.Ad Lb Go.Proofs.St
set_option maxRecDepth 100000
theorem v48_eq : vcFn g48 300 Tryd.f48 cLessA.T = ( ∀ (x : (Ad) × (Ad) × Unit), Wr (typedB (Ty.cons AdT (Ty.cons AdT Ty.unit)) x = true ∧ true = true) → bcase (!decide (x.1.1 = x.2.1.1)) ((decide (x.1.1 < x.2.1.1), ()) = (ltA x.1 x.2.1, ())) ((Wr (L8I x.1.2.1 x.2.1.2.1 (0
  : Int)) ∧ E ((0 : Int)) ∧ E x.1.1 ∧ E x.1.2.1.1 ∧ E x.1.2.1.2.1 ∧ E x.1.2.1.2.2.1 ∧ E x.1.2.1.2.2.2.1 ∧ E x.1.2.1.2.2.2.2.1 ∧ E x.1.2.1.2.2.2.2.2.1 ∧ E x.1.2.1.2.2.2.2.2.2.1 ∧ E x.1.2.1.2.2.2.2.2.2.2.1 ∧ E x.1.2.2.1 ∧ E
  x.2.1.1 ∧ E x.2.1.2.1.1 ∧ E x.2.1.2.1.2.1 ∧ E x.2.1.2.1.2.2.1 ∧ E x.2.1.2.1.2.2.2.1 ∧ E x.2.1.2.1.2.2.2.2.1 ∧ E x.2.1.2.1.2.2.2.2.2.1 ∧ E x.2.1.2.1.2.2.2.2.2.2.1 ∧ E x.2.1.2.1.2.2.2.2.2.2.2.1 ∧ E x.2.1.2.2.1) ∧ ∀ (x_1 :
  Int), Wr (L8I x.1.2.1 x.2.1.2.1 x_1) → bcase (decide (x_1 < (8 : Int))) (Wr ((0 : Int) ≤ x_1) ∧ Wr (x_1 < (↑(8 : Nat) : Int)) ∧ Wr ((0 : Int) ≤ x_1) ∧ Wr (x_1 < (↑(8 : Nat) : Int)) ∧ bcase (!decide (List.getD (x.1.2.1.1
  :: x.1.2.1.2.1 :: x.1.2.1.2.2.1 :: x.1.2.1.2.2.2.1 :: x.1.2.1.2.2.2.2.1 :: x.1.2.1.2.2.2.2.2.1 :: x.1.2.1.2.2.2.2.2.2.1 :: x.1.2.1.2.2.2.2.2.2.2.1 :: nilL Int) (Int.toNat x_1) (0 : Int) = List.getD (x.2.1.2.1.1 ::
  x.2.1.2.1.2.1 :: x.2.1.2.1.2.2.1 :: x.2.1.2.1.2.2.2.1 :: x.2.1.2.1.2.2.2.2.1 :: x.2.1.2.1.2.2.2.2.2.1 :: x.2.1.2.1.2.2.2.2.2.2.1 :: x.2.1.2.1.2.2.2.2.2.2.2.1 :: nilL Int) (Int.toNat x_1) (0 : Int))) (Wr ((0 : Int) ≤
  x_1) ∧ Wr (x_1 < (↑(8 : Nat) : Int)) ∧ Wr ((0 : Int) ≤ x_1) ∧ Wr (x_1 < (↑(8 : Nat) : Int)) ∧ (decide (List.getD (x.1.2.1.1 :: x.1.2.1.2.1 :: x.1.2.1.2.2.1 :: x.1.2.1.2.2.2.1 :: x.1.2.1.2.2.2.2.1 :: x.1.2.1.2.2.2.2.2.1
  :: x.1.2.1.2.2.2.2.2.2.1 :: x.1.2.1.2.2.2.2.2.2.2.1 :: nilL Int) (Int.toNat x_1) (0 : Int) < List.getD (x.2.1.2.1.1 :: x.2.1.2.1.2.1 :: x.2.1.2.1.2.2.1 :: x.2.1.2.1.2.2.2.1 :: x.2.1.2.1.2.2.2.2.1 ::
  x.2.1.2.1.2.2.2.2.2.1 :: x.2.1.2.1.2.2.2.2.2.2.1 :: x.2.1.2.1.2.2.2.2.2.2.2.1 :: nilL Int) (Int.toNat x_1) (0 : Int)), ()) = (ltA x.1 x.2.1, ())) (Wr (L8I x.1.2.1 x.2.1.2.1 (IntKind.wrap IntKind.i64 (x_1 + (1 : Int))))
  ∧ Wr ((8 : Nat) - Int.toNat (IntKind.wrap IntKind.i64 (x_1 + (1 : Int))) < (8 : Nat) - Int.toNat x_1) ∧ E (IntKind.wrap IntKind.i64 (x_1 + (1 : Int))) ∧ E x.1.1 ∧ E x.1.2.1.1 ∧ E x.1.2.1.2.1 ∧ E x.1.2.1.2.2.1 ∧ E
  x.1.2.1.2.2.2.1 ∧ E x.1.2.1.2.2.2.2.1 ∧ E x.1.2.1.2.2.2.2.2.1 ∧ E x.1.2.1.2.2.2.2.2.2.1 ∧ E x.1.2.1.2.2.2.2.2.2.2.1 ∧ E x.1.2.2.1 ∧ E x.2.1.1 ∧ E x.2.1.2.1.1 ∧ E x.2.1.2.1.2.1 ∧ E x.2.1.2.1.2.2.1 ∧ E x.2.1.2.1.2.2.2.1 ∧
  E x.2.1.2.1.2.2.2.2.1 ∧ E x.2.1.2.1.2.2.2.2.2.1 ∧ E x.2.1.2.1.2.2.2.2.2.2.1 ∧ E x.2.1.2.1.2.2.2.2.2.2.2.1 ∧ E x.2.1.2.2.1)) ((decide (x.1.2.2.1 < x.2.1.2.2.1), ()) = (ltA x.1 x.2.1, ())))) := by kernel_rfl
theorem v49_eq : vcFn g49 300 Tryd.f49 cSortedA.T = ( ∀ (x : List (Ad) × Unit), Wr (typedB (Ty.cons AdL Ty.unit) x = true ∧ decide (List.length x.1 ≤ (60 : Nat)) = true) → (Wr (SrI x.1 ((0 : Int), nilL (Ad))) ∧ E ((0 : Int)) ∧ E x.1 ∧ E (nilL (Ad))) ∧ ∀ (x_1 : Int × List
  (Ad)), Wr (SrI x.1 x_1) → bcase (decide (x_1.1 < (↑(List.length x.1) : Int))) ((Wr (SkI (List.getD x.1 (Int.toNat x_1.1) zA) x_1.2 (0 : Int)) ∧ E ((0 : Int)) ∧ E x.1 ∧ E x_1.1 ∧ E x_1.2) ∧ ∀ (x_2 : Int), Wr (SkI
  (List.getD x.1 (Int.toNat x_1.1) zA) x_1.2 x_2) → Wr (decide (x_2 < (↑(List.length x_1.2) : Int)) = true → (0 : Int) ≤ x_1.1) ∧ Wr (decide (x_2 < (↑(List.length x_1.2) : Int)) = true → x_1.1 < (↑(List.length x.1) :
  Int)) ∧ Wr (decide (x_2 < (↑(List.length x_1.2) : Int)) = true → true = true) ∧ Wr (decide (x_2 < (↑(List.length x_1.2) : Int)) = true → (0 : Int) ≤ x_2) ∧ Wr (decide (x_2 < (↑(List.length x_1.2) : Int)) = true → x_2 <
  (↑(List.length x_1.2) : Int)) ∧ Wr (decide (x_2 < (↑(List.length x_1.2) : Int)) = true → true = true) ∧ bcase (decide (x_2 < (↑(List.length x_1.2) : Int)) && !ltA (List.getD x.1 (Int.toNat x_1.1) (Ty.zero AdT))
  (List.getD x_1.2 (Int.toNat x_2) (Ty.zero AdT))) (Wr (SkI (List.getD x.1 (Int.toNat x_1.1) zA) x_1.2 (IntKind.wrap IntKind.i64 (x_2 + (1 : Int)))) ∧ Wr (List.length x_1.2 - Int.toNat (IntKind.wrap IntKind.i64 (x_2 + (1
  : Int))) < List.length x_1.2 - Int.toNat x_2) ∧ E (IntKind.wrap IntKind.i64 (x_2 + (1 : Int))) ∧ E x.1 ∧ E x_1.1 ∧ E x_1.2) (Wr ((0 : Int) ≤ (0 : Int)) ∧ Wr ((0 : Int) ≤ x_2) ∧ Wr (x_2 ≤ (↑(List.length x_1.2) : Int)) ∧
  Wr (List.length (List.drop (Int.toNat (0 : Int)) (List.take (Int.toNat x_2) x_1.2)) * (32 : Nat) ≤ (140737488355328 : Nat)) ∧ Wr ((0 : Int) ≤ x_1.1) ∧ Wr (x_1.1 < (↑(List.length x.1) : Int)) ∧ E true ∧ Wr ((List.length
  (List.drop (Int.toNat (0 : Int)) (List.take (Int.toNat x_2) x_1.2)) + List.length (List.getD x.1 (Int.toNat x_1.1) (Ty.zero AdT) :: nilL (Ad))) * (32 : Nat) ≤ (140737488355328 : Nat)) ∧ Wr ((0 : Int) ≤ x_2) ∧ Wr (x_2 ≤
  (↑(List.length x_1.2) : Int)) ∧ Wr ((↑(List.length x_1.2) : Int) ≤ (↑(List.length x_1.2) : Int)) ∧ Wr ((List.length (List.drop (Int.toNat (0 : Int)) (List.take (Int.toNat x_2) x_1.2) ++ List.getD x.1 (Int.toNat x_1.1)
  (Ty.zero AdT) :: nilL (Ad)) + List.length (List.drop (Int.toNat x_2) (List.take (Int.toNat (↑(List.length x_1.2) : Int)) x_1.2))) * (32 : Nat) ≤ (140737488355328 : Nat)) ∧ Wr (SrI x.1 (IntKind.wrap IntKind.i64 (x_1.1 +
  (1 : Int)), List.drop (Int.toNat (0 : Int)) (List.take (Int.toNat x_2) x_1.2) ++ List.getD x.1 (Int.toNat x_1.1) (Ty.zero AdT) :: nilL (Ad) ++ List.drop (Int.toNat x_2) (List.take (Int.toNat (↑(List.length x_1.2) :
  Int)) x_1.2))) ∧ Wr (List.length x.1 - Int.toNat (IntKind.wrap IntKind.i64 (x_1.1 + (1 : Int))) < List.length x.1 - Int.toNat x_1.1) ∧ E (IntKind.wrap IntKind.i64 (x_1.1 + (1 : Int))) ∧ E x.1 ∧ E (List.drop (Int.toNat
  (0 : Int)) (List.take (Int.toNat x_2) x_1.2) ++ List.getD x.1 (Int.toNat x_1.1) (Ty.zero AdT) :: nilL (Ad) ++ List.drop (Int.toNat x_2) (List.take (Int.toNat (↑(List.length x_1.2) : Int)) x_1.2)))) ((x_1.2, ()) = (srt
  ltA x.1, ()))) := by kernel_rfl
theorem v50_eq : vcFn g50 300 Tryd.f50 cOf.T = ( ∀ (x : Int × List (Ad) × Unit), Wr (typedB (Ty.cons I8 (Ty.cons AdL Ty.unit)) x = true ∧ lenA x.2.1 = true) → (Wr (OfI x.1 x.2.1 (nilL (Ad)) (0 : Int)) ∧ E ((0 : Int)) ∧ E x.1 ∧ E x.2.1 ∧ E (nilL (Ad))) ∧ ∀ (x_1 : List
  (Ad) × Int), Wr (OfI x.1 x.2.1 x_1.1 x_1.2) → bcase (decide (x_1.2 < (↑(List.length x.2.1) : Int))) (Wr ((0 : Int) ≤ x_1.2) ∧ Wr (x_1.2 < (↑(List.length x.2.1) : Int)) ∧ E true ∧ E true ∧ bcase (decide ((List.getD x.2.1
  (Int.toNat x_1.2) (Ty.zero AdT)).1 = x.1)) (Wr ((0 : Int) ≤ x_1.2) ∧ Wr (x_1.2 < (↑(List.length x.2.1) : Int)) ∧ E true ∧ Wr ((List.length x_1.1 + List.length (List.getD x.2.1 (Int.toNat x_1.2) (Ty.zero AdT) :: nilL
  (Ad))) * (32 : Nat) ≤ (140737488355328 : Nat)) ∧ Wr (OfI x.1 x.2.1 (x_1.1 ++ List.getD x.2.1 (Int.toNat x_1.2) (Ty.zero AdT) :: nilL (Ad)) (IntKind.wrap IntKind.i64 (x_1.2 + (1 : Int)))) ∧ Wr (List.length x.2.1 -
  Int.toNat (IntKind.wrap IntKind.i64 (x_1.2 + (1 : Int))) < List.length x.2.1 - Int.toNat x_1.2) ∧ E (IntKind.wrap IntKind.i64 (x_1.2 + (1 : Int))) ∧ E x.1 ∧ E x.2.1 ∧ E (x_1.1 ++ List.getD x.2.1 (Int.toNat x_1.2)
  (Ty.zero AdT) :: nilL (Ad))) (Wr (OfI x.1 x.2.1 x_1.1 (IntKind.wrap IntKind.i64 (x_1.2 + (1 : Int)))) ∧ Wr (List.length x.2.1 - Int.toNat (IntKind.wrap IntKind.i64 (x_1.2 + (1 : Int))) < List.length x.2.1 - Int.toNat
  x_1.2) ∧ E (IntKind.wrap IntKind.i64 (x_1.2 + (1 : Int))) ∧ E x.1 ∧ E x.2.1 ∧ E x_1.1)) ((x_1.1, ()) = (Go.Ad.ofA x.1 x.2.1, ()))) := by kernel_rfl
end Go.Proofs.YtkimpfoimblhjaaDoor.Ad
set_option linter.all false
namespace Go.Proofs.YtkimpfoimblhjaaDoor.Ad
open Go Go.Eng Go.Lb Go.Ad Lb Go.Proofs.St
set_option maxRecDepth 100000
set_option maxHeartbeats 4000000
theorem dcI (a b : Int) : decide (cmpI a b < 0) = decide (a < b) := by
  have h := cmpI_c a b
  by_cases c : a < b
  · rw [decide_eq_true c, decide_eq_true (by omega)]
  · rw [decide_eq_false c, decide_eq_false (by omega)]
theorem or_ne {x : Int} {r : List Int} (h : ¬ x = 0) : orF (x :: r) = x := by unfold orF; rw [decide_eq_false h]; rfl
theorem or_eq {x : Int} {r : List Int} (h : x = 0) : orF (x :: r) = orF r := by rw [orF, decide_eq_true h]; rfl
theorem or_one (x : Int) : orF [x] = x := by
  by_cases h : x = 0
  · rw [or_eq h, h]; rfl
  · exact or_ne h
theorem ins_pos {a : Ad} : ∀ {o : List Ad} {k : Nat}, k ≤ o.length → (∀ q, q < k → ltA a (o.getD q zA) = false) → (k < o.length → ltA a (o.getD k zA) = true) → ins ltA a o = o.take k ++ a :: o.drop k
  | [], k, h1, _, _ => by
    have : k = 0 := by simpa using h1
    subst this; rfl
  | y :: r, 0, _, _, h3 => by
    have h : ltA a y = true := h3 (by simp)
    unfold ins
    rw [h]; rfl
  | y :: r, k + 1, h1, h2, h3 => by
    have h : ltA a y = false := h2 0 (by omega)
    have ih := ins_pos (a := a) (o := r) (k := k) (by simpa using h1) (fun q hq => h2 (q + 1) (by omega)) (fun hk => h3 (by simpa using hk))
    unfold ins
    rw [h]
    show y :: ins ltA a r = y :: (r.take k ++ a :: r.drop k)
    rw [ih]
theorem srt_snoc (l : List Ad) (a : Ad) : srt ltA (l ++ [a]) = ins ltA a (srt ltA l) := by
  unfold srt; rw [List.foldl_append]; rfl
theorem v48 : Vc g48 300 Tryd.f48 cLessA.T := by
  constructor
  rw [v48_eq]
  simp only [Wr_iff, E_iff, bcase_iff, true_and, and_true, decide_eq_true_eq, decide_eq_false_iff_not, Bool.and_eq_true, Bool.and_eq_false_iff, Bool.or_eq_true, Bool.or_eq_false_iff, Bool.not_eq_true', Bool.not_eq_false', Option.map_some, Option.getD_some, Option.isSome_some, Option.isSome_map, imp_self, nilL, noneO]
  rintro ⟨⟨f, ⟨a1, a2, a3, a4, a5, a6, a7, a8, ⟨⟩⟩, p, ⟨⟩⟩, ⟨f', ⟨b1, b2, b3, b4, b5, b6, b7, b8, ⟨⟩⟩, p', ⟨⟩⟩, ⟨⟩⟩ -
  dsimp only
  have hA : ltA (f, (a1, a2, a3, a4, a5, a6, a7, a8, PUnit.unit), p, PUnit.unit) (f', (b1, b2, b3, b4, b5, b6, b7, b8, PUnit.unit), p', PUnit.unit) = decide (orF [cmpI f f', cmpL [a1, a2, a3, a4, a5, a6, a7, a8] [b1, b2, b3, b4, b5, b6, b7, b8], cmpI p p'] < 0) := rfl
  rw [hA]
  have hf := cmpI_c f f'
  refine ⟨fun h => ?_, fun h => ⟨⟨Int.le_refl _, by omega, rfl⟩, fun x hx => ⟨fun hi => ?_, fun hi => ?_⟩⟩⟩
  · rw [or_ne (by omega), dcI]
  · obtain ⟨x0, x1, he⟩ := hx
    have he : cmpL ([a1, a2, a3, a4, a5, a6, a7, a8].drop x.toNat) ([b1, b2, b3, b4, b5, b6, b7, b8].drop x.toNat) = cmpL [a1, a2, a3, a4, a5, a6, a7, a8] [b1, b2, b3, b4, b5, b6, b7, b8] := he
    have hl8 : x.toNat < ([a1, a2, a3, a4, a5, a6, a7, a8] : List Int).length := by show x.toNat < 8; omega
    have hm8 : x.toNat < ([b1, b2, b3, b4, b5, b6, b7, b8] : List Int).length := by show x.toNat < 8; omega
    have w1 : IntKind.wrap .i64 (x + 1) = x + 1 := wrapS (by omega) (by omega)
    have e2 : (x + 1).toNat = x.toNat + 1 := by omega
    rw [or_eq (show cmpI f f' = 0 by omega), w1]
    have hg : ∀ i, L8I (a1, a2, a3, a4, a5, a6, a7, a8, PUnit.unit) (b1, b2, b3, b4, b5, b6, b7, b8, PUnit.unit) i ↔ (0 ≤ i ∧ i ≤ 8 ∧ cmpL ([a1, a2, a3, a4, a5, a6, a7, a8].drop i.toNat) ([b1, b2, b3, b4, b5, b6, b7, b8].drop i.toNat) = cmpL [a1, a2, a3, a4, a5, a6, a7, a8] [b1, b2, b3, b4, b5, b6, b7, b8]) := fun i => ⟨fun h => ⟨h.i0, h.i1, h.e⟩, fun h => ⟨h.1, h.2.1, h.2.2⟩⟩
    rw [hg]
    generalize [a1, a2, a3, a4, a5, a6, a7, a8] = A at *
    generalize [b1, b2, b3, b4, b5, b6, b7, b8] = B at *
    rw [getD0 hl8, getD0 hm8] at he
    have hc := cmpI_c (A.getD x.toNat 0) (B.getD x.toNat 0)
    refine ⟨x0, hi, x0, hi, fun hn => ⟨x0, hi, x0, hi, ?_⟩, fun hn => ⟨⟨by omega, by omega, ?_⟩, by omega⟩⟩
    · rw [cmpL, decide_eq_false (by omega)] at he
      have he : cmpI (A.getD x.toNat 0) (B.getD x.toNat 0) = cmpL A B := he
      rw [← he, or_ne (by omega), dcI]
    · rw [e2, ← he, cmpL, decide_eq_true (by omega)]; rfl
  · obtain ⟨x0, x1, he⟩ := hx
    have he : cmpL ([a1, a2, a3, a4, a5, a6, a7, a8].drop x.toNat) ([b1, b2, b3, b4, b5, b6, b7, b8].drop x.toNat) = cmpL [a1, a2, a3, a4, a5, a6, a7, a8] [b1, b2, b3, b4, b5, b6, b7, b8] := he
    rw [show x.toNat = 8 by omega] at he
    have he : 0 = cmpL [a1, a2, a3, a4, a5, a6, a7, a8] [b1, b2, b3, b4, b5, b6, b7, b8] := he
    rw [or_eq (show cmpI f f' = 0 by omega), or_eq he.symm, or_one, dcI]
theorem v49 : Vc g49 300 Tryd.f49 cSortedA.T := by
  constructor
  rw [v49_eq]
  simp only [Wr_iff, E_iff, bcase_iff, true_and, and_true, decide_eq_true_eq, decide_eq_false_iff_not, Bool.and_eq_true, Bool.and_eq_false_iff, Bool.or_eq_true, Bool.or_eq_false_iff, Bool.not_eq_true', Bool.not_eq_false', Option.map_some, Option.getD_some, Option.isSome_some, Option.isSome_map, imp_self, nilL, noneO]
  rintro ⟨l, ⟨⟩⟩ ⟨-, hl⟩
  dsimp only at *
  refine ⟨⟨Int.le_refl _, by show (0 : Int) ≤ _; omega, rfl⟩, fun x hx => ?_⟩
  obtain ⟨i, o⟩ := x
  obtain ⟨i0, i1, he⟩ := hx
  dsimp only at i0 i1 he ⊢
  have ol : o.length = (l.take i.toNat).length := by rw [he]; exact (srt_perm (lt := ltA) _).length_eq
  rw [List.length_take] at ol
  refine ⟨fun hi => ⟨⟨Int.le_refl _, by omega, fun q hq => by have hq : q < 0 := hq; omega⟩, fun k hk => ?_⟩, fun hi => ?_⟩
  · obtain ⟨k0, k1, kl⟩ := hk
    have w1 : IntKind.wrap .i64 (k + 1) = k + 1 := wrapS (by omega) (by omega)
    have w2 : IntKind.wrap .i64 (i + 1) = i + 1 := wrapS (by omega) (by omega)
    rw [w1, w2]
    refine ⟨fun _ => i0, fun _ => hi, fun _ => trivial, fun _ => k0, fun _ => trivial, fun h => ⟨⟨by omega, by omega, fun q hq => ?_⟩, by omega⟩, fun h => ?_⟩
    · have hq : q < (k + 1).toNat := hq
      by_cases c : q = k.toNat
      · rw [c]; exact h.2
      · exact kl q (by omega)
    · have hd : List.drop (Int.toNat 0) (List.take k.toNat o) = o.take k.toNat := rfl
      have ht : List.take ((o.length : Int)).toNat o = o := by rw [Int.toNat_natCast]; exact List.take_length
      rw [hd, ht]
      have l1 : (o.take k.toNat).length ≤ 60 := by rw [List.length_take]; omega
      have l2 : (o.drop k.toNat).length ≤ 60 := by rw [List.length_drop]; omega
      have hins := ins_pos (a := l.getD i.toNat zA) (o := o) (k := k.toNat) (by omega) kl (fun hk => by
        rcases h with h | h
        · omega
        · exact h)
      refine ⟨Int.le_refl _, k0, k1, by omega, i0, hi, ?_, k0, k1, Int.le_refl _, ?_, ⟨by show 0 ≤ i + 1; omega, by show i + 1 ≤ _; omega, ?_⟩, by omega⟩
      · show ((o.take k.toNat).length + 1) * 32 ≤ _
        omega
      · rw [List.length_append]
        show ((o.take k.toNat).length + 1 + (o.drop k.toNat).length) * 32 ≤ _
        omega
      · show o.take k.toNat ++ [l.getD i.toNat zA] ++ o.drop k.toNat = srt ltA (l.take (i + 1).toNat)
        rw [show (i + 1).toNat = i.toNat + 1 by omega, List.take_add_one, List.getElem?_eq_getElem (show i.toNat < l.length by omega)]
        show _ = srt ltA (l.take i.toNat ++ [l[i.toNat]])
        rw [srt_snoc, ← he, ← getD_lt (z := zA), hins, List.append_assoc]; rfl
  · rw [he, List.take_of_length_le (by omega)]
theorem v50 : Vc g50 300 Tryd.f50 cOf.T := by
  constructor
  rw [v50_eq]
  simp only [Wr_iff, E_iff, bcase_iff, true_and, and_true, decide_eq_true_eq, decide_eq_false_iff_not, Bool.and_eq_true, Bool.and_eq_false_iff, Bool.or_eq_true, Bool.or_eq_false_iff, Bool.not_eq_true', Bool.not_eq_false', Option.map_some, Option.getD_some, Option.isSome_some, Option.isSome_map, imp_self, nilL, noneO]
  rintro ⟨f, l, ⟨⟩⟩ ⟨-, hl⟩
  dsimp only at *
  have hl := (lenA_iff l).1 hl
  refine ⟨⟨by omega, by omega, rfl⟩, fun y hi => ⟨fun h => ?_, fun h => ?_⟩⟩
  · have h0 := hi.i0
    have hlen : List.length (α := Ad) y.1 ≤ 100000 := by
      have e := hi.a
      have : (ofA f (l.take y.2.toNat)).length ≤ (l.take y.2.toNat).length := List.length_filter_le _ _
      rw [← e, List.length_take] at this
      omega
    have e := take_succ l y.2 (Ty.zero AdT) h0 h
    refine ⟨h0, h, fun hf => ⟨h0, h, ?_, ?_⟩, fun hf => ?_⟩
    · have e1 : List.length (α := Ad) [l.getD y.2.toNat (Ty.zero AdT)] = 1 := rfl
      have : (List.length (α := Ad) y.1 + 1) * 32 ≤ 140737488355328 := by omega
      exact this
    · rw [step h0 (by omega) h]
      refine ⟨⟨by omega, by omega, ?_⟩, wcut h0 h⟩
      have e2 := ofA_snoc f (l.take y.2.toNat) (l.getD y.2.toNat (Ty.zero AdT))
      rw [if_pos hf] at e2
      exact (congrArg (· ++ [l.getD y.2.toNat (Ty.zero AdT)]) hi.a).trans (e2.symm.trans (congrArg (ofA f) e.symm))
    · rw [step h0 (by omega) h]
      refine ⟨⟨by omega, by omega, ?_⟩, wcut h0 h⟩
      have e2 := ofA_snoc f (l.take y.2.toNat) (l.getD y.2.toNat (Ty.zero AdT))
      rw [if_neg hf] at e2
      exact hi.a.trans (e2.symm.trans (congrArg (ofA f) e.symm))
  · have := hi.i0
    have e := hi.a
    rw [List.take_of_length_le (by omega)] at e
    rw [e]
end Go.Proofs.YtkimpfoimblhjaaDoor.Ad
namespace Go.Proofs.YtkimpfoimblhjaaDoor.Ad
open Go Go.Eng Go.Lb Go.Ad Lb Go.Proofs.St
set_option maxRecDepth 100000
theorem val48 : Valid Tryd.prog GA 48 cLessA := Valid.T (mkValid gas Tb.mix Tb.tab_ok Tb.eqs_ok g48 rfl allV_nil allI_nil Tryd.func48 (by kernel_rfl) v48)
theorem val49 : Valid Tryd.prog GA 49 cSortedA := Valid.T (mkValid gas Tb.mix Tb.tab_ok Tb.eqs_ok g49 rfl (allV_cons val48 allV_nil) allI_nil Tryd.func49 (by kernel_rfl) v49)
theorem val50 : Valid Tryd.prog GA 50 cOf := Valid.T (mkValid gas Tb.mix Tb.tab_ok Tb.eqs_ok g50 rfl allV_nil allI_nil Tryd.func50 (by kernel_rfl) v50)
end Go.Proofs.YtkimpfoimblhjaaDoor.Ad
namespace Go.Proofs.YtkimpfoimblhjaaDoor.Ad
open Go Go.Eng Go.Lb Go.Ad Lb Go.Proofs.St
set_option maxRecDepth 100000
noncomputable def g14 : Cfg := { tab := Tb.tab, cons := [(15, cMay), (16, cWk), (17, cText), (18, cParse), (19, cGreat), (20, cOf), (25, cSameA), (42, cLessA), (43, cSortedA), (45, cText), (46, cParse), (47, cMay), (48, cLessA), (49, cSortedA), (50, cOf)], inls := [], loops := [], cuts := [], unroll := false, arrs := [], keys := [] }
end Go.Proofs.YtkimpfoimblhjaaDoor.Ad
namespace Go.Proofs.YtkimpfoimblhjaaDoor.Ad
open Go Go.Eng Go.Lb Go.Ad Lb Go.Proofs.St
set_option maxRecDepth 100000
theorem v14_eq : vcFn g14 300 Tryd.f14 ((cLw aTells)).T = ( ∀ (x : (Ad) × (Ad) × ByteArray × List (Ad) × Int × Unit), Wr (typedB aTells x = true ∧ True) → Wr ((!decide ((↑(ByteArray.size x.2.2.1) : Int) > (2000 : Int))) = true → true = true) ∧ bcase (decide ((↑(ByteArray.size
  x.2.2.1) : Int) > (2000 : Int)) || decide ((60 : Nat) < List.length x.2.2.2.1)) (Wr True ∧ (true, ()) = (true, ())) (E true ∧ E true ∧ Wr (szOk x.2.2.1 = true) ∧ Wr (szOk x.2.2.1 = true) ∧ Wr ((!(!decide (Go.Ad.text1
  x.1 = Go.Ad.text1 x.1) || !decide (Go.Ad.text2 x.1 = Go.Ad.text2 x.1) || !Ty.eqb AdT (Go.Ad.parse1 x.2.2.1) (Go.Ad.parse1 x.2.2.1) || !decide (Go.Ad.parse2 x.2.2.1 = Go.Ad.parse2 x.2.2.1))) = true → lenA (x.1 :: nilL
  (Ad)) = true) ∧ Wr ((!(!decide (Go.Ad.text1 x.1 = Go.Ad.text1 x.1) || !decide (Go.Ad.text2 x.1 = Go.Ad.text2 x.1) || !Ty.eqb AdT (Go.Ad.parse1 x.2.2.1) (Go.Ad.parse1 x.2.2.1) || !decide (Go.Ad.parse2 x.2.2.1 =
  Go.Ad.parse2 x.2.2.1))) = true → lenA (x.1 :: nilL (Ad)) = true) ∧ Wr ((!(!decide (Go.Ad.text1 x.1 = Go.Ad.text1 x.1) || !decide (Go.Ad.text2 x.1 = Go.Ad.text2 x.1) || !Ty.eqb AdT (Go.Ad.parse1 x.2.2.1) (Go.Ad.parse1
  x.2.2.1) || !decide (Go.Ad.parse2 x.2.2.1 = Go.Ad.parse2 x.2.2.1) || !Go.Ad.mayA (x.1 :: nilL (Ad)) == Go.Ad.mayA (x.1 :: nilL (Ad)))) = true → lenA x.2.2.2.1 = true) ∧ Wr ((!(!decide (Go.Ad.text1 x.1 = Go.Ad.text1 x.1)
  || !decide (Go.Ad.text2 x.1 = Go.Ad.text2 x.1) || !Ty.eqb AdT (Go.Ad.parse1 x.2.2.1) (Go.Ad.parse1 x.2.2.1) || !decide (Go.Ad.parse2 x.2.2.1 = Go.Ad.parse2 x.2.2.1) || !Go.Ad.mayA (x.1 :: nilL (Ad)) == Go.Ad.mayA (x.1
  :: nilL (Ad)))) = true → lenA x.2.2.2.1 = true) ∧ Wr ((!(!decide (Go.Ad.text1 x.1 = Go.Ad.text1 x.1) || !decide (Go.Ad.text2 x.1 = Go.Ad.text2 x.1) || !Ty.eqb AdT (Go.Ad.parse1 x.2.2.1) (Go.Ad.parse1 x.2.2.1) || !decide
  (Go.Ad.parse2 x.2.2.1 = Go.Ad.parse2 x.2.2.1) || !Go.Ad.mayA (x.1 :: nilL (Ad)) == Go.Ad.mayA (x.1 :: nilL (Ad)) || !Go.Ad.mayA x.2.2.2.1 == Go.Ad.mayA x.2.2.2.1)) = true → true = true) ∧ Wr ((!(!decide (Go.Ad.text1 x.1
  = Go.Ad.text1 x.1) || !decide (Go.Ad.text2 x.1 = Go.Ad.text2 x.1) || !Ty.eqb AdT (Go.Ad.parse1 x.2.2.1) (Go.Ad.parse1 x.2.2.1) || !decide (Go.Ad.parse2 x.2.2.1 = Go.Ad.parse2 x.2.2.1) || !Go.Ad.mayA (x.1 :: nilL (Ad))
  == Go.Ad.mayA (x.1 :: nilL (Ad)) || !Go.Ad.mayA x.2.2.2.1 == Go.Ad.mayA x.2.2.2.1)) = true → true = true) ∧ bcase (!decide (Go.Ad.text1 x.1 = Go.Ad.text1 x.1) || !decide (Go.Ad.text2 x.1 = Go.Ad.text2 x.1) || !Ty.eqb
  AdT (Go.Ad.parse1 x.2.2.1) (Go.Ad.parse1 x.2.2.1) || !decide (Go.Ad.parse2 x.2.2.1 = Go.Ad.parse2 x.2.2.1) || !Go.Ad.mayA (x.1 :: nilL (Ad)) == Go.Ad.mayA (x.1 :: nilL (Ad)) || !Go.Ad.mayA x.2.2.2.1 == Go.Ad.mayA
  x.2.2.2.1 || !ltA x.1 x.2.1 == ltA x.1 x.2.1) ((false, ()) = (true, ())) (Wr (decide (List.length x.2.2.2.1 ≤ (60 : Nat)) = true) ∧ Wr (decide (List.length x.2.2.2.1 ≤ (60 : Nat)) = true) ∧ Wr (lenA (srt ltA x.2.2.2.1)
  = true) ∧ Wr (sameLs (srt ltA x.2.2.2.1) (srt ltA x.2.2.2.1) = true → lenA x.2.2.2.1 = true) ∧ Wr (sameLs (srt ltA x.2.2.2.1) (srt ltA x.2.2.2.1) = true → lenA x.2.2.2.1 = true) ∧ Wr (sameLs (srt ltA x.2.2.2.1) (srt ltA
  x.2.2.2.1) = true → lenA (Go.Ad.ofA x.2.2.2.2.1 x.2.2.2.1) = true) ∧ Wr ((sameLs (srt ltA x.2.2.2.1) (srt ltA x.2.2.2.1) && sameLs (Go.Ad.ofA x.2.2.2.2.1 x.2.2.2.1) (Go.Ad.ofA x.2.2.2.2.1 x.2.2.2.1)) = true → True) ∧
  (sameLs (srt ltA x.2.2.2.1) (srt ltA x.2.2.2.1) && sameLs (Go.Ad.ofA x.2.2.2.2.1 x.2.2.2.1) (Go.Ad.ofA x.2.2.2.2.1 x.2.2.2.1) && true, ()) = (true, ())))) := by kernel_rfl
end Go.Proofs.YtkimpfoimblhjaaDoor.Ad
set_option linter.all false
namespace Go.Proofs.YtkimpfoimblhjaaDoor.Ad
open Go Go.Eng Go.Lb Go.Ad Lb Go.Proofs.St
set_option maxRecDepth 100000
set_option maxHeartbeats 4000000
theorem v14 : Vc g14 300 Tryd.f14 (cLw aTells).T := by
  constructor
  rw [v14_eq]
  simp only [Wr_iff, E_iff, bcase_iff, true_and, and_true, decide_eq_true_eq, decide_eq_false_iff_not, Bool.and_eq_true, Bool.and_eq_false_iff, Bool.or_eq_true, Bool.or_eq_false_iff, Bool.not_eq_true', Bool.not_eq_false', Option.map_some, Option.getD_some, Option.isSome_some, Option.isSome_map, imp_self, nilL, noneO]
  rintro ⟨a, b, s, l, f, ⟨⟩⟩ ht
  dsimp only at *
  have hT : Ty.eqb AdT (parse1 s) (parse1 s) = true := by rw [eqAA]; exact decide_eq_true rfl
  have hS : ∀ m : List Ad, sameLs m m = true := fun m => decide_eq_true rfl
  have hsz : ¬ (s.size : Int) > 2000 → szOk s = true := fun h => decide_eq_true (by omega)
  refine ⟨fun _ => trivial, fun _ => trivial, fun h => ?_⟩
  have h60 : l.length ≤ 60 := by have := h.2; omega
  have hl : lenA l = true := (lenA_iff l).2 (by omega)
  have h1 : lenA [a] = true := (lenA_iff _).2 (by show 1 ≤ 100000; omega)
  have hs : lenA (srt ltA l) = true := (lenA_iff _).2 (by rw [(srt_perm (lt := ltA) l).length_eq]; omega)
  have ho : lenA (ofA f l) = true := (lenA_iff _).2 (by
    have : (ofA f l).length ≤ l.length := List.length_filter_le _ _
    omega)
  refine ⟨hsz h.1, hsz h.1, fun _ => h1, fun _ => h1, fun _ => hl, fun _ => hl, fun _ => trivial, fun _ => trivial, fun h2 => ?_, fun _ => ⟨h60, h60, hs, fun _ => hl, fun _ => hl, fun _ => ho, fun _ => trivial, by rw [hS, hS]; rfl⟩⟩
  rcases h2 with (((((h2 | h2) | h2) | h2) | h2) | h2) | h2
  · exact absurd trivial h2
  · exact absurd trivial h2
  · exact absurd (hT.symm.trans h2) (by decide)
  · exact absurd trivial h2
  · rw [beq_self_eq_true] at h2; cases h2
  · rw [beq_self_eq_true] at h2; cases h2
  · rw [beq_self_eq_true] at h2; cases h2
end Go.Proofs.YtkimpfoimblhjaaDoor.Ad
namespace Go.Proofs.YtkimpfoimblhjaaDoor.Ad
open Go Go.Eng Go.Lb Go.Ad Lb Go.Proofs.St
set_option maxRecDepth 100000
theorem val14 : Valid Tryd.prog GA 14 ((cLw aTells)) := Valid.T (mkValid gas Tb.mix Tb.tab_ok Tb.eqs_ok g14 rfl (allV_cons val15 (allV_cons val16 (allV_cons val17 (allV_cons val18 (allV_cons val19 (allV_cons val20 (allV_cons val25 (allV_cons val42 (allV_cons val43 (allV_cons val45 (allV_cons val46 (allV_cons val47 (allV_cons val48 (allV_cons val49 (allV_cons val50 allV_nil))))))))))))))) allI_nil Tryd.func14 (by kernel_rfl) v14)
end Go.Proofs.YtkimpfoimblhjaaDoor.Ad

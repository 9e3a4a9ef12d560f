/-
  A text of mine, of several parts: Wd3Vc, WdP5, WdP6, Wd3V.
-/
import Derived.Test.YtfhlceooobabcaaDoorWfa
import Derived.Test.YtfhlceooobabcaaDoorWfb
import Derived.Test.YtfhlceooobabcaaDoorWfc
import Derived.Test.YtfhlceooobabcaaDoorWfd
set_option linter.all false
namespace Go.Proofs.YtfhlceooobabcaaDoor.Wd
open Go Go.Eng Go.Lb Go.Ad
set_option maxRecDepth 100000
theorem v21_eq : vcFn g21 300 Tryd.f21 cMay1 = ( ∀ (x : (Int × (Int × Int × Int × Int × Int × Int × Int × Int × Unit) × Int × Unit) × Unit), Wr (Bool.true = Bool.true) → bcase (Decidable.decide (x.fst.snd.snd.fst < (1 : Int)) || Decidable.decide (x.fst.snd.snd.fst >
  (65535 : Int)) || !Decidable.decide (x.fst.fst = (4 : Int)) && !Decidable.decide (x.fst.fst = (6 : Int))) ((Bool.false, ()) = (Go.Ad.may1 x.fst, ())) ((Wr (May2I x.fst (2 : Int)) ∧ Wr ((2 : Int) = (2 : Int)) ∧ Wr
  (x.fst.fst = x.fst.fst) ∧ Wr (x.fst.snd.fst.fst = x.fst.snd.fst.fst) ∧ Wr (x.fst.snd.fst.snd.fst = x.fst.snd.fst.snd.fst) ∧ Wr (x.fst.snd.fst.snd.snd.fst = x.fst.snd.fst.snd.snd.fst) ∧ Wr (x.fst.snd.fst.snd.snd.snd.fst
  = x.fst.snd.fst.snd.snd.snd.fst) ∧ Wr (x.fst.snd.fst.snd.snd.snd.snd.fst = x.fst.snd.fst.snd.snd.snd.snd.fst) ∧ Wr (x.fst.snd.fst.snd.snd.snd.snd.snd.fst = x.fst.snd.fst.snd.snd.snd.snd.snd.fst) ∧ Wr
  (x.fst.snd.fst.snd.snd.snd.snd.snd.snd.fst = x.fst.snd.fst.snd.snd.snd.snd.snd.snd.fst) ∧ Wr (x.fst.snd.fst.snd.snd.snd.snd.snd.snd.snd.fst = x.fst.snd.fst.snd.snd.snd.snd.snd.snd.snd.fst) ∧ Wr (x.fst.snd.snd.fst =
  x.fst.snd.snd.fst)) ∧ ∀ (x_1 : Int), Wr (May2I x.fst x_1) → bcase (Decidable.decide (x_1 < (8 : Int)) && Decidable.decide (x.fst.fst = (4 : Int))) (Wr ((0 : Int) ≤ x_1) ∧ Wr (x_1 < (↑(8 : Nat) : Int)) ∧ bcase
  (!Decidable.decide (List.getD (x.fst.snd.fst.fst :: x.fst.snd.fst.snd.fst :: x.fst.snd.fst.snd.snd.fst :: x.fst.snd.fst.snd.snd.snd.fst :: x.fst.snd.fst.snd.snd.snd.snd.fst :: x.fst.snd.fst.snd.snd.snd.snd.snd.fst ::
  x.fst.snd.fst.snd.snd.snd.snd.snd.snd.fst :: x.fst.snd.fst.snd.snd.snd.snd.snd.snd.snd.fst :: nilL Int) (Int.toNat x_1) (0 : Int) = (0 : Int))) ((Bool.false, ()) = (Go.Ad.may1 x.fst, ())) (Wr (May2I x.fst (IntKind.wrap
  IntKind.i64 (x_1 + (1 : Int)))) ∧ Wr ((8 : Nat) - Int.toNat (IntKind.wrap IntKind.i64 (x_1 + (1 : Int))) < (8 : Nat) - Int.toNat x_1) ∧ Wr (IntKind.wrap IntKind.i64 (x_1 + (1 : Int)) = IntKind.wrap IntKind.i64 (x_1 + (1
  : Int))) ∧ Wr (x.fst.fst = x.fst.fst) ∧ Wr (x.fst.snd.fst.fst = x.fst.snd.fst.fst) ∧ Wr (x.fst.snd.fst.snd.fst = x.fst.snd.fst.snd.fst) ∧ Wr (x.fst.snd.fst.snd.snd.fst = x.fst.snd.fst.snd.snd.fst) ∧ Wr
  (x.fst.snd.fst.snd.snd.snd.fst = x.fst.snd.fst.snd.snd.snd.fst) ∧ Wr (x.fst.snd.fst.snd.snd.snd.snd.fst = x.fst.snd.fst.snd.snd.snd.snd.fst) ∧ Wr (x.fst.snd.fst.snd.snd.snd.snd.snd.fst =
  x.fst.snd.fst.snd.snd.snd.snd.snd.fst) ∧ Wr (x.fst.snd.fst.snd.snd.snd.snd.snd.snd.fst = x.fst.snd.fst.snd.snd.snd.snd.snd.snd.fst) ∧ Wr (x.fst.snd.fst.snd.snd.snd.snd.snd.snd.snd.fst =
  x.fst.snd.fst.snd.snd.snd.snd.snd.snd.snd.fst) ∧ Wr (x.fst.snd.snd.fst = x.fst.snd.snd.fst))) ((Bool.true, ()) = (Go.Ad.may1 x.fst, ())))) := by kernel_rfl
theorem v8_eq : vcFn g8 300 Tryd.f8 cMay = ( ∀ (x : List (Int × (Int × Int × Int × Int × Int × Int × Int × Int × Unit) × Int × Unit) × Unit), Wr (lenA x.fst = Bool.true) → (Wr (MayI x.fst (0 : Int)) ∧ Wr ((0 : Int) = (0 : Int)) ∧ Wr (x.fst = x.fst)) ∧ ∀ (x_1 :
  Int), Wr (MayI x.fst x_1) → bcase (Decidable.decide (x_1 < (↑(List.length x.fst) : Int))) (Wr ((0 : Int) ≤ x_1) ∧ Wr (x_1 < (↑(List.length x.fst) : Int)) ∧ Wr (Bool.true = Bool.true) ∧ Wr (Bool.true = Bool.true) ∧ bcase
  (!Go.Ad.may1 (List.getD x.fst (Int.toNat x_1) (Ty.zero AdT))) ((Bool.false, ()) = (Go.Ad.mayA x.fst, ())) (Wr (MayI x.fst (IntKind.wrap IntKind.i64 (x_1 + (1 : Int)))) ∧ Wr (List.length x.fst - Int.toNat (IntKind.wrap
  IntKind.i64 (x_1 + (1 : Int))) < List.length x.fst - Int.toNat x_1) ∧ Wr (IntKind.wrap IntKind.i64 (x_1 + (1 : Int)) = IntKind.wrap IntKind.i64 (x_1 + (1 : Int))) ∧ Wr (x.fst = x.fst))) ((Bool.true, ()) = (Go.Ad.mayA
  x.fst, ()))) := by kernel_rfl
theorem v24_eq : vcFn g24 300 Tryd.f24 cRowIx = ( ∀ (x : (List (ByteArray × List (List (Int × (Int × Int × Int × Int × Int × Int × Int × Int × Unit) × Int × Unit)) × Unit) × List ((Int × (Int × Int × Int × Int × Int × Int × Int × Int × Unit) × Int × Unit) × List Int ×
  Unit) × Int × List Int × Unit) × (Int × (Int × Int × Int × Int × Int × Int × Int × Int × Unit) × Int × Unit) × Unit), Wr (okP x.fst = Bool.true) → (Wr (IdxI (adIs x.snd.fst) x.fst.snd.fst (0 : Int)) ∧ Wr ((0 : Int) = (0
  : Int)) ∧ Wr (x.fst.fst = x.fst.fst) ∧ Wr (x.fst.snd.fst = x.fst.snd.fst) ∧ Wr (x.fst.snd.snd.fst = x.fst.snd.snd.fst) ∧ Wr (x.fst.snd.snd.snd.fst = x.fst.snd.snd.snd.fst) ∧ Wr (x.snd.fst.fst = x.snd.fst.fst) ∧ Wr
  (x.snd.fst.snd.fst.fst = x.snd.fst.snd.fst.fst) ∧ Wr (x.snd.fst.snd.fst.snd.fst = x.snd.fst.snd.fst.snd.fst) ∧ Wr (x.snd.fst.snd.fst.snd.snd.fst = x.snd.fst.snd.fst.snd.snd.fst) ∧ Wr (x.snd.fst.snd.fst.snd.snd.snd.fst =
  x.snd.fst.snd.fst.snd.snd.snd.fst) ∧ Wr (x.snd.fst.snd.fst.snd.snd.snd.snd.fst = x.snd.fst.snd.fst.snd.snd.snd.snd.fst) ∧ Wr (x.snd.fst.snd.fst.snd.snd.snd.snd.snd.fst = x.snd.fst.snd.fst.snd.snd.snd.snd.snd.fst) ∧ Wr
  (x.snd.fst.snd.fst.snd.snd.snd.snd.snd.snd.fst = x.snd.fst.snd.fst.snd.snd.snd.snd.snd.snd.fst) ∧ Wr (x.snd.fst.snd.fst.snd.snd.snd.snd.snd.snd.snd.fst = x.snd.fst.snd.fst.snd.snd.snd.snd.snd.snd.snd.fst) ∧ Wr
  (x.snd.fst.snd.snd.fst = x.snd.fst.snd.snd.fst)) ∧ ∀ (x_1 : Int), Wr (IdxI (adIs x.snd.fst) x.fst.snd.fst x_1) → bcase (Decidable.decide (x_1 < (↑(List.length x.fst.snd.fst) : Int))) (Wr ((0 : Int) ≤ x_1) ∧ Wr (x_1 <
  (↑(List.length x.fst.snd.fst) : Int)) ∧ Wr (Bool.true = Bool.true) ∧ Wr (Bool.true = Bool.true) ∧ bcase (Ty.eqb (Ty.cons (Ty.int IntKind.i8) (Ty.cons (Ty.arr (8 : Nat) (Ty.int IntKind.u16)) (Ty.cons (Ty.int IntKind.i64)
  Ty.unit))) (List.getD x.fst.snd.fst (Int.toNat x_1) (Ty.zero FatT)).fst x.snd.fst) ((x_1, ()) = (idxZ (adIs x.snd.fst) x.fst.snd.fst, ())) (Wr (IdxI (adIs x.snd.fst) x.fst.snd.fst (IntKind.wrap IntKind.i64 (x_1 + (1 :
  Int)))) ∧ Wr (List.length x.fst.snd.fst - Int.toNat (IntKind.wrap IntKind.i64 (x_1 + (1 : Int))) < List.length x.fst.snd.fst - Int.toNat x_1) ∧ Wr (IntKind.wrap IntKind.i64 (x_1 + (1 : Int)) = IntKind.wrap IntKind.i64
  (x_1 + (1 : Int))) ∧ Wr (x.fst.fst = x.fst.fst) ∧ Wr (x.fst.snd.fst = x.fst.snd.fst) ∧ Wr (x.fst.snd.snd.fst = x.fst.snd.snd.fst) ∧ Wr (x.fst.snd.snd.snd.fst = x.fst.snd.snd.snd.fst) ∧ Wr (x.snd.fst.fst = x.snd.fst.fst)
  ∧ Wr (x.snd.fst.snd.fst.fst = x.snd.fst.snd.fst.fst) ∧ Wr (x.snd.fst.snd.fst.snd.fst = x.snd.fst.snd.fst.snd.fst) ∧ Wr (x.snd.fst.snd.fst.snd.snd.fst = x.snd.fst.snd.fst.snd.snd.fst) ∧ Wr
  (x.snd.fst.snd.fst.snd.snd.snd.fst = x.snd.fst.snd.fst.snd.snd.snd.fst) ∧ Wr (x.snd.fst.snd.fst.snd.snd.snd.snd.fst = x.snd.fst.snd.fst.snd.snd.snd.snd.fst) ∧ Wr (x.snd.fst.snd.fst.snd.snd.snd.snd.snd.fst =
  x.snd.fst.snd.fst.snd.snd.snd.snd.snd.fst) ∧ Wr (x.snd.fst.snd.fst.snd.snd.snd.snd.snd.snd.fst = x.snd.fst.snd.fst.snd.snd.snd.snd.snd.snd.fst) ∧ Wr (x.snd.fst.snd.fst.snd.snd.snd.snd.snd.snd.snd.fst =
  x.snd.fst.snd.fst.snd.snd.snd.snd.snd.snd.snd.fst) ∧ Wr (x.snd.fst.snd.snd.fst = x.snd.fst.snd.snd.fst))) (((-1 : Int), ()) = (idxZ (adIs x.snd.fst) x.fst.snd.fst, ()))) := by kernel_rfl
theorem v25_eq : vcFn g25 300 Tryd.f25 cNth = ( ∀ (x : Int × Int × Unit), Wr ((Decidable.decide ((0 : Int) ≤ x.fst) && Decidable.decide (x.fst ≤ (1000000 : Int))) = Bool.true) → (Min.min (Max.max x.snd.fst (0 : Int)) (IntKind.wrap IntKind.i64 (x.fst - (1 : Int))), ())
  = (nthZ x.fst x.snd.fst, ())) := by kernel_rfl
theorem v10_eq : vcFn g10 300 Tryd.f10 cGood = ( ∀ (x : (List (ByteArray × List (List (Int × (Int × Int × Int × Int × Int × Int × Int × Int × Unit) × Int × Unit)) × Unit) × List ((Int × (Int × Int × Int × Int × Int × Int × Int × Int × Unit) × Int × Unit) × List Int ×
  Unit) × Int × List Int × Unit) × List (Int × (Int × Int × Int × Int × Int × Int × Int × Int × Unit) × Int × Unit) × Unit), Wr ((okP x.fst && lenA x.snd.fst) = Bool.true) → (Wr (IdxI (notB (goodA x.fst)) x.snd.fst (0 :
  Int)) ∧ Wr ((0 : Int) = (0 : Int)) ∧ Wr (x.snd.fst = x.snd.fst) ∧ Wr (x.fst.fst = x.fst.fst) ∧ Wr (x.fst.snd.fst = x.fst.snd.fst) ∧ Wr (x.fst.snd.snd.fst = x.fst.snd.snd.fst) ∧ Wr (x.fst.snd.snd.snd.fst =
  x.fst.snd.snd.snd.fst)) ∧ ∀ (x_1 : Int), Wr (IdxI (notB (goodA x.fst)) x.snd.fst x_1) → bcase (Decidable.decide (x_1 < (↑(List.length x.snd.fst) : Int))) (Wr ((0 : Int) ≤ x_1) ∧ Wr (x_1 < (↑(List.length x.snd.fst) :
  Int)) ∧ Wr (Bool.true = Bool.true) ∧ Wr (okP x.fst = Bool.true) ∧ Wr ((!Decidable.decide (idxZ (adIs (List.getD x.snd.fst (Int.toNat x_1) (Ty.zero AdT))) x.fst.snd.fst < (0 : Int))) = Bool.true → (0 : Int) ≤ idxZ (adIs
  (List.getD x.snd.fst (Int.toNat x_1) (Ty.zero AdT))) x.fst.snd.fst) ∧ Wr ((!Decidable.decide (idxZ (adIs (List.getD x.snd.fst (Int.toNat x_1) (Ty.zero AdT))) x.fst.snd.fst < (0 : Int))) = Bool.true → idxZ (adIs
  (List.getD x.snd.fst (Int.toNat x_1) (Ty.zero AdT))) x.fst.snd.fst < (↑(List.length x.fst.snd.fst) : Int)) ∧ Wr ((!Decidable.decide (idxZ (adIs (List.getD x.snd.fst (Int.toNat x_1) (Ty.zero AdT))) x.fst.snd.fst < (0 :
  Int))) = Bool.true → Bool.true = Bool.true) ∧ Wr ((!Decidable.decide (idxZ (adIs (List.getD x.snd.fst (Int.toNat x_1) (Ty.zero AdT))) x.fst.snd.fst < (0 : Int))) = Bool.true → Bool.true = Bool.true) ∧ bcase
  (Decidable.decide (idxZ (adIs (List.getD x.snd.fst (Int.toNat x_1) (Ty.zero AdT))) x.fst.snd.fst < (0 : Int)) || Decidable.decide ((↑(List.length (List.getD x.fst.snd.fst (Int.toNat (idxZ (adIs (List.getD x.snd.fst
  (Int.toNat x_1) (Ty.zero AdT))) x.fst.snd.fst)) (Ty.zero FatT)).snd.fst) : Int) = (0 : Int))) ((Bool.false, ()) = (List.all x.snd.fst (goodA x.fst), ())) ((Wr (FatsI x.fst x.snd.fst x_1 (idxZ (adIs (List.getD x.snd.fst
  (Int.toNat x_1) (Ty.zero AdT))) x.fst.snd.fst) (0 : Int)) ∧ Wr ((0 : Int) = (0 : Int)) ∧ Wr (x.snd.fst = x.snd.fst) ∧ Wr (x_1 = x_1) ∧ Wr (idxZ (adIs (List.getD x.snd.fst (Int.toNat x_1) (Ty.zero AdT))) x.fst.snd.fst =
  idxZ (adIs (List.getD x.snd.fst (Int.toNat x_1) (Ty.zero AdT))) x.fst.snd.fst) ∧ Wr (x.fst.fst = x.fst.fst) ∧ Wr (x.fst.snd.fst = x.fst.snd.fst) ∧ Wr (x.fst.snd.snd.fst = x.fst.snd.snd.fst) ∧ Wr (x.fst.snd.snd.snd.fst =
  x.fst.snd.snd.snd.fst)) ∧ ∀ (x_2 : Int), Wr (FatsI x.fst x.snd.fst x_1 (idxZ (adIs (List.getD x.snd.fst (Int.toNat x_1) (Ty.zero AdT))) x.fst.snd.fst) x_2) → Wr ((0 : Int) ≤ idxZ (adIs (List.getD x.snd.fst (Int.toNat
  x_1) (Ty.zero AdT))) x.fst.snd.fst) ∧ Wr (idxZ (adIs (List.getD x.snd.fst (Int.toNat x_1) (Ty.zero AdT))) x.fst.snd.fst < (↑(List.length x.fst.snd.fst) : Int)) ∧ Wr (Bool.true = Bool.true) ∧ Wr (Bool.true = Bool.true) ∧
  bcase (Decidable.decide (x_2 < (↑(List.length (List.getD x.fst.snd.fst (Int.toNat (idxZ (adIs (List.getD x.snd.fst (Int.toNat x_1) (Ty.zero AdT))) x.fst.snd.fst)) (Ty.zero FatT)).snd.fst) : Int))) (Wr ((0 : Int) ≤ idxZ
  (adIs (List.getD x.snd.fst (Int.toNat x_1) (Ty.zero AdT))) x.fst.snd.fst) ∧ Wr (idxZ (adIs (List.getD x.snd.fst (Int.toNat x_1) (Ty.zero AdT))) x.fst.snd.fst < (↑(List.length x.fst.snd.fst) : Int)) ∧ Wr (Bool.true =
  Bool.true) ∧ Wr (Bool.true = Bool.true) ∧ Wr ((0 : Int) ≤ x_2) ∧ Wr (x_2 < (↑(List.length (List.getD x.fst.snd.fst (Int.toNat (idxZ (adIs (List.getD x.snd.fst (Int.toNat x_1) (Ty.zero AdT))) x.fst.snd.fst)) (Ty.zero
  FatT)).snd.fst) : Int)) ∧ Wr (Bool.true = Bool.true) ∧ bcase (!Decidable.decide (List.getD (List.getD x.fst.snd.fst (Int.toNat (idxZ (adIs (List.getD x.snd.fst (Int.toNat x_1) (Ty.zero AdT))) x.fst.snd.fst)) (Ty.zero
  FatT)).snd.fst (Int.toNat x_2) (0 : Int) = (0 : Int))) ((Bool.false, ()) = (List.all x.snd.fst (goodA x.fst), ())) (Wr (FatsI x.fst x.snd.fst x_1 (idxZ (adIs (List.getD x.snd.fst (Int.toNat x_1) (Ty.zero AdT)))
  x.fst.snd.fst) (IntKind.wrap IntKind.i64 (x_2 + (1 : Int)))) ∧ Wr ((1000000 : Nat) - Int.toNat (IntKind.wrap IntKind.i64 (x_2 + (1 : Int))) < (1000000 : Nat) - Int.toNat x_2) ∧ Wr (IntKind.wrap IntKind.i64 (x_2 + (1 :
  Int)) = IntKind.wrap IntKind.i64 (x_2 + (1 : Int))) ∧ Wr (x.snd.fst = x.snd.fst) ∧ Wr (x_1 = x_1) ∧ Wr (idxZ (adIs (List.getD x.snd.fst (Int.toNat x_1) (Ty.zero AdT))) x.fst.snd.fst = idxZ (adIs (List.getD x.snd.fst
  (Int.toNat x_1) (Ty.zero AdT))) x.fst.snd.fst) ∧ Wr (x.fst.fst = x.fst.fst) ∧ Wr (x.fst.snd.fst = x.fst.snd.fst) ∧ Wr (x.fst.snd.snd.fst = x.fst.snd.snd.fst) ∧ Wr (x.fst.snd.snd.snd.fst = x.fst.snd.snd.snd.fst))) (Wr
  (IdxI (notB (goodA x.fst)) x.snd.fst (IntKind.wrap IntKind.i64 (x_1 + (1 : Int)))) ∧ Wr (List.length x.snd.fst - Int.toNat (IntKind.wrap IntKind.i64 (x_1 + (1 : Int))) < List.length x.snd.fst - Int.toNat x_1) ∧ Wr
  (IntKind.wrap IntKind.i64 (x_1 + (1 : Int)) = IntKind.wrap IntKind.i64 (x_1 + (1 : Int))) ∧ Wr (x.snd.fst = x.snd.fst) ∧ Wr (x.fst.fst = x.fst.fst) ∧ Wr (x.fst.snd.fst = x.fst.snd.fst) ∧ Wr (x.fst.snd.snd.fst =
  x.fst.snd.snd.fst) ∧ Wr (x.fst.snd.snd.snd.fst = x.fst.snd.snd.snd.fst)))) ((Bool.true, ()) = (List.all x.snd.fst (goodA x.fst), ()))) := by kernel_rfl
theorem v11_eq : vcFn g11 300 Tryd.f11 cFate = ( ∀ (x : (List (ByteArray × List (List (Int × (Int × Int × Int × Int × Int × Int × Int × Int × Unit) × Int × Unit)) × Unit) × List ((Int × (Int × Int × Int × Int × Int × Int × Int × Int × Unit) × Int × Unit) × List Int ×
  Unit) × Int × List Int × Unit) × (Int × (Int × Int × Int × Int × Int × Int × Int × Int × Unit) × Int × Unit) × Int × Unit), Wr (okP x.fst = Bool.true) → Wr (okP x.fst = Bool.true) ∧ Wr ((!Decidable.decide (idxZ (adIs
  x.snd.fst) x.fst.snd.fst < (0 : Int))) = Bool.true → (0 : Int) ≤ idxZ (adIs x.snd.fst) x.fst.snd.fst) ∧ Wr ((!Decidable.decide (idxZ (adIs x.snd.fst) x.fst.snd.fst < (0 : Int))) = Bool.true → idxZ (adIs x.snd.fst)
  x.fst.snd.fst < (↑(List.length x.fst.snd.fst) : Int)) ∧ Wr ((!Decidable.decide (idxZ (adIs x.snd.fst) x.fst.snd.fst < (0 : Int))) = Bool.true → Bool.true = Bool.true) ∧ Wr ((!Decidable.decide (idxZ (adIs x.snd.fst)
  x.fst.snd.fst < (0 : Int))) = Bool.true → Bool.true = Bool.true) ∧ bcase (Decidable.decide (idxZ (adIs x.snd.fst) x.fst.snd.fst < (0 : Int)) || Decidable.decide ((↑(List.length (List.getD x.fst.snd.fst (Int.toNat (idxZ
  (adIs x.snd.fst) x.fst.snd.fst)) (Ty.zero FatT)).snd.fst) : Int) = (0 : Int))) (((1 : Int), ()) = (fateF x.fst x.snd.fst x.snd.snd.fst, ())) (Wr ((0 : Int) ≤ idxZ (adIs x.snd.fst) x.fst.snd.fst) ∧ Wr (idxZ (adIs
  x.snd.fst) x.fst.snd.fst < (↑(List.length x.fst.snd.fst) : Int)) ∧ Wr (Bool.true = Bool.true) ∧ Wr (Bool.true = Bool.true) ∧ Wr ((0 : Int) ≤ idxZ (adIs x.snd.fst) x.fst.snd.fst) ∧ Wr (idxZ (adIs x.snd.fst) x.fst.snd.fst
  < (↑(List.length x.fst.snd.fst) : Int)) ∧ Wr (Bool.true = Bool.true) ∧ Wr (Bool.true = Bool.true) ∧ Wr ((Decidable.decide ((0 : Int) ≤ (↑(List.length (List.getD x.fst.snd.fst (Int.toNat (idxZ (adIs x.snd.fst)
  x.fst.snd.fst)) (Ty.zero FatT)).snd.fst) : Int)) && Decidable.decide ((↑(List.length (List.getD x.fst.snd.fst (Int.toNat (idxZ (adIs x.snd.fst) x.fst.snd.fst)) (Ty.zero FatT)).snd.fst) : Int) ≤ (1000000 : Int))) =
  Bool.true) ∧ Wr ((0 : Int) ≤ nthZ (↑(List.length (List.getD x.fst.snd.fst (Int.toNat (idxZ (adIs x.snd.fst) x.fst.snd.fst)) (Ty.zero FatT)).snd.fst) : Int) x.snd.snd.fst) ∧ Wr (nthZ (↑(List.length (List.getD
  x.fst.snd.fst (Int.toNat (idxZ (adIs x.snd.fst) x.fst.snd.fst)) (Ty.zero FatT)).snd.fst) : Int) x.snd.snd.fst < (↑(List.length (List.getD x.fst.snd.fst (Int.toNat (idxZ (adIs x.snd.fst) x.fst.snd.fst)) (Ty.zero
  FatT)).snd.fst) : Int)) ∧ Wr (Bool.true = Bool.true) ∧ (List.getD (List.getD x.fst.snd.fst (Int.toNat (idxZ (adIs x.snd.fst) x.fst.snd.fst)) (Ty.zero FatT)).snd.fst (Int.toNat (nthZ (↑(List.length (List.getD
  x.fst.snd.fst (Int.toNat (idxZ (adIs x.snd.fst) x.fst.snd.fst)) (Ty.zero FatT)).snd.fst) : Int) x.snd.snd.fst)) (0 : Int), ()) = (fateF x.fst x.snd.fst x.snd.snd.fst, ()))) := by kernel_rfl
theorem v3_eq : vcFn g3 300 Tryd.f3 ((cLw aFates)) = ( ∀ (x : (List (ByteArray × List (List (Int × (Int × Int × Int × Int × Int × Int × Int × Int × Unit) × Int × Unit)) × Unit) × List ((Int × (Int × Int × Int × Int × Int × Int × Int × Int × Unit) × Int × Unit) × List Int ×
  Unit) × Int × List Int × Unit) × (Int × (Int × Int × Int × Int × Int × Int × Int × Int × Unit) × Int × Unit) × List Bool × Unit), Wr True → Wr (Bool.true = Bool.true) ∧ (Wr ((0 : Int) ≤ (0 : Int)) ∧ Wr ((↑(List.length
  x.fst.snd.snd.snd.fst) : Int) = (↑(List.length x.fst.snd.snd.snd.fst) : Int)) ∧ Wr ((0 : Int) = (0 : Int)) ∧ Wr (x.fst.fst = x.fst.fst) ∧ Wr (x.fst.snd.fst = x.fst.snd.fst) ∧ Wr (x.fst.snd.snd.fst = x.fst.snd.snd.fst) ∧
  Wr (x.fst.snd.snd.snd.fst = x.fst.snd.snd.snd.fst) ∧ Wr ((newW x.fst).fst.fst = (newW x.fst).fst.fst) ∧ Wr ((newW x.fst).fst.snd.fst = (newW x.fst).fst.snd.fst) ∧ Wr ((newW x.fst).fst.snd.snd.fst = (newW
  x.fst).fst.snd.snd.fst) ∧ Wr ((newW x.fst).fst.snd.snd.snd.fst = (newW x.fst).fst.snd.snd.snd.fst) ∧ Wr ((newW x.fst).snd.fst = (newW x.fst).snd.fst) ∧ Wr ((newW x.fst).snd.snd.fst = (newW x.fst).snd.snd.fst) ∧ Wr
  ((newW x.fst).snd.snd.snd.fst = (newW x.fst).snd.snd.snd.fst) ∧ Wr ((newW x.fst).snd.snd.snd.snd.fst = (newW x.fst).snd.snd.snd.snd.fst) ∧ Wr ((newW x.fst).snd.snd.snd.snd.snd.fst = (newW x.fst).snd.snd.snd.snd.snd.fst)
  ∧ Wr ((newW x.fst).snd.snd.snd.snd.snd.snd.fst = (newW x.fst).snd.snd.snd.snd.snd.snd.fst) ∧ Wr ((newW x.fst).fst.fst = (newW x.fst).fst.fst) ∧ Wr ((newW x.fst).fst.snd.fst = (newW x.fst).fst.snd.fst) ∧ Wr ((newW
  x.fst).fst.snd.snd.fst = (newW x.fst).fst.snd.snd.fst) ∧ Wr ((newW x.fst).fst.snd.snd.snd.fst = (newW x.fst).fst.snd.snd.snd.fst) ∧ Wr ((newW x.fst).snd.fst = (newW x.fst).snd.fst) ∧ Wr ((newW x.fst).snd.snd.fst = (newW
  x.fst).snd.snd.fst) ∧ Wr ((newW x.fst).snd.snd.snd.fst = (newW x.fst).snd.snd.snd.fst) ∧ Wr ((newW x.fst).snd.snd.snd.snd.fst = (newW x.fst).snd.snd.snd.snd.fst) ∧ Wr ((newW x.fst).snd.snd.snd.snd.snd.fst = (newW
  x.fst).snd.snd.snd.snd.snd.fst) ∧ Wr ((newW x.fst).snd.snd.snd.snd.snd.snd.fst = (newW x.fst).snd.snd.snd.snd.snd.snd.fst) ∧ Wr (x.snd.fst.fst = x.snd.fst.fst) ∧ Wr (x.snd.fst.snd.fst.fst = x.snd.fst.snd.fst.fst) ∧ Wr
  (x.snd.fst.snd.fst.snd.fst = x.snd.fst.snd.fst.snd.fst) ∧ Wr (x.snd.fst.snd.fst.snd.snd.fst = x.snd.fst.snd.fst.snd.snd.fst) ∧ Wr (x.snd.fst.snd.fst.snd.snd.snd.fst = x.snd.fst.snd.fst.snd.snd.snd.fst) ∧ Wr
  (x.snd.fst.snd.fst.snd.snd.snd.snd.fst = x.snd.fst.snd.fst.snd.snd.snd.snd.fst) ∧ Wr (x.snd.fst.snd.fst.snd.snd.snd.snd.snd.fst = x.snd.fst.snd.fst.snd.snd.snd.snd.snd.fst) ∧ Wr
  (x.snd.fst.snd.fst.snd.snd.snd.snd.snd.snd.fst = x.snd.fst.snd.fst.snd.snd.snd.snd.snd.snd.fst) ∧ Wr (x.snd.fst.snd.fst.snd.snd.snd.snd.snd.snd.snd.fst = x.snd.fst.snd.fst.snd.snd.snd.snd.snd.snd.snd.fst) ∧ Wr
  (x.snd.fst.snd.snd.fst = x.snd.fst.snd.snd.fst) ∧ Wr (x.fst.fst = x.fst.fst) ∧ Wr (x.fst.snd.fst = x.fst.snd.fst) ∧ Wr (x.fst.snd.snd.fst = x.fst.snd.snd.fst) ∧ Wr (x.fst.snd.snd.snd.fst = x.fst.snd.snd.snd.fst)) ∧ ∀
  (x_1 : Int × Int), Wr ((0 : Int) ≤ x_1.snd) → bcase (Decidable.decide (x_1.snd < (↑(List.length x.fst.fst) : Int)) && Decidable.decide (x_1.snd ≤ (40 : Int))) (Wr ((0 : Int) ≤ x_1.snd) ∧ Wr (x_1.snd < (↑(List.length
  x.fst.fst) : Int)) ∧ Wr (Bool.true = Bool.true) ∧ Wr (Bool.true = Bool.true) ∧ Wr ((!Decidable.decide ((↑(List.length (List.getD x.fst.fst (Int.toNat x_1.snd) (Ty.zero ZoneT)).snd.fst) : Int) > (60 : Int))) = Bool.true
  → (0 : Int) ≤ x_1.snd) ∧ Wr ((!Decidable.decide ((↑(List.length (List.getD x.fst.fst (Int.toNat x_1.snd) (Ty.zero ZoneT)).snd.fst) : Int) > (60 : Int))) = Bool.true → x_1.snd < (↑(List.length x.fst.fst) : Int)) ∧ Wr
  ((!Decidable.decide ((↑(List.length (List.getD x.fst.fst (Int.toNat x_1.snd) (Ty.zero ZoneT)).snd.fst) : Int) > (60 : Int))) = Bool.true → Bool.true = Bool.true) ∧ Wr ((!Decidable.decide ((↑(List.length (List.getD
  x.fst.fst (Int.toNat x_1.snd) (Ty.zero ZoneT)).snd.fst) : Int) > (60 : Int))) = Bool.true → Bool.true = Bool.true) ∧ bcase (Decidable.decide ((↑(List.length (List.getD x.fst.fst (Int.toNat x_1.snd) (Ty.zero
  ZoneT)).snd.fst) : Int) > (60 : Int)) || Decidable.decide ((↑(ByteArray.size (List.getD x.fst.fst (Int.toNat x_1.snd) (Ty.zero ZoneT)).fst) : Int) > (400 : Int))) (Wr ((!(Bool.true || !Decidable.decide (check x.fst = (0
  : Int)) || Decidable.decide ((↑(List.length x.snd.snd.fst) : Int) > (40 : Int)))) = Bool.true → lenA (x.snd.fst :: nilL (Int × (Int × Int × Int × Int × Int × Int × Int × Int × Unit) × Int × Unit)) = Bool.true) ∧ Wr True
  ∧ (Bool.true, ()) = (Bool.true, ())) ((Wr (Gr2I x.fst.fst x_1.snd (0 : Int)) ∧ Wr (x_1.fst = x_1.fst) ∧ Wr ((0 : Int) = (0 : Int)) ∧ Wr (x_1.snd = x_1.snd) ∧ Wr (x.fst.fst = x.fst.fst) ∧ Wr (x.fst.snd.fst =
  x.fst.snd.fst) ∧ Wr (x.fst.snd.snd.fst = x.fst.snd.snd.fst) ∧ Wr (x.fst.snd.snd.snd.fst = x.fst.snd.snd.snd.fst) ∧ Wr ((newW x.fst).fst.fst = (newW x.fst).fst.fst) ∧ Wr ((newW x.fst).fst.snd.fst = (newW
  x.fst).fst.snd.fst) ∧ Wr ((newW x.fst).fst.snd.snd.fst = (newW x.fst).fst.snd.snd.fst) ∧ Wr ((newW x.fst).fst.snd.snd.snd.fst = (newW x.fst).fst.snd.snd.snd.fst) ∧ Wr ((newW x.fst).snd.fst = (newW x.fst).snd.fst) ∧ Wr
  ((newW x.fst).snd.snd.fst = (newW x.fst).snd.snd.fst) ∧ Wr ((newW x.fst).snd.snd.snd.fst = (newW x.fst).snd.snd.snd.fst) ∧ Wr ((newW x.fst).snd.snd.snd.snd.fst = (newW x.fst).snd.snd.snd.snd.fst) ∧ Wr ((newW
  x.fst).snd.snd.snd.snd.snd.fst = (newW x.fst).snd.snd.snd.snd.snd.fst) ∧ Wr ((newW x.fst).snd.snd.snd.snd.snd.snd.fst = (newW x.fst).snd.snd.snd.snd.snd.snd.fst) ∧ Wr ((newW x.fst).fst.fst = (newW x.fst).fst.fst) ∧ Wr
  ((newW x.fst).fst.snd.fst = (newW x.fst).fst.snd.fst) ∧ Wr ((newW x.fst).fst.snd.snd.fst = (newW x.fst).fst.snd.snd.fst) ∧ Wr ((newW x.fst).fst.snd.snd.snd.fst = (newW x.fst).fst.snd.snd.snd.fst) ∧ Wr ((newW
  x.fst).snd.fst = (newW x.fst).snd.fst) ∧ Wr ((newW x.fst).snd.snd.fst = (newW x.fst).snd.snd.fst) ∧ Wr ((newW x.fst).snd.snd.snd.fst = (newW x.fst).snd.snd.snd.fst) ∧ Wr ((newW x.fst).snd.snd.snd.snd.fst = (newW
  x.fst).snd.snd.snd.snd.fst) ∧ Wr ((newW x.fst).snd.snd.snd.snd.snd.fst = (newW x.fst).snd.snd.snd.snd.snd.fst) ∧ Wr ((newW x.fst).snd.snd.snd.snd.snd.snd.fst = (newW x.fst).snd.snd.snd.snd.snd.snd.fst) ∧ Wr
  (x.snd.fst.fst = x.snd.fst.fst) ∧ Wr (x.snd.fst.snd.fst.fst = x.snd.fst.snd.fst.fst) ∧ Wr (x.snd.fst.snd.fst.snd.fst = x.snd.fst.snd.fst.snd.fst) ∧ Wr (x.snd.fst.snd.fst.snd.snd.fst = x.snd.fst.snd.fst.snd.snd.fst) ∧ Wr
  (x.snd.fst.snd.fst.snd.snd.snd.fst = x.snd.fst.snd.fst.snd.snd.snd.fst) ∧ Wr (x.snd.fst.snd.fst.snd.snd.snd.snd.fst = x.snd.fst.snd.fst.snd.snd.snd.snd.fst) ∧ Wr (x.snd.fst.snd.fst.snd.snd.snd.snd.snd.fst =
  x.snd.fst.snd.fst.snd.snd.snd.snd.snd.fst) ∧ Wr (x.snd.fst.snd.fst.snd.snd.snd.snd.snd.snd.fst = x.snd.fst.snd.fst.snd.snd.snd.snd.snd.snd.fst) ∧ Wr (x.snd.fst.snd.fst.snd.snd.snd.snd.snd.snd.snd.fst =
  x.snd.fst.snd.fst.snd.snd.snd.snd.snd.snd.snd.fst) ∧ Wr (x.snd.fst.snd.snd.fst = x.snd.fst.snd.snd.fst) ∧ Wr (x.fst.fst = x.fst.fst) ∧ Wr (x.fst.snd.fst = x.fst.snd.fst) ∧ Wr (x.fst.snd.snd.fst = x.fst.snd.snd.fst) ∧ Wr
  (x.fst.snd.snd.snd.fst = x.fst.snd.snd.snd.fst)) ∧ ∀ (x_2 : Int × Int), Wr (Gr2I x.fst.fst x_1.snd x_2.snd) → Wr ((0 : Int) ≤ x_1.snd) ∧ Wr (x_1.snd < (↑(List.length x.fst.fst) : Int)) ∧ Wr (Bool.true = Bool.true) ∧ Wr
  (Bool.true = Bool.true) ∧ bcase (Decidable.decide (x_2.snd < (↑(List.length (List.getD x.fst.fst (Int.toNat x_1.snd) (Ty.zero ZoneT)).snd.fst) : Int))) (Wr ((0 : Int) ≤ x_1.snd) ∧ Wr (x_1.snd < (↑(List.length x.fst.fst)
  : Int)) ∧ Wr (Bool.true = Bool.true) ∧ Wr (Bool.true = Bool.true) ∧ Wr ((0 : Int) ≤ x_2.snd) ∧ Wr (x_2.snd < (↑(List.length (List.getD x.fst.fst (Int.toNat x_1.snd) (Ty.zero ZoneT)).snd.fst) : Int)) ∧ Wr (Bool.true =
  Bool.true) ∧ Wr (Gr2I x.fst.fst x_1.snd (IntKind.wrap IntKind.i64 (x_2.snd + (1 : Int)))) ∧ Wr ((100 : Nat) - Int.toNat (IntKind.wrap IntKind.i64 (x_2.snd + (1 : Int))) < (100 : Nat) - Int.toNat x_2.snd) ∧ Wr
  (IntKind.wrap IntKind.i64 (x_2.fst + Min.min (↑(List.length (List.getD (List.getD x.fst.fst (Int.toNat x_1.snd) (Ty.zero ZoneT)).snd.fst (Int.toNat x_2.snd) (Ty.zero AdL))) : Int) (1000 : Int)) = IntKind.wrap
  IntKind.i64 (x_2.fst + Min.min (↑(List.length (List.getD (List.getD x.fst.fst (Int.toNat x_1.snd) (Ty.zero ZoneT)).snd.fst (Int.toNat x_2.snd) (Ty.zero AdL))) : Int) (1000 : Int))) ∧ Wr (IntKind.wrap IntKind.i64
  (x_2.snd + (1 : Int)) = IntKind.wrap IntKind.i64 (x_2.snd + (1 : Int))) ∧ Wr (x_1.snd = x_1.snd) ∧ Wr (x.fst.fst = x.fst.fst) ∧ Wr (x.fst.snd.fst = x.fst.snd.fst) ∧ Wr (x.fst.snd.snd.fst = x.fst.snd.snd.fst) ∧ Wr
  (x.fst.snd.snd.snd.fst = x.fst.snd.snd.snd.fst) ∧ Wr ((newW x.fst).fst.fst = (newW x.fst).fst.fst) ∧ Wr ((newW x.fst).fst.snd.fst = (newW x.fst).fst.snd.fst) ∧ Wr ((newW x.fst).fst.snd.snd.fst = (newW
  x.fst).fst.snd.snd.fst) ∧ Wr ((newW x.fst).fst.snd.snd.snd.fst = (newW x.fst).fst.snd.snd.snd.fst) ∧ Wr ((newW x.fst).snd.fst = (newW x.fst).snd.fst) ∧ Wr ((newW x.fst).snd.snd.fst = (newW x.fst).snd.snd.fst) ∧ Wr
  ((newW x.fst).snd.snd.snd.fst = (newW x.fst).snd.snd.snd.fst) ∧ Wr ((newW x.fst).snd.snd.snd.snd.fst = (newW x.fst).snd.snd.snd.snd.fst) ∧ Wr ((newW x.fst).snd.snd.snd.snd.snd.fst = (newW x.fst).snd.snd.snd.snd.snd.fst)
  ∧ Wr ((newW x.fst).snd.snd.snd.snd.snd.snd.fst = (newW x.fst).snd.snd.snd.snd.snd.snd.fst) ∧ Wr ((newW x.fst).fst.fst = (newW x.fst).fst.fst) ∧ Wr ((newW x.fst).fst.snd.fst = (newW x.fst).fst.snd.fst) ∧ Wr ((newW
  x.fst).fst.snd.snd.fst = (newW x.fst).fst.snd.snd.fst) ∧ Wr ((newW x.fst).fst.snd.snd.snd.fst = (newW x.fst).fst.snd.snd.snd.fst) ∧ Wr ((newW x.fst).snd.fst = (newW x.fst).snd.fst) ∧ Wr ((newW x.fst).snd.snd.fst = (newW
  x.fst).snd.snd.fst) ∧ Wr ((newW x.fst).snd.snd.snd.fst = (newW x.fst).snd.snd.snd.fst) ∧ Wr ((newW x.fst).snd.snd.snd.snd.fst = (newW x.fst).snd.snd.snd.snd.fst) ∧ Wr ((newW x.fst).snd.snd.snd.snd.snd.fst = (newW
  x.fst).snd.snd.snd.snd.snd.fst) ∧ Wr ((newW x.fst).snd.snd.snd.snd.snd.snd.fst = (newW x.fst).snd.snd.snd.snd.snd.snd.fst) ∧ Wr (x.snd.fst.fst = x.snd.fst.fst) ∧ Wr (x.snd.fst.snd.fst.fst = x.snd.fst.snd.fst.fst) ∧ Wr
  (x.snd.fst.snd.fst.snd.fst = x.snd.fst.snd.fst.snd.fst) ∧ Wr (x.snd.fst.snd.fst.snd.snd.fst = x.snd.fst.snd.fst.snd.snd.fst) ∧ Wr (x.snd.fst.snd.fst.snd.snd.snd.fst = x.snd.fst.snd.fst.snd.snd.snd.fst) ∧ Wr
  (x.snd.fst.snd.fst.snd.snd.snd.snd.fst = x.snd.fst.snd.fst.snd.snd.snd.snd.fst) ∧ Wr (x.snd.fst.snd.fst.snd.snd.snd.snd.snd.fst = x.snd.fst.snd.fst.snd.snd.snd.snd.snd.fst) ∧ Wr
  (x.snd.fst.snd.fst.snd.snd.snd.snd.snd.snd.fst = x.snd.fst.snd.fst.snd.snd.snd.snd.snd.snd.fst) ∧ Wr (x.snd.fst.snd.fst.snd.snd.snd.snd.snd.snd.snd.fst = x.snd.fst.snd.fst.snd.snd.snd.snd.snd.snd.snd.fst) ∧ Wr
  (x.snd.fst.snd.snd.fst = x.snd.fst.snd.snd.fst) ∧ Wr (x.fst.fst = x.fst.fst) ∧ Wr (x.fst.snd.fst = x.fst.snd.fst) ∧ Wr (x.fst.snd.snd.fst = x.fst.snd.snd.fst) ∧ Wr (x.fst.snd.snd.snd.fst = x.fst.snd.snd.snd.fst)) (Wr
  ((0 : Int) ≤ IntKind.wrap IntKind.i64 (x_1.snd + (1 : Int))) ∧ Wr (List.length x.fst.fst - Int.toNat (IntKind.wrap IntKind.i64 (x_1.snd + (1 : Int))) < List.length x.fst.fst - Int.toNat x_1.snd) ∧ Wr (x_2.fst = x_2.fst)
  ∧ Wr (IntKind.wrap IntKind.i64 (x_1.snd + (1 : Int)) = IntKind.wrap IntKind.i64 (x_1.snd + (1 : Int))) ∧ Wr (x.fst.fst = x.fst.fst) ∧ Wr (x.fst.snd.fst = x.fst.snd.fst) ∧ Wr (x.fst.snd.snd.fst = x.fst.snd.snd.fst) ∧ Wr
  (x.fst.snd.snd.snd.fst = x.fst.snd.snd.snd.fst) ∧ Wr ((newW x.fst).fst.fst = (newW x.fst).fst.fst) ∧ Wr ((newW x.fst).fst.snd.fst = (newW x.fst).fst.snd.fst) ∧ Wr ((newW x.fst).fst.snd.snd.fst = (newW
  x.fst).fst.snd.snd.fst) ∧ Wr ((newW x.fst).fst.snd.snd.snd.fst = (newW x.fst).fst.snd.snd.snd.fst) ∧ Wr ((newW x.fst).snd.fst = (newW x.fst).snd.fst) ∧ Wr ((newW x.fst).snd.snd.fst = (newW x.fst).snd.snd.fst) ∧ Wr
  ((newW x.fst).snd.snd.snd.fst = (newW x.fst).snd.snd.snd.fst) ∧ Wr ((newW x.fst).snd.snd.snd.snd.fst = (newW x.fst).snd.snd.snd.snd.fst) ∧ Wr ((newW x.fst).snd.snd.snd.snd.snd.fst = (newW x.fst).snd.snd.snd.snd.snd.fst)
  ∧ Wr ((newW x.fst).snd.snd.snd.snd.snd.snd.fst = (newW x.fst).snd.snd.snd.snd.snd.snd.fst) ∧ Wr ((newW x.fst).fst.fst = (newW x.fst).fst.fst) ∧ Wr ((newW x.fst).fst.snd.fst = (newW x.fst).fst.snd.fst) ∧ Wr ((newW
  x.fst).fst.snd.snd.fst = (newW x.fst).fst.snd.snd.fst) ∧ Wr ((newW x.fst).fst.snd.snd.snd.fst = (newW x.fst).fst.snd.snd.snd.fst) ∧ Wr ((newW x.fst).snd.fst = (newW x.fst).snd.fst) ∧ Wr ((newW x.fst).snd.snd.fst = (newW
  x.fst).snd.snd.fst) ∧ Wr ((newW x.fst).snd.snd.snd.fst = (newW x.fst).snd.snd.snd.fst) ∧ Wr ((newW x.fst).snd.snd.snd.snd.fst = (newW x.fst).snd.snd.snd.snd.fst) ∧ Wr ((newW x.fst).snd.snd.snd.snd.snd.fst = (newW
  x.fst).snd.snd.snd.snd.snd.fst) ∧ Wr ((newW x.fst).snd.snd.snd.snd.snd.snd.fst = (newW x.fst).snd.snd.snd.snd.snd.snd.fst) ∧ Wr (x.snd.fst.fst = x.snd.fst.fst) ∧ Wr (x.snd.fst.snd.fst.fst = x.snd.fst.snd.fst.fst) ∧ Wr
  (x.snd.fst.snd.fst.snd.fst = x.snd.fst.snd.fst.snd.fst) ∧ Wr (x.snd.fst.snd.fst.snd.snd.fst = x.snd.fst.snd.fst.snd.snd.fst) ∧ Wr (x.snd.fst.snd.fst.snd.snd.snd.fst = x.snd.fst.snd.fst.snd.snd.snd.fst) ∧ Wr
  (x.snd.fst.snd.fst.snd.snd.snd.snd.fst = x.snd.fst.snd.fst.snd.snd.snd.snd.fst) ∧ Wr (x.snd.fst.snd.fst.snd.snd.snd.snd.snd.fst = x.snd.fst.snd.fst.snd.snd.snd.snd.snd.fst) ∧ Wr
  (x.snd.fst.snd.fst.snd.snd.snd.snd.snd.snd.fst = x.snd.fst.snd.fst.snd.snd.snd.snd.snd.snd.fst) ∧ Wr (x.snd.fst.snd.fst.snd.snd.snd.snd.snd.snd.snd.fst = x.snd.fst.snd.fst.snd.snd.snd.snd.snd.snd.snd.fst) ∧ Wr
  (x.snd.fst.snd.snd.fst = x.snd.fst.snd.snd.fst) ∧ Wr (x.fst.fst = x.fst.fst) ∧ Wr (x.fst.snd.fst = x.fst.snd.fst) ∧ Wr (x.fst.snd.snd.fst = x.fst.snd.snd.fst) ∧ Wr (x.fst.snd.snd.snd.fst = x.fst.snd.snd.snd.fst)))) ((Wr
  ((0 : Int) ≤ (0 : Int)) ∧ Wr (x_1.fst = x_1.fst) ∧ Wr ((0 : Int) = (0 : Int)) ∧ Wr (x.fst.fst = x.fst.fst) ∧ Wr (x.fst.snd.fst = x.fst.snd.fst) ∧ Wr (x.fst.snd.snd.fst = x.fst.snd.snd.fst) ∧ Wr (x.fst.snd.snd.snd.fst =
  x.fst.snd.snd.snd.fst) ∧ Wr ((newW x.fst).fst.fst = (newW x.fst).fst.fst) ∧ Wr ((newW x.fst).fst.snd.fst = (newW x.fst).fst.snd.fst) ∧ Wr ((newW x.fst).fst.snd.snd.fst = (newW x.fst).fst.snd.snd.fst) ∧ Wr ((newW
  x.fst).fst.snd.snd.snd.fst = (newW x.fst).fst.snd.snd.snd.fst) ∧ Wr ((newW x.fst).snd.fst = (newW x.fst).snd.fst) ∧ Wr ((newW x.fst).snd.snd.fst = (newW x.fst).snd.snd.fst) ∧ Wr ((newW x.fst).snd.snd.snd.fst = (newW
  x.fst).snd.snd.snd.fst) ∧ Wr ((newW x.fst).snd.snd.snd.snd.fst = (newW x.fst).snd.snd.snd.snd.fst) ∧ Wr ((newW x.fst).snd.snd.snd.snd.snd.fst = (newW x.fst).snd.snd.snd.snd.snd.fst) ∧ Wr ((newW
  x.fst).snd.snd.snd.snd.snd.snd.fst = (newW x.fst).snd.snd.snd.snd.snd.snd.fst) ∧ Wr ((newW x.fst).fst.fst = (newW x.fst).fst.fst) ∧ Wr ((newW x.fst).fst.snd.fst = (newW x.fst).fst.snd.fst) ∧ Wr ((newW
  x.fst).fst.snd.snd.fst = (newW x.fst).fst.snd.snd.fst) ∧ Wr ((newW x.fst).fst.snd.snd.snd.fst = (newW x.fst).fst.snd.snd.snd.fst) ∧ Wr ((newW x.fst).snd.fst = (newW x.fst).snd.fst) ∧ Wr ((newW x.fst).snd.snd.fst = (newW
  x.fst).snd.snd.fst) ∧ Wr ((newW x.fst).snd.snd.snd.fst = (newW x.fst).snd.snd.snd.fst) ∧ Wr ((newW x.fst).snd.snd.snd.snd.fst = (newW x.fst).snd.snd.snd.snd.fst) ∧ Wr ((newW x.fst).snd.snd.snd.snd.snd.fst = (newW
  x.fst).snd.snd.snd.snd.snd.fst) ∧ Wr ((newW x.fst).snd.snd.snd.snd.snd.snd.fst = (newW x.fst).snd.snd.snd.snd.snd.snd.fst) ∧ Wr (x.snd.fst.fst = x.snd.fst.fst) ∧ Wr (x.snd.fst.snd.fst.fst = x.snd.fst.snd.fst.fst) ∧ Wr
  (x.snd.fst.snd.fst.snd.fst = x.snd.fst.snd.fst.snd.fst) ∧ Wr (x.snd.fst.snd.fst.snd.snd.fst = x.snd.fst.snd.fst.snd.snd.fst) ∧ Wr (x.snd.fst.snd.fst.snd.snd.snd.fst = x.snd.fst.snd.fst.snd.snd.snd.fst) ∧ Wr
  (x.snd.fst.snd.fst.snd.snd.snd.snd.fst = x.snd.fst.snd.fst.snd.snd.snd.snd.fst) ∧ Wr (x.snd.fst.snd.fst.snd.snd.snd.snd.snd.fst = x.snd.fst.snd.fst.snd.snd.snd.snd.snd.fst) ∧ Wr
  (x.snd.fst.snd.fst.snd.snd.snd.snd.snd.snd.fst = x.snd.fst.snd.fst.snd.snd.snd.snd.snd.snd.fst) ∧ Wr (x.snd.fst.snd.fst.snd.snd.snd.snd.snd.snd.snd.fst = x.snd.fst.snd.fst.snd.snd.snd.snd.snd.snd.snd.fst) ∧ Wr
  (x.snd.fst.snd.snd.fst = x.snd.fst.snd.snd.fst) ∧ Wr (x.fst.fst = x.fst.fst) ∧ Wr (x.fst.snd.fst = x.fst.snd.fst) ∧ Wr (x.fst.snd.snd.fst = x.fst.snd.snd.fst) ∧ Wr (x.fst.snd.snd.snd.fst = x.fst.snd.snd.snd.fst)) ∧ ∀
  (x_2 : Int × Int), Wr ((0 : Int) ≤ x_2.snd) → bcase (Decidable.decide (x_2.snd < (↑(List.length x.fst.snd.fst) : Int)) && Decidable.decide (x_2.snd ≤ (100 : Int))) (Wr ((0 : Int) ≤ x_2.snd) ∧ Wr (x_2.snd <
  (↑(List.length x.fst.snd.fst) : Int)) ∧ Wr (Bool.true = Bool.true) ∧ Wr (Bool.true = Bool.true) ∧ Wr ((0 : Int) ≤ IntKind.wrap IntKind.i64 (x_2.snd + (1 : Int))) ∧ Wr (List.length x.fst.snd.fst - Int.toNat (IntKind.wrap
  IntKind.i64 (x_2.snd + (1 : Int))) < List.length x.fst.snd.fst - Int.toNat x_2.snd) ∧ Wr (IntKind.wrap IntKind.i64 (x_2.fst + Min.min (↑(List.length (List.getD x.fst.snd.fst (Int.toNat x_2.snd) (Ty.zero FatT)).snd.fst)
  : Int) (1000 : Int)) = IntKind.wrap IntKind.i64 (x_2.fst + Min.min (↑(List.length (List.getD x.fst.snd.fst (Int.toNat x_2.snd) (Ty.zero FatT)).snd.fst) : Int) (1000 : Int))) ∧ Wr (IntKind.wrap IntKind.i64 (x_2.snd + (1
  : Int)) = IntKind.wrap IntKind.i64 (x_2.snd + (1 : Int))) ∧ Wr (x.fst.fst = x.fst.fst) ∧ Wr (x.fst.snd.fst = x.fst.snd.fst) ∧ Wr (x.fst.snd.snd.fst = x.fst.snd.snd.fst) ∧ Wr (x.fst.snd.snd.snd.fst =
  x.fst.snd.snd.snd.fst) ∧ Wr ((newW x.fst).fst.fst = (newW x.fst).fst.fst) ∧ Wr ((newW x.fst).fst.snd.fst = (newW x.fst).fst.snd.fst) ∧ Wr ((newW x.fst).fst.snd.snd.fst = (newW x.fst).fst.snd.snd.fst) ∧ Wr ((newW
  x.fst).fst.snd.snd.snd.fst = (newW x.fst).fst.snd.snd.snd.fst) ∧ Wr ((newW x.fst).snd.fst = (newW x.fst).snd.fst) ∧ Wr ((newW x.fst).snd.snd.fst = (newW x.fst).snd.snd.fst) ∧ Wr ((newW x.fst).snd.snd.snd.fst = (newW
  x.fst).snd.snd.snd.fst) ∧ Wr ((newW x.fst).snd.snd.snd.snd.fst = (newW x.fst).snd.snd.snd.snd.fst) ∧ Wr ((newW x.fst).snd.snd.snd.snd.snd.fst = (newW x.fst).snd.snd.snd.snd.snd.fst) ∧ Wr ((newW
  x.fst).snd.snd.snd.snd.snd.snd.fst = (newW x.fst).snd.snd.snd.snd.snd.snd.fst) ∧ Wr ((newW x.fst).fst.fst = (newW x.fst).fst.fst) ∧ Wr ((newW x.fst).fst.snd.fst = (newW x.fst).fst.snd.fst) ∧ Wr ((newW
  x.fst).fst.snd.snd.fst = (newW x.fst).fst.snd.snd.fst) ∧ Wr ((newW x.fst).fst.snd.snd.snd.fst = (newW x.fst).fst.snd.snd.snd.fst) ∧ Wr ((newW x.fst).snd.fst = (newW x.fst).snd.fst) ∧ Wr ((newW x.fst).snd.snd.fst = (newW
  x.fst).snd.snd.fst) ∧ Wr ((newW x.fst).snd.snd.snd.fst = (newW x.fst).snd.snd.snd.fst) ∧ Wr ((newW x.fst).snd.snd.snd.snd.fst = (newW x.fst).snd.snd.snd.snd.fst) ∧ Wr ((newW x.fst).snd.snd.snd.snd.snd.fst = (newW
  x.fst).snd.snd.snd.snd.snd.fst) ∧ Wr ((newW x.fst).snd.snd.snd.snd.snd.snd.fst = (newW x.fst).snd.snd.snd.snd.snd.snd.fst) ∧ Wr (x.snd.fst.fst = x.snd.fst.fst) ∧ Wr (x.snd.fst.snd.fst.fst = x.snd.fst.snd.fst.fst) ∧ Wr
  (x.snd.fst.snd.fst.snd.fst = x.snd.fst.snd.fst.snd.fst) ∧ Wr (x.snd.fst.snd.fst.snd.snd.fst = x.snd.fst.snd.fst.snd.snd.fst) ∧ Wr (x.snd.fst.snd.fst.snd.snd.snd.fst = x.snd.fst.snd.fst.snd.snd.snd.fst) ∧ Wr
  (x.snd.fst.snd.fst.snd.snd.snd.snd.fst = x.snd.fst.snd.fst.snd.snd.snd.snd.fst) ∧ Wr (x.snd.fst.snd.fst.snd.snd.snd.snd.snd.fst = x.snd.fst.snd.fst.snd.snd.snd.snd.snd.fst) ∧ Wr
  (x.snd.fst.snd.fst.snd.snd.snd.snd.snd.snd.fst = x.snd.fst.snd.fst.snd.snd.snd.snd.snd.snd.fst) ∧ Wr (x.snd.fst.snd.fst.snd.snd.snd.snd.snd.snd.snd.fst = x.snd.fst.snd.fst.snd.snd.snd.snd.snd.snd.snd.fst) ∧ Wr
  (x.snd.fst.snd.snd.fst = x.snd.fst.snd.snd.fst) ∧ Wr (x.fst.fst = x.fst.fst) ∧ Wr (x.fst.snd.fst = x.fst.snd.fst) ∧ Wr (x.fst.snd.snd.fst = x.fst.snd.snd.fst) ∧ Wr (x.fst.snd.snd.snd.fst = x.fst.snd.snd.snd.fst)) (Wr
  ((!(Decidable.decide ((↑(List.length x.fst.fst) : Int) > (40 : Int)) || Decidable.decide ((↑(List.length x.fst.snd.fst) : Int) > (100 : Int)) || Decidable.decide (x_2.fst > (3000 : Int)) || !Decidable.decide (check
  x.fst = (0 : Int)) || Decidable.decide ((↑(List.length x.snd.snd.fst) : Int) > (40 : Int)))) = Bool.true → lenA (x.snd.fst :: nilL (Int × (Int × Int × Int × Int × Int × Int × Int × Int × Unit) × Int × Unit)) =
  Bool.true) ∧ bcase (Decidable.decide ((↑(List.length x.fst.fst) : Int) > (40 : Int)) || Decidable.decide ((↑(List.length x.fst.snd.fst) : Int) > (100 : Int)) || Decidable.decide (x_2.fst > (3000 : Int)) ||
  !Decidable.decide (check x.fst = (0 : Int)) || Decidable.decide ((↑(List.length x.snd.snd.fst) : Int) > (40 : Int)) || !Go.Ad.mayA (x.snd.fst :: nilL (Int × (Int × Int × Int × Int × Int × Int × Int × Int × Unit) × Int ×
  Unit))) (Wr True ∧ (Bool.true, ()) = (Bool.true, ())) (Wr ((okP x.fst && lenA (x.snd.fst :: nilL (Int × (Int × Int × Int × Int × Int × Int × Int × Int × Unit) × Int × Unit))) = Bool.true) ∧ Wr (okP x.fst = Bool.true) ∧
  Wr (Decidable.decide (fateF x.fst x.snd.fst (0 : Int) = (1 : Int)) = Bool.true → okP x.fst = Bool.true) ∧ (Wr (FtI x.fst x.snd.fst x.snd.snd.fst (List.all (x.snd.fst :: nilL (Int × (Int × Int × Int × Int × Int × Int ×
  Int × Int × Unit) × Int × Unit)) (goodA x.fst)) (Decidable.decide (fateF x.fst x.snd.fst (0 : Int) = (1 : Int)) && Decidable.decide (fateF x.fst x.snd.fst (32 : Int) = (1 : Int)) && Decidable.decide ((↑(List.length
  x.fst.snd.fst) : Int) = (0 : Int))) (FtS.mk (0 : Int) (newW x.fst))) ∧ Wr ((0 : Int) = (0 : Int)) ∧ Wr (x.snd.snd.fst = x.snd.snd.fst) ∧ Wr (List.all (x.snd.fst :: nilL (Int × (Int × Int × Int × Int × Int × Int × Int ×
  Int × Unit) × Int × Unit)) (goodA x.fst) = List.all (x.snd.fst :: nilL (Int × (Int × Int × Int × Int × Int × Int × Int × Int × Unit) × Int × Unit)) (goodA x.fst)) ∧ Wr ((Decidable.decide (fateF x.fst x.snd.fst (0 : Int)
  = (1 : Int)) && Decidable.decide (fateF x.fst x.snd.fst (32 : Int) = (1 : Int)) && Decidable.decide ((↑(List.length x.fst.snd.fst) : Int) = (0 : Int))) = (Decidable.decide (fateF x.fst x.snd.fst (0 : Int) = (1 : Int))
  && Decidable.decide (fateF x.fst x.snd.fst (32 : Int) = (1 : Int)) && Decidable.decide ((↑(List.length x.fst.snd.fst) : Int) = (0 : Int)))) ∧ Wr ((newW x.fst).fst.fst = (newW x.fst).fst.fst) ∧ Wr ((newW
  x.fst).fst.snd.fst = (newW x.fst).fst.snd.fst) ∧ Wr ((newW x.fst).fst.snd.snd.fst = (newW x.fst).fst.snd.snd.fst) ∧ Wr ((newW x.fst).fst.snd.snd.snd.fst = (newW x.fst).fst.snd.snd.snd.fst) ∧ Wr ((newW x.fst).snd.fst =
  (newW x.fst).snd.fst) ∧ Wr ((newW x.fst).snd.snd.fst = (newW x.fst).snd.snd.fst) ∧ Wr ((newW x.fst).snd.snd.snd.fst = (newW x.fst).snd.snd.snd.fst) ∧ Wr ((newW x.fst).snd.snd.snd.snd.fst = (newW
  x.fst).snd.snd.snd.snd.fst) ∧ Wr ((newW x.fst).snd.snd.snd.snd.snd.fst = (newW x.fst).snd.snd.snd.snd.snd.fst) ∧ Wr ((newW x.fst).snd.snd.snd.snd.snd.snd.fst = (newW x.fst).snd.snd.snd.snd.snd.snd.fst) ∧ Wr (x.fst.fst =
  x.fst.fst) ∧ Wr (x.fst.snd.fst = x.fst.snd.fst) ∧ Wr (x.fst.snd.snd.fst = x.fst.snd.snd.fst) ∧ Wr (x.fst.snd.snd.snd.fst = x.fst.snd.snd.snd.fst) ∧ Wr (x.snd.fst.fst = x.snd.fst.fst) ∧ Wr (x.snd.fst.snd.fst.fst =
  x.snd.fst.snd.fst.fst) ∧ Wr (x.snd.fst.snd.fst.snd.fst = x.snd.fst.snd.fst.snd.fst) ∧ Wr (x.snd.fst.snd.fst.snd.snd.fst = x.snd.fst.snd.fst.snd.snd.fst) ∧ Wr (x.snd.fst.snd.fst.snd.snd.snd.fst =
  x.snd.fst.snd.fst.snd.snd.snd.fst) ∧ Wr (x.snd.fst.snd.fst.snd.snd.snd.snd.fst = x.snd.fst.snd.fst.snd.snd.snd.snd.fst) ∧ Wr (x.snd.fst.snd.fst.snd.snd.snd.snd.snd.fst = x.snd.fst.snd.fst.snd.snd.snd.snd.snd.fst) ∧ Wr
  (x.snd.fst.snd.fst.snd.snd.snd.snd.snd.snd.fst = x.snd.fst.snd.fst.snd.snd.snd.snd.snd.snd.fst) ∧ Wr (x.snd.fst.snd.fst.snd.snd.snd.snd.snd.snd.snd.fst = x.snd.fst.snd.fst.snd.snd.snd.snd.snd.snd.snd.fst) ∧ Wr
  (x.snd.fst.snd.snd.fst = x.snd.fst.snd.snd.fst)) ∧ ∀ (x_3 : FtS), Wr (FtI x.fst x.snd.fst x.snd.snd.fst (List.all (x.snd.fst :: nilL (Int × (Int × Int × Int × Int × Int × Int × Int × Int × Unit) × Int × Unit)) (goodA
  x.fst)) (Decidable.decide (fateF x.fst x.snd.fst (0 : Int) = (1 : Int)) && Decidable.decide (fateF x.fst x.snd.fst (32 : Int) = (1 : Int)) && Decidable.decide ((↑(List.length x.fst.snd.fst) : Int) = (0 : Int))) x_3) →
  bcase (Decidable.decide (x_3.i < (↑(List.length x.snd.snd.fst) : Int))) (Wr (okW x_3.w = Bool.true) ∧ bcase (!Decidable.decide (dialE x_3.w x_3.i x.snd.fst = (0 : Int))) ((Bool.false, ()) = (Bool.true, ())) (Wr ((0 :
  Int) ≤ x_3.i) ∧ Wr (x_3.i < (↑(List.length x.snd.snd.fst) : Int)) ∧ Wr (Bool.true = Bool.true) ∧ bcase (List.getD x.snd.snd.fst (Int.toNat x_3.i) Bool.false) (Wr (okW (dialW x_3.w x_3.i x.snd.fst) = Bool.true) ∧ Wr (okW
  (cutW (dialW x_3.w x_3.i x.snd.fst) x_3.i) = Bool.true) ∧ bcase (!readyW (cutW (dialW x_3.w x_3.i x.snd.fst) x_3.i) x_3.i) ((Bool.false, ()) = (Bool.true, ())) (Wr (okW (cutW (dialW x_3.w x_3.i x.snd.fst) x_3.i) =
  Bool.true) ∧ bcase (!readyW (cutW (dialW x_3.w x_3.i x.snd.fst) x_3.i) x_3.i) (bcase (List.all (x.snd.fst :: nilL (Int × (Int × Int × Int × Int × Int × Int × Int × Int × Unit) × Int × Unit)) (goodA x.fst) ||
  Decidable.decide (fateF x.fst x.snd.fst (0 : Int) = (1 : Int)) && Decidable.decide (fateF x.fst x.snd.fst (32 : Int) = (1 : Int)) && Decidable.decide ((↑(List.length x.fst.snd.fst) : Int) = (0 : Int))) ((Bool.false, ())
  = (Bool.true, ())) (Wr (FtI x.fst x.snd.fst x.snd.snd.fst (List.all (x.snd.fst :: nilL (Int × (Int × Int × Int × Int × Int × Int × Int × Int × Unit) × Int × Unit)) (goodA x.fst)) (Decidable.decide (fateF x.fst x.snd.fst
  (0 : Int) = (1 : Int)) && Decidable.decide (fateF x.fst x.snd.fst (32 : Int) = (1 : Int)) && Decidable.decide ((↑(List.length x.fst.snd.fst) : Int) = (0 : Int))) (FtS.mk (IntKind.wrap IntKind.i64 (x_3.i + (1 : Int)))
  (cutW (dialW x_3.w x_3.i x.snd.fst) x_3.i))) ∧ Wr (List.length x.snd.snd.fst - Int.toNat (IntKind.wrap IntKind.i64 (x_3.i + (1 : Int))) < List.length x.snd.snd.fst - Int.toNat x_3.i) ∧ Wr (IntKind.wrap IntKind.i64
  (x_3.i + (1 : Int)) = IntKind.wrap IntKind.i64 (x_3.i + (1 : Int))) ∧ Wr (x.snd.snd.fst = x.snd.snd.fst) ∧ Wr (List.all (x.snd.fst :: nilL (Int × (Int × Int × Int × Int × Int × Int × Int × Int × Unit) × Int × Unit))
  (goodA x.fst) = List.all (x.snd.fst :: nilL (Int × (Int × Int × Int × Int × Int × Int × Int × Int × Unit) × Int × Unit)) (goodA x.fst)) ∧ Wr ((Decidable.decide (fateF x.fst x.snd.fst (0 : Int) = (1 : Int)) &&
  Decidable.decide (fateF x.fst x.snd.fst (32 : Int) = (1 : Int)) && Decidable.decide ((↑(List.length x.fst.snd.fst) : Int) = (0 : Int))) = (Decidable.decide (fateF x.fst x.snd.fst (0 : Int) = (1 : Int)) &&
  Decidable.decide (fateF x.fst x.snd.fst (32 : Int) = (1 : Int)) && Decidable.decide ((↑(List.length x.fst.snd.fst) : Int) = (0 : Int)))) ∧ Wr ((cutW (dialW x_3.w x_3.i x.snd.fst) x_3.i).fst.fst = (cutW (dialW x_3.w
  x_3.i x.snd.fst) x_3.i).fst.fst) ∧ Wr ((cutW (dialW x_3.w x_3.i x.snd.fst) x_3.i).fst.snd.fst = (cutW (dialW x_3.w x_3.i x.snd.fst) x_3.i).fst.snd.fst) ∧ Wr ((cutW (dialW x_3.w x_3.i x.snd.fst) x_3.i).fst.snd.snd.fst =
  (cutW (dialW x_3.w x_3.i x.snd.fst) x_3.i).fst.snd.snd.fst) ∧ Wr ((cutW (dialW x_3.w x_3.i x.snd.fst) x_3.i).fst.snd.snd.snd.fst = (cutW (dialW x_3.w x_3.i x.snd.fst) x_3.i).fst.snd.snd.snd.fst) ∧ Wr ((cutW (dialW x_3.w
  x_3.i x.snd.fst) x_3.i).snd.fst = (cutW (dialW x_3.w x_3.i x.snd.fst) x_3.i).snd.fst) ∧ Wr ((cutW (dialW x_3.w x_3.i x.snd.fst) x_3.i).snd.snd.fst = (cutW (dialW x_3.w x_3.i x.snd.fst) x_3.i).snd.snd.fst) ∧ Wr ((cutW
  (dialW x_3.w x_3.i x.snd.fst) x_3.i).snd.snd.snd.fst = (cutW (dialW x_3.w x_3.i x.snd.fst) x_3.i).snd.snd.snd.fst) ∧ Wr ((cutW (dialW x_3.w x_3.i x.snd.fst) x_3.i).snd.snd.snd.snd.fst = (cutW (dialW x_3.w x_3.i
  x.snd.fst) x_3.i).snd.snd.snd.snd.fst) ∧ Wr ((cutW (dialW x_3.w x_3.i x.snd.fst) x_3.i).snd.snd.snd.snd.snd.fst = (cutW (dialW x_3.w x_3.i x.snd.fst) x_3.i).snd.snd.snd.snd.snd.fst) ∧ Wr ((cutW (dialW x_3.w x_3.i
  x.snd.fst) x_3.i).snd.snd.snd.snd.snd.snd.fst = (cutW (dialW x_3.w x_3.i x.snd.fst) x_3.i).snd.snd.snd.snd.snd.snd.fst) ∧ Wr (x.fst.fst = x.fst.fst) ∧ Wr (x.fst.snd.fst = x.fst.snd.fst) ∧ Wr (x.fst.snd.snd.fst =
  x.fst.snd.snd.fst) ∧ Wr (x.fst.snd.snd.snd.fst = x.fst.snd.snd.snd.fst) ∧ Wr (x.snd.fst.fst = x.snd.fst.fst) ∧ Wr (x.snd.fst.snd.fst.fst = x.snd.fst.snd.fst.fst) ∧ Wr (x.snd.fst.snd.fst.snd.fst =
  x.snd.fst.snd.fst.snd.fst) ∧ Wr (x.snd.fst.snd.fst.snd.snd.fst = x.snd.fst.snd.fst.snd.snd.fst) ∧ Wr (x.snd.fst.snd.fst.snd.snd.snd.fst = x.snd.fst.snd.fst.snd.snd.snd.fst) ∧ Wr (x.snd.fst.snd.fst.snd.snd.snd.snd.fst =
  x.snd.fst.snd.fst.snd.snd.snd.snd.fst) ∧ Wr (x.snd.fst.snd.fst.snd.snd.snd.snd.snd.fst = x.snd.fst.snd.fst.snd.snd.snd.snd.snd.fst) ∧ Wr (x.snd.fst.snd.fst.snd.snd.snd.snd.snd.snd.fst =
  x.snd.fst.snd.fst.snd.snd.snd.snd.snd.snd.fst) ∧ Wr (x.snd.fst.snd.fst.snd.snd.snd.snd.snd.snd.snd.fst = x.snd.fst.snd.fst.snd.snd.snd.snd.snd.snd.snd.fst) ∧ Wr (x.snd.fst.snd.snd.fst = x.snd.fst.snd.snd.fst))) (Wr (okW
  (cutW (dialW x_3.w x_3.i x.snd.fst) x_3.i) = Bool.true) ∧ bcase (!Decidable.decide (endE (cutW (dialW x_3.w x_3.i x.snd.fst) x_3.i) x_3.i = (0 : Int)) || List.all (x.snd.fst :: nilL (Int × (Int × Int × Int × Int × Int ×
  Int × Int × Int × Unit) × Int × Unit)) (goodA x.fst) && !Decidable.decide ((endM (cutW (dialW x_3.w x_3.i x.snd.fst) x_3.i) x_3.i).snd.snd.snd.snd.snd.fst = (0 : Int)) || Decidable.decide (fateF x.fst x.snd.fst (0 :
  Int) = (1 : Int)) && Decidable.decide (fateF x.fst x.snd.fst (32 : Int) = (1 : Int)) && Decidable.decide ((↑(List.length x.fst.snd.fst) : Int) = (0 : Int)) && Decidable.decide ((endM (cutW (dialW x_3.w x_3.i x.snd.fst)
  x_3.i) x_3.i).snd.snd.snd.snd.snd.fst = (0 : Int))) ((Bool.false, ()) = (Bool.true, ())) (Wr ((Decidable.decide ((endM (cutW (dialW x_3.w x_3.i x.snd.fst) x_3.i) x_3.i).snd.snd.snd.snd.snd.fst = (0 : Int)) &&
  !!Decidable.decide ((↑(List.length (endW (cutW (dialW x_3.w x_3.i x.snd.fst) x_3.i) x_3.i).snd.snd.fst) : Int) = IntKind.wrap IntKind.i64 ((↑(List.length x_3.w.snd.snd.fst) : Int) + (1 : Int)))) = Bool.true → (0 : Int)
  ≤ (↑(List.length x_3.w.snd.snd.fst) : Int)) ∧ Wr ((Decidable.decide ((endM (cutW (dialW x_3.w x_3.i x.snd.fst) x_3.i) x_3.i).snd.snd.snd.snd.snd.fst = (0 : Int)) && !!Decidable.decide ((↑(List.length (endW (cutW (dialW
  x_3.w x_3.i x.snd.fst) x_3.i) x_3.i).snd.snd.fst) : Int) = IntKind.wrap IntKind.i64 ((↑(List.length x_3.w.snd.snd.fst) : Int) + (1 : Int)))) = Bool.true → (↑(List.length x_3.w.snd.snd.fst) : Int) < (↑(List.length (endW
  (cutW (dialW x_3.w x_3.i x.snd.fst) x_3.i) x_3.i).snd.snd.fst) : Int)) ∧ Wr ((Decidable.decide ((endM (cutW (dialW x_3.w x_3.i x.snd.fst) x_3.i) x_3.i).snd.snd.snd.snd.snd.fst = (0 : Int)) && !!Decidable.decide
  ((↑(List.length (endW (cutW (dialW x_3.w x_3.i x.snd.fst) x_3.i) x_3.i).snd.snd.fst) : Int) = IntKind.wrap IntKind.i64 ((↑(List.length x_3.w.snd.snd.fst) : Int) + (1 : Int)))) = Bool.true → Bool.true = Bool.true) ∧ Wr
  ((Decidable.decide ((endM (cutW (dialW x_3.w x_3.i x.snd.fst) x_3.i) x_3.i).snd.snd.snd.snd.snd.fst = (0 : Int)) && !!Decidable.decide ((↑(List.length (endW (cutW (dialW x_3.w x_3.i x.snd.fst) x_3.i) x_3.i).snd.snd.fst)
  : Int) = IntKind.wrap IntKind.i64 ((↑(List.length x_3.w.snd.snd.fst) : Int) + (1 : Int)))) = Bool.true → Bool.true = Bool.true) ∧ Wr ((Decidable.decide ((endM (cutW (dialW x_3.w x_3.i x.snd.fst) x_3.i)
  x_3.i).snd.snd.snd.snd.snd.fst = (0 : Int)) && !(!Decidable.decide ((↑(List.length (endW (cutW (dialW x_3.w x_3.i x.snd.fst) x_3.i) x_3.i).snd.snd.fst) : Int) = IntKind.wrap IntKind.i64 ((↑(List.length
  x_3.w.snd.snd.fst) : Int) + (1 : Int))) || !Ty.eqb (Ty.cons (Ty.int IntKind.i8) (Ty.cons (Ty.arr (8 : Nat) (Ty.int IntKind.u16)) (Ty.cons (Ty.int IntKind.i64) Ty.unit))) (List.getD (endW (cutW (dialW x_3.w x_3.i
  x.snd.fst) x_3.i) x_3.i).snd.snd.fst (Int.toNat (↑(List.length x_3.w.snd.snd.fst) : Int)) (Ty.zero SockT)).fst x.snd.fst)) = Bool.true → (0 : Int) ≤ (↑(List.length x_3.w.snd.snd.fst) : Int)) ∧ Wr ((Decidable.decide
  ((endM (cutW (dialW x_3.w x_3.i x.snd.fst) x_3.i) x_3.i).snd.snd.snd.snd.snd.fst = (0 : Int)) && !(!Decidable.decide ((↑(List.length (endW (cutW (dialW x_3.w x_3.i x.snd.fst) x_3.i) x_3.i).snd.snd.fst) : Int) =
  IntKind.wrap IntKind.i64 ((↑(List.length x_3.w.snd.snd.fst) : Int) + (1 : Int))) || !Ty.eqb (Ty.cons (Ty.int IntKind.i8) (Ty.cons (Ty.arr (8 : Nat) (Ty.int IntKind.u16)) (Ty.cons (Ty.int IntKind.i64) Ty.unit)))
  (List.getD (endW (cutW (dialW x_3.w x_3.i x.snd.fst) x_3.i) x_3.i).snd.snd.fst (Int.toNat (↑(List.length x_3.w.snd.snd.fst) : Int)) (Ty.zero SockT)).fst x.snd.fst)) = Bool.true → (↑(List.length x_3.w.snd.snd.fst) : Int)
  < (↑(List.length (endW (cutW (dialW x_3.w x_3.i x.snd.fst) x_3.i) x_3.i).snd.snd.fst) : Int)) ∧ Wr ((Decidable.decide ((endM (cutW (dialW x_3.w x_3.i x.snd.fst) x_3.i) x_3.i).snd.snd.snd.snd.snd.fst = (0 : Int)) &&
  !(!Decidable.decide ((↑(List.length (endW (cutW (dialW x_3.w x_3.i x.snd.fst) x_3.i) x_3.i).snd.snd.fst) : Int) = IntKind.wrap IntKind.i64 ((↑(List.length x_3.w.snd.snd.fst) : Int) + (1 : Int))) || !Ty.eqb (Ty.cons
  (Ty.int IntKind.i8) (Ty.cons (Ty.arr (8 : Nat) (Ty.int IntKind.u16)) (Ty.cons (Ty.int IntKind.i64) Ty.unit))) (List.getD (endW (cutW (dialW x_3.w x_3.i x.snd.fst) x_3.i) x_3.i).snd.snd.fst (Int.toNat (↑(List.length
  x_3.w.snd.snd.fst) : Int)) (Ty.zero SockT)).fst x.snd.fst)) = Bool.true → Bool.true = Bool.true) ∧ Wr ((Decidable.decide ((endM (cutW (dialW x_3.w x_3.i x.snd.fst) x_3.i) x_3.i).snd.snd.snd.snd.snd.fst = (0 : Int)) &&
  !(!Decidable.decide ((↑(List.length (endW (cutW (dialW x_3.w x_3.i x.snd.fst) x_3.i) x_3.i).snd.snd.fst) : Int) = IntKind.wrap IntKind.i64 ((↑(List.length x_3.w.snd.snd.fst) : Int) + (1 : Int))) || !Ty.eqb (Ty.cons
  (Ty.int IntKind.i8) (Ty.cons (Ty.arr (8 : Nat) (Ty.int IntKind.u16)) (Ty.cons (Ty.int IntKind.i64) Ty.unit))) (List.getD (endW (cutW (dialW x_3.w x_3.i x.snd.fst) x_3.i) x_3.i).snd.snd.fst (Int.toNat (↑(List.length
  x_3.w.snd.snd.fst) : Int)) (Ty.zero SockT)).fst x.snd.fst)) = Bool.true → Bool.true = Bool.true) ∧ bcase (Decidable.decide ((endM (cutW (dialW x_3.w x_3.i x.snd.fst) x_3.i) x_3.i).snd.snd.snd.snd.snd.fst = (0 : Int)) &&
  (!Decidable.decide ((↑(List.length (endW (cutW (dialW x_3.w x_3.i x.snd.fst) x_3.i) x_3.i).snd.snd.fst) : Int) = IntKind.wrap IntKind.i64 ((↑(List.length x_3.w.snd.snd.fst) : Int) + (1 : Int))) || !Ty.eqb (Ty.cons
  (Ty.int IntKind.i8) (Ty.cons (Ty.arr (8 : Nat) (Ty.int IntKind.u16)) (Ty.cons (Ty.int IntKind.i64) Ty.unit))) (List.getD (endW (cutW (dialW x_3.w x_3.i x.snd.fst) x_3.i) x_3.i).snd.snd.fst (Int.toNat (↑(List.length
  x_3.w.snd.snd.fst) : Int)) (Ty.zero SockT)).fst x.snd.fst || !Decidable.decide ((List.getD (endW (cutW (dialW x_3.w x_3.i x.snd.fst) x_3.i) x_3.i).snd.snd.fst (Int.toNat (↑(List.length x_3.w.snd.snd.fst) : Int))
  (Ty.zero SockT)).snd.fst = x_3.i))) ((Bool.false, ()) = (Bool.true, ())) (Wr (FtI x.fst x.snd.fst x.snd.snd.fst (List.all (x.snd.fst :: nilL (Int × (Int × Int × Int × Int × Int × Int × Int × Int × Unit) × Int × Unit))
  (goodA x.fst)) (Decidable.decide (fateF x.fst x.snd.fst (0 : Int) = (1 : Int)) && Decidable.decide (fateF x.fst x.snd.fst (32 : Int) = (1 : Int)) && Decidable.decide ((↑(List.length x.fst.snd.fst) : Int) = (0 : Int)))
  (FtS.mk (IntKind.wrap IntKind.i64 (x_3.i + (1 : Int))) (endW (cutW (dialW x_3.w x_3.i x.snd.fst) x_3.i) x_3.i))) ∧ Wr (List.length x.snd.snd.fst - Int.toNat (IntKind.wrap IntKind.i64 (x_3.i + (1 : Int))) < List.length
  x.snd.snd.fst - Int.toNat x_3.i) ∧ Wr (IntKind.wrap IntKind.i64 (x_3.i + (1 : Int)) = IntKind.wrap IntKind.i64 (x_3.i + (1 : Int))) ∧ Wr (x.snd.snd.fst = x.snd.snd.fst) ∧ Wr (List.all (x.snd.fst :: nilL (Int × (Int ×
  Int × Int × Int × Int × Int × Int × Int × Unit) × Int × Unit)) (goodA x.fst) = List.all (x.snd.fst :: nilL (Int × (Int × Int × Int × Int × Int × Int × Int × Int × Unit) × Int × Unit)) (goodA x.fst)) ∧ Wr
  ((Decidable.decide (fateF x.fst x.snd.fst (0 : Int) = (1 : Int)) && Decidable.decide (fateF x.fst x.snd.fst (32 : Int) = (1 : Int)) && Decidable.decide ((↑(List.length x.fst.snd.fst) : Int) = (0 : Int))) =
  (Decidable.decide (fateF x.fst x.snd.fst (0 : Int) = (1 : Int)) && Decidable.decide (fateF x.fst x.snd.fst (32 : Int) = (1 : Int)) && Decidable.decide ((↑(List.length x.fst.snd.fst) : Int) = (0 : Int)))) ∧ Wr ((endW
  (cutW (dialW x_3.w x_3.i x.snd.fst) x_3.i) x_3.i).fst.fst = (endW (cutW (dialW x_3.w x_3.i x.snd.fst) x_3.i) x_3.i).fst.fst) ∧ Wr ((endW (cutW (dialW x_3.w x_3.i x.snd.fst) x_3.i) x_3.i).fst.snd.fst = (endW (cutW (dialW
  x_3.w x_3.i x.snd.fst) x_3.i) x_3.i).fst.snd.fst) ∧ Wr ((endW (cutW (dialW x_3.w x_3.i x.snd.fst) x_3.i) x_3.i).fst.snd.snd.fst = (endW (cutW (dialW x_3.w x_3.i x.snd.fst) x_3.i) x_3.i).fst.snd.snd.fst) ∧ Wr ((endW
  (cutW (dialW x_3.w x_3.i x.snd.fst) x_3.i) x_3.i).fst.snd.snd.snd.fst = (endW (cutW (dialW x_3.w x_3.i x.snd.fst) x_3.i) x_3.i).fst.snd.snd.snd.fst) ∧ Wr ((endW (cutW (dialW x_3.w x_3.i x.snd.fst) x_3.i) x_3.i).snd.fst
  = (endW (cutW (dialW x_3.w x_3.i x.snd.fst) x_3.i) x_3.i).snd.fst) ∧ Wr ((endW (cutW (dialW x_3.w x_3.i x.snd.fst) x_3.i) x_3.i).snd.snd.fst = (endW (cutW (dialW x_3.w x_3.i x.snd.fst) x_3.i) x_3.i).snd.snd.fst) ∧ Wr
  ((endW (cutW (dialW x_3.w x_3.i x.snd.fst) x_3.i) x_3.i).snd.snd.snd.fst = (endW (cutW (dialW x_3.w x_3.i x.snd.fst) x_3.i) x_3.i).snd.snd.snd.fst) ∧ Wr ((endW (cutW (dialW x_3.w x_3.i x.snd.fst) x_3.i)
  x_3.i).snd.snd.snd.snd.fst = (endW (cutW (dialW x_3.w x_3.i x.snd.fst) x_3.i) x_3.i).snd.snd.snd.snd.fst) ∧ Wr ((endW (cutW (dialW x_3.w x_3.i x.snd.fst) x_3.i) x_3.i).snd.snd.snd.snd.snd.fst = (endW (cutW (dialW x_3.w
  x_3.i x.snd.fst) x_3.i) x_3.i).snd.snd.snd.snd.snd.fst) ∧ Wr ((endW (cutW (dialW x_3.w x_3.i x.snd.fst) x_3.i) x_3.i).snd.snd.snd.snd.snd.snd.fst = (endW (cutW (dialW x_3.w x_3.i x.snd.fst) x_3.i)
  x_3.i).snd.snd.snd.snd.snd.snd.fst) ∧ Wr (x.fst.fst = x.fst.fst) ∧ Wr (x.fst.snd.fst = x.fst.snd.fst) ∧ Wr (x.fst.snd.snd.fst = x.fst.snd.snd.fst) ∧ Wr (x.fst.snd.snd.snd.fst = x.fst.snd.snd.snd.fst) ∧ Wr (x.snd.fst.fst
  = x.snd.fst.fst) ∧ Wr (x.snd.fst.snd.fst.fst = x.snd.fst.snd.fst.fst) ∧ Wr (x.snd.fst.snd.fst.snd.fst = x.snd.fst.snd.fst.snd.fst) ∧ Wr (x.snd.fst.snd.fst.snd.snd.fst = x.snd.fst.snd.fst.snd.snd.fst) ∧ Wr
  (x.snd.fst.snd.fst.snd.snd.snd.fst = x.snd.fst.snd.fst.snd.snd.snd.fst) ∧ Wr (x.snd.fst.snd.fst.snd.snd.snd.snd.fst = x.snd.fst.snd.fst.snd.snd.snd.snd.fst) ∧ Wr (x.snd.fst.snd.fst.snd.snd.snd.snd.snd.fst =
  x.snd.fst.snd.fst.snd.snd.snd.snd.snd.fst) ∧ Wr (x.snd.fst.snd.fst.snd.snd.snd.snd.snd.snd.fst = x.snd.fst.snd.fst.snd.snd.snd.snd.snd.snd.fst) ∧ Wr (x.snd.fst.snd.fst.snd.snd.snd.snd.snd.snd.snd.fst =
  x.snd.fst.snd.fst.snd.snd.snd.snd.snd.snd.snd.fst) ∧ Wr (x.snd.fst.snd.snd.fst = x.snd.fst.snd.snd.fst)))))) (Wr (okW (dialW x_3.w x_3.i x.snd.fst) = Bool.true) ∧ bcase (!readyW (dialW x_3.w x_3.i x.snd.fst) x_3.i)
  (bcase (List.all (x.snd.fst :: nilL (Int × (Int × Int × Int × Int × Int × Int × Int × Int × Unit) × Int × Unit)) (goodA x.fst) || Decidable.decide (fateF x.fst x.snd.fst (0 : Int) = (1 : Int)) && Decidable.decide (fateF
  x.fst x.snd.fst (32 : Int) = (1 : Int)) && Decidable.decide ((↑(List.length x.fst.snd.fst) : Int) = (0 : Int))) ((Bool.false, ()) = (Bool.true, ())) (Wr (FtI x.fst x.snd.fst x.snd.snd.fst (List.all (x.snd.fst :: nilL
  (Int × (Int × Int × Int × Int × Int × Int × Int × Int × Unit) × Int × Unit)) (goodA x.fst)) (Decidable.decide (fateF x.fst x.snd.fst (0 : Int) = (1 : Int)) && Decidable.decide (fateF x.fst x.snd.fst (32 : Int) = (1 :
  Int)) && Decidable.decide ((↑(List.length x.fst.snd.fst) : Int) = (0 : Int))) (FtS.mk (IntKind.wrap IntKind.i64 (x_3.i + (1 : Int))) (dialW x_3.w x_3.i x.snd.fst))) ∧ Wr (List.length x.snd.snd.fst - Int.toNat
  (IntKind.wrap IntKind.i64 (x_3.i + (1 : Int))) < List.length x.snd.snd.fst - Int.toNat x_3.i) ∧ Wr (IntKind.wrap IntKind.i64 (x_3.i + (1 : Int)) = IntKind.wrap IntKind.i64 (x_3.i + (1 : Int))) ∧ Wr (x.snd.snd.fst =
  x.snd.snd.fst) ∧ Wr (List.all (x.snd.fst :: nilL (Int × (Int × Int × Int × Int × Int × Int × Int × Int × Unit) × Int × Unit)) (goodA x.fst) = List.all (x.snd.fst :: nilL (Int × (Int × Int × Int × Int × Int × Int × Int ×
  Int × Unit) × Int × Unit)) (goodA x.fst)) ∧ Wr ((Decidable.decide (fateF x.fst x.snd.fst (0 : Int) = (1 : Int)) && Decidable.decide (fateF x.fst x.snd.fst (32 : Int) = (1 : Int)) && Decidable.decide ((↑(List.length
  x.fst.snd.fst) : Int) = (0 : Int))) = (Decidable.decide (fateF x.fst x.snd.fst (0 : Int) = (1 : Int)) && Decidable.decide (fateF x.fst x.snd.fst (32 : Int) = (1 : Int)) && Decidable.decide ((↑(List.length x.fst.snd.fst)
  : Int) = (0 : Int)))) ∧ Wr ((dialW x_3.w x_3.i x.snd.fst).fst.fst = (dialW x_3.w x_3.i x.snd.fst).fst.fst) ∧ Wr ((dialW x_3.w x_3.i x.snd.fst).fst.snd.fst = (dialW x_3.w x_3.i x.snd.fst).fst.snd.fst) ∧ Wr ((dialW x_3.w
  x_3.i x.snd.fst).fst.snd.snd.fst = (dialW x_3.w x_3.i x.snd.fst).fst.snd.snd.fst) ∧ Wr ((dialW x_3.w x_3.i x.snd.fst).fst.snd.snd.snd.fst = (dialW x_3.w x_3.i x.snd.fst).fst.snd.snd.snd.fst) ∧ Wr ((dialW x_3.w x_3.i
  x.snd.fst).snd.fst = (dialW x_3.w x_3.i x.snd.fst).snd.fst) ∧ Wr ((dialW x_3.w x_3.i x.snd.fst).snd.snd.fst = (dialW x_3.w x_3.i x.snd.fst).snd.snd.fst) ∧ Wr ((dialW x_3.w x_3.i x.snd.fst).snd.snd.snd.fst = (dialW x_3.w
  x_3.i x.snd.fst).snd.snd.snd.fst) ∧ Wr ((dialW x_3.w x_3.i x.snd.fst).snd.snd.snd.snd.fst = (dialW x_3.w x_3.i x.snd.fst).snd.snd.snd.snd.fst) ∧ Wr ((dialW x_3.w x_3.i x.snd.fst).snd.snd.snd.snd.snd.fst = (dialW x_3.w
  x_3.i x.snd.fst).snd.snd.snd.snd.snd.fst) ∧ Wr ((dialW x_3.w x_3.i x.snd.fst).snd.snd.snd.snd.snd.snd.fst = (dialW x_3.w x_3.i x.snd.fst).snd.snd.snd.snd.snd.snd.fst) ∧ Wr (x.fst.fst = x.fst.fst) ∧ Wr (x.fst.snd.fst =
  x.fst.snd.fst) ∧ Wr (x.fst.snd.snd.fst = x.fst.snd.snd.fst) ∧ Wr (x.fst.snd.snd.snd.fst = x.fst.snd.snd.snd.fst) ∧ Wr (x.snd.fst.fst = x.snd.fst.fst) ∧ Wr (x.snd.fst.snd.fst.fst = x.snd.fst.snd.fst.fst) ∧ Wr
  (x.snd.fst.snd.fst.snd.fst = x.snd.fst.snd.fst.snd.fst) ∧ Wr (x.snd.fst.snd.fst.snd.snd.fst = x.snd.fst.snd.fst.snd.snd.fst) ∧ Wr (x.snd.fst.snd.fst.snd.snd.snd.fst = x.snd.fst.snd.fst.snd.snd.snd.fst) ∧ Wr
  (x.snd.fst.snd.fst.snd.snd.snd.snd.fst = x.snd.fst.snd.fst.snd.snd.snd.snd.fst) ∧ Wr (x.snd.fst.snd.fst.snd.snd.snd.snd.snd.fst = x.snd.fst.snd.fst.snd.snd.snd.snd.snd.fst) ∧ Wr
  (x.snd.fst.snd.fst.snd.snd.snd.snd.snd.snd.fst = x.snd.fst.snd.fst.snd.snd.snd.snd.snd.snd.fst) ∧ Wr (x.snd.fst.snd.fst.snd.snd.snd.snd.snd.snd.snd.fst = x.snd.fst.snd.fst.snd.snd.snd.snd.snd.snd.snd.fst) ∧ Wr
  (x.snd.fst.snd.snd.fst = x.snd.fst.snd.snd.fst))) (Wr (okW (dialW x_3.w x_3.i x.snd.fst) = Bool.true) ∧ bcase (!Decidable.decide (endE (dialW x_3.w x_3.i x.snd.fst) x_3.i = (0 : Int)) || List.all (x.snd.fst :: nilL (Int
  × (Int × Int × Int × Int × Int × Int × Int × Int × Unit) × Int × Unit)) (goodA x.fst) && !Decidable.decide ((endM (dialW x_3.w x_3.i x.snd.fst) x_3.i).snd.snd.snd.snd.snd.fst = (0 : Int)) || Decidable.decide (fateF
  x.fst x.snd.fst (0 : Int) = (1 : Int)) && Decidable.decide (fateF x.fst x.snd.fst (32 : Int) = (1 : Int)) && Decidable.decide ((↑(List.length x.fst.snd.fst) : Int) = (0 : Int)) && Decidable.decide ((endM (dialW x_3.w
  x_3.i x.snd.fst) x_3.i).snd.snd.snd.snd.snd.fst = (0 : Int))) ((Bool.false, ()) = (Bool.true, ())) (Wr ((Decidable.decide ((endM (dialW x_3.w x_3.i x.snd.fst) x_3.i).snd.snd.snd.snd.snd.fst = (0 : Int)) &&
  !!Decidable.decide ((↑(List.length (endW (dialW x_3.w x_3.i x.snd.fst) x_3.i).snd.snd.fst) : Int) = IntKind.wrap IntKind.i64 ((↑(List.length x_3.w.snd.snd.fst) : Int) + (1 : Int)))) = Bool.true → (0 : Int) ≤
  (↑(List.length x_3.w.snd.snd.fst) : Int)) ∧ Wr ((Decidable.decide ((endM (dialW x_3.w x_3.i x.snd.fst) x_3.i).snd.snd.snd.snd.snd.fst = (0 : Int)) && !!Decidable.decide ((↑(List.length (endW (dialW x_3.w x_3.i
  x.snd.fst) x_3.i).snd.snd.fst) : Int) = IntKind.wrap IntKind.i64 ((↑(List.length x_3.w.snd.snd.fst) : Int) + (1 : Int)))) = Bool.true → (↑(List.length x_3.w.snd.snd.fst) : Int) < (↑(List.length (endW (dialW x_3.w x_3.i
  x.snd.fst) x_3.i).snd.snd.fst) : Int)) ∧ Wr ((Decidable.decide ((endM (dialW x_3.w x_3.i x.snd.fst) x_3.i).snd.snd.snd.snd.snd.fst = (0 : Int)) && !!Decidable.decide ((↑(List.length (endW (dialW x_3.w x_3.i x.snd.fst)
  x_3.i).snd.snd.fst) : Int) = IntKind.wrap IntKind.i64 ((↑(List.length x_3.w.snd.snd.fst) : Int) + (1 : Int)))) = Bool.true → Bool.true = Bool.true) ∧ Wr ((Decidable.decide ((endM (dialW x_3.w x_3.i x.snd.fst)
  x_3.i).snd.snd.snd.snd.snd.fst = (0 : Int)) && !!Decidable.decide ((↑(List.length (endW (dialW x_3.w x_3.i x.snd.fst) x_3.i).snd.snd.fst) : Int) = IntKind.wrap IntKind.i64 ((↑(List.length x_3.w.snd.snd.fst) : Int) + (1
  : Int)))) = Bool.true → Bool.true = Bool.true) ∧ Wr ((Decidable.decide ((endM (dialW x_3.w x_3.i x.snd.fst) x_3.i).snd.snd.snd.snd.snd.fst = (0 : Int)) && !(!Decidable.decide ((↑(List.length (endW (dialW x_3.w x_3.i
  x.snd.fst) x_3.i).snd.snd.fst) : Int) = IntKind.wrap IntKind.i64 ((↑(List.length x_3.w.snd.snd.fst) : Int) + (1 : Int))) || !Ty.eqb (Ty.cons (Ty.int IntKind.i8) (Ty.cons (Ty.arr (8 : Nat) (Ty.int IntKind.u16)) (Ty.cons
  (Ty.int IntKind.i64) Ty.unit))) (List.getD (endW (dialW x_3.w x_3.i x.snd.fst) x_3.i).snd.snd.fst (Int.toNat (↑(List.length x_3.w.snd.snd.fst) : Int)) (Ty.zero SockT)).fst x.snd.fst)) = Bool.true → (0 : Int) ≤
  (↑(List.length x_3.w.snd.snd.fst) : Int)) ∧ Wr ((Decidable.decide ((endM (dialW x_3.w x_3.i x.snd.fst) x_3.i).snd.snd.snd.snd.snd.fst = (0 : Int)) && !(!Decidable.decide ((↑(List.length (endW (dialW x_3.w x_3.i
  x.snd.fst) x_3.i).snd.snd.fst) : Int) = IntKind.wrap IntKind.i64 ((↑(List.length x_3.w.snd.snd.fst) : Int) + (1 : Int))) || !Ty.eqb (Ty.cons (Ty.int IntKind.i8) (Ty.cons (Ty.arr (8 : Nat) (Ty.int IntKind.u16)) (Ty.cons
  (Ty.int IntKind.i64) Ty.unit))) (List.getD (endW (dialW x_3.w x_3.i x.snd.fst) x_3.i).snd.snd.fst (Int.toNat (↑(List.length x_3.w.snd.snd.fst) : Int)) (Ty.zero SockT)).fst x.snd.fst)) = Bool.true → (↑(List.length
  x_3.w.snd.snd.fst) : Int) < (↑(List.length (endW (dialW x_3.w x_3.i x.snd.fst) x_3.i).snd.snd.fst) : Int)) ∧ Wr ((Decidable.decide ((endM (dialW x_3.w x_3.i x.snd.fst) x_3.i).snd.snd.snd.snd.snd.fst = (0 : Int)) &&
  !(!Decidable.decide ((↑(List.length (endW (dialW x_3.w x_3.i x.snd.fst) x_3.i).snd.snd.fst) : Int) = IntKind.wrap IntKind.i64 ((↑(List.length x_3.w.snd.snd.fst) : Int) + (1 : Int))) || !Ty.eqb (Ty.cons (Ty.int
  IntKind.i8) (Ty.cons (Ty.arr (8 : Nat) (Ty.int IntKind.u16)) (Ty.cons (Ty.int IntKind.i64) Ty.unit))) (List.getD (endW (dialW x_3.w x_3.i x.snd.fst) x_3.i).snd.snd.fst (Int.toNat (↑(List.length x_3.w.snd.snd.fst) :
  Int)) (Ty.zero SockT)).fst x.snd.fst)) = Bool.true → Bool.true = Bool.true) ∧ Wr ((Decidable.decide ((endM (dialW x_3.w x_3.i x.snd.fst) x_3.i).snd.snd.snd.snd.snd.fst = (0 : Int)) && !(!Decidable.decide ((↑(List.length
  (endW (dialW x_3.w x_3.i x.snd.fst) x_3.i).snd.snd.fst) : Int) = IntKind.wrap IntKind.i64 ((↑(List.length x_3.w.snd.snd.fst) : Int) + (1 : Int))) || !Ty.eqb (Ty.cons (Ty.int IntKind.i8) (Ty.cons (Ty.arr (8 : Nat)
  (Ty.int IntKind.u16)) (Ty.cons (Ty.int IntKind.i64) Ty.unit))) (List.getD (endW (dialW x_3.w x_3.i x.snd.fst) x_3.i).snd.snd.fst (Int.toNat (↑(List.length x_3.w.snd.snd.fst) : Int)) (Ty.zero SockT)).fst x.snd.fst)) =
  Bool.true → Bool.true = Bool.true) ∧ bcase (Decidable.decide ((endM (dialW x_3.w x_3.i x.snd.fst) x_3.i).snd.snd.snd.snd.snd.fst = (0 : Int)) && (!Decidable.decide ((↑(List.length (endW (dialW x_3.w x_3.i x.snd.fst)
  x_3.i).snd.snd.fst) : Int) = IntKind.wrap IntKind.i64 ((↑(List.length x_3.w.snd.snd.fst) : Int) + (1 : Int))) || !Ty.eqb (Ty.cons (Ty.int IntKind.i8) (Ty.cons (Ty.arr (8 : Nat) (Ty.int IntKind.u16)) (Ty.cons (Ty.int
  IntKind.i64) Ty.unit))) (List.getD (endW (dialW x_3.w x_3.i x.snd.fst) x_3.i).snd.snd.fst (Int.toNat (↑(List.length x_3.w.snd.snd.fst) : Int)) (Ty.zero SockT)).fst x.snd.fst || !Decidable.decide ((List.getD (endW (dialW
  x_3.w x_3.i x.snd.fst) x_3.i).snd.snd.fst (Int.toNat (↑(List.length x_3.w.snd.snd.fst) : Int)) (Ty.zero SockT)).snd.fst = x_3.i))) ((Bool.false, ()) = (Bool.true, ())) (Wr (FtI x.fst x.snd.fst x.snd.snd.fst (List.all
  (x.snd.fst :: nilL (Int × (Int × Int × Int × Int × Int × Int × Int × Int × Unit) × Int × Unit)) (goodA x.fst)) (Decidable.decide (fateF x.fst x.snd.fst (0 : Int) = (1 : Int)) && Decidable.decide (fateF x.fst x.snd.fst
  (32 : Int) = (1 : Int)) && Decidable.decide ((↑(List.length x.fst.snd.fst) : Int) = (0 : Int))) (FtS.mk (IntKind.wrap IntKind.i64 (x_3.i + (1 : Int))) (endW (dialW x_3.w x_3.i x.snd.fst) x_3.i))) ∧ Wr (List.length
  x.snd.snd.fst - Int.toNat (IntKind.wrap IntKind.i64 (x_3.i + (1 : Int))) < List.length x.snd.snd.fst - Int.toNat x_3.i) ∧ Wr (IntKind.wrap IntKind.i64 (x_3.i + (1 : Int)) = IntKind.wrap IntKind.i64 (x_3.i + (1 : Int)))
  ∧ Wr (x.snd.snd.fst = x.snd.snd.fst) ∧ Wr (List.all (x.snd.fst :: nilL (Int × (Int × Int × Int × Int × Int × Int × Int × Int × Unit) × Int × Unit)) (goodA x.fst) = List.all (x.snd.fst :: nilL (Int × (Int × Int × Int ×
  Int × Int × Int × Int × Int × Unit) × Int × Unit)) (goodA x.fst)) ∧ Wr ((Decidable.decide (fateF x.fst x.snd.fst (0 : Int) = (1 : Int)) && Decidable.decide (fateF x.fst x.snd.fst (32 : Int) = (1 : Int)) &&
  Decidable.decide ((↑(List.length x.fst.snd.fst) : Int) = (0 : Int))) = (Decidable.decide (fateF x.fst x.snd.fst (0 : Int) = (1 : Int)) && Decidable.decide (fateF x.fst x.snd.fst (32 : Int) = (1 : Int)) &&
  Decidable.decide ((↑(List.length x.fst.snd.fst) : Int) = (0 : Int)))) ∧ Wr ((endW (dialW x_3.w x_3.i x.snd.fst) x_3.i).fst.fst = (endW (dialW x_3.w x_3.i x.snd.fst) x_3.i).fst.fst) ∧ Wr ((endW (dialW x_3.w x_3.i
  x.snd.fst) x_3.i).fst.snd.fst = (endW (dialW x_3.w x_3.i x.snd.fst) x_3.i).fst.snd.fst) ∧ Wr ((endW (dialW x_3.w x_3.i x.snd.fst) x_3.i).fst.snd.snd.fst = (endW (dialW x_3.w x_3.i x.snd.fst) x_3.i).fst.snd.snd.fst) ∧ Wr
  ((endW (dialW x_3.w x_3.i x.snd.fst) x_3.i).fst.snd.snd.snd.fst = (endW (dialW x_3.w x_3.i x.snd.fst) x_3.i).fst.snd.snd.snd.fst) ∧ Wr ((endW (dialW x_3.w x_3.i x.snd.fst) x_3.i).snd.fst = (endW (dialW x_3.w x_3.i
  x.snd.fst) x_3.i).snd.fst) ∧ Wr ((endW (dialW x_3.w x_3.i x.snd.fst) x_3.i).snd.snd.fst = (endW (dialW x_3.w x_3.i x.snd.fst) x_3.i).snd.snd.fst) ∧ Wr ((endW (dialW x_3.w x_3.i x.snd.fst) x_3.i).snd.snd.snd.fst = (endW
  (dialW x_3.w x_3.i x.snd.fst) x_3.i).snd.snd.snd.fst) ∧ Wr ((endW (dialW x_3.w x_3.i x.snd.fst) x_3.i).snd.snd.snd.snd.fst = (endW (dialW x_3.w x_3.i x.snd.fst) x_3.i).snd.snd.snd.snd.fst) ∧ Wr ((endW (dialW x_3.w x_3.i
  x.snd.fst) x_3.i).snd.snd.snd.snd.snd.fst = (endW (dialW x_3.w x_3.i x.snd.fst) x_3.i).snd.snd.snd.snd.snd.fst) ∧ Wr ((endW (dialW x_3.w x_3.i x.snd.fst) x_3.i).snd.snd.snd.snd.snd.snd.fst = (endW (dialW x_3.w x_3.i
  x.snd.fst) x_3.i).snd.snd.snd.snd.snd.snd.fst) ∧ Wr (x.fst.fst = x.fst.fst) ∧ Wr (x.fst.snd.fst = x.fst.snd.fst) ∧ Wr (x.fst.snd.snd.fst = x.fst.snd.snd.fst) ∧ Wr (x.fst.snd.snd.snd.fst = x.fst.snd.snd.snd.fst) ∧ Wr
  (x.snd.fst.fst = x.snd.fst.fst) ∧ Wr (x.snd.fst.snd.fst.fst = x.snd.fst.snd.fst.fst) ∧ Wr (x.snd.fst.snd.fst.snd.fst = x.snd.fst.snd.fst.snd.fst) ∧ Wr (x.snd.fst.snd.fst.snd.snd.fst = x.snd.fst.snd.fst.snd.snd.fst) ∧ Wr
  (x.snd.fst.snd.fst.snd.snd.snd.fst = x.snd.fst.snd.fst.snd.snd.snd.fst) ∧ Wr (x.snd.fst.snd.fst.snd.snd.snd.snd.fst = x.snd.fst.snd.fst.snd.snd.snd.snd.fst) ∧ Wr (x.snd.fst.snd.fst.snd.snd.snd.snd.snd.fst =
  x.snd.fst.snd.fst.snd.snd.snd.snd.snd.fst) ∧ Wr (x.snd.fst.snd.fst.snd.snd.snd.snd.snd.snd.fst = x.snd.fst.snd.fst.snd.snd.snd.snd.snd.snd.fst) ∧ Wr (x.snd.fst.snd.fst.snd.snd.snd.snd.snd.snd.snd.fst =
  x.snd.fst.snd.fst.snd.snd.snd.snd.snd.snd.snd.fst) ∧ Wr (x.snd.fst.snd.snd.fst = x.snd.fst.snd.snd.fst))))))) (Wr True ∧ (Bool.true, ()) = (Bool.true, ())))))) := by kernel_rfl
end Go.Proofs.YtfhlceooobabcaaDoor.Wd
set_option linter.all false
namespace Go.Proofs.YtfhlceooobabcaaDoor.Wd
open Go Go.Eng Go.Lb Go.Ad
set_option maxRecDepth 100000
set_option maxHeartbeats 4000000

theorem len_gl (g : G8) : (gl g).length = 8 := rfl
theorem may2_fin {a : Ad} {i : Int} (hp : ¬ a.2.2.1 < 1 ∧ ¬ a.2.2.1 > 65535) (hf : a.1 = 4 ∨ a.1 = 6) (h : May2I a i) (hi : ¬ i < 8 ∨ ¬ a.1 = 4) : may1 a = true := by
  rw [may1_iff]
  refine ⟨⟨by omega, by omega⟩, ?_⟩
  rcases hf with h4 | h6
  · refine .inr ⟨h4, fun x hx => ?_⟩
    obtain ⟨k, hk, e⟩ := List.mem_iff_getElem.1 hx
    rw [List.getElem_drop] at e
    rw [List.length_drop, len_gl] at hk
    have i1 := h.i1
    have i8 : i = 8 := by omega
    have := h.z h4 (2 + k) (by omega) (by omega)
    rw [List.getD_eq_getElem?_getD, List.getElem?_eq_getElem (by rw [len_gl]; omega)] at this
    rw [← e]
    exact this
  · exact .inl h6
theorem v21 : Vc g21 300 Tryd.f21 cMay1 := by
  constructor
  rw [v21_eq]
  intro x _
  generalize x.fst = a
  have hg : (a.2.1.1 :: a.2.1.2.1 :: a.2.1.2.2.1 :: a.2.1.2.2.2.1 :: a.2.1.2.2.2.2.1 :: a.2.1.2.2.2.2.2.1 :: a.2.1.2.2.2.2.2.2.1 :: a.2.1.2.2.2.2.2.2.2.1 :: nilL Int) = gl a.2.1 := rfl
  rw [hg]
  refine (bcase_iff _ _ _).2 ⟨fun h => ?_, fun h => ?_⟩
  · have : may1 a = false := by
      cases hm : may1 a with
      | false => rfl
      | true =>
        exfalso
        have hm := (may1_iff a).1 hm
        simp only [Bool.or_eq_true, Bool.and_eq_true, Bool.not_eq_true', decide_eq_true_eq, decide_eq_false_iff_not] at h
        rcases h with (h | h) | h
        · omega
        · omega
        · rcases hm.2 with h6 | h4
          · exact h.2 h6
          · exact h.1 h4.1
    rw [this]
  · simp only [Bool.or_eq_false_iff, Bool.and_eq_false_iff, Bool.not_eq_false', decide_eq_true_eq, decide_eq_false_iff_not] at h
    obtain ⟨hp, hf⟩ := h
    refine ⟨⟨⟨⟨by omega, by omega, fun _ k h1 h2 => by omega⟩⟩, by repeat' (first | exact ⟨rfl⟩ | apply And.intro)⟩, fun y hy => (bcase_iff _ _ _).2 ⟨fun h => ?_, fun h => ?_⟩⟩
    · have hy := hy.out
      simp only [Bool.and_eq_true, decide_eq_true_eq] at h
      obtain ⟨h8, h4⟩ := h
      have y0 := hy.i0
      refine ⟨⟨by omega⟩, ⟨by omega⟩, (bcase_iff _ _ _).2 ⟨fun h => ?_, fun h => ?_⟩⟩
      · have h : ¬ (gl a.2.1).getD y.toNat 0 = 0 := by simpa using h
        have : may1 a = false := by
          cases hm : may1 a with
          | false => rfl
          | true =>
            exfalso
            have hm := ((may1_iff a).1 hm).2
            rcases hm with h6 | ⟨_, hz⟩
            · omega
            · apply h
              apply hz
              have hl : y.toNat < (gl a.2.1).length := by rw [len_gl]; omega
              rw [List.getD_eq_getElem?_getD, List.getElem?_eq_getElem hl]
              refine List.mem_iff_getElem.2 ⟨y.toNat - 2, by rw [List.length_drop, len_gl]; omega, ?_⟩
              rw [List.getElem_drop]
              simp only [Option.getD_some]
              congr 1
              omega
        rw [this]
      · have h : (gl a.2.1).getD y.toNat 0 = 0 := by simpa using h
        rw [w64 (by omega) (by omega)]
        refine ⟨⟨⟨by omega, by omega, fun h4 k k1 k2 => ?_⟩⟩, ⟨by omega⟩, by repeat' (first | exact ⟨rfl⟩ | apply And.intro)⟩
        rcases Int.lt_or_le (k : Int) y with c | c
        · exact hy.z h4 k k1 c
        · have : k = y.toNat := by omega
          rw [this]; exact h
    · rw [may2_fin hp hf hy.out (by
        simp only [Bool.and_eq_false_iff, decide_eq_false_iff_not] at h
        exact h)]
theorem v8 : Vc g8 300 Tryd.f8 cMay := by
  constructor
  rw [v8_eq]
  intro x hl
  generalize x.fst = l at *
  have hl := (lenA_iff l).1 hl.out
  refine ⟨⟨⟨⟨by omega, by omega, rfl⟩⟩, by repeat' (first | exact ⟨rfl⟩ | apply And.intro)⟩, fun y hy => (bcase_iff _ _ _).2 ⟨fun h => ?_, fun h => ?_⟩⟩
  · have hy := hy.out
    have h := of_decide_eq_true h
    have y0 := hy.i0
    refine ⟨⟨y0⟩, ⟨h⟩, ⟨rfl⟩, ⟨rfl⟩, (bcase_iff _ _ _).2 ⟨fun hm => ?_, fun hm => ?_⟩⟩
    · have : mayA l = false := by
        cases hx : mayA l with
        | false => rfl
        | true =>
          have h1 : may1 (l.getD y.toNat (Ty.zero AdT)) = true := List.all_eq_true.1 hx _ (getD_memA (z := Ty.zero AdT) y0 h)
          have h2 : may1 (l.getD y.toNat (Ty.zero AdT)) = false := by
            rw [Bool.not_eq_true'] at hm
            exact hm
          exact absurd (h1.symm.trans h2) (by decide)
      rw [this]
    · have hm : may1 (l.getD y.toNat (Ty.zero AdT)) = true := by simpa using hm
      rw [step y0 (by omega) h]
      refine ⟨⟨⟨by omega, by omega, ?_⟩⟩, ⟨wcut y0 h⟩, by repeat' (first | exact ⟨rfl⟩ | apply And.intro)⟩
      rw [take_succ l y (Ty.zero AdT) y0 h, List.all_append, hy.a]
      simpa using hm
  · have := hy.out.a
    rw [take_all hy.out.i1 (of_decide_eq_false h)] at this
    rw [show mayA l = true from this]
/-! digits -/
theorem idx_I {α : Type} {p : α → Bool} {l : List α} (z : α) (h : 0 ≤ idxZ p l) : IdxI p l (idxZ p l) ∧ idxZ p l < l.length ∧ p (l.getD (idxZ p l).toNat z) = true := by
  have hl := idx_lt h
  unfold idxZ at h hl ⊢
  cases ha : l.any p with
  | false => rw [ha] at h; simp at h
  | true =>
    simp only [ha, cond_true] at h hl ⊢
    have hn : l.findIdx p < l.length := by omega
    have ht : ((l.findIdx p : Nat) : Int).toNat = l.findIdx p := rfl
    refine ⟨⟨h, by omega, ?_⟩, hl, ?_⟩
    · rw [ht, List.any_eq_false]
      intro x hx hp
      obtain ⟨j, hj, e⟩ := List.mem_iff_getElem.1 hx
      rw [List.length_take] at hj
      rw [List.getElem_take] at e
      have := List.not_of_lt_findIdx (p := p) (xs := l) (i := j) (by omega)
      rw [e] at this
      exact absurd (hp.symm.trans this) (by decide)
    · rw [ht, List.getD_eq_getElem?_getD, List.getElem?_eq_getElem hn, Option.getD_some]
      exact List.findIdx_getElem
theorem row_no {p : Pl} {a : Ad} (h : idxZ (adIs a) p.2.1 < 0) : fateRow p a = [] := by
  refine fateRow_none ?_
  unfold idxZ at h
  cases ha : p.2.1.any (adIs a) with
  | true => rw [ha] at h; simp at h; omega
  | false =>
    rw [List.find?_eq_none]
    intro x hx hp
    rw [List.any_eq_false] at ha
    exact ha x hx hp
theorem row_yes {p : Pl} {a : Ad} (h : 0 ≤ idxZ (adIs a) p.2.1) : fateRow p a = (p.2.1.getD (idxZ (adIs a) p.2.1).toNat FatT.zero).2.1 := by
  obtain ⟨h1, h2, h3⟩ := idx_I (FatT.zero) h
  exact fateRow_some (h1.find FatT.zero h2 h3)
theorem v24 : Vc g24 300 Tryd.f24 cRowIx := by
  constructor
  rw [v24_eq]
  simp only [Wr_iff, bcase_iff, true_and, and_true, decide_eq_true_eq, decide_eq_false_iff_not, Bool.and_eq_true, Bool.and_eq_false_iff, Bool.or_eq_true, Bool.or_eq_false_iff, Bool.not_eq_true', Bool.not_eq_false', Option.map_some, Option.getD_some, Option.isSome_some, Option.isSome_map, imp_self, nilL, noneO]
  rintro ⟨p, a, ⟨⟩⟩ hp
  dsimp only at hp ⊢
  obtain ⟨hp1, hp2⟩ := (okP_iff p).1 hp
  have hlen : p.2.1.length ≤ 5000000000 := by omega
  refine ⟨by ((repeat' apply And.intro) <;> first | exact Nat.le_refl _ | exact IdxI.zero _ _ | exact CntI.zero _ _ | assumption), fun i hu => ⟨fun hi => ⟨hu.i0, hi, fun hg => ?_, fun hg => ?_⟩, fun hi => ?_⟩⟩
  · exact congrArg (fun z : Int => (z, ())) (hu.idx FatT.zero hi (decide_eq_true ((eAd _ _).1 hg)))
  · obtain ⟨k1, k2⟩ := hu.on FatT.zero hlen hi (decide_eq_false ((eqA_f _ _).1 hg))
    ((repeat' apply And.intro) <;> first | exact Nat.le_refl _ | exact IdxI.zero _ _ | exact CntI.zero _ _ | assumption)
  · exact congrArg (fun z : Int => (z, ())) (idx_no (hu.fin hi))
theorem nth_lem (m n : Int) (h0 : 0 ≤ m) (h1 : m ≤ 1000000) : (min (max n 0) (IntKind.wrap .i64 (m - 1)), ()) = (nthZ m n, ()) := by
  have e : IntKind.wrap .i64 (m - 1) = m - 1 := by
    by_cases h : m = 0
    · subst h; decide
    · exact w64 (n := m - 1) (by omega) (by omega)
  rw [e]
  rfl
theorem v25 : Vc g25 300 Tryd.f25 cNth := by
  constructor
  rw [v25_eq]
  simp only [Wr_iff, bcase_iff, true_and, and_true, decide_eq_true_eq, decide_eq_false_iff_not, Bool.and_eq_true, Bool.and_eq_false_iff, Bool.or_eq_true, Bool.or_eq_false_iff, Bool.not_eq_true', Bool.not_eq_false', Option.map_some, Option.getD_some, Option.isSome_some, Option.isSome_map, imp_self, nilL, noneO]
  rintro ⟨m, n, ⟨⟩⟩ h
  dsimp only at h ⊢
  exact nth_lem m n h.1 h.2
theorem fateF_at (p : Pl) (a : Ad) (n : Int) : fateF p a n = fateAt (fateRow p a) n := rfl
theorem v11 : Vc g11 300 Tryd.f11 cFate := by
  constructor
  rw [v11_eq]
  simp only [Wr_iff, bcase_iff, true_and, and_true, decide_eq_true_eq, decide_eq_false_iff_not, Bool.and_eq_true, Bool.and_eq_false_iff, Bool.or_eq_true, Bool.or_eq_false_iff, Bool.not_eq_true', Bool.not_eq_false', Option.map_some, Option.getD_some, Option.isSome_some, Option.isSome_map, imp_self, nilL, noneO]
  rintro ⟨p, a, n, ⟨⟩⟩ hp
  dsimp only at hp ⊢
  obtain ⟨hp1, hp2⟩ := (okP_iff p).1 hp
  have hno : idxZ (adIs a) p.2.1 < 0 → fateRow p a = [] := row_no
  have hyes : 0 ≤ idxZ (adIs a) p.2.1 → fateRow p a = (p.2.1.getD (idxZ (adIs a) p.2.1).toNat FatT.zero).2.1 := row_yes
  have hlt : 0 ≤ idxZ (adIs a) p.2.1 → idxZ (adIs a) p.2.1 < p.2.1.length := idx_lt
  rw [fateF_at]
  generalize idxZ (adIs a) p.2.1 = k at *
  have hm : 0 ≤ k → (p.2.1.getD k.toNat FatT.zero).2.1.length ≤ 1000000 := fun h => hp2 _ (getD_memA (z := FatT.zero) h (hlt h))
  generalize (p.2.1.getD k.toNat FatT.zero).2.1 = L at *
  refine ⟨hp, fun h => by omega, fun h => hlt (by omega), fun _ => trivial, fun _ => trivial, fun h => ?_, fun h => ?_⟩
  · refine congrArg (fun z : Int => (z, ())) ?_
    rcases h with h | h
    · rw [hno h]; rfl
    · by_cases hk : k < 0
      · rw [hno hk]; rfl
      · rw [hyes (by omega), List.length_eq_zero_iff.1 (Int.ofNat_eq_zero.1 h)]; rfl
  · have hk : 0 ≤ k := by omega
    have hmm := hm hk
    have hL : (1 : Int) ≤ L.length := by have := h.2; omega
    obtain ⟨k1, k2⟩ := minI n hL
    refine ⟨hk, hlt hk, hk, hlt hk, by omega, k1, k2, ?_⟩
    rw [hyes hk, fateAt, decide_eq_false (by omega)]
    rfl
theorem good_iff (p : Pl) (a : Ad) : goodA p a = true ↔ (fateRow p a).length ≠ 0 ∧ (fateRow p a).all (fun x => decide (x = 0)) = true := by
  simp only [goodA, Bool.and_eq_true, Bool.not_eq_true', decide_eq_false_iff_not, ne_eq]
theorem v10 : Vc g10 300 Tryd.f10 cGood := by
  constructor
  rw [v10_eq]
  simp only [Wr_iff, bcase_iff, true_and, and_true, decide_eq_true_eq, decide_eq_false_iff_not, Bool.and_eq_true, Bool.and_eq_false_iff, Bool.or_eq_true, Bool.or_eq_false_iff, Bool.not_eq_true', Bool.not_eq_false', Option.map_some, Option.getD_some, Option.isSome_some, Option.isSome_map, imp_self, nilL, noneO]
  rintro ⟨p, l, ⟨⟩⟩ hpl
  dsimp only at hpl ⊢
  have hp := hpl.1
  obtain ⟨hp1, hp2⟩ := (okP_iff p).1 hp
  have hl := (lenA_iff l).1 hpl.2
  have hl5 : l.length ≤ 5000000000 := by omega
  refine ⟨by ((repeat' apply And.intro) <;> first | exact Nat.le_refl _ | rfl | exact IdxI.zero _ _ | assumption), fun i hu => ⟨fun hi => ?_, fun hi => pr (hu.good hi).symm⟩⟩
  have hno : idxZ (adIs (l.getD i.toNat AdT.zero)) p.2.1 < 0 → fateRow p (l.getD i.toNat AdT.zero) = [] := row_no
  have hyes : 0 ≤ idxZ (adIs (l.getD i.toNat AdT.zero)) p.2.1 → fateRow p (l.getD i.toNat AdT.zero) = (p.2.1.getD (idxZ (adIs (l.getD i.toNat AdT.zero)) p.2.1).toNat FatT.zero).2.1 := row_yes
  have hlt : 0 ≤ idxZ (adIs (l.getD i.toNat AdT.zero)) p.2.1 → idxZ (adIs (l.getD i.toNat AdT.zero)) p.2.1 < p.2.1.length := idx_lt
  have hm : 0 ≤ idxZ (adIs (l.getD i.toNat AdT.zero)) p.2.1 → (p.2.1.getD (idxZ (adIs (l.getD i.toNat AdT.zero)) p.2.1).toNat FatT.zero).2.1.length ≤ 1000000 := fun h => hp2 _ (getD_memA (z := FatT.zero) h (hlt h))
  have bad : (fateRow p (l.getD i.toNat AdT.zero)).length = 0 ∨ (fateRow p (l.getD i.toNat AdT.zero)).all (fun x => decide (x = 0)) = false → l.all (goodA p) = false := by
    intro h
    refine hu.bad (z := AdT.zero) hi ?_
    refine no_of (good_iff p _) fun hg => ?_
    rcases h with h | h
    · exact hg.1 h
    · rw [h] at hg; cases hg.2
  have fz : ∀ k : Int, k = idxZ (adIs (l.getD i.toNat AdT.zero)) p.2.1 → 0 ≤ k → (fateRow p (l.getD i.toNat AdT.zero)).length ≠ 0 → FatsI p l i k 0 := fun k e h0 hn => ⟨hu, hi, e, h0, hn, by omega, by omega, rfl⟩
  have nxt : ∀ k j, FatsI p l i k j → ¬ j < (fateRow p (l.getD i.toNat AdT.zero)).length → goodA p (l.getD i.toNat AdT.zero) = true := by
    intro k j h hj
    refine (good_iff p _).2 ⟨h.n, ?_⟩
    have := h.a
    rwa [take_all h.j1 hj] at this
  have stp : ∀ k j, FatsI p l i k j → j < (fateRow p (l.getD i.toNat AdT.zero)).length → (fateRow p (l.getD i.toNat AdT.zero)).length ≤ 1000000 → (fateRow p (l.getD i.toNat AdT.zero)).getD j.toNat 0 = 0 →
      FatsI p l i k (IntKind.wrap .i64 (j + 1)) ∧ 1000000 - (IntKind.wrap .i64 (j + 1)).toNat < 1000000 - j.toNat := by
    intro k j h hj hmm hz
    have j0 := h.j0
    rw [w64 (by omega) (by omega)]
    refine ⟨⟨h.o, h.i1, h.ke, h.k0, h.n, by omega, by omega, ?_⟩, by omega⟩
    rw [take_succ _ j 0 j0 hj, List.all_append, h.a, hz]
    rfl
  have bd : ∀ k j, FatsI p l i k j → j < (fateRow p (l.getD i.toNat AdT.zero)).length → ¬ (fateRow p (l.getD i.toNat AdT.zero)).getD j.toNat 0 = 0 → l.all (goodA p) = false := by
    intro k j h hj hz
    refine bad (.inr ?_)
    rw [List.all_eq_false]
    exact ⟨_, getD_memA (z := 0) h.j0 hj, by simpa using hz⟩
  generalize hk : idxZ (adIs (l.getD i.toNat AdT.zero)) p.2.1 = k at *
  generalize (p.2.1.getD k.toNat FatT.zero).2.1 = L at *
  refine ⟨hu.i0, hi, hp, fun h => by omega, fun h => hlt (by omega), fun _ => trivial, fun _ => trivial, fun h => ?_, fun h => ?_⟩
  · refine pr ?_
    rw [bad ?_]
    left
    rcases h with h | h
    · rw [hno h]; rfl
    · by_cases hk : k < 0
      · rw [hno hk]; rfl
      · rw [hyes (by omega)]; exact Int.ofNat_eq_zero.1 h
  · have hk0 : 0 ≤ k := by omega
    have hr := hyes hk0
    have hmm := hm hk0
    rw [hr] at bad fz nxt stp bd
    refine ⟨?_, fun j hj => ⟨hk0, hlt hk0, fun hjl => ⟨hk0, hlt hk0, hj.j0, hjl, fun hg => pr (bd k j hj hjl hg).symm, fun hg => ?_⟩, fun hjl => ?_⟩⟩
    · have := fz k rfl hk0 (by have := h.2; omega)
      ((repeat' apply And.intro) <;> first | exact Nat.le_refl _ | rfl | exact IdxI.zero _ _ | assumption)
    · obtain ⟨s1, s2⟩ := stp k j hj hjl hmm hg
      ((repeat' apply And.intro) <;> first | exact Nat.le_refl _ | rfl | exact IdxI.zero _ _ | assumption)
    · obtain ⟨k1, k2⟩ := hu.onN AdT.zero hl5 hi (nxt k j hj hjl)
      ((repeat' apply And.intro) <;> first | exact Nat.le_refl _ | rfl | exact IdxI.zero _ _ | assumption)
end Go.Proofs.YtfhlceooobabcaaDoor.Wd
set_option linter.all false
namespace Go.Proofs.YtfhlceooobabcaaDoor.Wd
open Go Go.Eng Go.Lb Go.Ad
set_option maxRecDepth 100000
set_option maxHeartbeats 8000000

/-! what is so of any plan that may be -/
theorem fate_range {p : Pl} (hc : checkB p = true) (a : Ad) (n : Int) : fateF p a n = 0 ∨ fateF p a n = 1 ∨ fateF p a n = 2 := by
  rw [fateF_at]
  unfold fateAt
  cases hl : decide ((fateRow p a).length = 0) with
  | true => exact .inr (.inl rfl)
  | false =>
    simp only [cond_false]
    have hL : (1 : Int) ≤ (fateRow p a).length := by have := of_decide_eq_false hl; omega
    obtain ⟨k1, k2⟩ := minI n hL
    have hm := getD_memA (z := (0 : Int)) k1 k2
    have hin : ∀ x ∈ fateRow p a, fateIn x = true := by
      unfold fateRow
      split
      · rename_i f hf
        have hm := List.mem_of_find?_eq_some hf
        have := ((check_iff p).1 hc).2.2.1.2
        have := (fate_iff f).1 (List.all_eq_true.1 this f hm)
        exact fun x hx => List.all_eq_true.1 this.2.2 x hx
      · intro x hx; cases hx
    have := hin _ hm
    simp only [fateIn, Bool.and_eq_true, decide_eq_true_eq] at this
    omega
theorem fate_good {p : Pl} {a : Ad} (h : goodA p a = true) (n : Int) : fateF p a n = 0 := by
  obtain ⟨h1, h2⟩ := (good_iff p a).1 h
  rw [fateF_at]
  unfold fateAt
  rw [decide_eq_false h1]
  simp only [cond_false]
  have hL : (1 : Int) ≤ (fateRow p a).length := by omega
  obtain ⟨k1, k2⟩ := minI n hL
  have := List.all_eq_true.1 h2 _ (getD_memA (z := (0 : Int)) k1 k2)
  simpa using this
theorem fate_none {p : Pl} (h : p.2.1 = []) (a : Ad) (n : Int) : fateF p a n = 1 := by
  rw [fateF_at]
  unfold fateRow
  rw [h]
  rfl
theorem okP_of {p : Pl} (hc : checkB p = true) : okP p = true := by
  have h := (check_iff p).1 hc
  refine (okP_iff p).2 ⟨by have := h.2.2.1.1; omega, fun f hf => ?_⟩
  have := (fate_iff f).1 (List.all_eq_true.1 h.2.2.1.2 f hf)
  omega

/-! a dial that was begun last -/
def wd (w : Wd) (d : Dl) : Wd := putDl w (w.2.2.2.1 ++ [d])
theorem ix_none {D : List Dl} {i : Int} (h : ∀ d ∈ D, d.1 < i) : ixD D i = -1 := by
  unfold ixD
  refine (idx_no ?_).symm
  rw [List.any_eq_false]
  intro d hd hp
  have := h d hd
  have := of_decide_eq_true hp
  omega
theorem ix_last {D : List Dl} {i : Int} (h : ∀ d ∈ D, d.1 < i) {d : Dl} (hd : d.1 = i) : ixD (D ++ [d]) i = D.length := by
  have hn : D.any (byIs i) = false := by
    rw [List.any_eq_false]
    intro e he hp
    have := h e he
    have := of_decide_eq_true hp
    omega
  have hI : IdxI (byIs i) (D ++ [d]) D.length := ⟨by omega, by simp; omega, by simpa using hn⟩
  have := hI.idx zDl (by simp; omega) (by
    have e : (D ++ [d]).getD ((D.length : Int)).toNat zDl = d := by simp
    rw [e]
    exact decide_eq_true hd)
  exact this.symm
theorem get_last (D : List Dl) (d : Dl) : getDl (D ++ [d]) D.length = d := by simp [getDl]
theorem set_last (D : List Dl) (d : Dl) (f : Dl → Dl) : setDl (D ++ [d]) D.length f = D ++ [f d] := by
  unfold setDl
  rw [get_last]
  simp
section
variable {w : Wd} {i : Int} {d : Dl}
theorem wd_dials (w : Wd) (d : Dl) : (wd w d).2.2.2.1 = w.2.2.2.1 ++ [d] := rfl
theorem ready_wd (h : ∀ d ∈ w.2.2.2.1, d.1 < i) (hd : d.1 = i) : readyW (wd w d) i = readyD d := by
  unfold readyW
  rw [wd_dials, ix_last h hd, get_last, decide_eq_true (by omega)]
  rfl
theorem cut_wd (h : ∀ d ∈ w.2.2.2.1, d.1 < i) (hd : d.1 = i) (ho : overD d = false) : cutW (wd w d) i = wd w (cutD d) := by
  unfold cutW
  rw [wd_dials, ix_last h hd, get_last, decide_eq_true (by omega), ho, set_last]
  rfl
theorem endE_wd (h : ∀ d ∈ w.2.2.2.1, d.1 < i) (hd : d.1 = i) (hr : readyD d = true) : endE (wd w d) i = 0 := by
  unfold endE
  rw [ready_wd h hd, hr]; rfl
theorem fate_wd (h : ∀ d ∈ w.2.2.2.1, d.1 < i) (hd : d.1 = i) : fateOf (wd w d) i = d.2.2.1 := by
  unfold fateOf
  rw [wd_dials, ix_last h hd, get_last]
theorem endM_wd (h : ∀ d ∈ w.2.2.2.1, d.1 < i) (hd : d.1 = i) (hr : readyD d = true) : (endM (wd w d) i).2.2.2.2.2.1 = bif decide (d.2.2.1 = 0) then 0 else 160 := by
  unfold endM
  rw [ready_wd h hd, hr, fate_wd h hd]
  cases decide (d.2.2.1 = 0) <;> rfl
theorem endW_wd (h : ∀ d ∈ w.2.2.2.1, d.1 < i) (hd : d.1 = i) (hr : readyD d = true) : endW (wd w d) i = bif decide (d.2.2.1 = 0) then
    (w.1, w.2.1, w.2.2.1 ++ [newS d.2.1 i w.2.1], w.2.2.2.1 ++ [endD d], w.2.2.2.2.1, w.2.2.2.2.2.1, w.2.2.2.2.2.2.1 ++ [(false, (w.2.2.1.length : Int), w.2.1, ())], ()) else wd w (endD d) := by
  unfold endW endDs
  rw [ready_wd h hd, hr, fate_wd h hd, wd_dials, ix_last h hd, get_last, set_last]
  cases decide (d.2.2.1 = 0) <;> rfl
end
/-! a round -/
theorem dial_ok {p : Pl} {a : Ad} {cut : List Bool} {good none_ : Bool} {x : FtS} (I : FtI p a cut good none_ x) : dialE x.w x.i a = 0 ∧ dialW x.w x.i a = wd x.w (x.i, a, fateF p a (nthD x.w.2.2.2.1 a), false, false, ()) := by
  have h0 : dialE x.w x.i a = 0 := by
    rw [dialE_iff, I.ma, ix_none I.by_]; rfl
  refine ⟨h0, ?_⟩
  rw [dialW, h0, I.pl]; rfl
structure Dd (p : Pl) (a : Ad) (i : Int) (d : Dl) : Prop where
  by_ : d.1 = i
  ad : d.2.1 = a
  ov : overD d = false
  f : ∃ n, d.2.2.1 = fateF p a n
theorem okW_wd {p : Pl} {a : Ad} {cut : List Bool} {good none_ : Bool} {x : FtS} (I : FtI p a cut good none_ x) (hi : x.i < cut.length) (d : Dl) : okW (wd x.w d) = true ∧ okW x.w = true := by
  have h1 := I.n
  have h2 := I.nd
  have h3 := I.ns
  have h4 := I.nm
  have ho : okP x.w.1 = true := by rw [I.pl]; exact okP_of I.c
  refine ⟨(okW_iff _).2 ⟨?_, ?_, ?_, ho⟩, (okW_iff _).2 ⟨by omega, by omega, by omega, ho⟩⟩
  · rw [wd_dials, List.length_append, List.length_singleton]; omega
  · show x.w.2.2.1.length ≤ 1000000; omega
  · show x.w.2.2.2.2.2.2.1.length ≤ 1000000; omega
theorem go_on {p : Pl} {a : Ad} {cut : List Bool} {good none_ : Bool} {x : FtS} (I : FtI p a cut good none_ x) (hi : x.i < cut.length) {d : Dl} (hd : Dd p a x.i d) :
    FtI p a cut good none_ ⟨IntKind.wrap .i64 (x.i + 1), wd x.w d⟩ ∧ (readyD d = true → FtI p a cut good none_ ⟨IntKind.wrap .i64 (x.i + 1), endW (wd x.w d) x.i⟩) ∧ cut.length - (IntKind.wrap .i64 (x.i + 1)).toNat < cut.length - x.i.toNat := by
  have h0 := I.i0
  have h1 := I.n
  have h2 := I.nd
  have h3 := I.ns
  have h4 := I.nm
  rw [w64 (by omega) (by omega)]
  have mk : ∀ d' : Dl, d'.1 = x.i → ∀ e ∈ x.w.2.2.2.1 ++ [d'], e.1 < x.i + 1 := by
    intro d' hd' e he
    rcases List.mem_append.1 he with he | he
    · have := I.by_ e he; omega
    · simp only [List.mem_singleton] at he; subst he; omega
  refine ⟨⟨I.c, I.ma, I.n, I.g, I.no, by simp only; omega, by simp only; omega, I.pl, mk d hd.by_, ?_, ?_, ?_⟩, fun hr => ?_, by omega⟩
  · simp only [wd_dials, List.length_append, List.length_singleton]; omega
  · show (x.w.2.2.1.length : Int) ≤ x.i + 1; omega
  · show (x.w.2.2.2.2.2.2.1.length : Int) ≤ x.i + 1; omega
  · rw [endW_wd I.by_ hd.by_ hr]
    cases hf : decide (d.2.2.1 = 0) with
    | true =>
      simp only [cond_true]
      refine ⟨I.c, I.ma, I.n, I.g, I.no, by simp only; omega, by simp only; omega, I.pl, mk (endD d) hd.by_, ?_, ?_, ?_⟩
      · simp only [List.length_append, List.length_singleton]; omega
      · simp only [List.length_append, List.length_singleton]; omega
      · simp only [List.length_append, List.length_singleton]; omega
    | false =>
      simp only [cond_false]
      refine ⟨I.c, I.ma, I.n, I.g, I.no, by simp only; omega, by simp only; omega, I.pl, mk (endD d) hd.by_, ?_, ?_, ?_⟩
      · simp only [wd_dials, List.length_append, List.length_singleton]; omega
      · show (x.w.2.2.1.length : Int) ≤ x.i + 1; omega
      · show (x.w.2.2.2.2.2.2.1.length : Int) ≤ x.i + 1; omega
/-- what a dial's end tells -/
theorem end_tells {p : Pl} {a : Ad} {cut : List Bool} {good none_ : Bool} {x : FtS} (I : FtI p a cut good none_ x) {d : Dl} (hd : Dd p a x.i d) (hr : readyD d = true) :
    (good = true → (endM (wd x.w d) x.i).2.2.2.2.2.1 = 0) ∧ (none_ = true → ¬ (endM (wd x.w d) x.i).2.2.2.2.2.1 = 0) ∧
    ((endM (wd x.w d) x.i).2.2.2.2.2.1 = 0 → endW (wd x.w d) x.i = (x.w.1, x.w.2.1, x.w.2.2.1 ++ [newS a x.i x.w.2.1], x.w.2.2.2.1 ++ [endD d], x.w.2.2.2.2.1, x.w.2.2.2.2.2.1, x.w.2.2.2.2.2.2.1 ++ [(false, (x.w.2.2.1.length : Int), x.w.2.1, ())], ())) := by
  rw [endM_wd I.by_ hd.by_ hr, endW_wd I.by_ hd.by_ hr]
  obtain ⟨n, hf⟩ := hd.f
  rw [hf, hd.ad]
  refine ⟨fun hg => ?_, fun hn => ?_, fun h => ?_⟩
  · rw [fate_good (by rw [← I.g]; exact hg) n]; rfl
  · rw [fate_none (I.no hn) a n]; decide
  · cases hz : decide (fateF p a n = 0) with
    | true => rfl
    | false => rw [hz] at h; exact absurd h (by decide)
theorem not_ready {p : Pl} {a : Ad} {cut : List Bool} {good none_ : Bool} {x : FtS} (I : FtI p a cut good none_ x) {d : Dl} (hd : Dd p a x.i d) (hr : readyD d = false) : good = false ∧ none_ = false := by
  obtain ⟨n, hf⟩ := hd.f
  have key : ∀ z, d.2.2.1 = z → (z = 0 ∨ z = 1) → False := by
    rintro z hz h
    have : readyD d = true := by
      unfold readyD
      rw [hd.ov, hz]
      rcases h with rfl | rfl <;> simp
    rw [this] at hr; cases hr
  refine ⟨?_, ?_⟩
  · cases hg : good with
    | false => rfl
    | true => exact (key _ (hf.trans (fate_good (by rw [← I.g]; exact hg) n)) (.inl rfl)).elim
  · cases hn : none_ with
    | false => rfl
    | true => exact (key _ (hf.trans (fate_none (I.no hn) a n)) (.inr rfl)).elim
theorem cut_ready {p : Pl} {a : Ad} {cut : List Bool} {good none_ : Bool} {x : FtS} (I : FtI p a cut good none_ x) {d : Dl} (hd : Dd p a x.i d) : readyD (cutD d) = true := by
  obtain ⟨n, hf⟩ := hd.f
  have ho : overD (cutD d) = false := hd.ov
  have hz : (cutD d).2.2.1 = fateF p a n := hf
  unfold readyD
  rw [ho, hz]
  rcases fate_range I.c a n with h | h | h <;> rw [h] <;> simp [cutD]
theorem get_lastS {α : Type} (S : List α) (s z : α) : (S ++ [s]).getD ((S.length : Int)).toNat z = s := by simp [List.getD_eq_getElem?_getD]
theorem dd_new {p : Pl} {a : Ad} {cut : List Bool} {good none_ : Bool} {x : FtS} (I : FtI p a cut good none_ x) : Dd p a x.i (x.i, a, fateF p a (nthD x.w.2.2.2.1 a), false, false, ()) := ⟨rfl, rfl, rfl, _, rfl⟩
theorem dd_cut {p : Pl} {a : Ad} {i : Int} {d : Dl} (h : Dd p a i d) : Dd p a i (cutD d) := ⟨h.by_, h.ad, h.ov, h.f⟩
theorem init_ok {p : Pl} {a : Ad} {l : List Bool} {good none_ : Bool} (hc : check p = 0) (hl : ¬ (l.length : Int) > 40) (hm : mayA [a] = true) (hg : good = goodA p a) (hn : none_ = true → p.2.1 = []) : FtI p a l good none_ ⟨0, newW p⟩ := by
  have hb := (check_0 p).1 hc
  have hw : newW p = (p, 0, [], [], [], 0, [], ()) := by rw [newW, hb]; rfl
  rw [hw]
  exact ⟨hb, by rw [← may_one]; exact hm, by omega, hg, hn, by simp only; omega, by simp only; omega, rfl, fun d hd => by (cases hd), by simp, by simp, by simp⟩
theorem v3 : Vc g3 300 Tryd.f3 (cLw aFates) := by
  constructor
  rw [v3_eq]
  simp only [Wr_iff, bcase_iff, true_and, and_true, decide_eq_true_eq, decide_eq_false_iff_not, Bool.and_eq_true, Bool.and_eq_false_iff, Bool.or_eq_true, Bool.or_eq_false_iff, Bool.not_eq_true', Bool.not_eq_false', Option.map_some, Option.getD_some, Option.isSome_some, Option.isSome_map, imp_self, nilL, noneO]
  rintro ⟨p, a, l, ⟨⟩⟩ _
  dsimp only
  refine ⟨by omega, fun ⟨n1, i⟩ hi0 => ⟨fun hi => ?_, fun _ => ⟨by omega, fun ⟨n2, i2⟩ hi2 => ⟨fun hi => ?_, fun _ => ?_⟩⟩⟩⟩
  · dsimp only at hi0 hi ⊢
    refine ⟨hi0, hi.1, fun _ => hi0, fun _ => hi.1, fun _ => trivial, fun _ => trivial, fun _ _ => rfl, fun hk => ⟨⟨hi0, hi.1, hi.2, by omega, ?_⟩, fun ⟨n3, k⟩ hu => ⟨hi0, hi.1, fun hk2 => ⟨hi0, hi.1, hu.k0, hk2, ?_⟩, fun _ => ?_⟩⟩⟩
    · have := hk.1
      show (p.1.getD i.toNat ZoneT.zero).2.1.length ≤ 60
      omega
    · have h0 := hu.k0
      have hm : (p.1.getD i.toNat ZoneT.zero).2.1.length ≤ 60 := hu.m
      dsimp only at h0 hk2 ⊢
      have e : IntKind.wrap .i64 (k + 1) = k + 1 := w64 (by omega) (by omega)
      rw [e]
      exact ⟨⟨hi0, hi.1, hi.2, by omega, hm⟩, by omega⟩
    · have e : IntKind.wrap .i64 (i + 1) = i + 1 := w64 (by omega) (by omega)
      rw [e]
      have := hi.1
      omega
  · dsimp only at hi2 hi ⊢
    have e : IntKind.wrap .i64 (i2 + 1) = i2 + 1 := w64 (by omega) (by omega)
    rw [e]
    have := hi.1
    omega
  · have hga : [a].all (goodA p) = goodA p a := by simp
    have hnn : (decide (fateF p a 0 = 1) && decide (fateF p a 32 = 1) && decide ((p.2.1.length : Int) = 0)) = true → p.2.1 = [] := by
      intro h
      simp only [Bool.and_eq_true, decide_eq_true_eq] at h
      exact List.length_eq_zero_iff.1 (Int.ofNat_eq_zero.1 h.2)
    refine ⟨fun _ => rfl, fun _ => trivial, fun h => ?_⟩
    have hck := (check_0 p).1 h.1.1.2
    have hok := okP_of hck
    refine ⟨⟨hok, rfl⟩, hok, fun _ => hok, init_ok h.1.1.2 h.1.2 h.2 hga hnn, fun x I => ⟨fun hi => ?_, fun _ => trivial⟩⟩
    have toN : ((fateF p a 0 = 1 ∧ fateF p a 32 = 1) ∧ (p.2.1.length : Int) = 0) → (decide (fateF p a 0 = 1) && decide (fateF p a 32 = 1) && decide ((p.2.1.length : Int) = 0)) = true := by
      intro h
      simp only [Bool.and_eq_true, decide_eq_true_eq]
      exact h
    generalize (decide (fateF p a 0 = 1) && decide (fateF p a 32 = 1) && decide ((p.2.1.length : Int) = 0)) = N at *
    generalize [a].all (goodA p) = G at *
    obtain ⟨e0, e1⟩ := dial_ok I
    have D0 := dd_new I
    rw [e1]
    generalize (x.i, a, fateF p a (nthD x.w.2.2.2.1 a), false, false, ()) = d at D0 ⊢
    rw [cut_wd I.by_ D0.by_ D0.ov]
    have D1 := dd_cut D0
    have r1 := cut_ready I D0
    have q0 := ready_wd I.by_ D0.by_
    have q1 := ready_wd I.by_ D1.by_
    rw [q0, q1, r1]
    have no1 : ∀ {α : Prop}, true = false → α := fun h => by cases h
    have ns := I.ns
    have nn := I.n
    have hwl : IntKind.wrap .i64 ((x.w.2.2.1.length : Int) + 1) = (x.w.2.2.1.length : Int) + 1 := w64 (by omega) (by omega)
    have bl : ∀ {d : Dl}, Dd p a x.i d → readyD d = true → (endM (wd x.w d) x.i).2.2.2.2.2.1 = 0 →
        (endW (wd x.w d) x.i).2.2.1 = x.w.2.2.1 ++ [newS a x.i x.w.2.1] := fun hd hr hE => by rw [(end_tells I hd hr).2.2 hE]
    rw [hwl]
    refine ⟨(okW_wd I hi d).2, fun h => absurd e0 h, fun _ => ⟨I.i0, hi, fun _ => ⟨(okW_wd I hi d).1, (okW_wd I hi _).1, no1, fun _ => ⟨(okW_wd I hi _).1, no1, fun _ => ?_⟩⟩, fun _ => ⟨(okW_wd I hi d).1, fun hnr => ⟨fun h => ?_, fun _ => ?_⟩, fun hr => ?_⟩⟩⟩
    · refine ⟨(okW_wd I hi _).1, fun h => ?_, fun _ => ?_⟩
      · exfalso
        rcases h with (h | ⟨h1, h2⟩) | ⟨h1, h2⟩
        · exact h (endE_wd I.by_ D1.by_ r1)
        · exact h2 ((end_tells I D1 r1).1 h1)
        · exact (end_tells I D1 r1).2.1 (toN h1) h2
      · have hb := bl D1 r1
        have hgo := go_on I hi D1
        have hx : ∀ {z : Int}, z = 0 → z = 0 := fun h => h
        refine ⟨fun _ => by omega, fun h => ?_, fun _ => trivial, fun _ => trivial, fun _ => by omega, fun h => ?_, fun _ => trivial, fun _ => trivial, fun h => ?_, fun _ => ⟨hgo.2.1 r1, hgo.2.2⟩⟩
        · rw [hb h.1, List.length_append, List.length_singleton]; omega
        · rw [hb h.1, List.length_append, List.length_singleton]; omega
        · exfalso
          have e2 := hb h.1
          rcases h.2 with (h2 | h2) | h2
          · rw [e2, List.length_append, List.length_singleton] at h2; omega
          · rw [e2] at h2
            exact (eqA_f _ _).1 h2 (congrArg (fun z : Sk => z.1) (get_lastS x.w.2.2.1 (newS a x.i x.w.2.1) SockT.zero))
          · rw [e2] at h2
            exact h2 (congrArg (fun z : Sk => z.2.1) (get_lastS x.w.2.2.1 (newS a x.i x.w.2.1) SockT.zero))
    · obtain ⟨n1, n2⟩ := not_ready I D0 hnr
      rcases h with h | h
      · rw [n1] at h; cases h
      · rw [toN h] at n2; cases n2
    · have := go_on I hi D0
      exact ⟨this.1, this.2.2⟩
    · refine ⟨(okW_wd I hi _).1, fun h => ?_, fun _ => ?_⟩
      · exfalso
        rcases h with (h | ⟨h1, h2⟩) | ⟨h1, h2⟩
        · exact h (endE_wd I.by_ D0.by_ hr)
        · exact h2 ((end_tells I D0 hr).1 h1)
        · exact (end_tells I D0 hr).2.1 (toN h1) h2
      · have hb := bl D0 hr
        have hgo := go_on I hi D0
        have hx : ∀ {z : Int}, z = 0 → z = 0 := fun h => h
        refine ⟨fun _ => by omega, fun h => ?_, fun _ => trivial, fun _ => trivial, fun _ => by omega, fun h => ?_, fun _ => trivial, fun _ => trivial, fun h => ?_, fun _ => ⟨hgo.2.1 hr, hgo.2.2⟩⟩
        · rw [hb h.1, List.length_append, List.length_singleton]; omega
        · rw [hb h.1, List.length_append, List.length_singleton]; omega
        · exfalso
          have e2 := hb h.1
          rcases h.2 with (h2 | h2) | h2
          · rw [e2, List.length_append, List.length_singleton] at h2; omega
          · rw [e2] at h2
            exact (eqA_f _ _).1 h2 (congrArg (fun z : Sk => z.1) (get_lastS x.w.2.2.1 (newS a x.i x.w.2.1) SockT.zero))
          · rw [e2] at h2
            exact h2 (congrArg (fun z : Sk => z.2.1) (get_lastS x.w.2.2.1 (newS a x.i x.w.2.1) SockT.zero))
end Go.Proofs.YtfhlceooobabcaaDoor.Wd
namespace Go.Proofs.YtfhlceooobabcaaDoor.Wd
open Go Go.Eng Go.Lb Go.Ad
set_option maxRecDepth 100000
theorem val21 : Valid Tryd.prog GW 21 cMay1 := mkValid gws Tb.mix Tb.tab_ok Tb.eqs_ok g21 rfl allV_nil allI_nil Tryd.func21 (by kernel_rfl) v21
theorem val8 : Valid Tryd.prog GW 8 cMay := mkValid gws Tb.mix Tb.tab_ok Tb.eqs_ok g8 rfl (allV_cons val21 allV_nil) allI_nil Tryd.func8 (by kernel_rfl) v8
theorem val24 : Valid Tryd.prog GW 24 cRowIx := mkValid gws Tb.mix Tb.tab_ok Tb.eqs_ok g24 rfl allV_nil allI_nil Tryd.func24 (by kernel_rfl) v24
theorem val25 : Valid Tryd.prog GW 25 cNth := mkValid gws Tb.mix Tb.tab_ok Tb.eqs_ok g25 rfl allV_nil allI_nil Tryd.func25 (by kernel_rfl) v25
theorem val10 : Valid Tryd.prog GW 10 cGood := mkValid gws Tb.mix Tb.tab_ok Tb.eqs_ok g10 rfl (allV_cons val24 allV_nil) allI_nil Tryd.func10 (by kernel_rfl) v10
theorem val11 : Valid Tryd.prog GW 11 cFate := mkValid gws Tb.mix Tb.tab_ok Tb.eqs_ok g11 rfl (allV_cons val24 (allV_cons val25 allV_nil)) allI_nil Tryd.func11 (by kernel_rfl) v11
theorem v9B : vcB g9 300 Tryd.f9 cWk.r (cWk.F ()) = true := by kernel_rfl
theorem v9 : Vc g9 300 Tryd.f9 cWk := Vc.ofB (r := cWk.r) (y := cWk.F ()) v9B
theorem val9 : Valid Tryd.prog GW 9 cWk := mkValid gws Tb.mix Tb.tab_ok Tb.eqs_ok g9 rfl (allV_cons val6 (allV_cons val12 (allV_cons val13 (allV_cons val14 (allV_cons val15 (allV_cons val23 allV_nil)))))) (allI_cons Tryd.func22 (by kernel_rfl) allI_nil) Tryd.func9 (by kernel_rfl) v9
theorem val3 : Valid Tryd.prog GW 3 ((cLw aFates)) := mkValid gws Tb.mix Tb.tab_ok Tb.eqs_ok g3 rfl (allV_cons val6 (allV_cons val8 (allV_cons val9 (allV_cons val10 (allV_cons val11 (allV_cons val12 (allV_cons val13 (allV_cons val14 (allV_cons val15 allV_nil))))))))) (allI_cons Tryd.func7 (by kernel_rfl) allI_nil) Tryd.func3 (by kernel_rfl) v3
end Go.Proofs.YtfhlceooobabcaaDoor.Wd

/-
  A text of mine, of several parts: BkpVc5, BkPlay, BkPlay2, BkPlay3, BkPlay4, BkPP, BkpV.
-/
import Derived.Test.YtdkcgcgefgeooaaBpa
import Derived.Test.YtdkcgcgefgeooaaBpb
import Derived.Test.YtdkcgcgefgeooaaBpc
import Derived.Test.YtdkcgcgefgeooaaBpd
import Derived.Test.YtdkcgcgefgeooaaBpe
set_option linter.all false
namespace Go.Proofs.Ytdkcgcgefgeooaa.Bk.B
open Go Go.Eng 
set_option maxRecDepth 100000
theorem v5_eq : vcFn g5 400 Try.f5 cPlayL.T = ( ∀ (x : Int × Int × Int × List (Int × Int × Int × Bool × Bool × Unit) × Unit), Wr (typedB (Ty.cons I64 (Ty.cons I64 (Ty.cons I64 (Ty.cons (Ty.sl ActT) Ty.unit)))) x = Bool.true ∧ Bool.true = Bool.true) → bcase
  (Decidable.decide (Min.min x.1 x.2.1 < (0 : Int)) || Decidable.decide (x.1 > (8 : Int)) || Decidable.decide (x.2.1 > (16 : Int)) || Decidable.decide (x.2.2.1 < (1 : Int)) || Decidable.decide
  (x.2.2.1 > (64 : Int)) || Decidable.decide ((↑(List.length x.2.2.2.1) : Int) > (100 : Int))) (Wr (Bool.true = Bool.true) ∧ (Bool.true, ()) = (Bool.true, ())) (Wr (Bool.true = Bool.true) ∧ (Wr (PyI x.1
  x.2.1 x.2.2.1 x.2.2.2.1 ((0 : Int), mkB ((0 : Int), x.1, x.2.1, (0 : Int), (0 : Int), x.2.2.1, (0 : Int), (0 : Int), (0 : Int), ()) (nilL (Int × Int × Unit)) (nilL Int) (nilL Int) noneF
  (nilL ((Int × (Int × Int × Int × Int × Int × Int × Int × Int × Unit) × Int × Unit) × Int × Unit)) Bool.false, ((0 : Int), (0 : Int), (0 : Int)), (nilL Int, nilL Int, nilL Int, nilL Int, nilL Int), (0 : Int))) ∧ Wr ((0 :
  Int) = (0 : Int)) ∧ Wr (x.1 = x.1) ∧ Wr (x.2.1 = x.2.1) ∧ Wr (x.2.2.1 = x.2.2.1) ∧ Wr (x.2.2.2.1 = x.2.2.2.1) ∧ Wr ((mkB ((0 : Int), x.1, x.2.1, (0 : Int), (0 : Int),
  x.2.2.1, (0 : Int), (0 : Int), (0 : Int), ()) (nilL (Int × Int × Unit)) (nilL Int) (nilL Int) noneF (nilL ((Int × (Int × Int × Int × Int × Int × Int × Int × Int × Unit) × Int × Unit) × Int × Unit))
  Bool.false).1.1 = (mkB ((0 : Int), x.1, x.2.1, (0 : Int), (0 : Int), x.2.2.1, (0 : Int), (0 : Int), (0 : Int), ()) (nilL (Int × Int × Unit)) (nilL Int) (nilL Int) noneF (nilL ((Int × (Int × Int × Int ×
  Int × Int × Int × Int × Int × Unit) × Int × Unit) × Int × Unit)) Bool.false).1.1) ∧ Wr ((mkB ((0 : Int), x.1, x.2.1, (0 : Int), (0 : Int), x.2.2.1, (0 : Int), (0 : Int), (0 : Int), ()) (nilL (Int × Int ×
  Unit)) (nilL Int) (nilL Int) noneF (nilL ((Int × (Int × Int × Int × Int × Int × Int × Int × Int × Unit) × Int × Unit) × Int × Unit)) Bool.false).1.2.1 = (mkB ((0 : Int), x.1, x.2.1, (0 : Int), (0 : Int),
  x.2.2.1, (0 : Int), (0 : Int), (0 : Int), ()) (nilL (Int × Int × Unit)) (nilL Int) (nilL Int) noneF (nilL ((Int × (Int × Int × Int × Int × Int × Int × Int × Int × Unit) × Int × Unit) × Int × Unit))
  Bool.false).1.2.1) ∧ Wr ((mkB ((0 : Int), x.1, x.2.1, (0 : Int), (0 : Int), x.2.2.1, (0 : Int), (0 : Int), (0 : Int), ()) (nilL (Int × Int × Unit)) (nilL Int) (nilL Int) noneF (nilL ((Int × (Int × Int
  × Int × Int × Int × Int × Int × Int × Unit) × Int × Unit) × Int × Unit)) Bool.false).1.2.2.1 = (mkB ((0 : Int), x.1, x.2.1, (0 : Int), (0 : Int), x.2.2.1, (0 : Int), (0 : Int), (0 : Int), ()) (nilL
  (Int × Int × Unit)) (nilL Int) (nilL Int) noneF (nilL ((Int × (Int × Int × Int × Int × Int × Int × Int × Int × Unit) × Int × Unit) × Int × Unit)) Bool.false).1.2.2.1) ∧ Wr ((mkB ((0 : Int), x.1, x.2.1, (0
  : Int), (0 : Int), x.2.2.1, (0 : Int), (0 : Int), (0 : Int), ()) (nilL (Int × Int × Unit)) (nilL Int) (nilL Int) noneF (nilL ((Int × (Int × Int × Int × Int × Int × Int × Int × Int × Unit) × Int × Unit) × Int ×
  Unit)) Bool.false).1.2.2.2.1 = (mkB ((0 : Int), x.1, x.2.1, (0 : Int), (0 : Int), x.2.2.1, (0 : Int), (0 : Int), (0 : Int), ()) (nilL (Int × Int × Unit)) (nilL Int) (nilL Int) noneF (nilL ((Int ×
  (Int × Int × Int × Int × Int × Int × Int × Int × Unit) × Int × Unit) × Int × Unit)) Bool.false).1.2.2.2.1) ∧ Wr ((mkB ((0 : Int), x.1, x.2.1, (0 : Int), (0 : Int), x.2.2.1, (0 : Int), (0 : Int), (0
  : Int), ()) (nilL (Int × Int × Unit)) (nilL Int) (nilL Int) noneF (nilL ((Int × (Int × Int × Int × Int × Int × Int × Int × Int × Unit) × Int × Unit) × Int × Unit)) Bool.false).1.2.2.2.2.1 = (mkB ((0 : Int),
  x.1, x.2.1, (0 : Int), (0 : Int), x.2.2.1, (0 : Int), (0 : Int), (0 : Int), ()) (nilL (Int × Int × Unit)) (nilL Int) (nilL Int) noneF (nilL ((Int × (Int × Int × Int × Int × Int × Int × Int × Int × Unit) ×
  Int × Unit) × Int × Unit)) Bool.false).1.2.2.2.2.1) ∧ Wr ((mkB ((0 : Int), x.1, x.2.1, (0 : Int), (0 : Int), x.2.2.1, (0 : Int), (0 : Int), (0 : Int), ()) (nilL (Int × Int × Unit)) (nilL Int)
  (nilL Int) noneF (nilL ((Int × (Int × Int × Int × Int × Int × Int × Int × Int × Unit) × Int × Unit) × Int × Unit)) Bool.false).1.2.2.2.2.2.1 = (mkB ((0 : Int), x.1, x.2.1, (0 : Int), (0 : Int),
  x.2.2.1, (0 : Int), (0 : Int), (0 : Int), ()) (nilL (Int × Int × Unit)) (nilL Int) (nilL Int) noneF (nilL ((Int × (Int × Int × Int × Int × Int × Int × Int × Int × Unit) × Int × Unit) × Int × Unit))
  Bool.false).1.2.2.2.2.2.1) ∧ Wr ((mkB ((0 : Int), x.1, x.2.1, (0 : Int), (0 : Int), x.2.2.1, (0 : Int), (0 : Int), (0 : Int), ()) (nilL (Int × Int × Unit)) (nilL Int) (nilL Int) noneF (nilL
  ((Int × (Int × Int × Int × Int × Int × Int × Int × Int × Unit) × Int × Unit) × Int × Unit)) Bool.false).1.2.2.2.2.2.2.1 = (mkB ((0 : Int), x.1, x.2.1, (0 : Int), (0 : Int), x.2.2.1, (0 :
  Int), (0 : Int), (0 : Int), ()) (nilL (Int × Int × Unit)) (nilL Int) (nilL Int) noneF (nilL ((Int × (Int × Int × Int × Int × Int × Int × Int × Int × Unit) × Int × Unit) × Int × Unit))
  Bool.false).1.2.2.2.2.2.2.1) ∧ Wr ((mkB ((0 : Int), x.1, x.2.1, (0 : Int), (0 : Int), x.2.2.1, (0 : Int), (0 : Int), (0 : Int), ()) (nilL (Int × Int × Unit)) (nilL Int) (nilL Int) noneF (nilL
  ((Int × (Int × Int × Int × Int × Int × Int × Int × Int × Unit) × Int × Unit) × Int × Unit)) Bool.false).1.2.2.2.2.2.2.2.1 = (mkB ((0 : Int), x.1, x.2.1, (0 : Int), (0 : Int), x.2.2.1, (0 :
  Int), (0 : Int), (0 : Int), ()) (nilL (Int × Int × Unit)) (nilL Int) (nilL Int) noneF (nilL ((Int × (Int × Int × Int × Int × Int × Int × Int × Int × Unit) × Int × Unit) × Int × Unit))
  Bool.false).1.2.2.2.2.2.2.2.1) ∧ Wr ((mkB ((0 : Int), x.1, x.2.1, (0 : Int), (0 : Int), x.2.2.1, (0 : Int), (0 : Int), (0 : Int), ()) (nilL (Int × Int × Unit)) (nilL Int) (nilL Int) noneF
  (nilL ((Int × (Int × Int × Int × Int × Int × Int × Int × Int × Unit) × Int × Unit) × Int × Unit)) Bool.false).1.2.2.2.2.2.2.2.2.1 = (mkB ((0 : Int), x.1, x.2.1, (0 : Int), (0 : Int),
  x.2.2.1, (0 : Int), (0 : Int), (0 : Int), ()) (nilL (Int × Int × Unit)) (nilL Int) (nilL Int) noneF (nilL ((Int × (Int × Int × Int × Int × Int × Int × Int × Int × Unit) × Int × Unit) × Int × Unit))
  Bool.false).1.2.2.2.2.2.2.2.2.1) ∧ Wr ((mkB ((0 : Int), x.1, x.2.1, (0 : Int), (0 : Int), x.2.2.1, (0 : Int), (0 : Int), (0 : Int), ()) (nilL (Int × Int × Unit)) (nilL Int) (nilL Int)
  noneF (nilL ((Int × (Int × Int × Int × Int × Int × Int × Int × Int × Unit) × Int × Unit) × Int × Unit)) Bool.false).2.1 = (mkB ((0 : Int), x.1, x.2.1, (0 : Int), (0 : Int), x.2.2.1, (0 : Int), (0 : Int),
  (0 : Int), ()) (nilL (Int × Int × Unit)) (nilL Int) (nilL Int) noneF (nilL ((Int × (Int × Int × Int × Int × Int × Int × Int × Int × Unit) × Int × Unit) × Int × Unit)) Bool.false).2.1) ∧ Wr ((mkB ((0 : Int), x.1,
  x.2.1, (0 : Int), (0 : Int), x.2.2.1, (0 : Int), (0 : Int), (0 : Int), ()) (nilL (Int × Int × Unit)) (nilL Int) (nilL Int) noneF (nilL ((Int × (Int × Int × Int × Int × Int × Int × Int × Int × Unit) × Int ×
  Unit) × Int × Unit)) Bool.false).2.2.1 = (mkB ((0 : Int), x.1, x.2.1, (0 : Int), (0 : Int), x.2.2.1, (0 : Int), (0 : Int), (0 : Int), ()) (nilL (Int × Int × Unit)) (nilL Int) (nilL Int) noneF (nilL
  ((Int × (Int × Int × Int × Int × Int × Int × Int × Int × Unit) × Int × Unit) × Int × Unit)) Bool.false).2.2.1) ∧ Wr ((mkB ((0 : Int), x.1, x.2.1, (0 : Int), (0 : Int), x.2.2.1, (0 : Int), (0 : Int), (0
  : Int), ()) (nilL (Int × Int × Unit)) (nilL Int) (nilL Int) noneF (nilL ((Int × (Int × Int × Int × Int × Int × Int × Int × Int × Unit) × Int × Unit) × Int × Unit)) Bool.false).2.2.2.1 = (mkB ((0 : Int), x.1,
  x.2.1, (0 : Int), (0 : Int), x.2.2.1, (0 : Int), (0 : Int), (0 : Int), ()) (nilL (Int × Int × Unit)) (nilL Int) (nilL Int) noneF (nilL ((Int × (Int × Int × Int × Int × Int × Int × Int × Int × Unit) × Int ×
  Unit) × Int × Unit)) Bool.false).2.2.2.1) ∧ Wr ((mkB ((0 : Int), x.1, x.2.1, (0 : Int), (0 : Int), x.2.2.1, (0 : Int), (0 : Int), (0 : Int), ()) (nilL (Int × Int × Unit)) (nilL Int) (nilL Int) noneF
  (nilL ((Int × (Int × Int × Int × Int × Int × Int × Int × Int × Unit) × Int × Unit) × Int × Unit)) Bool.false).2.2.2.2.1.1 = (mkB ((0 : Int), x.1, x.2.1, (0 : Int), (0 : Int), x.2.2.1, (0 : Int),
  (0 : Int), (0 : Int), ()) (nilL (Int × Int × Unit)) (nilL Int) (nilL Int) noneF (nilL ((Int × (Int × Int × Int × Int × Int × Int × Int × Int × Unit) × Int × Unit) × Int × Unit)) Bool.false).2.2.2.2.1.1) ∧ Wr
  ((mkB ((0 : Int), x.1, x.2.1, (0 : Int), (0 : Int), x.2.2.1, (0 : Int), (0 : Int), (0 : Int), ()) (nilL (Int × Int × Unit)) (nilL Int) (nilL Int) noneF (nilL ((Int × (Int × Int × Int × Int × Int × Int × Int
  × Int × Unit) × Int × Unit) × Int × Unit)) Bool.false).2.2.2.2.1.2.1 = (mkB ((0 : Int), x.1, x.2.1, (0 : Int), (0 : Int), x.2.2.1, (0 : Int), (0 : Int), (0 : Int), ()) (nilL (Int × Int × Unit))
  (nilL Int) (nilL Int) noneF (nilL ((Int × (Int × Int × Int × Int × Int × Int × Int × Int × Unit) × Int × Unit) × Int × Unit)) Bool.false).2.2.2.2.1.2.1) ∧ Wr ((mkB ((0 : Int), x.1, x.2.1, (0 : Int),
  (0 : Int), x.2.2.1, (0 : Int), (0 : Int), (0 : Int), ()) (nilL (Int × Int × Unit)) (nilL Int) (nilL Int) noneF (nilL ((Int × (Int × Int × Int × Int × Int × Int × Int × Int × Unit) × Int × Unit) × Int × Unit))
  Bool.false).2.2.2.2.1.2.2.1 = (mkB ((0 : Int), x.1, x.2.1, (0 : Int), (0 : Int), x.2.2.1, (0 : Int), (0 : Int), (0 : Int), ()) (nilL (Int × Int × Unit)) (nilL Int) (nilL Int) noneF (nilL
  ((Int × (Int × Int × Int × Int × Int × Int × Int × Int × Unit) × Int × Unit) × Int × Unit)) Bool.false).2.2.2.2.1.2.2.1) ∧ Wr ((mkB ((0 : Int), x.1, x.2.1, (0 : Int), (0 : Int), x.2.2.1, (0 :
  Int), (0 : Int), (0 : Int), ()) (nilL (Int × Int × Unit)) (nilL Int) (nilL Int) noneF (nilL ((Int × (Int × Int × Int × Int × Int × Int × Int × Int × Unit) × Int × Unit) × Int × Unit)) Bool.false).2.2.2.2.2.1
  = (mkB ((0 : Int), x.1, x.2.1, (0 : Int), (0 : Int), x.2.2.1, (0 : Int), (0 : Int), (0 : Int), ()) (nilL (Int × Int × Unit)) (nilL Int) (nilL Int) noneF (nilL ((Int × (Int × Int × Int × Int × Int × Int × Int
  × Int × Unit) × Int × Unit) × Int × Unit)) Bool.false).2.2.2.2.2.1) ∧ Wr ((mkB ((0 : Int), x.1, x.2.1, (0 : Int), (0 : Int), x.2.2.1, (0 : Int), (0 : Int), (0 : Int), ()) (nilL (Int × Int ×
  Unit)) (nilL Int) (nilL Int) noneF (nilL ((Int × (Int × Int × Int × Int × Int × Int × Int × Int × Unit) × Int × Unit) × Int × Unit)) Bool.false).2.2.2.2.2.2.1 = (mkB ((0 : Int), x.1, x.2.1, (0 :
  Int), (0 : Int), x.2.2.1, (0 : Int), (0 : Int), (0 : Int), ()) (nilL (Int × Int × Unit)) (nilL Int) (nilL Int) noneF (nilL ((Int × (Int × Int × Int × Int × Int × Int × Int × Int × Unit) × Int × Unit) × Int ×
  Unit)) Bool.false).2.2.2.2.2.2.1) ∧ Wr ((0 : Int) = (0 : Int)) ∧ Wr ((0 : Int) = (0 : Int)) ∧ Wr ((0 : Int) = (0 : Int)) ∧ Wr ((0 : Int) = (0 : Int)) ∧ Wr (nilL Int = nilL Int) ∧ Wr (nilL Int = nilL Int) ∧
  Wr (nilL Int = nilL Int) ∧ Wr (nilL Int = nilL Int) ∧ Wr (nilL Int = nilL Int)) ∧ ∀ (x_1 : Int × ((Int × Int × Int × Int × Int × Int × Int × Int × Int × Unit) × List (Int × Int × Unit) × List Int × List Int × (Int ×
  Bool × Int × Unit) × List ((Int × (Int × Int × Int × Int × Int × Int × Int × Int × Unit) × Int × Unit) × Int × Unit) × Bool × Unit) × (Int × Int × Int) × (List Int × List Int × List Int × List Int × List Int) × Int), Wr
  (PyI x.1 x.2.1 x.2.2.1 x.2.2.2.1 x_1) → bcase (Decidable.decide (x_1.1 < (↑(List.length x.2.2.2.1) : Int))) (Wr ((0 : Int) ≤ x_1.1) ∧ Wr (x_1.1 < (↑(List.length x.2.2.2.1) :
  Int)) ∧ Wr (Bool.true = Bool.true) ∧ bcase (Decidable.decide ((List.getD x.2.2.2.1 (Int.toNat x_1.1) (Ty.zero ActT)).2.2.1 < (0 : Int)) || Decidable.decide ((List.getD x.2.2.2.1 (Int.toNat
  x_1.1) (Ty.zero ActT)).2.2.1 > (100 : Int))) (Wr (Bool.true = Bool.true) ∧ (Bool.true, ()) = (Bool.true, ())) (bcase ((List.getD x.2.2.2.1 (Int.toNat x_1.1) (Ty.zero ActT)).2.2.2.2.1 &&
  Decidable.decide (x_1.2.2.1.2.2 > (0 : Int))) (Wr (x_1.2.2.1.2.2 ≠ (0 : Int)) ∧ Wr (x_1.2.2.1.2.2 ≠ (0 : Int)) ∧ Wr ((List.length x_1.2.2.2.1.1 + List.length (IntKind.wrap
  IntKind.i64 ((1 : Int) + Int.tmod (IntKind.wrap .i64 (Int.tmod (List.getD x.2.2.2.1 (Int.toNat x_1.1) (Ty.zero ActT)).2.1 x_1.2.2.1.2.2 + x_1.2.2.1.2.2)) x_1.2.2.1.2.2)
  :: nilL Int)) * (8 : Nat) ≤ (140737488355328 : Nat)) ∧ Wr (DeI x_1.2.2.2.1.1 x_1.2.2.1.2.2 (List.getD x.2.2.2.1 (Int.toNat x_1.1) (Ty.zero ActT)) (x_1.2.2.2.1.1 ++ IntKind.wrap
  IntKind.i64 ((1 : Int) + Int.tmod (IntKind.wrap .i64 (Int.tmod (List.getD x.2.2.2.1 (Int.toNat x_1.1) (Ty.zero ActT)).2.1 x_1.2.2.1.2.2 + x_1.2.2.1.2.2)) x_1.2.2.1.2.2)
  :: nilL Int)) ∧ Wr (x.1 = x.1) ∧ Wr (x.2.1 = x.2.1) ∧ Wr (x.2.2.1 = x.2.2.1) ∧ Wr (x.2.2.2.1 = x.2.2.2.1) ∧ Wr (x_1.1 = x_1.1) ∧ Wr (x_1.2.1.1.1 = x_1.2.1.1.1)
  ∧ Wr (x_1.2.1.1.2.1 = x_1.2.1.1.2.1) ∧ Wr (x_1.2.1.1.2.2.1 = x_1.2.1.1.2.2.1) ∧ Wr (x_1.2.1.1.2.2.2.1 = x_1.2.1.1.2.2.2.1) ∧ Wr
  (x_1.2.1.1.2.2.2.2.1 = x_1.2.1.1.2.2.2.2.1) ∧ Wr (x_1.2.1.1.2.2.2.2.2.1 = x_1.2.1.1.2.2.2.2.2.1) ∧ Wr (x_1.2.1.1.2.2.2.2.2.2.1 =
  x_1.2.1.1.2.2.2.2.2.2.1) ∧ Wr (x_1.2.1.1.2.2.2.2.2.2.2.1 = x_1.2.1.1.2.2.2.2.2.2.2.1) ∧ Wr (x_1.2.1.1.2.2.2.2.2.2.2.2.1 =
  x_1.2.1.1.2.2.2.2.2.2.2.2.1) ∧ Wr (x_1.2.1.2.1 = x_1.2.1.2.1) ∧ Wr (x_1.2.1.2.2.1 = x_1.2.1.2.2.1) ∧ Wr (x_1.2.1.2.2.2.1 =
  x_1.2.1.2.2.2.1) ∧ Wr (x_1.2.1.2.2.2.2.1.1 = x_1.2.1.2.2.2.2.1.1) ∧ Wr (x_1.2.1.2.2.2.2.1.2.1 = x_1.2.1.2.2.2.2.1.2.1) ∧ Wr
  (x_1.2.1.2.2.2.2.1.2.2.1 = x_1.2.1.2.2.2.2.1.2.2.1) ∧ Wr (x_1.2.1.2.2.2.2.2.1 = x_1.2.1.2.2.2.2.2.1) ∧ Wr (x_1.2.1.2.2.2.2.2.2.1
  = x_1.2.1.2.2.2.2.2.2.1) ∧ Wr (IntKind.wrap .i64 (x_1.2.2.1.1 + (List.getD x.2.2.2.1 (Int.toNat x_1.1) (Ty.zero ActT)).2.2.1) = IntKind.wrap .i64
  (x_1.2.2.1.1 + (List.getD x.2.2.2.1 (Int.toNat x_1.1) (Ty.zero ActT)).2.2.1)) ∧ Wr (x_1.2.2.1.2.1 = x_1.2.2.1.2.1) ∧ Wr (x_1.2.2.1.2.2 = x_1.2.2.1.2.2) ∧
  Wr (x_1.2.2.2.2 = x_1.2.2.2.2) ∧ Wr (x_1.2.2.2.1.1 ++ IntKind.wrap .i64 ((1 : Int) + Int.tmod (IntKind.wrap .i64 (Int.tmod (List.getD x.2.2.2.1 (Int.toNat x_1.1)
  (Ty.zero ActT)).2.1 x_1.2.2.1.2.2 + x_1.2.2.1.2.2)) x_1.2.2.1.2.2) :: nilL Int = x_1.2.2.2.1.1 ++ IntKind.wrap .i64 ((1 : Int) + Int.tmod (IntKind.wrap .i64
  (Int.tmod (List.getD x.2.2.2.1 (Int.toNat x_1.1) (Ty.zero ActT)).2.1 x_1.2.2.1.2.2 + x_1.2.2.1.2.2)) x_1.2.2.1.2.2) :: nilL Int) ∧ Wr (x_1.2.2.2.1.2.1 =
  x_1.2.2.2.1.2.1) ∧ Wr (x_1.2.2.2.1.2.2.1 = x_1.2.2.2.1.2.2.1) ∧ Wr (x_1.2.2.2.1.2.2.2.1 = x_1.2.2.2.1.2.2.2.1) ∧ Wr
  (x_1.2.2.2.1.2.2.2.2 = x_1.2.2.2.1.2.2.2.2) ∧ Wr ((List.getD x.2.2.2.1 (Int.toNat x_1.1) (Ty.zero ActT)).1 = (List.getD x.2.2.2.1 (Int.toNat x_1.1) (Ty.zero
  ActT)).1) ∧ Wr ((List.getD x.2.2.2.1 (Int.toNat x_1.1) (Ty.zero ActT)).2.1 = (List.getD x.2.2.2.1 (Int.toNat x_1.1) (Ty.zero ActT)).2.1) ∧ Wr ((List.getD x.2.2.2.1 (Int.toNat
  x_1.1) (Ty.zero ActT)).2.2.1 = (List.getD x.2.2.2.1 (Int.toNat x_1.1) (Ty.zero ActT)).2.2.1) ∧ Wr ((List.getD x.2.2.2.1 (Int.toNat x_1.1) (Ty.zero ActT)).2.2.2.1 = (List.getD
  x.2.2.2.1 (Int.toNat x_1.1) (Ty.zero ActT)).2.2.2.1) ∧ Wr ((List.getD x.2.2.2.1 (Int.toNat x_1.1) (Ty.zero ActT)).2.2.2.2.1 = (List.getD x.2.2.2.1 (Int.toNat x_1.1)
  (Ty.zero ActT)).2.2.2.2.1)) (Wr (DeI x_1.2.2.2.1.1 x_1.2.2.1.2.2 (List.getD x.2.2.2.1 (Int.toNat x_1.1) (Ty.zero ActT)) x_1.2.2.2.1.1) ∧ Wr (x.1 = x.1) ∧ Wr
  (x.2.1 = x.2.1) ∧ Wr (x.2.2.1 = x.2.2.1) ∧ Wr (x.2.2.2.1 = x.2.2.2.1) ∧ Wr (x_1.1 = x_1.1) ∧ Wr (x_1.2.1.1.1 = x_1.2.1.1.1) ∧ Wr (x_1.2.1.1.2.1 =
  x_1.2.1.1.2.1) ∧ Wr (x_1.2.1.1.2.2.1 = x_1.2.1.1.2.2.1) ∧ Wr (x_1.2.1.1.2.2.2.1 = x_1.2.1.1.2.2.2.1) ∧ Wr (x_1.2.1.1.2.2.2.2.1 =
  x_1.2.1.1.2.2.2.2.1) ∧ Wr (x_1.2.1.1.2.2.2.2.2.1 = x_1.2.1.1.2.2.2.2.2.1) ∧ Wr (x_1.2.1.1.2.2.2.2.2.2.1 =
  x_1.2.1.1.2.2.2.2.2.2.1) ∧ Wr (x_1.2.1.1.2.2.2.2.2.2.2.1 = x_1.2.1.1.2.2.2.2.2.2.2.1) ∧ Wr (x_1.2.1.1.2.2.2.2.2.2.2.2.1 =
  x_1.2.1.1.2.2.2.2.2.2.2.2.1) ∧ Wr (x_1.2.1.2.1 = x_1.2.1.2.1) ∧ Wr (x_1.2.1.2.2.1 = x_1.2.1.2.2.1) ∧ Wr (x_1.2.1.2.2.2.1 =
  x_1.2.1.2.2.2.1) ∧ Wr (x_1.2.1.2.2.2.2.1.1 = x_1.2.1.2.2.2.2.1.1) ∧ Wr (x_1.2.1.2.2.2.2.1.2.1 = x_1.2.1.2.2.2.2.1.2.1) ∧ Wr
  (x_1.2.1.2.2.2.2.1.2.2.1 = x_1.2.1.2.2.2.2.1.2.2.1) ∧ Wr (x_1.2.1.2.2.2.2.2.1 = x_1.2.1.2.2.2.2.2.1) ∧ Wr (x_1.2.1.2.2.2.2.2.2.1
  = x_1.2.1.2.2.2.2.2.2.1) ∧ Wr (IntKind.wrap .i64 (x_1.2.2.1.1 + (List.getD x.2.2.2.1 (Int.toNat x_1.1) (Ty.zero ActT)).2.2.1) = IntKind.wrap .i64
  (x_1.2.2.1.1 + (List.getD x.2.2.2.1 (Int.toNat x_1.1) (Ty.zero ActT)).2.2.1)) ∧ Wr (x_1.2.2.1.2.1 = x_1.2.2.1.2.1) ∧ Wr (x_1.2.2.1.2.2 = x_1.2.2.1.2.2) ∧
  Wr (x_1.2.2.2.2 = x_1.2.2.2.2) ∧ Wr (x_1.2.2.2.1.1 = x_1.2.2.2.1.1) ∧ Wr (x_1.2.2.2.1.2.1 = x_1.2.2.2.1.2.1) ∧ Wr (x_1.2.2.2.1.2.2.1 =
  x_1.2.2.2.1.2.2.1) ∧ Wr (x_1.2.2.2.1.2.2.2.1 = x_1.2.2.2.1.2.2.2.1) ∧ Wr (x_1.2.2.2.1.2.2.2.2 = x_1.2.2.2.1.2.2.2.2) ∧ Wr ((List.getD
  x.2.2.2.1 (Int.toNat x_1.1) (Ty.zero ActT)).1 = (List.getD x.2.2.2.1 (Int.toNat x_1.1) (Ty.zero ActT)).1) ∧ Wr ((List.getD x.2.2.2.1 (Int.toNat x_1.1) (Ty.zero ActT)).2.1 =
  (List.getD x.2.2.2.1 (Int.toNat x_1.1) (Ty.zero ActT)).2.1) ∧ Wr ((List.getD x.2.2.2.1 (Int.toNat x_1.1) (Ty.zero ActT)).2.2.1 = (List.getD x.2.2.2.1 (Int.toNat x_1.1) (Ty.zero
  ActT)).2.2.1) ∧ Wr ((List.getD x.2.2.2.1 (Int.toNat x_1.1) (Ty.zero ActT)).2.2.2.1 = (List.getD x.2.2.2.1 (Int.toNat x_1.1) (Ty.zero ActT)).2.2.2.1) ∧ Wr ((List.getD
  x.2.2.2.1 (Int.toNat x_1.1) (Ty.zero ActT)).2.2.2.2.1 = (List.getD x.2.2.2.1 (Int.toNat x_1.1) (Ty.zero ActT)).2.2.2.2.1)) ∧ ∀ (x_2 : List Int), Wr (DeI x_1.2.2.2.1.1
  x_1.2.2.1.2.2 (List.getD x.2.2.2.1 (Int.toNat x_1.1) (Ty.zero ActT)) x_2) → Wr ((List.length (nilL Int) + List.length x_1.2.1.2.2.2.1) * (8 : Nat) ≤ (140737488355328 : Nat)) ∧ bcase
  (Decidable.decide ((List.getD x.2.2.2.1 (Int.toNat x_1.1) (Ty.zero ActT)).1 = (0 : Int))) (Wr (szB x_1.2.1 = Bool.true) ∧ Wr (DoI x_1.2.1 (IntKind.wrap .i64 (x_1.2.2.1.1 + (List.getD
  x.2.2.2.1 (Int.toNat x_1.1) (Ty.zero ActT)).2.2.1)) x_1.2.2.1.2.1 x_1.2.2.1.2.2 x_2 (List.getD x.2.2.2.1 (Int.toNat x_1.1) (Ty.zero ActT)) (outB (askD x_1.2.1
  (IntKind.wrap .i64 (x_1.2.2.1.2.1 + (1 : Int))) (IntKind.wrap .i64 (x_1.2.2.1.1 + (List.getD x.2.2.2.1 (Int.toNat x_1.1) (Ty.zero ActT)).2.2.1)) x_2), IntKind.wrap
  IntKind.i64 (x_1.2.2.1.2.1 + (1 : Int)), x_1.2.2.1.2.2, outT (askD x_1.2.1 (IntKind.wrap .i64 (x_1.2.2.1.2.1 + (1 : Int))) (IntKind.wrap .i64 (x_1.2.2.1.1 +
  (List.getD x.2.2.2.1 (Int.toNat x_1.1) (Ty.zero ActT)).2.2.1)) x_2), Bool.true)) ∧ Wr (Bool.true = Bool.true) ∧ Wr (x.1 = x.1) ∧ Wr (x.2.1 = x.2.1) ∧ Wr (x.2.2.1 = x.2.2.1) ∧ Wr
  (x.2.2.2.1 = x.2.2.2.1) ∧ Wr (x_1.1 = x_1.1) ∧ Wr ((outB (askD x_1.2.1 (IntKind.wrap .i64 (x_1.2.2.1.2.1 + (1 : Int))) (IntKind.wrap .i64 (x_1.2.2.1.1 + (List.getD
  x.2.2.2.1 (Int.toNat x_1.1) (Ty.zero ActT)).2.2.1)) x_2)).1.1 = (outB (askD x_1.2.1 (IntKind.wrap .i64 (x_1.2.2.1.2.1 + (1 : Int))) (IntKind.wrap .i64 (x_1.2.2.1.1
  + (List.getD x.2.2.2.1 (Int.toNat x_1.1) (Ty.zero ActT)).2.2.1)) x_2)).1.1) ∧ Wr ((outB (askD x_1.2.1 (IntKind.wrap .i64 (x_1.2.2.1.2.1 + (1 : Int))) (IntKind.wrap .i64
  (x_1.2.2.1.1 + (List.getD x.2.2.2.1 (Int.toNat x_1.1) (Ty.zero ActT)).2.2.1)) x_2)).1.2.1 = (outB (askD x_1.2.1 (IntKind.wrap .i64 (x_1.2.2.1.2.1 + (1 : Int)))
  (IntKind.wrap .i64 (x_1.2.2.1.1 + (List.getD x.2.2.2.1 (Int.toNat x_1.1) (Ty.zero ActT)).2.2.1)) x_2)).1.2.1) ∧ Wr ((outB (askD x_1.2.1 (IntKind.wrap .i64
  (x_1.2.2.1.2.1 + (1 : Int))) (IntKind.wrap .i64 (x_1.2.2.1.1 + (List.getD x.2.2.2.1 (Int.toNat x_1.1) (Ty.zero ActT)).2.2.1)) x_2)).1.2.2.1 = (outB (askD x_1.2.1
  (IntKind.wrap .i64 (x_1.2.2.1.2.1 + (1 : Int))) (IntKind.wrap .i64 (x_1.2.2.1.1 + (List.getD x.2.2.2.1 (Int.toNat x_1.1) (Ty.zero ActT)).2.2.1)) x_2)).1.2.2.1) ∧
  Wr ((outB (askD x_1.2.1 (IntKind.wrap .i64 (x_1.2.2.1.2.1 + (1 : Int))) (IntKind.wrap .i64 (x_1.2.2.1.1 + (List.getD x.2.2.2.1 (Int.toNat x_1.1) (Ty.zero
  ActT)).2.2.1)) x_2)).1.2.2.2.1 = (outB (askD x_1.2.1 (IntKind.wrap .i64 (x_1.2.2.1.2.1 + (1 : Int))) (IntKind.wrap .i64 (x_1.2.2.1.1 + (List.getD x.2.2.2.1
  (Int.toNat x_1.1) (Ty.zero ActT)).2.2.1)) x_2)).1.2.2.2.1) ∧ Wr ((outB (askD x_1.2.1 (IntKind.wrap .i64 (x_1.2.2.1.2.1 + (1 : Int))) (IntKind.wrap .i64 (x_1.2.2.1.1
  + (List.getD x.2.2.2.1 (Int.toNat x_1.1) (Ty.zero ActT)).2.2.1)) x_2)).1.2.2.2.2.1 = (outB (askD x_1.2.1 (IntKind.wrap .i64 (x_1.2.2.1.2.1 + (1 : Int))) (IntKind.wrap
  IntKind.i64 (x_1.2.2.1.1 + (List.getD x.2.2.2.1 (Int.toNat x_1.1) (Ty.zero ActT)).2.2.1)) x_2)).1.2.2.2.2.1) ∧ Wr ((outB (askD x_1.2.1 (IntKind.wrap .i64
  (x_1.2.2.1.2.1 + (1 : Int))) (IntKind.wrap .i64 (x_1.2.2.1.1 + (List.getD x.2.2.2.1 (Int.toNat x_1.1) (Ty.zero ActT)).2.2.1)) x_2)).1.2.2.2.2.2.1 = (outB (askD
  x_1.2.1 (IntKind.wrap .i64 (x_1.2.2.1.2.1 + (1 : Int))) (IntKind.wrap .i64 (x_1.2.2.1.1 + (List.getD x.2.2.2.1 (Int.toNat x_1.1) (Ty.zero ActT)).2.2.1))
  x_2)).1.2.2.2.2.2.1) ∧ Wr ((outB (askD x_1.2.1 (IntKind.wrap .i64 (x_1.2.2.1.2.1 + (1 : Int))) (IntKind.wrap .i64 (x_1.2.2.1.1 + (List.getD x.2.2.2.1 (Int.toNat
  x_1.1) (Ty.zero ActT)).2.2.1)) x_2)).1.2.2.2.2.2.2.1 = (outB (askD x_1.2.1 (IntKind.wrap .i64 (x_1.2.2.1.2.1 + (1 : Int))) (IntKind.wrap .i64 (x_1.2.2.1.1 +
  (List.getD x.2.2.2.1 (Int.toNat x_1.1) (Ty.zero ActT)).2.2.1)) x_2)).1.2.2.2.2.2.2.1) ∧ Wr ((outB (askD x_1.2.1 (IntKind.wrap .i64 (x_1.2.2.1.2.1 + (1 : Int)))
  (IntKind.wrap .i64 (x_1.2.2.1.1 + (List.getD x.2.2.2.1 (Int.toNat x_1.1) (Ty.zero ActT)).2.2.1)) x_2)).1.2.2.2.2.2.2.2.1 = (outB (askD x_1.2.1 (IntKind.wrap
  IntKind.i64 (x_1.2.2.1.2.1 + (1 : Int))) (IntKind.wrap .i64 (x_1.2.2.1.1 + (List.getD x.2.2.2.1 (Int.toNat x_1.1) (Ty.zero ActT)).2.2.1))
  x_2)).1.2.2.2.2.2.2.2.1) ∧ Wr ((outB (askD x_1.2.1 (IntKind.wrap .i64 (x_1.2.2.1.2.1 + (1 : Int))) (IntKind.wrap .i64 (x_1.2.2.1.1 + (List.getD x.2.2.2.1
  (Int.toNat x_1.1) (Ty.zero ActT)).2.2.1)) x_2)).1.2.2.2.2.2.2.2.2.1 = (outB (askD x_1.2.1 (IntKind.wrap .i64 (x_1.2.2.1.2.1 + (1 : Int))) (IntKind.wrap .i64
  (x_1.2.2.1.1 + (List.getD x.2.2.2.1 (Int.toNat x_1.1) (Ty.zero ActT)).2.2.1)) x_2)).1.2.2.2.2.2.2.2.2.1) ∧ Wr ((outB (askD x_1.2.1 (IntKind.wrap .i64
  (x_1.2.2.1.2.1 + (1 : Int))) (IntKind.wrap .i64 (x_1.2.2.1.1 + (List.getD x.2.2.2.1 (Int.toNat x_1.1) (Ty.zero ActT)).2.2.1)) x_2)).2.1 = (outB (askD x_1.2.1
  (IntKind.wrap .i64 (x_1.2.2.1.2.1 + (1 : Int))) (IntKind.wrap .i64 (x_1.2.2.1.1 + (List.getD x.2.2.2.1 (Int.toNat x_1.1) (Ty.zero ActT)).2.2.1)) x_2)).2.1) ∧ Wr ((outB
  (askD x_1.2.1 (IntKind.wrap .i64 (x_1.2.2.1.2.1 + (1 : Int))) (IntKind.wrap .i64 (x_1.2.2.1.1 + (List.getD x.2.2.2.1 (Int.toNat x_1.1) (Ty.zero ActT)).2.2.1))
  x_2)).2.2.1 = (outB (askD x_1.2.1 (IntKind.wrap .i64 (x_1.2.2.1.2.1 + (1 : Int))) (IntKind.wrap .i64 (x_1.2.2.1.1 + (List.getD x.2.2.2.1 (Int.toNat x_1.1) (Ty.zero
  ActT)).2.2.1)) x_2)).2.2.1) ∧ Wr ((outB (askD x_1.2.1 (IntKind.wrap .i64 (x_1.2.2.1.2.1 + (1 : Int))) (IntKind.wrap .i64 (x_1.2.2.1.1 + (List.getD x.2.2.2.1
  (Int.toNat x_1.1) (Ty.zero ActT)).2.2.1)) x_2)).2.2.2.1 = (outB (askD x_1.2.1 (IntKind.wrap .i64 (x_1.2.2.1.2.1 + (1 : Int))) (IntKind.wrap .i64 (x_1.2.2.1.1 +
  (List.getD x.2.2.2.1 (Int.toNat x_1.1) (Ty.zero ActT)).2.2.1)) x_2)).2.2.2.1) ∧ Wr ((outB (askD x_1.2.1 (IntKind.wrap .i64 (x_1.2.2.1.2.1 + (1 : Int))) (IntKind.wrap
  IntKind.i64 (x_1.2.2.1.1 + (List.getD x.2.2.2.1 (Int.toNat x_1.1) (Ty.zero ActT)).2.2.1)) x_2)).2.2.2.2.1.1 = (outB (askD x_1.2.1 (IntKind.wrap .i64
  (x_1.2.2.1.2.1 + (1 : Int))) (IntKind.wrap .i64 (x_1.2.2.1.1 + (List.getD x.2.2.2.1 (Int.toNat x_1.1) (Ty.zero ActT)).2.2.1)) x_2)).2.2.2.2.1.1) ∧ Wr ((outB (askD
  x_1.2.1 (IntKind.wrap .i64 (x_1.2.2.1.2.1 + (1 : Int))) (IntKind.wrap .i64 (x_1.2.2.1.1 + (List.getD x.2.2.2.1 (Int.toNat x_1.1) (Ty.zero ActT)).2.2.1))
  x_2)).2.2.2.2.1.2.1 = (outB (askD x_1.2.1 (IntKind.wrap .i64 (x_1.2.2.1.2.1 + (1 : Int))) (IntKind.wrap .i64 (x_1.2.2.1.1 + (List.getD x.2.2.2.1 (Int.toNat
  x_1.1) (Ty.zero ActT)).2.2.1)) x_2)).2.2.2.2.1.2.1) ∧ Wr ((outB (askD x_1.2.1 (IntKind.wrap .i64 (x_1.2.2.1.2.1 + (1 : Int))) (IntKind.wrap .i64 (x_1.2.2.1.1 +
  (List.getD x.2.2.2.1 (Int.toNat x_1.1) (Ty.zero ActT)).2.2.1)) x_2)).2.2.2.2.1.2.2.1 = (outB (askD x_1.2.1 (IntKind.wrap .i64 (x_1.2.2.1.2.1 + (1 : Int)))
  (IntKind.wrap .i64 (x_1.2.2.1.1 + (List.getD x.2.2.2.1 (Int.toNat x_1.1) (Ty.zero ActT)).2.2.1)) x_2)).2.2.2.2.1.2.2.1) ∧ Wr ((outB (askD x_1.2.1 (IntKind.wrap
  IntKind.i64 (x_1.2.2.1.2.1 + (1 : Int))) (IntKind.wrap .i64 (x_1.2.2.1.1 + (List.getD x.2.2.2.1 (Int.toNat x_1.1) (Ty.zero ActT)).2.2.1)) x_2)).2.2.2.2.2.1 = (outB
  (askD x_1.2.1 (IntKind.wrap .i64 (x_1.2.2.1.2.1 + (1 : Int))) (IntKind.wrap .i64 (x_1.2.2.1.1 + (List.getD x.2.2.2.1 (Int.toNat x_1.1) (Ty.zero ActT)).2.2.1))
  x_2)).2.2.2.2.2.1) ∧ Wr ((outB (askD x_1.2.1 (IntKind.wrap .i64 (x_1.2.2.1.2.1 + (1 : Int))) (IntKind.wrap .i64 (x_1.2.2.1.1 + (List.getD x.2.2.2.1 (Int.toNat
  x_1.1) (Ty.zero ActT)).2.2.1)) x_2)).2.2.2.2.2.2.1 = (outB (askD x_1.2.1 (IntKind.wrap .i64 (x_1.2.2.1.2.1 + (1 : Int))) (IntKind.wrap .i64 (x_1.2.2.1.1 +
  (List.getD x.2.2.2.1 (Int.toNat x_1.1) (Ty.zero ActT)).2.2.1)) x_2)).2.2.2.2.2.2.1) ∧ Wr (IntKind.wrap .i64 (x_1.2.2.1.1 + (List.getD x.2.2.2.1 (Int.toNat x_1.1)
  (Ty.zero ActT)).2.2.1) = IntKind.wrap .i64 (x_1.2.2.1.1 + (List.getD x.2.2.2.1 (Int.toNat x_1.1) (Ty.zero ActT)).2.2.1)) ∧ Wr (IntKind.wrap .i64 (x_1.2.2.1.2.1 + (1
  : Int)) = IntKind.wrap .i64 (x_1.2.2.1.2.1 + (1 : Int))) ∧ Wr (x_1.2.2.1.2.2 = x_1.2.2.1.2.2) ∧ Wr (x_1.2.2.2.2 = x_1.2.2.2.2) ∧ Wr ((outT (askD x_1.2.1
  (IntKind.wrap .i64 (x_1.2.2.1.2.1 + (1 : Int))) (IntKind.wrap .i64 (x_1.2.2.1.1 + (List.getD x.2.2.2.1 (Int.toNat x_1.1) (Ty.zero ActT)).2.2.1)) x_2)).1 = (outT (askD
  x_1.2.1 (IntKind.wrap .i64 (x_1.2.2.1.2.1 + (1 : Int))) (IntKind.wrap .i64 (x_1.2.2.1.1 + (List.getD x.2.2.2.1 (Int.toNat x_1.1) (Ty.zero ActT)).2.2.1)) x_2)).1) ∧
  Wr ((outT (askD x_1.2.1 (IntKind.wrap .i64 (x_1.2.2.1.2.1 + (1 : Int))) (IntKind.wrap .i64 (x_1.2.2.1.1 + (List.getD x.2.2.2.1 (Int.toNat x_1.1) (Ty.zero
  ActT)).2.2.1)) x_2)).2.1 = (outT (askD x_1.2.1 (IntKind.wrap .i64 (x_1.2.2.1.2.1 + (1 : Int))) (IntKind.wrap .i64 (x_1.2.2.1.1 + (List.getD x.2.2.2.1 (Int.toNat
  x_1.1) (Ty.zero ActT)).2.2.1)) x_2)).2.1) ∧ Wr ((outT (askD x_1.2.1 (IntKind.wrap .i64 (x_1.2.2.1.2.1 + (1 : Int))) (IntKind.wrap .i64 (x_1.2.2.1.1 + (List.getD
  x.2.2.2.1 (Int.toNat x_1.1) (Ty.zero ActT)).2.2.1)) x_2)).2.2.1 = (outT (askD x_1.2.1 (IntKind.wrap .i64 (x_1.2.2.1.2.1 + (1 : Int))) (IntKind.wrap .i64
  (x_1.2.2.1.1 + (List.getD x.2.2.2.1 (Int.toNat x_1.1) (Ty.zero ActT)).2.2.1)) x_2)).2.2.1) ∧ Wr ((outT (askD x_1.2.1 (IntKind.wrap .i64 (x_1.2.2.1.2.1 + (1 : Int)))
  (IntKind.wrap .i64 (x_1.2.2.1.1 + (List.getD x.2.2.2.1 (Int.toNat x_1.1) (Ty.zero ActT)).2.2.1)) x_2)).2.2.2.1 = (outT (askD x_1.2.1 (IntKind.wrap .i64
  (x_1.2.2.1.2.1 + (1 : Int))) (IntKind.wrap .i64 (x_1.2.2.1.1 + (List.getD x.2.2.2.1 (Int.toNat x_1.1) (Ty.zero ActT)).2.2.1)) x_2)).2.2.2.1) ∧ Wr (x_2 = x_2) ∧ Wr
  (x_1.2.2.2.1.2.1 = x_1.2.2.2.1.2.1) ∧ Wr (x_1.2.2.2.1.2.2.1 = x_1.2.2.2.1.2.2.1) ∧ Wr (x_1.2.2.2.1.2.2.2.1 = x_1.2.2.2.1.2.2.2.1) ∧ Wr
  (x_1.2.2.2.1.2.2.2.2 = x_1.2.2.2.1.2.2.2.2) ∧ Wr (nilL Int ++ x_1.2.1.2.2.2.1 = nilL Int ++ x_1.2.1.2.2.2.1)) (bcase (Decidable.decide ((List.getD
  x.2.2.2.1 (Int.toNat x_1.1) (Ty.zero ActT)).1 = (1 : Int)) && Decidable.decide ((↑(List.length x_1.2.1.2.2.1) : Int) > (0 : Int))) (Wr ((Decidable.decide ((0 : Ty.El I64) < (↑(List.length
  x_1.2.1.2.2.1) : Int)) && Bool.true) = Bool.true) ∧ Wr ((0 : Int) ≤ nthI (List.getD x.2.2.2.1 (Int.toNat x_1.1) (Ty.zero ActT)).2.1 (↑(List.length x_1.2.1.2.2.1) : Int)) ∧ Wr (nthI
  (List.getD x.2.2.2.1 (Int.toNat x_1.1) (Ty.zero ActT)).2.1 (↑(List.length x_1.2.1.2.2.1) : Int) < (↑(List.length x_1.2.1.2.2.1) : Int)) ∧ Wr (Bool.true = Bool.true) ∧ Wr (szB
  x_1.2.1 = Bool.true) ∧ Wr (DoI x_1.2.1 (IntKind.wrap .i64 (x_1.2.2.1.1 + (List.getD x.2.2.2.1 (Int.toNat x_1.1) (Ty.zero ActT)).2.2.1)) x_1.2.2.1.2.1
  x_1.2.2.1.2.2 x_2 (List.getD x.2.2.2.1 (Int.toNat x_1.1) (Ty.zero ActT)) (outB (backD x_1.2.1 (IntKind.wrap .i64 (x_1.2.2.1.2.1 + (1 : Int))) (List.getD x_1.2.1.2.2.1
  (Int.toNat (nthI (List.getD x.2.2.2.1 (Int.toNat x_1.1) (Ty.zero ActT)).2.1 (↑(List.length x_1.2.1.2.2.1) : Int))) (0 : Int)) (List.getD x.2.2.2.1 (Int.toNat x_1.1) (Ty.zero
  ActT)).2.2.2.1 (IntKind.wrap .i64 (x_1.2.2.1.1 + (List.getD x.2.2.2.1 (Int.toNat x_1.1) (Ty.zero ActT)).2.2.1)) x_2), IntKind.wrap .i64 (x_1.2.2.1.2.1 + (1 :
  Int)), x_1.2.2.1.2.2, outT (backD x_1.2.1 (IntKind.wrap .i64 (x_1.2.2.1.2.1 + (1 : Int))) (List.getD x_1.2.1.2.2.1 (Int.toNat (nthI (List.getD x.2.2.2.1 (Int.toNat
  x_1.1) (Ty.zero ActT)).2.1 (↑(List.length x_1.2.1.2.2.1) : Int))) (0 : Int)) (List.getD x.2.2.2.1 (Int.toNat x_1.1) (Ty.zero ActT)).2.2.2.1 (IntKind.wrap .i64
  (x_1.2.2.1.1 + (List.getD x.2.2.2.1 (Int.toNat x_1.1) (Ty.zero ActT)).2.2.1)) x_2), Bool.true)) ∧ Wr (Bool.true = Bool.true) ∧ Wr (x.1 = x.1) ∧ Wr (x.2.1 = x.2.1) ∧ Wr (x.2.2.1
  = x.2.2.1) ∧ Wr (x.2.2.2.1 = x.2.2.2.1) ∧ Wr (x_1.1 = x_1.1) ∧ Wr ((outB (backD x_1.2.1 (IntKind.wrap .i64 (x_1.2.2.1.2.1 + (1 : Int))) (List.getD x_1.2.1.2.2.1
  (Int.toNat (nthI (List.getD x.2.2.2.1 (Int.toNat x_1.1) (Ty.zero ActT)).2.1 (↑(List.length x_1.2.1.2.2.1) : Int))) (0 : Int)) (List.getD x.2.2.2.1 (Int.toNat x_1.1) (Ty.zero
  ActT)).2.2.2.1 (IntKind.wrap .i64 (x_1.2.2.1.1 + (List.getD x.2.2.2.1 (Int.toNat x_1.1) (Ty.zero ActT)).2.2.1)) x_2)).1.1 = (outB (backD x_1.2.1 (IntKind.wrap .i64
  (x_1.2.2.1.2.1 + (1 : Int))) (List.getD x_1.2.1.2.2.1 (Int.toNat (nthI (List.getD x.2.2.2.1 (Int.toNat x_1.1) (Ty.zero ActT)).2.1 (↑(List.length x_1.2.1.2.2.1) : Int))) (0 :
  Int)) (List.getD x.2.2.2.1 (Int.toNat x_1.1) (Ty.zero ActT)).2.2.2.1 (IntKind.wrap .i64 (x_1.2.2.1.1 + (List.getD x.2.2.2.1 (Int.toNat x_1.1) (Ty.zero ActT)).2.2.1))
  x_2)).1.1) ∧ Wr ((outB (backD x_1.2.1 (IntKind.wrap .i64 (x_1.2.2.1.2.1 + (1 : Int))) (List.getD x_1.2.1.2.2.1 (Int.toNat (nthI (List.getD x.2.2.2.1 (Int.toNat x_1.1)
  (Ty.zero ActT)).2.1 (↑(List.length x_1.2.1.2.2.1) : Int))) (0 : Int)) (List.getD x.2.2.2.1 (Int.toNat x_1.1) (Ty.zero ActT)).2.2.2.1 (IntKind.wrap .i64 (x_1.2.2.1.1 +
  (List.getD x.2.2.2.1 (Int.toNat x_1.1) (Ty.zero ActT)).2.2.1)) x_2)).1.2.1 = (outB (backD x_1.2.1 (IntKind.wrap .i64 (x_1.2.2.1.2.1 + (1 : Int))) (List.getD
  x_1.2.1.2.2.1 (Int.toNat (nthI (List.getD x.2.2.2.1 (Int.toNat x_1.1) (Ty.zero ActT)).2.1 (↑(List.length x_1.2.1.2.2.1) : Int))) (0 : Int)) (List.getD x.2.2.2.1 (Int.toNat
  x_1.1) (Ty.zero ActT)).2.2.2.1 (IntKind.wrap .i64 (x_1.2.2.1.1 + (List.getD x.2.2.2.1 (Int.toNat x_1.1) (Ty.zero ActT)).2.2.1)) x_2)).1.2.1) ∧ Wr ((outB (backD x_1.2.1
  (IntKind.wrap .i64 (x_1.2.2.1.2.1 + (1 : Int))) (List.getD x_1.2.1.2.2.1 (Int.toNat (nthI (List.getD x.2.2.2.1 (Int.toNat x_1.1) (Ty.zero ActT)).2.1 (↑(List.length
  x_1.2.1.2.2.1) : Int))) (0 : Int)) (List.getD x.2.2.2.1 (Int.toNat x_1.1) (Ty.zero ActT)).2.2.2.1 (IntKind.wrap .i64 (x_1.2.2.1.1 + (List.getD x.2.2.2.1 (Int.toNat
  x_1.1) (Ty.zero ActT)).2.2.1)) x_2)).1.2.2.1 = (outB (backD x_1.2.1 (IntKind.wrap .i64 (x_1.2.2.1.2.1 + (1 : Int))) (List.getD x_1.2.1.2.2.1 (Int.toNat (nthI (List.getD
  x.2.2.2.1 (Int.toNat x_1.1) (Ty.zero ActT)).2.1 (↑(List.length x_1.2.1.2.2.1) : Int))) (0 : Int)) (List.getD x.2.2.2.1 (Int.toNat x_1.1) (Ty.zero ActT)).2.2.2.1 (IntKind.wrap
  IntKind.i64 (x_1.2.2.1.1 + (List.getD x.2.2.2.1 (Int.toNat x_1.1) (Ty.zero ActT)).2.2.1)) x_2)).1.2.2.1) ∧ Wr ((outB (backD x_1.2.1 (IntKind.wrap .i64 (x_1.2.2.1.2.1
  + (1 : Int))) (List.getD x_1.2.1.2.2.1 (Int.toNat (nthI (List.getD x.2.2.2.1 (Int.toNat x_1.1) (Ty.zero ActT)).2.1 (↑(List.length x_1.2.1.2.2.1) : Int))) (0 : Int)) (List.getD
  x.2.2.2.1 (Int.toNat x_1.1) (Ty.zero ActT)).2.2.2.1 (IntKind.wrap .i64 (x_1.2.2.1.1 + (List.getD x.2.2.2.1 (Int.toNat x_1.1) (Ty.zero ActT)).2.2.1))
  x_2)).1.2.2.2.1 = (outB (backD x_1.2.1 (IntKind.wrap .i64 (x_1.2.2.1.2.1 + (1 : Int))) (List.getD x_1.2.1.2.2.1 (Int.toNat (nthI (List.getD x.2.2.2.1 (Int.toNat x_1.1)
  (Ty.zero ActT)).2.1 (↑(List.length x_1.2.1.2.2.1) : Int))) (0 : Int)) (List.getD x.2.2.2.1 (Int.toNat x_1.1) (Ty.zero ActT)).2.2.2.1 (IntKind.wrap .i64 (x_1.2.2.1.1 +
  (List.getD x.2.2.2.1 (Int.toNat x_1.1) (Ty.zero ActT)).2.2.1)) x_2)).1.2.2.2.1) ∧ Wr ((outB (backD x_1.2.1 (IntKind.wrap .i64 (x_1.2.2.1.2.1 + (1 : Int))) (List.getD
  x_1.2.1.2.2.1 (Int.toNat (nthI (List.getD x.2.2.2.1 (Int.toNat x_1.1) (Ty.zero ActT)).2.1 (↑(List.length x_1.2.1.2.2.1) : Int))) (0 : Int)) (List.getD x.2.2.2.1 (Int.toNat
  x_1.1) (Ty.zero ActT)).2.2.2.1 (IntKind.wrap .i64 (x_1.2.2.1.1 + (List.getD x.2.2.2.1 (Int.toNat x_1.1) (Ty.zero ActT)).2.2.1)) x_2)).1.2.2.2.2.1 = (outB (backD
  x_1.2.1 (IntKind.wrap .i64 (x_1.2.2.1.2.1 + (1 : Int))) (List.getD x_1.2.1.2.2.1 (Int.toNat (nthI (List.getD x.2.2.2.1 (Int.toNat x_1.1) (Ty.zero ActT)).2.1 (↑(List.length
  x_1.2.1.2.2.1) : Int))) (0 : Int)) (List.getD x.2.2.2.1 (Int.toNat x_1.1) (Ty.zero ActT)).2.2.2.1 (IntKind.wrap .i64 (x_1.2.2.1.1 + (List.getD x.2.2.2.1 (Int.toNat
  x_1.1) (Ty.zero ActT)).2.2.1)) x_2)).1.2.2.2.2.1) ∧ Wr ((outB (backD x_1.2.1 (IntKind.wrap .i64 (x_1.2.2.1.2.1 + (1 : Int))) (List.getD x_1.2.1.2.2.1 (Int.toNat (nthI
  (List.getD x.2.2.2.1 (Int.toNat x_1.1) (Ty.zero ActT)).2.1 (↑(List.length x_1.2.1.2.2.1) : Int))) (0 : Int)) (List.getD x.2.2.2.1 (Int.toNat x_1.1) (Ty.zero ActT)).2.2.2.1
  (IntKind.wrap .i64 (x_1.2.2.1.1 + (List.getD x.2.2.2.1 (Int.toNat x_1.1) (Ty.zero ActT)).2.2.1)) x_2)).1.2.2.2.2.2.1 = (outB (backD x_1.2.1 (IntKind.wrap .i64
  (x_1.2.2.1.2.1 + (1 : Int))) (List.getD x_1.2.1.2.2.1 (Int.toNat (nthI (List.getD x.2.2.2.1 (Int.toNat x_1.1) (Ty.zero ActT)).2.1 (↑(List.length x_1.2.1.2.2.1) : Int))) (0 :
  Int)) (List.getD x.2.2.2.1 (Int.toNat x_1.1) (Ty.zero ActT)).2.2.2.1 (IntKind.wrap .i64 (x_1.2.2.1.1 + (List.getD x.2.2.2.1 (Int.toNat x_1.1) (Ty.zero ActT)).2.2.1))
  x_2)).1.2.2.2.2.2.1) ∧ Wr ((outB (backD x_1.2.1 (IntKind.wrap .i64 (x_1.2.2.1.2.1 + (1 : Int))) (List.getD x_1.2.1.2.2.1 (Int.toNat (nthI (List.getD x.2.2.2.1
  (Int.toNat x_1.1) (Ty.zero ActT)).2.1 (↑(List.length x_1.2.1.2.2.1) : Int))) (0 : Int)) (List.getD x.2.2.2.1 (Int.toNat x_1.1) (Ty.zero ActT)).2.2.2.1 (IntKind.wrap .i64
  (x_1.2.2.1.1 + (List.getD x.2.2.2.1 (Int.toNat x_1.1) (Ty.zero ActT)).2.2.1)) x_2)).1.2.2.2.2.2.2.1 = (outB (backD x_1.2.1 (IntKind.wrap .i64 (x_1.2.2.1.2.1 +
  (1 : Int))) (List.getD x_1.2.1.2.2.1 (Int.toNat (nthI (List.getD x.2.2.2.1 (Int.toNat x_1.1) (Ty.zero ActT)).2.1 (↑(List.length x_1.2.1.2.2.1) : Int))) (0 : Int)) (List.getD
  x.2.2.2.1 (Int.toNat x_1.1) (Ty.zero ActT)).2.2.2.1 (IntKind.wrap .i64 (x_1.2.2.1.1 + (List.getD x.2.2.2.1 (Int.toNat x_1.1) (Ty.zero ActT)).2.2.1))
  x_2)).1.2.2.2.2.2.2.1) ∧ Wr ((outB (backD x_1.2.1 (IntKind.wrap .i64 (x_1.2.2.1.2.1 + (1 : Int))) (List.getD x_1.2.1.2.2.1 (Int.toNat (nthI (List.getD x.2.2.2.1
  (Int.toNat x_1.1) (Ty.zero ActT)).2.1 (↑(List.length x_1.2.1.2.2.1) : Int))) (0 : Int)) (List.getD x.2.2.2.1 (Int.toNat x_1.1) (Ty.zero ActT)).2.2.2.1 (IntKind.wrap .i64
  (x_1.2.2.1.1 + (List.getD x.2.2.2.1 (Int.toNat x_1.1) (Ty.zero ActT)).2.2.1)) x_2)).1.2.2.2.2.2.2.2.1 = (outB (backD x_1.2.1 (IntKind.wrap .i64
  (x_1.2.2.1.2.1 + (1 : Int))) (List.getD x_1.2.1.2.2.1 (Int.toNat (nthI (List.getD x.2.2.2.1 (Int.toNat x_1.1) (Ty.zero ActT)).2.1 (↑(List.length x_1.2.1.2.2.1) : Int))) (0 :
  Int)) (List.getD x.2.2.2.1 (Int.toNat x_1.1) (Ty.zero ActT)).2.2.2.1 (IntKind.wrap .i64 (x_1.2.2.1.1 + (List.getD x.2.2.2.1 (Int.toNat x_1.1) (Ty.zero ActT)).2.2.1))
  x_2)).1.2.2.2.2.2.2.2.1) ∧ Wr ((outB (backD x_1.2.1 (IntKind.wrap .i64 (x_1.2.2.1.2.1 + (1 : Int))) (List.getD x_1.2.1.2.2.1 (Int.toNat (nthI (List.getD x.2.2.2.1
  (Int.toNat x_1.1) (Ty.zero ActT)).2.1 (↑(List.length x_1.2.1.2.2.1) : Int))) (0 : Int)) (List.getD x.2.2.2.1 (Int.toNat x_1.1) (Ty.zero ActT)).2.2.2.1 (IntKind.wrap .i64
  (x_1.2.2.1.1 + (List.getD x.2.2.2.1 (Int.toNat x_1.1) (Ty.zero ActT)).2.2.1)) x_2)).1.2.2.2.2.2.2.2.2.1 = (outB (backD x_1.2.1 (IntKind.wrap .i64
  (x_1.2.2.1.2.1 + (1 : Int))) (List.getD x_1.2.1.2.2.1 (Int.toNat (nthI (List.getD x.2.2.2.1 (Int.toNat x_1.1) (Ty.zero ActT)).2.1 (↑(List.length x_1.2.1.2.2.1) : Int))) (0 :
  Int)) (List.getD x.2.2.2.1 (Int.toNat x_1.1) (Ty.zero ActT)).2.2.2.1 (IntKind.wrap .i64 (x_1.2.2.1.1 + (List.getD x.2.2.2.1 (Int.toNat x_1.1) (Ty.zero ActT)).2.2.1))
  x_2)).1.2.2.2.2.2.2.2.2.1) ∧ Wr ((outB (backD x_1.2.1 (IntKind.wrap .i64 (x_1.2.2.1.2.1 + (1 : Int))) (List.getD x_1.2.1.2.2.1 (Int.toNat (nthI (List.getD
  x.2.2.2.1 (Int.toNat x_1.1) (Ty.zero ActT)).2.1 (↑(List.length x_1.2.1.2.2.1) : Int))) (0 : Int)) (List.getD x.2.2.2.1 (Int.toNat x_1.1) (Ty.zero ActT)).2.2.2.1 (IntKind.wrap
  IntKind.i64 (x_1.2.2.1.1 + (List.getD x.2.2.2.1 (Int.toNat x_1.1) (Ty.zero ActT)).2.2.1)) x_2)).2.1 = (outB (backD x_1.2.1 (IntKind.wrap .i64 (x_1.2.2.1.2.1 + (1 : Int)))
  (List.getD x_1.2.1.2.2.1 (Int.toNat (nthI (List.getD x.2.2.2.1 (Int.toNat x_1.1) (Ty.zero ActT)).2.1 (↑(List.length x_1.2.1.2.2.1) : Int))) (0 : Int)) (List.getD x.2.2.2.1
  (Int.toNat x_1.1) (Ty.zero ActT)).2.2.2.1 (IntKind.wrap .i64 (x_1.2.2.1.1 + (List.getD x.2.2.2.1 (Int.toNat x_1.1) (Ty.zero ActT)).2.2.1)) x_2)).2.1) ∧ Wr ((outB (backD
  x_1.2.1 (IntKind.wrap .i64 (x_1.2.2.1.2.1 + (1 : Int))) (List.getD x_1.2.1.2.2.1 (Int.toNat (nthI (List.getD x.2.2.2.1 (Int.toNat x_1.1) (Ty.zero ActT)).2.1 (↑(List.length
  x_1.2.1.2.2.1) : Int))) (0 : Int)) (List.getD x.2.2.2.1 (Int.toNat x_1.1) (Ty.zero ActT)).2.2.2.1 (IntKind.wrap .i64 (x_1.2.2.1.1 + (List.getD x.2.2.2.1 (Int.toNat
  x_1.1) (Ty.zero ActT)).2.2.1)) x_2)).2.2.1 = (outB (backD x_1.2.1 (IntKind.wrap .i64 (x_1.2.2.1.2.1 + (1 : Int))) (List.getD x_1.2.1.2.2.1 (Int.toNat (nthI (List.getD
  x.2.2.2.1 (Int.toNat x_1.1) (Ty.zero ActT)).2.1 (↑(List.length x_1.2.1.2.2.1) : Int))) (0 : Int)) (List.getD x.2.2.2.1 (Int.toNat x_1.1) (Ty.zero ActT)).2.2.2.1 (IntKind.wrap
  IntKind.i64 (x_1.2.2.1.1 + (List.getD x.2.2.2.1 (Int.toNat x_1.1) (Ty.zero ActT)).2.2.1)) x_2)).2.2.1) ∧ Wr ((outB (backD x_1.2.1 (IntKind.wrap .i64 (x_1.2.2.1.2.1 + (1
  : Int))) (List.getD x_1.2.1.2.2.1 (Int.toNat (nthI (List.getD x.2.2.2.1 (Int.toNat x_1.1) (Ty.zero ActT)).2.1 (↑(List.length x_1.2.1.2.2.1) : Int))) (0 : Int)) (List.getD
  x.2.2.2.1 (Int.toNat x_1.1) (Ty.zero ActT)).2.2.2.1 (IntKind.wrap .i64 (x_1.2.2.1.1 + (List.getD x.2.2.2.1 (Int.toNat x_1.1) (Ty.zero ActT)).2.2.1)) x_2)).2.2.2.1
  = (outB (backD x_1.2.1 (IntKind.wrap .i64 (x_1.2.2.1.2.1 + (1 : Int))) (List.getD x_1.2.1.2.2.1 (Int.toNat (nthI (List.getD x.2.2.2.1 (Int.toNat x_1.1) (Ty.zero ActT)).2.1
  (↑(List.length x_1.2.1.2.2.1) : Int))) (0 : Int)) (List.getD x.2.2.2.1 (Int.toNat x_1.1) (Ty.zero ActT)).2.2.2.1 (IntKind.wrap .i64 (x_1.2.2.1.1 + (List.getD x.2.2.2.1
  (Int.toNat x_1.1) (Ty.zero ActT)).2.2.1)) x_2)).2.2.2.1) ∧ Wr ((outB (backD x_1.2.1 (IntKind.wrap .i64 (x_1.2.2.1.2.1 + (1 : Int))) (List.getD x_1.2.1.2.2.1 (Int.toNat
  (nthI (List.getD x.2.2.2.1 (Int.toNat x_1.1) (Ty.zero ActT)).2.1 (↑(List.length x_1.2.1.2.2.1) : Int))) (0 : Int)) (List.getD x.2.2.2.1 (Int.toNat x_1.1) (Ty.zero ActT)).2.2.2.1
  (IntKind.wrap .i64 (x_1.2.2.1.1 + (List.getD x.2.2.2.1 (Int.toNat x_1.1) (Ty.zero ActT)).2.2.1)) x_2)).2.2.2.2.1.1 = (outB (backD x_1.2.1 (IntKind.wrap .i64
  (x_1.2.2.1.2.1 + (1 : Int))) (List.getD x_1.2.1.2.2.1 (Int.toNat (nthI (List.getD x.2.2.2.1 (Int.toNat x_1.1) (Ty.zero ActT)).2.1 (↑(List.length x_1.2.1.2.2.1) : Int))) (0 :
  Int)) (List.getD x.2.2.2.1 (Int.toNat x_1.1) (Ty.zero ActT)).2.2.2.1 (IntKind.wrap .i64 (x_1.2.2.1.1 + (List.getD x.2.2.2.1 (Int.toNat x_1.1) (Ty.zero ActT)).2.2.1))
  x_2)).2.2.2.2.1.1) ∧ Wr ((outB (backD x_1.2.1 (IntKind.wrap .i64 (x_1.2.2.1.2.1 + (1 : Int))) (List.getD x_1.2.1.2.2.1 (Int.toNat (nthI (List.getD x.2.2.2.1 (Int.toNat
  x_1.1) (Ty.zero ActT)).2.1 (↑(List.length x_1.2.1.2.2.1) : Int))) (0 : Int)) (List.getD x.2.2.2.1 (Int.toNat x_1.1) (Ty.zero ActT)).2.2.2.1 (IntKind.wrap .i64
  (x_1.2.2.1.1 + (List.getD x.2.2.2.1 (Int.toNat x_1.1) (Ty.zero ActT)).2.2.1)) x_2)).2.2.2.2.1.2.1 = (outB (backD x_1.2.1 (IntKind.wrap .i64 (x_1.2.2.1.2.1 + (1
  : Int))) (List.getD x_1.2.1.2.2.1 (Int.toNat (nthI (List.getD x.2.2.2.1 (Int.toNat x_1.1) (Ty.zero ActT)).2.1 (↑(List.length x_1.2.1.2.2.1) : Int))) (0 : Int)) (List.getD
  x.2.2.2.1 (Int.toNat x_1.1) (Ty.zero ActT)).2.2.2.1 (IntKind.wrap .i64 (x_1.2.2.1.1 + (List.getD x.2.2.2.1 (Int.toNat x_1.1) (Ty.zero ActT)).2.2.1))
  x_2)).2.2.2.2.1.2.1) ∧ Wr ((outB (backD x_1.2.1 (IntKind.wrap .i64 (x_1.2.2.1.2.1 + (1 : Int))) (List.getD x_1.2.1.2.2.1 (Int.toNat (nthI (List.getD x.2.2.2.1
  (Int.toNat x_1.1) (Ty.zero ActT)).2.1 (↑(List.length x_1.2.1.2.2.1) : Int))) (0 : Int)) (List.getD x.2.2.2.1 (Int.toNat x_1.1) (Ty.zero ActT)).2.2.2.1 (IntKind.wrap .i64
  (x_1.2.2.1.1 + (List.getD x.2.2.2.1 (Int.toNat x_1.1) (Ty.zero ActT)).2.2.1)) x_2)).2.2.2.2.1.2.2.1 = (outB (backD x_1.2.1 (IntKind.wrap .i64 (x_1.2.2.1.2.1 +
  (1 : Int))) (List.getD x_1.2.1.2.2.1 (Int.toNat (nthI (List.getD x.2.2.2.1 (Int.toNat x_1.1) (Ty.zero ActT)).2.1 (↑(List.length x_1.2.1.2.2.1) : Int))) (0 : Int)) (List.getD
  x.2.2.2.1 (Int.toNat x_1.1) (Ty.zero ActT)).2.2.2.1 (IntKind.wrap .i64 (x_1.2.2.1.1 + (List.getD x.2.2.2.1 (Int.toNat x_1.1) (Ty.zero ActT)).2.2.1))
  x_2)).2.2.2.2.1.2.2.1) ∧ Wr ((outB (backD x_1.2.1 (IntKind.wrap .i64 (x_1.2.2.1.2.1 + (1 : Int))) (List.getD x_1.2.1.2.2.1 (Int.toNat (nthI (List.getD x.2.2.2.1
  (Int.toNat x_1.1) (Ty.zero ActT)).2.1 (↑(List.length x_1.2.1.2.2.1) : Int))) (0 : Int)) (List.getD x.2.2.2.1 (Int.toNat x_1.1) (Ty.zero ActT)).2.2.2.1 (IntKind.wrap .i64
  (x_1.2.2.1.1 + (List.getD x.2.2.2.1 (Int.toNat x_1.1) (Ty.zero ActT)).2.2.1)) x_2)).2.2.2.2.2.1 = (outB (backD x_1.2.1 (IntKind.wrap .i64 (x_1.2.2.1.2.1 + (1 :
  Int))) (List.getD x_1.2.1.2.2.1 (Int.toNat (nthI (List.getD x.2.2.2.1 (Int.toNat x_1.1) (Ty.zero ActT)).2.1 (↑(List.length x_1.2.1.2.2.1) : Int))) (0 : Int)) (List.getD
  x.2.2.2.1 (Int.toNat x_1.1) (Ty.zero ActT)).2.2.2.1 (IntKind.wrap .i64 (x_1.2.2.1.1 + (List.getD x.2.2.2.1 (Int.toNat x_1.1) (Ty.zero ActT)).2.2.1))
  x_2)).2.2.2.2.2.1) ∧ Wr ((outB (backD x_1.2.1 (IntKind.wrap .i64 (x_1.2.2.1.2.1 + (1 : Int))) (List.getD x_1.2.1.2.2.1 (Int.toNat (nthI (List.getD x.2.2.2.1 (Int.toNat
  x_1.1) (Ty.zero ActT)).2.1 (↑(List.length x_1.2.1.2.2.1) : Int))) (0 : Int)) (List.getD x.2.2.2.1 (Int.toNat x_1.1) (Ty.zero ActT)).2.2.2.1 (IntKind.wrap .i64
  (x_1.2.2.1.1 + (List.getD x.2.2.2.1 (Int.toNat x_1.1) (Ty.zero ActT)).2.2.1)) x_2)).2.2.2.2.2.2.1 = (outB (backD x_1.2.1 (IntKind.wrap .i64 (x_1.2.2.1.2.1 + (1
  : Int))) (List.getD x_1.2.1.2.2.1 (Int.toNat (nthI (List.getD x.2.2.2.1 (Int.toNat x_1.1) (Ty.zero ActT)).2.1 (↑(List.length x_1.2.1.2.2.1) : Int))) (0 : Int)) (List.getD
  x.2.2.2.1 (Int.toNat x_1.1) (Ty.zero ActT)).2.2.2.1 (IntKind.wrap .i64 (x_1.2.2.1.1 + (List.getD x.2.2.2.1 (Int.toNat x_1.1) (Ty.zero ActT)).2.2.1))
  x_2)).2.2.2.2.2.2.1) ∧ Wr (IntKind.wrap .i64 (x_1.2.2.1.1 + (List.getD x.2.2.2.1 (Int.toNat x_1.1) (Ty.zero ActT)).2.2.1) = IntKind.wrap .i64 (x_1.2.2.1.1 +
  (List.getD x.2.2.2.1 (Int.toNat x_1.1) (Ty.zero ActT)).2.2.1)) ∧ Wr (IntKind.wrap .i64 (x_1.2.2.1.2.1 + (1 : Int)) = IntKind.wrap .i64 (x_1.2.2.1.2.1 + (1 : Int))) ∧ Wr
  (x_1.2.2.1.2.2 = x_1.2.2.1.2.2) ∧ Wr (x_1.2.2.2.2 = x_1.2.2.2.2) ∧ Wr ((outT (backD x_1.2.1 (IntKind.wrap .i64 (x_1.2.2.1.2.1 + (1 : Int))) (List.getD
  x_1.2.1.2.2.1 (Int.toNat (nthI (List.getD x.2.2.2.1 (Int.toNat x_1.1) (Ty.zero ActT)).2.1 (↑(List.length x_1.2.1.2.2.1) : Int))) (0 : Int)) (List.getD x.2.2.2.1 (Int.toNat
  x_1.1) (Ty.zero ActT)).2.2.2.1 (IntKind.wrap .i64 (x_1.2.2.1.1 + (List.getD x.2.2.2.1 (Int.toNat x_1.1) (Ty.zero ActT)).2.2.1)) x_2)).1 = (outT (backD x_1.2.1 (IntKind.wrap
  IntKind.i64 (x_1.2.2.1.2.1 + (1 : Int))) (List.getD x_1.2.1.2.2.1 (Int.toNat (nthI (List.getD x.2.2.2.1 (Int.toNat x_1.1) (Ty.zero ActT)).2.1 (↑(List.length x_1.2.1.2.2.1) :
  Int))) (0 : Int)) (List.getD x.2.2.2.1 (Int.toNat x_1.1) (Ty.zero ActT)).2.2.2.1 (IntKind.wrap .i64 (x_1.2.2.1.1 + (List.getD x.2.2.2.1 (Int.toNat x_1.1) (Ty.zero
  ActT)).2.2.1)) x_2)).1) ∧ Wr ((outT (backD x_1.2.1 (IntKind.wrap .i64 (x_1.2.2.1.2.1 + (1 : Int))) (List.getD x_1.2.1.2.2.1 (Int.toNat (nthI (List.getD x.2.2.2.1 (Int.toNat
  x_1.1) (Ty.zero ActT)).2.1 (↑(List.length x_1.2.1.2.2.1) : Int))) (0 : Int)) (List.getD x.2.2.2.1 (Int.toNat x_1.1) (Ty.zero ActT)).2.2.2.1 (IntKind.wrap .i64
  (x_1.2.2.1.1 + (List.getD x.2.2.2.1 (Int.toNat x_1.1) (Ty.zero ActT)).2.2.1)) x_2)).2.1 = (outT (backD x_1.2.1 (IntKind.wrap .i64 (x_1.2.2.1.2.1 + (1 : Int))) (List.getD
  x_1.2.1.2.2.1 (Int.toNat (nthI (List.getD x.2.2.2.1 (Int.toNat x_1.1) (Ty.zero ActT)).2.1 (↑(List.length x_1.2.1.2.2.1) : Int))) (0 : Int)) (List.getD x.2.2.2.1 (Int.toNat
  x_1.1) (Ty.zero ActT)).2.2.2.1 (IntKind.wrap .i64 (x_1.2.2.1.1 + (List.getD x.2.2.2.1 (Int.toNat x_1.1) (Ty.zero ActT)).2.2.1)) x_2)).2.1) ∧ Wr ((outT (backD x_1.2.1
  (IntKind.wrap .i64 (x_1.2.2.1.2.1 + (1 : Int))) (List.getD x_1.2.1.2.2.1 (Int.toNat (nthI (List.getD x.2.2.2.1 (Int.toNat x_1.1) (Ty.zero ActT)).2.1 (↑(List.length
  x_1.2.1.2.2.1) : Int))) (0 : Int)) (List.getD x.2.2.2.1 (Int.toNat x_1.1) (Ty.zero ActT)).2.2.2.1 (IntKind.wrap .i64 (x_1.2.2.1.1 + (List.getD x.2.2.2.1 (Int.toNat
  x_1.1) (Ty.zero ActT)).2.2.1)) x_2)).2.2.1 = (outT (backD x_1.2.1 (IntKind.wrap .i64 (x_1.2.2.1.2.1 + (1 : Int))) (List.getD x_1.2.1.2.2.1 (Int.toNat (nthI (List.getD
  x.2.2.2.1 (Int.toNat x_1.1) (Ty.zero ActT)).2.1 (↑(List.length x_1.2.1.2.2.1) : Int))) (0 : Int)) (List.getD x.2.2.2.1 (Int.toNat x_1.1) (Ty.zero ActT)).2.2.2.1 (IntKind.wrap
  IntKind.i64 (x_1.2.2.1.1 + (List.getD x.2.2.2.1 (Int.toNat x_1.1) (Ty.zero ActT)).2.2.1)) x_2)).2.2.1) ∧ Wr ((outT (backD x_1.2.1 (IntKind.wrap .i64 (x_1.2.2.1.2.1 + (1
  : Int))) (List.getD x_1.2.1.2.2.1 (Int.toNat (nthI (List.getD x.2.2.2.1 (Int.toNat x_1.1) (Ty.zero ActT)).2.1 (↑(List.length x_1.2.1.2.2.1) : Int))) (0 : Int)) (List.getD
  x.2.2.2.1 (Int.toNat x_1.1) (Ty.zero ActT)).2.2.2.1 (IntKind.wrap .i64 (x_1.2.2.1.1 + (List.getD x.2.2.2.1 (Int.toNat x_1.1) (Ty.zero ActT)).2.2.1)) x_2)).2.2.2.1
  = (outT (backD x_1.2.1 (IntKind.wrap .i64 (x_1.2.2.1.2.1 + (1 : Int))) (List.getD x_1.2.1.2.2.1 (Int.toNat (nthI (List.getD x.2.2.2.1 (Int.toNat x_1.1) (Ty.zero ActT)).2.1
  (↑(List.length x_1.2.1.2.2.1) : Int))) (0 : Int)) (List.getD x.2.2.2.1 (Int.toNat x_1.1) (Ty.zero ActT)).2.2.2.1 (IntKind.wrap .i64 (x_1.2.2.1.1 + (List.getD x.2.2.2.1
  (Int.toNat x_1.1) (Ty.zero ActT)).2.2.1)) x_2)).2.2.2.1) ∧ Wr (x_2 = x_2) ∧ Wr (x_1.2.2.2.1.2.1 = x_1.2.2.2.1.2.1) ∧ Wr (x_1.2.2.2.1.2.2.1 =
  x_1.2.2.2.1.2.2.1) ∧ Wr (x_1.2.2.2.1.2.2.2.1 = x_1.2.2.2.1.2.2.2.1) ∧ Wr (x_1.2.2.2.1.2.2.2.2 = x_1.2.2.2.1.2.2.2.2) ∧ Wr (nilL Int ++
  x_1.2.1.2.2.2.1 = nilL Int ++ x_1.2.1.2.2.2.1)) (bcase (Decidable.decide ((List.getD x.2.2.2.1 (Int.toNat x_1.1) (Ty.zero ActT)).1 = (2 : Int)) && Decidable.decide ((↑(List.length
  x_1.2.1.2.2.2.1) : Int) > (0 : Int))) (Wr ((Decidable.decide ((0 : Ty.El I64) < (↑(List.length x_1.2.1.2.2.2.1) : Int)) && Bool.true) = Bool.true) ∧ Wr ((0 : Int) ≤ nthI (List.getD
  x.2.2.2.1 (Int.toNat x_1.1) (Ty.zero ActT)).2.1 (↑(List.length x_1.2.1.2.2.2.1) : Int)) ∧ Wr (nthI (List.getD x.2.2.2.1 (Int.toNat x_1.1) (Ty.zero ActT)).2.1 (↑(List.length
  x_1.2.1.2.2.2.1) : Int) < (↑(List.length x_1.2.1.2.2.2.1) : Int)) ∧ Wr (Bool.true = Bool.true) ∧ Wr (okW x_1.2.1 = Bool.true) ∧ Wr (DoI x_1.2.1 (IntKind.wrap .i64
  (x_1.2.2.1.1 + (List.getD x.2.2.2.1 (Int.toNat x_1.1) (Ty.zero ActT)).2.2.1)) x_1.2.2.1.2.1 x_1.2.2.1.2.2 x_2 (List.getD x.2.2.2.1 (Int.toNat x_1.1) (Ty.zero ActT))
  (quitB x_1.2.1 (List.getD x_1.2.1.2.2.2.1 (Int.toNat (nthI (List.getD x.2.2.2.1 (Int.toNat x_1.1) (Ty.zero ActT)).2.1 (↑(List.length x_1.2.1.2.2.2.1) : Int))) (0 : Int)),
  x_1.2.2.1.2.1, x_1.2.2.1.2.2, quitT x_1.2.1 (List.getD x_1.2.1.2.2.2.1 (Int.toNat (nthI (List.getD x.2.2.2.1 (Int.toNat x_1.1) (Ty.zero ActT)).2.1 (↑(List.length
  x_1.2.1.2.2.2.1) : Int))) (0 : Int)), Bool.true)) ∧ Wr (Bool.true = Bool.true) ∧ Wr (x.1 = x.1) ∧ Wr (x.2.1 = x.2.1) ∧ Wr (x.2.2.1 = x.2.2.1) ∧ Wr (x.2.2.2.1 =
  x.2.2.2.1) ∧ Wr (x_1.1 = x_1.1) ∧ Wr ((quitB x_1.2.1 (List.getD x_1.2.1.2.2.2.1 (Int.toNat (nthI (List.getD x.2.2.2.1 (Int.toNat x_1.1) (Ty.zero ActT)).2.1 (↑(List.length
  x_1.2.1.2.2.2.1) : Int))) (0 : Int))).1.1 = (quitB x_1.2.1 (List.getD x_1.2.1.2.2.2.1 (Int.toNat (nthI (List.getD x.2.2.2.1 (Int.toNat x_1.1) (Ty.zero ActT)).2.1
  (↑(List.length x_1.2.1.2.2.2.1) : Int))) (0 : Int))).1.1) ∧ Wr ((quitB x_1.2.1 (List.getD x_1.2.1.2.2.2.1 (Int.toNat (nthI (List.getD x.2.2.2.1 (Int.toNat x_1.1) (Ty.zero
  ActT)).2.1 (↑(List.length x_1.2.1.2.2.2.1) : Int))) (0 : Int))).1.2.1 = (quitB x_1.2.1 (List.getD x_1.2.1.2.2.2.1 (Int.toNat (nthI (List.getD x.2.2.2.1 (Int.toNat x_1.1)
  (Ty.zero ActT)).2.1 (↑(List.length x_1.2.1.2.2.2.1) : Int))) (0 : Int))).1.2.1) ∧ Wr ((quitB x_1.2.1 (List.getD x_1.2.1.2.2.2.1 (Int.toNat (nthI (List.getD x.2.2.2.1
  (Int.toNat x_1.1) (Ty.zero ActT)).2.1 (↑(List.length x_1.2.1.2.2.2.1) : Int))) (0 : Int))).1.2.2.1 = (quitB x_1.2.1 (List.getD x_1.2.1.2.2.2.1 (Int.toNat (nthI (List.getD
  x.2.2.2.1 (Int.toNat x_1.1) (Ty.zero ActT)).2.1 (↑(List.length x_1.2.1.2.2.2.1) : Int))) (0 : Int))).1.2.2.1) ∧ Wr ((quitB x_1.2.1 (List.getD x_1.2.1.2.2.2.1 (Int.toNat
  (nthI (List.getD x.2.2.2.1 (Int.toNat x_1.1) (Ty.zero ActT)).2.1 (↑(List.length x_1.2.1.2.2.2.1) : Int))) (0 : Int))).1.2.2.2.1 = (quitB x_1.2.1 (List.getD
  x_1.2.1.2.2.2.1 (Int.toNat (nthI (List.getD x.2.2.2.1 (Int.toNat x_1.1) (Ty.zero ActT)).2.1 (↑(List.length x_1.2.1.2.2.2.1) : Int))) (0 : Int))).1.2.2.2.1) ∧ Wr ((quitB
  x_1.2.1 (List.getD x_1.2.1.2.2.2.1 (Int.toNat (nthI (List.getD x.2.2.2.1 (Int.toNat x_1.1) (Ty.zero ActT)).2.1 (↑(List.length x_1.2.1.2.2.2.1) : Int))) (0 :
  Int))).1.2.2.2.2.1 = (quitB x_1.2.1 (List.getD x_1.2.1.2.2.2.1 (Int.toNat (nthI (List.getD x.2.2.2.1 (Int.toNat x_1.1) (Ty.zero ActT)).2.1 (↑(List.length
  x_1.2.1.2.2.2.1) : Int))) (0 : Int))).1.2.2.2.2.1) ∧ Wr ((quitB x_1.2.1 (List.getD x_1.2.1.2.2.2.1 (Int.toNat (nthI (List.getD x.2.2.2.1 (Int.toNat x_1.1) (Ty.zero
  ActT)).2.1 (↑(List.length x_1.2.1.2.2.2.1) : Int))) (0 : Int))).1.2.2.2.2.2.1 = (quitB x_1.2.1 (List.getD x_1.2.1.2.2.2.1 (Int.toNat (nthI (List.getD x.2.2.2.1
  (Int.toNat x_1.1) (Ty.zero ActT)).2.1 (↑(List.length x_1.2.1.2.2.2.1) : Int))) (0 : Int))).1.2.2.2.2.2.1) ∧ Wr ((quitB x_1.2.1 (List.getD x_1.2.1.2.2.2.1 (Int.toNat (nthI
  (List.getD x.2.2.2.1 (Int.toNat x_1.1) (Ty.zero ActT)).2.1 (↑(List.length x_1.2.1.2.2.2.1) : Int))) (0 : Int))).1.2.2.2.2.2.2.1 = (quitB x_1.2.1 (List.getD
  x_1.2.1.2.2.2.1 (Int.toNat (nthI (List.getD x.2.2.2.1 (Int.toNat x_1.1) (Ty.zero ActT)).2.1 (↑(List.length x_1.2.1.2.2.2.1) : Int))) (0 : Int))).1.2.2.2.2.2.2.1) ∧
  Wr ((quitB x_1.2.1 (List.getD x_1.2.1.2.2.2.1 (Int.toNat (nthI (List.getD x.2.2.2.1 (Int.toNat x_1.1) (Ty.zero ActT)).2.1 (↑(List.length x_1.2.1.2.2.2.1) : Int))) (0 :
  Int))).1.2.2.2.2.2.2.2.1 = (quitB x_1.2.1 (List.getD x_1.2.1.2.2.2.1 (Int.toNat (nthI (List.getD x.2.2.2.1 (Int.toNat x_1.1) (Ty.zero ActT)).2.1 (↑(List.length
  x_1.2.1.2.2.2.1) : Int))) (0 : Int))).1.2.2.2.2.2.2.2.1) ∧ Wr ((quitB x_1.2.1 (List.getD x_1.2.1.2.2.2.1 (Int.toNat (nthI (List.getD x.2.2.2.1 (Int.toNat x_1.1)
  (Ty.zero ActT)).2.1 (↑(List.length x_1.2.1.2.2.2.1) : Int))) (0 : Int))).1.2.2.2.2.2.2.2.2.1 = (quitB x_1.2.1 (List.getD x_1.2.1.2.2.2.1 (Int.toNat (nthI (List.getD
  x.2.2.2.1 (Int.toNat x_1.1) (Ty.zero ActT)).2.1 (↑(List.length x_1.2.1.2.2.2.1) : Int))) (0 : Int))).1.2.2.2.2.2.2.2.2.1) ∧ Wr ((quitB x_1.2.1 (List.getD
  x_1.2.1.2.2.2.1 (Int.toNat (nthI (List.getD x.2.2.2.1 (Int.toNat x_1.1) (Ty.zero ActT)).2.1 (↑(List.length x_1.2.1.2.2.2.1) : Int))) (0 : Int))).2.1 = (quitB x_1.2.1
  (List.getD x_1.2.1.2.2.2.1 (Int.toNat (nthI (List.getD x.2.2.2.1 (Int.toNat x_1.1) (Ty.zero ActT)).2.1 (↑(List.length x_1.2.1.2.2.2.1) : Int))) (0 : Int))).2.1) ∧ Wr ((quitB
  x_1.2.1 (List.getD x_1.2.1.2.2.2.1 (Int.toNat (nthI (List.getD x.2.2.2.1 (Int.toNat x_1.1) (Ty.zero ActT)).2.1 (↑(List.length x_1.2.1.2.2.2.1) : Int))) (0 : Int))).2.2.1 =
  (quitB x_1.2.1 (List.getD x_1.2.1.2.2.2.1 (Int.toNat (nthI (List.getD x.2.2.2.1 (Int.toNat x_1.1) (Ty.zero ActT)).2.1 (↑(List.length x_1.2.1.2.2.2.1) : Int))) (0 :
  Int))).2.2.1) ∧ Wr ((quitB x_1.2.1 (List.getD x_1.2.1.2.2.2.1 (Int.toNat (nthI (List.getD x.2.2.2.1 (Int.toNat x_1.1) (Ty.zero ActT)).2.1 (↑(List.length x_1.2.1.2.2.2.1) :
  Int))) (0 : Int))).2.2.2.1 = (quitB x_1.2.1 (List.getD x_1.2.1.2.2.2.1 (Int.toNat (nthI (List.getD x.2.2.2.1 (Int.toNat x_1.1) (Ty.zero ActT)).2.1 (↑(List.length
  x_1.2.1.2.2.2.1) : Int))) (0 : Int))).2.2.2.1) ∧ Wr ((quitB x_1.2.1 (List.getD x_1.2.1.2.2.2.1 (Int.toNat (nthI (List.getD x.2.2.2.1 (Int.toNat x_1.1) (Ty.zero
  ActT)).2.1 (↑(List.length x_1.2.1.2.2.2.1) : Int))) (0 : Int))).2.2.2.2.1.1 = (quitB x_1.2.1 (List.getD x_1.2.1.2.2.2.1 (Int.toNat (nthI (List.getD x.2.2.2.1
  (Int.toNat x_1.1) (Ty.zero ActT)).2.1 (↑(List.length x_1.2.1.2.2.2.1) : Int))) (0 : Int))).2.2.2.2.1.1) ∧ Wr ((quitB x_1.2.1 (List.getD x_1.2.1.2.2.2.1 (Int.toNat (nthI
  (List.getD x.2.2.2.1 (Int.toNat x_1.1) (Ty.zero ActT)).2.1 (↑(List.length x_1.2.1.2.2.2.1) : Int))) (0 : Int))).2.2.2.2.1.2.1 = (quitB x_1.2.1 (List.getD
  x_1.2.1.2.2.2.1 (Int.toNat (nthI (List.getD x.2.2.2.1 (Int.toNat x_1.1) (Ty.zero ActT)).2.1 (↑(List.length x_1.2.1.2.2.2.1) : Int))) (0 : Int))).2.2.2.2.1.2.1) ∧ Wr
  ((quitB x_1.2.1 (List.getD x_1.2.1.2.2.2.1 (Int.toNat (nthI (List.getD x.2.2.2.1 (Int.toNat x_1.1) (Ty.zero ActT)).2.1 (↑(List.length x_1.2.1.2.2.2.1) : Int))) (0 :
  Int))).2.2.2.2.1.2.2.1 = (quitB x_1.2.1 (List.getD x_1.2.1.2.2.2.1 (Int.toNat (nthI (List.getD x.2.2.2.1 (Int.toNat x_1.1) (Ty.zero ActT)).2.1 (↑(List.length
  x_1.2.1.2.2.2.1) : Int))) (0 : Int))).2.2.2.2.1.2.2.1) ∧ Wr ((quitB x_1.2.1 (List.getD x_1.2.1.2.2.2.1 (Int.toNat (nthI (List.getD x.2.2.2.1 (Int.toNat x_1.1)
  (Ty.zero ActT)).2.1 (↑(List.length x_1.2.1.2.2.2.1) : Int))) (0 : Int))).2.2.2.2.2.1 = (quitB x_1.2.1 (List.getD x_1.2.1.2.2.2.1 (Int.toNat (nthI (List.getD x.2.2.2.1
  (Int.toNat x_1.1) (Ty.zero ActT)).2.1 (↑(List.length x_1.2.1.2.2.2.1) : Int))) (0 : Int))).2.2.2.2.2.1) ∧ Wr ((quitB x_1.2.1 (List.getD x_1.2.1.2.2.2.1 (Int.toNat (nthI
  (List.getD x.2.2.2.1 (Int.toNat x_1.1) (Ty.zero ActT)).2.1 (↑(List.length x_1.2.1.2.2.2.1) : Int))) (0 : Int))).2.2.2.2.2.2.1 = (quitB x_1.2.1 (List.getD
  x_1.2.1.2.2.2.1 (Int.toNat (nthI (List.getD x.2.2.2.1 (Int.toNat x_1.1) (Ty.zero ActT)).2.1 (↑(List.length x_1.2.1.2.2.2.1) : Int))) (0 : Int))).2.2.2.2.2.2.1) ∧ Wr
  (IntKind.wrap .i64 (x_1.2.2.1.1 + (List.getD x.2.2.2.1 (Int.toNat x_1.1) (Ty.zero ActT)).2.2.1) = IntKind.wrap .i64 (x_1.2.2.1.1 + (List.getD x.2.2.2.1 (Int.toNat
  x_1.1) (Ty.zero ActT)).2.2.1)) ∧ Wr (x_1.2.2.1.2.1 = x_1.2.2.1.2.1) ∧ Wr (x_1.2.2.1.2.2 = x_1.2.2.1.2.2) ∧ Wr (x_1.2.2.2.2 = x_1.2.2.2.2) ∧ Wr ((quitT
  x_1.2.1 (List.getD x_1.2.1.2.2.2.1 (Int.toNat (nthI (List.getD x.2.2.2.1 (Int.toNat x_1.1) (Ty.zero ActT)).2.1 (↑(List.length x_1.2.1.2.2.2.1) : Int))) (0 : Int))).1 = (quitT
  x_1.2.1 (List.getD x_1.2.1.2.2.2.1 (Int.toNat (nthI (List.getD x.2.2.2.1 (Int.toNat x_1.1) (Ty.zero ActT)).2.1 (↑(List.length x_1.2.1.2.2.2.1) : Int))) (0 : Int))).1) ∧ Wr
  ((quitT x_1.2.1 (List.getD x_1.2.1.2.2.2.1 (Int.toNat (nthI (List.getD x.2.2.2.1 (Int.toNat x_1.1) (Ty.zero ActT)).2.1 (↑(List.length x_1.2.1.2.2.2.1) : Int))) (0 :
  Int))).2.1 = (quitT x_1.2.1 (List.getD x_1.2.1.2.2.2.1 (Int.toNat (nthI (List.getD x.2.2.2.1 (Int.toNat x_1.1) (Ty.zero ActT)).2.1 (↑(List.length x_1.2.1.2.2.2.1) : Int)))
  (0 : Int))).2.1) ∧ Wr ((quitT x_1.2.1 (List.getD x_1.2.1.2.2.2.1 (Int.toNat (nthI (List.getD x.2.2.2.1 (Int.toNat x_1.1) (Ty.zero ActT)).2.1 (↑(List.length x_1.2.1.2.2.2.1)
  : Int))) (0 : Int))).2.2.1 = (quitT x_1.2.1 (List.getD x_1.2.1.2.2.2.1 (Int.toNat (nthI (List.getD x.2.2.2.1 (Int.toNat x_1.1) (Ty.zero ActT)).2.1 (↑(List.length
  x_1.2.1.2.2.2.1) : Int))) (0 : Int))).2.2.1) ∧ Wr ((quitT x_1.2.1 (List.getD x_1.2.1.2.2.2.1 (Int.toNat (nthI (List.getD x.2.2.2.1 (Int.toNat x_1.1) (Ty.zero ActT)).2.1
  (↑(List.length x_1.2.1.2.2.2.1) : Int))) (0 : Int))).2.2.2.1 = (quitT x_1.2.1 (List.getD x_1.2.1.2.2.2.1 (Int.toNat (nthI (List.getD x.2.2.2.1 (Int.toNat x_1.1) (Ty.zero
  ActT)).2.1 (↑(List.length x_1.2.1.2.2.2.1) : Int))) (0 : Int))).2.2.2.1) ∧ Wr (x_2 = x_2) ∧ Wr (x_1.2.2.2.1.2.1 = x_1.2.2.2.1.2.1) ∧ Wr (x_1.2.2.2.1.2.2.1 =
  x_1.2.2.2.1.2.2.1) ∧ Wr (x_1.2.2.2.1.2.2.2.1 = x_1.2.2.2.1.2.2.2.1) ∧ Wr (x_1.2.2.2.1.2.2.2.2 = x_1.2.2.2.1.2.2.2.2) ∧ Wr (nilL Int ++
  x_1.2.1.2.2.2.1 = nilL Int ++ x_1.2.1.2.2.2.1)) (bcase (Decidable.decide ((List.getD x.2.2.2.1 (Int.toNat x_1.1) (Ty.zero ActT)).1 = (3 : Int)) && Decidable.decide
  (x_1.2.1.2.2.2.2.1.1 ≥ (0 : Int))) (Wr ((szB x_1.2.1 && Decidable.decide (List.length (nilL (Int × (Int × Int × Int × Int × Int × Int × Int × Int × Unit) × Int × Unit)) = (0 : Nat))) = Bool.true) ∧
  Wr (DoI x_1.2.1 (IntKind.wrap .i64 (x_1.2.2.1.1 + (List.getD x.2.2.2.1 (Int.toNat x_1.1) (Ty.zero ActT)).2.2.1)) x_1.2.2.1.2.1 x_1.2.2.1.2.2 x_2 (List.getD
  x.2.2.2.1 (Int.toNat x_1.1) (Ty.zero ActT)) (outB (toldD x_1.2.1 (IntKind.wrap .i64 (x_1.2.2.1.2.2 + (1 : Int))) (0 : Int) (IntKind.wrap .i64 (x_1.2.2.1.1 + (List.getD
  x.2.2.2.1 (Int.toNat x_1.1) (Ty.zero ActT)).2.2.1)) x_2), x_1.2.2.1.2.1, IntKind.wrap .i64 (x_1.2.2.1.2.2 + (1 : Int)), outT (toldD x_1.2.1 (IntKind.wrap .i64
  (x_1.2.2.1.2.2 + (1 : Int))) (0 : Int) (IntKind.wrap .i64 (x_1.2.2.1.1 + (List.getD x.2.2.2.1 (Int.toNat x_1.1) (Ty.zero ActT)).2.2.1)) x_2), Bool.true)) ∧ Wr (Bool.true =
  Bool.true) ∧ Wr (x.1 = x.1) ∧ Wr (x.2.1 = x.2.1) ∧ Wr (x.2.2.1 = x.2.2.1) ∧ Wr (x.2.2.2.1 = x.2.2.2.1) ∧ Wr (x_1.1 = x_1.1) ∧ Wr ((outB (toldD x_1.2.1 (IntKind.wrap
  IntKind.i64 (x_1.2.2.1.2.2 + (1 : Int))) (0 : Int) (IntKind.wrap .i64 (x_1.2.2.1.1 + (List.getD x.2.2.2.1 (Int.toNat x_1.1) (Ty.zero ActT)).2.2.1)) x_2)).1.1 = (outB (toldD
  x_1.2.1 (IntKind.wrap .i64 (x_1.2.2.1.2.2 + (1 : Int))) (0 : Int) (IntKind.wrap .i64 (x_1.2.2.1.1 + (List.getD x.2.2.2.1 (Int.toNat x_1.1) (Ty.zero ActT)).2.2.1))
  x_2)).1.1) ∧ Wr ((outB (toldD x_1.2.1 (IntKind.wrap .i64 (x_1.2.2.1.2.2 + (1 : Int))) (0 : Int) (IntKind.wrap .i64 (x_1.2.2.1.1 + (List.getD x.2.2.2.1 (Int.toNat x_1.1)
  (Ty.zero ActT)).2.2.1)) x_2)).1.2.1 = (outB (toldD x_1.2.1 (IntKind.wrap .i64 (x_1.2.2.1.2.2 + (1 : Int))) (0 : Int) (IntKind.wrap .i64 (x_1.2.2.1.1 + (List.getD
  x.2.2.2.1 (Int.toNat x_1.1) (Ty.zero ActT)).2.2.1)) x_2)).1.2.1) ∧ Wr ((outB (toldD x_1.2.1 (IntKind.wrap .i64 (x_1.2.2.1.2.2 + (1 : Int))) (0 : Int) (IntKind.wrap .i64
  (x_1.2.2.1.1 + (List.getD x.2.2.2.1 (Int.toNat x_1.1) (Ty.zero ActT)).2.2.1)) x_2)).1.2.2.1 = (outB (toldD x_1.2.1 (IntKind.wrap .i64 (x_1.2.2.1.2.2 + (1 : Int))) (0
  : Int) (IntKind.wrap .i64 (x_1.2.2.1.1 + (List.getD x.2.2.2.1 (Int.toNat x_1.1) (Ty.zero ActT)).2.2.1)) x_2)).1.2.2.1) ∧ Wr ((outB (toldD x_1.2.1 (IntKind.wrap .i64
  (x_1.2.2.1.2.2 + (1 : Int))) (0 : Int) (IntKind.wrap .i64 (x_1.2.2.1.1 + (List.getD x.2.2.2.1 (Int.toNat x_1.1) (Ty.zero ActT)).2.2.1)) x_2)).1.2.2.2.1 = (outB (toldD
  x_1.2.1 (IntKind.wrap .i64 (x_1.2.2.1.2.2 + (1 : Int))) (0 : Int) (IntKind.wrap .i64 (x_1.2.2.1.1 + (List.getD x.2.2.2.1 (Int.toNat x_1.1) (Ty.zero ActT)).2.2.1))
  x_2)).1.2.2.2.1) ∧ Wr ((outB (toldD x_1.2.1 (IntKind.wrap .i64 (x_1.2.2.1.2.2 + (1 : Int))) (0 : Int) (IntKind.wrap .i64 (x_1.2.2.1.1 + (List.getD x.2.2.2.1
  (Int.toNat x_1.1) (Ty.zero ActT)).2.2.1)) x_2)).1.2.2.2.2.1 = (outB (toldD x_1.2.1 (IntKind.wrap .i64 (x_1.2.2.1.2.2 + (1 : Int))) (0 : Int) (IntKind.wrap .i64
  (x_1.2.2.1.1 + (List.getD x.2.2.2.1 (Int.toNat x_1.1) (Ty.zero ActT)).2.2.1)) x_2)).1.2.2.2.2.1) ∧ Wr ((outB (toldD x_1.2.1 (IntKind.wrap .i64 (x_1.2.2.1.2.2 + (1
  : Int))) (0 : Int) (IntKind.wrap .i64 (x_1.2.2.1.1 + (List.getD x.2.2.2.1 (Int.toNat x_1.1) (Ty.zero ActT)).2.2.1)) x_2)).1.2.2.2.2.2.1 = (outB (toldD x_1.2.1
  (IntKind.wrap .i64 (x_1.2.2.1.2.2 + (1 : Int))) (0 : Int) (IntKind.wrap .i64 (x_1.2.2.1.1 + (List.getD x.2.2.2.1 (Int.toNat x_1.1) (Ty.zero ActT)).2.2.1))
  x_2)).1.2.2.2.2.2.1) ∧ Wr ((outB (toldD x_1.2.1 (IntKind.wrap .i64 (x_1.2.2.1.2.2 + (1 : Int))) (0 : Int) (IntKind.wrap .i64 (x_1.2.2.1.1 + (List.getD x.2.2.2.1
  (Int.toNat x_1.1) (Ty.zero ActT)).2.2.1)) x_2)).1.2.2.2.2.2.2.1 = (outB (toldD x_1.2.1 (IntKind.wrap .i64 (x_1.2.2.1.2.2 + (1 : Int))) (0 : Int) (IntKind.wrap .i64
  (x_1.2.2.1.1 + (List.getD x.2.2.2.1 (Int.toNat x_1.1) (Ty.zero ActT)).2.2.1)) x_2)).1.2.2.2.2.2.2.1) ∧ Wr ((outB (toldD x_1.2.1 (IntKind.wrap .i64
  (x_1.2.2.1.2.2 + (1 : Int))) (0 : Int) (IntKind.wrap .i64 (x_1.2.2.1.1 + (List.getD x.2.2.2.1 (Int.toNat x_1.1) (Ty.zero ActT)).2.2.1)) x_2)).1.2.2.2.2.2.2.2.1
  = (outB (toldD x_1.2.1 (IntKind.wrap .i64 (x_1.2.2.1.2.2 + (1 : Int))) (0 : Int) (IntKind.wrap .i64 (x_1.2.2.1.1 + (List.getD x.2.2.2.1 (Int.toNat x_1.1) (Ty.zero
  ActT)).2.2.1)) x_2)).1.2.2.2.2.2.2.2.1) ∧ Wr ((outB (toldD x_1.2.1 (IntKind.wrap .i64 (x_1.2.2.1.2.2 + (1 : Int))) (0 : Int) (IntKind.wrap .i64 (x_1.2.2.1.1 +
  (List.getD x.2.2.2.1 (Int.toNat x_1.1) (Ty.zero ActT)).2.2.1)) x_2)).1.2.2.2.2.2.2.2.2.1 = (outB (toldD x_1.2.1 (IntKind.wrap .i64 (x_1.2.2.1.2.2 + (1 : Int))) (0
  : Int) (IntKind.wrap .i64 (x_1.2.2.1.1 + (List.getD x.2.2.2.1 (Int.toNat x_1.1) (Ty.zero ActT)).2.2.1)) x_2)).1.2.2.2.2.2.2.2.2.1) ∧ Wr ((outB (toldD x_1.2.1
  (IntKind.wrap .i64 (x_1.2.2.1.2.2 + (1 : Int))) (0 : Int) (IntKind.wrap .i64 (x_1.2.2.1.1 + (List.getD x.2.2.2.1 (Int.toNat x_1.1) (Ty.zero ActT)).2.2.1)) x_2)).2.1 =
  (outB (toldD x_1.2.1 (IntKind.wrap .i64 (x_1.2.2.1.2.2 + (1 : Int))) (0 : Int) (IntKind.wrap .i64 (x_1.2.2.1.1 + (List.getD x.2.2.2.1 (Int.toNat x_1.1) (Ty.zero
  ActT)).2.2.1)) x_2)).2.1) ∧ Wr ((outB (toldD x_1.2.1 (IntKind.wrap .i64 (x_1.2.2.1.2.2 + (1 : Int))) (0 : Int) (IntKind.wrap .i64 (x_1.2.2.1.1 + (List.getD x.2.2.2.1
  (Int.toNat x_1.1) (Ty.zero ActT)).2.2.1)) x_2)).2.2.1 = (outB (toldD x_1.2.1 (IntKind.wrap .i64 (x_1.2.2.1.2.2 + (1 : Int))) (0 : Int) (IntKind.wrap .i64 (x_1.2.2.1.1 +
  (List.getD x.2.2.2.1 (Int.toNat x_1.1) (Ty.zero ActT)).2.2.1)) x_2)).2.2.1) ∧ Wr ((outB (toldD x_1.2.1 (IntKind.wrap .i64 (x_1.2.2.1.2.2 + (1 : Int))) (0 : Int) (IntKind.wrap
  IntKind.i64 (x_1.2.2.1.1 + (List.getD x.2.2.2.1 (Int.toNat x_1.1) (Ty.zero ActT)).2.2.1)) x_2)).2.2.2.1 = (outB (toldD x_1.2.1 (IntKind.wrap .i64 (x_1.2.2.1.2.2 + (1
  : Int))) (0 : Int) (IntKind.wrap .i64 (x_1.2.2.1.1 + (List.getD x.2.2.2.1 (Int.toNat x_1.1) (Ty.zero ActT)).2.2.1)) x_2)).2.2.2.1) ∧ Wr ((outB (toldD x_1.2.1 (IntKind.wrap
  IntKind.i64 (x_1.2.2.1.2.2 + (1 : Int))) (0 : Int) (IntKind.wrap .i64 (x_1.2.2.1.1 + (List.getD x.2.2.2.1 (Int.toNat x_1.1) (Ty.zero ActT)).2.2.1)) x_2)).2.2.2.2.1.1
  = (outB (toldD x_1.2.1 (IntKind.wrap .i64 (x_1.2.2.1.2.2 + (1 : Int))) (0 : Int) (IntKind.wrap .i64 (x_1.2.2.1.1 + (List.getD x.2.2.2.1 (Int.toNat x_1.1) (Ty.zero
  ActT)).2.2.1)) x_2)).2.2.2.2.1.1) ∧ Wr ((outB (toldD x_1.2.1 (IntKind.wrap .i64 (x_1.2.2.1.2.2 + (1 : Int))) (0 : Int) (IntKind.wrap .i64 (x_1.2.2.1.1 + (List.getD
  x.2.2.2.1 (Int.toNat x_1.1) (Ty.zero ActT)).2.2.1)) x_2)).2.2.2.2.1.2.1 = (outB (toldD x_1.2.1 (IntKind.wrap .i64 (x_1.2.2.1.2.2 + (1 : Int))) (0 : Int) (IntKind.wrap
  IntKind.i64 (x_1.2.2.1.1 + (List.getD x.2.2.2.1 (Int.toNat x_1.1) (Ty.zero ActT)).2.2.1)) x_2)).2.2.2.2.1.2.1) ∧ Wr ((outB (toldD x_1.2.1 (IntKind.wrap .i64
  (x_1.2.2.1.2.2 + (1 : Int))) (0 : Int) (IntKind.wrap .i64 (x_1.2.2.1.1 + (List.getD x.2.2.2.1 (Int.toNat x_1.1) (Ty.zero ActT)).2.2.1)) x_2)).2.2.2.2.1.2.2.1 =
  (outB (toldD x_1.2.1 (IntKind.wrap .i64 (x_1.2.2.1.2.2 + (1 : Int))) (0 : Int) (IntKind.wrap .i64 (x_1.2.2.1.1 + (List.getD x.2.2.2.1 (Int.toNat x_1.1) (Ty.zero
  ActT)).2.2.1)) x_2)).2.2.2.2.1.2.2.1) ∧ Wr ((outB (toldD x_1.2.1 (IntKind.wrap .i64 (x_1.2.2.1.2.2 + (1 : Int))) (0 : Int) (IntKind.wrap .i64 (x_1.2.2.1.1 +
  (List.getD x.2.2.2.1 (Int.toNat x_1.1) (Ty.zero ActT)).2.2.1)) x_2)).2.2.2.2.2.1 = (outB (toldD x_1.2.1 (IntKind.wrap .i64 (x_1.2.2.1.2.2 + (1 : Int))) (0 : Int)
  (IntKind.wrap .i64 (x_1.2.2.1.1 + (List.getD x.2.2.2.1 (Int.toNat x_1.1) (Ty.zero ActT)).2.2.1)) x_2)).2.2.2.2.2.1) ∧ Wr ((outB (toldD x_1.2.1 (IntKind.wrap .i64
  (x_1.2.2.1.2.2 + (1 : Int))) (0 : Int) (IntKind.wrap .i64 (x_1.2.2.1.1 + (List.getD x.2.2.2.1 (Int.toNat x_1.1) (Ty.zero ActT)).2.2.1)) x_2)).2.2.2.2.2.2.1 = (outB
  (toldD x_1.2.1 (IntKind.wrap .i64 (x_1.2.2.1.2.2 + (1 : Int))) (0 : Int) (IntKind.wrap .i64 (x_1.2.2.1.1 + (List.getD x.2.2.2.1 (Int.toNat x_1.1) (Ty.zero
  ActT)).2.2.1)) x_2)).2.2.2.2.2.2.1) ∧ Wr (IntKind.wrap .i64 (x_1.2.2.1.1 + (List.getD x.2.2.2.1 (Int.toNat x_1.1) (Ty.zero ActT)).2.2.1) = IntKind.wrap .i64
  (x_1.2.2.1.1 + (List.getD x.2.2.2.1 (Int.toNat x_1.1) (Ty.zero ActT)).2.2.1)) ∧ Wr (x_1.2.2.1.2.1 = x_1.2.2.1.2.1) ∧ Wr (IntKind.wrap .i64 (x_1.2.2.1.2.2 + (1
  : Int)) = IntKind.wrap .i64 (x_1.2.2.1.2.2 + (1 : Int))) ∧ Wr (x_1.2.2.2.2 = x_1.2.2.2.2) ∧ Wr ((outT (toldD x_1.2.1 (IntKind.wrap .i64 (x_1.2.2.1.2.2 + (1 : Int)))
  (0 : Int) (IntKind.wrap .i64 (x_1.2.2.1.1 + (List.getD x.2.2.2.1 (Int.toNat x_1.1) (Ty.zero ActT)).2.2.1)) x_2)).1 = (outT (toldD x_1.2.1 (IntKind.wrap .i64
  (x_1.2.2.1.2.2 + (1 : Int))) (0 : Int) (IntKind.wrap .i64 (x_1.2.2.1.1 + (List.getD x.2.2.2.1 (Int.toNat x_1.1) (Ty.zero ActT)).2.2.1)) x_2)).1) ∧ Wr ((outT (toldD x_1.2.1
  (IntKind.wrap .i64 (x_1.2.2.1.2.2 + (1 : Int))) (0 : Int) (IntKind.wrap .i64 (x_1.2.2.1.1 + (List.getD x.2.2.2.1 (Int.toNat x_1.1) (Ty.zero ActT)).2.2.1)) x_2)).2.1 =
  (outT (toldD x_1.2.1 (IntKind.wrap .i64 (x_1.2.2.1.2.2 + (1 : Int))) (0 : Int) (IntKind.wrap .i64 (x_1.2.2.1.1 + (List.getD x.2.2.2.1 (Int.toNat x_1.1) (Ty.zero
  ActT)).2.2.1)) x_2)).2.1) ∧ Wr ((outT (toldD x_1.2.1 (IntKind.wrap .i64 (x_1.2.2.1.2.2 + (1 : Int))) (0 : Int) (IntKind.wrap .i64 (x_1.2.2.1.1 + (List.getD x.2.2.2.1
  (Int.toNat x_1.1) (Ty.zero ActT)).2.2.1)) x_2)).2.2.1 = (outT (toldD x_1.2.1 (IntKind.wrap .i64 (x_1.2.2.1.2.2 + (1 : Int))) (0 : Int) (IntKind.wrap .i64 (x_1.2.2.1.1 +
  (List.getD x.2.2.2.1 (Int.toNat x_1.1) (Ty.zero ActT)).2.2.1)) x_2)).2.2.1) ∧ Wr ((outT (toldD x_1.2.1 (IntKind.wrap .i64 (x_1.2.2.1.2.2 + (1 : Int))) (0 : Int) (IntKind.wrap
  IntKind.i64 (x_1.2.2.1.1 + (List.getD x.2.2.2.1 (Int.toNat x_1.1) (Ty.zero ActT)).2.2.1)) x_2)).2.2.2.1 = (outT (toldD x_1.2.1 (IntKind.wrap .i64 (x_1.2.2.1.2.2 + (1
  : Int))) (0 : Int) (IntKind.wrap .i64 (x_1.2.2.1.1 + (List.getD x.2.2.2.1 (Int.toNat x_1.1) (Ty.zero ActT)).2.2.1)) x_2)).2.2.2.1) ∧ Wr (x_2 = x_2) ∧ Wr
  (x_1.2.2.2.1.2.1 = x_1.2.2.2.1.2.1) ∧ Wr (x_1.2.2.2.1.2.2.1 = x_1.2.2.2.1.2.2.1) ∧ Wr (x_1.2.2.2.1.2.2.2.1 = x_1.2.2.2.1.2.2.2.1) ∧ Wr
  (x_1.2.2.2.1.2.2.2.2 = x_1.2.2.2.1.2.2.2.2) ∧ Wr (nilL Int ++ x_1.2.1.2.2.2.1 = nilL Int ++ x_1.2.1.2.2.2.1)) (bcase (Decidable.decide ((List.getD
  x.2.2.2.1 (Int.toNat x_1.1) (Ty.zero ActT)).1 = (4 : Int)) && Decidable.decide (x_1.2.1.2.2.2.2.1.1 ≥ (0 : Int))) (bcase x_1.2.1.2.2.2.2.1.2.1 (Wr ((szB x_1.2.1 &&
  Decidable.decide (List.length (nilL (Int × (Int × Int × Int × Int × Int × Int × Int × Int × Unit) × Int × Unit)) = (0 : Nat))) = Bool.true) ∧ Wr (DoI x_1.2.1 (IntKind.wrap .i64 (x_1.2.2.1.1 +
  (List.getD x.2.2.2.1 (Int.toNat x_1.1) (Ty.zero ActT)).2.2.1)) x_1.2.2.1.2.1 x_1.2.2.1.2.2 x_2 (List.getD x.2.2.2.1 (Int.toNat x_1.1) (Ty.zero ActT)) (outB (toldD
  x_1.2.1 (-1 : Int) (191 : Int) (IntKind.wrap .i64 (x_1.2.2.1.1 + (List.getD x.2.2.2.1 (Int.toNat x_1.1) (Ty.zero ActT)).2.2.1)) x_2), x_1.2.2.1.2.1, x_1.2.2.1.2.2,
  outT (toldD x_1.2.1 (-1 : Int) (191 : Int) (IntKind.wrap .i64 (x_1.2.2.1.1 + (List.getD x.2.2.2.1 (Int.toNat x_1.1) (Ty.zero ActT)).2.2.1)) x_2), Bool.true)) ∧ Wr (Bool.true =
  Bool.true) ∧ Wr (x.1 = x.1) ∧ Wr (x.2.1 = x.2.1) ∧ Wr (x.2.2.1 = x.2.2.1) ∧ Wr (x.2.2.2.1 = x.2.2.2.1) ∧ Wr (x_1.1 = x_1.1) ∧ Wr ((outB (toldD x_1.2.1 (-1 : Int) (191 :
  Int) (IntKind.wrap .i64 (x_1.2.2.1.1 + (List.getD x.2.2.2.1 (Int.toNat x_1.1) (Ty.zero ActT)).2.2.1)) x_2)).1.1 = (outB (toldD x_1.2.1 (-1 : Int) (191 : Int) (IntKind.wrap
  IntKind.i64 (x_1.2.2.1.1 + (List.getD x.2.2.2.1 (Int.toNat x_1.1) (Ty.zero ActT)).2.2.1)) x_2)).1.1) ∧ Wr ((outB (toldD x_1.2.1 (-1 : Int) (191 : Int) (IntKind.wrap .i64
  (x_1.2.2.1.1 + (List.getD x.2.2.2.1 (Int.toNat x_1.1) (Ty.zero ActT)).2.2.1)) x_2)).1.2.1 = (outB (toldD x_1.2.1 (-1 : Int) (191 : Int) (IntKind.wrap .i64 (x_1.2.2.1.1 +
  (List.getD x.2.2.2.1 (Int.toNat x_1.1) (Ty.zero ActT)).2.2.1)) x_2)).1.2.1) ∧ Wr ((outB (toldD x_1.2.1 (-1 : Int) (191 : Int) (IntKind.wrap .i64 (x_1.2.2.1.1 + (List.getD
  x.2.2.2.1 (Int.toNat x_1.1) (Ty.zero ActT)).2.2.1)) x_2)).1.2.2.1 = (outB (toldD x_1.2.1 (-1 : Int) (191 : Int) (IntKind.wrap .i64 (x_1.2.2.1.1 + (List.getD x.2.2.2.1
  (Int.toNat x_1.1) (Ty.zero ActT)).2.2.1)) x_2)).1.2.2.1) ∧ Wr ((outB (toldD x_1.2.1 (-1 : Int) (191 : Int) (IntKind.wrap .i64 (x_1.2.2.1.1 + (List.getD x.2.2.2.1 (Int.toNat
  x_1.1) (Ty.zero ActT)).2.2.1)) x_2)).1.2.2.2.1 = (outB (toldD x_1.2.1 (-1 : Int) (191 : Int) (IntKind.wrap .i64 (x_1.2.2.1.1 + (List.getD x.2.2.2.1 (Int.toNat x_1.1)
  (Ty.zero ActT)).2.2.1)) x_2)).1.2.2.2.1) ∧ Wr ((outB (toldD x_1.2.1 (-1 : Int) (191 : Int) (IntKind.wrap .i64 (x_1.2.2.1.1 + (List.getD x.2.2.2.1 (Int.toNat x_1.1) (Ty.zero
  ActT)).2.2.1)) x_2)).1.2.2.2.2.1 = (outB (toldD x_1.2.1 (-1 : Int) (191 : Int) (IntKind.wrap .i64 (x_1.2.2.1.1 + (List.getD x.2.2.2.1 (Int.toNat x_1.1) (Ty.zero
  ActT)).2.2.1)) x_2)).1.2.2.2.2.1) ∧ Wr ((outB (toldD x_1.2.1 (-1 : Int) (191 : Int) (IntKind.wrap .i64 (x_1.2.2.1.1 + (List.getD x.2.2.2.1 (Int.toNat x_1.1) (Ty.zero
  ActT)).2.2.1)) x_2)).1.2.2.2.2.2.1 = (outB (toldD x_1.2.1 (-1 : Int) (191 : Int) (IntKind.wrap .i64 (x_1.2.2.1.1 + (List.getD x.2.2.2.1 (Int.toNat x_1.1) (Ty.zero
  ActT)).2.2.1)) x_2)).1.2.2.2.2.2.1) ∧ Wr ((outB (toldD x_1.2.1 (-1 : Int) (191 : Int) (IntKind.wrap .i64 (x_1.2.2.1.1 + (List.getD x.2.2.2.1 (Int.toNat x_1.1) (Ty.zero
  ActT)).2.2.1)) x_2)).1.2.2.2.2.2.2.1 = (outB (toldD x_1.2.1 (-1 : Int) (191 : Int) (IntKind.wrap .i64 (x_1.2.2.1.1 + (List.getD x.2.2.2.1 (Int.toNat x_1.1) (Ty.zero
  ActT)).2.2.1)) x_2)).1.2.2.2.2.2.2.1) ∧ Wr ((outB (toldD x_1.2.1 (-1 : Int) (191 : Int) (IntKind.wrap .i64 (x_1.2.2.1.1 + (List.getD x.2.2.2.1 (Int.toNat x_1.1)
  (Ty.zero ActT)).2.2.1)) x_2)).1.2.2.2.2.2.2.2.1 = (outB (toldD x_1.2.1 (-1 : Int) (191 : Int) (IntKind.wrap .i64 (x_1.2.2.1.1 + (List.getD x.2.2.2.1 (Int.toNat x_1.1)
  (Ty.zero ActT)).2.2.1)) x_2)).1.2.2.2.2.2.2.2.1) ∧ Wr ((outB (toldD x_1.2.1 (-1 : Int) (191 : Int) (IntKind.wrap .i64 (x_1.2.2.1.1 + (List.getD x.2.2.2.1 (Int.toNat
  x_1.1) (Ty.zero ActT)).2.2.1)) x_2)).1.2.2.2.2.2.2.2.2.1 = (outB (toldD x_1.2.1 (-1 : Int) (191 : Int) (IntKind.wrap .i64 (x_1.2.2.1.1 + (List.getD x.2.2.2.1
  (Int.toNat x_1.1) (Ty.zero ActT)).2.2.1)) x_2)).1.2.2.2.2.2.2.2.2.1) ∧ Wr ((outB (toldD x_1.2.1 (-1 : Int) (191 : Int) (IntKind.wrap .i64 (x_1.2.2.1.1 + (List.getD
  x.2.2.2.1 (Int.toNat x_1.1) (Ty.zero ActT)).2.2.1)) x_2)).2.1 = (outB (toldD x_1.2.1 (-1 : Int) (191 : Int) (IntKind.wrap .i64 (x_1.2.2.1.1 + (List.getD x.2.2.2.1
  (Int.toNat x_1.1) (Ty.zero ActT)).2.2.1)) x_2)).2.1) ∧ Wr ((outB (toldD x_1.2.1 (-1 : Int) (191 : Int) (IntKind.wrap .i64 (x_1.2.2.1.1 + (List.getD x.2.2.2.1 (Int.toNat x_1.1)
  (Ty.zero ActT)).2.2.1)) x_2)).2.2.1 = (outB (toldD x_1.2.1 (-1 : Int) (191 : Int) (IntKind.wrap .i64 (x_1.2.2.1.1 + (List.getD x.2.2.2.1 (Int.toNat x_1.1) (Ty.zero
  ActT)).2.2.1)) x_2)).2.2.1) ∧ Wr ((outB (toldD x_1.2.1 (-1 : Int) (191 : Int) (IntKind.wrap .i64 (x_1.2.2.1.1 + (List.getD x.2.2.2.1 (Int.toNat x_1.1) (Ty.zero
  ActT)).2.2.1)) x_2)).2.2.2.1 = (outB (toldD x_1.2.1 (-1 : Int) (191 : Int) (IntKind.wrap .i64 (x_1.2.2.1.1 + (List.getD x.2.2.2.1 (Int.toNat x_1.1) (Ty.zero
  ActT)).2.2.1)) x_2)).2.2.2.1) ∧ Wr ((outB (toldD x_1.2.1 (-1 : Int) (191 : Int) (IntKind.wrap .i64 (x_1.2.2.1.1 + (List.getD x.2.2.2.1 (Int.toNat x_1.1) (Ty.zero
  ActT)).2.2.1)) x_2)).2.2.2.2.1.1 = (outB (toldD x_1.2.1 (-1 : Int) (191 : Int) (IntKind.wrap .i64 (x_1.2.2.1.1 + (List.getD x.2.2.2.1 (Int.toNat x_1.1) (Ty.zero
  ActT)).2.2.1)) x_2)).2.2.2.2.1.1) ∧ Wr ((outB (toldD x_1.2.1 (-1 : Int) (191 : Int) (IntKind.wrap .i64 (x_1.2.2.1.1 + (List.getD x.2.2.2.1 (Int.toNat x_1.1) (Ty.zero
  ActT)).2.2.1)) x_2)).2.2.2.2.1.2.1 = (outB (toldD x_1.2.1 (-1 : Int) (191 : Int) (IntKind.wrap .i64 (x_1.2.2.1.1 + (List.getD x.2.2.2.1 (Int.toNat x_1.1) (Ty.zero
  ActT)).2.2.1)) x_2)).2.2.2.2.1.2.1) ∧ Wr ((outB (toldD x_1.2.1 (-1 : Int) (191 : Int) (IntKind.wrap .i64 (x_1.2.2.1.1 + (List.getD x.2.2.2.1 (Int.toNat x_1.1) (Ty.zero
  ActT)).2.2.1)) x_2)).2.2.2.2.1.2.2.1 = (outB (toldD x_1.2.1 (-1 : Int) (191 : Int) (IntKind.wrap .i64 (x_1.2.2.1.1 + (List.getD x.2.2.2.1 (Int.toNat x_1.1) (Ty.zero
  ActT)).2.2.1)) x_2)).2.2.2.2.1.2.2.1) ∧ Wr ((outB (toldD x_1.2.1 (-1 : Int) (191 : Int) (IntKind.wrap .i64 (x_1.2.2.1.1 + (List.getD x.2.2.2.1 (Int.toNat x_1.1)
  (Ty.zero ActT)).2.2.1)) x_2)).2.2.2.2.2.1 = (outB (toldD x_1.2.1 (-1 : Int) (191 : Int) (IntKind.wrap .i64 (x_1.2.2.1.1 + (List.getD x.2.2.2.1 (Int.toNat x_1.1) (Ty.zero
  ActT)).2.2.1)) x_2)).2.2.2.2.2.1) ∧ Wr ((outB (toldD x_1.2.1 (-1 : Int) (191 : Int) (IntKind.wrap .i64 (x_1.2.2.1.1 + (List.getD x.2.2.2.1 (Int.toNat x_1.1) (Ty.zero
  ActT)).2.2.1)) x_2)).2.2.2.2.2.2.1 = (outB (toldD x_1.2.1 (-1 : Int) (191 : Int) (IntKind.wrap .i64 (x_1.2.2.1.1 + (List.getD x.2.2.2.1 (Int.toNat x_1.1) (Ty.zero
  ActT)).2.2.1)) x_2)).2.2.2.2.2.2.1) ∧ Wr (IntKind.wrap .i64 (x_1.2.2.1.1 + (List.getD x.2.2.2.1 (Int.toNat x_1.1) (Ty.zero ActT)).2.2.1) = IntKind.wrap .i64
  (x_1.2.2.1.1 + (List.getD x.2.2.2.1 (Int.toNat x_1.1) (Ty.zero ActT)).2.2.1)) ∧ Wr (x_1.2.2.1.2.1 = x_1.2.2.1.2.1) ∧ Wr (x_1.2.2.1.2.2 = x_1.2.2.1.2.2) ∧
  Wr (x_1.2.2.2.2 = x_1.2.2.2.2) ∧ Wr ((outT (toldD x_1.2.1 (-1 : Int) (191 : Int) (IntKind.wrap .i64 (x_1.2.2.1.1 + (List.getD x.2.2.2.1 (Int.toNat x_1.1) (Ty.zero
  ActT)).2.2.1)) x_2)).1 = (outT (toldD x_1.2.1 (-1 : Int) (191 : Int) (IntKind.wrap .i64 (x_1.2.2.1.1 + (List.getD x.2.2.2.1 (Int.toNat x_1.1) (Ty.zero ActT)).2.2.1)) x_2)).1)
  ∧ Wr ((outT (toldD x_1.2.1 (-1 : Int) (191 : Int) (IntKind.wrap .i64 (x_1.2.2.1.1 + (List.getD x.2.2.2.1 (Int.toNat x_1.1) (Ty.zero ActT)).2.2.1)) x_2)).2.1 = (outT (toldD
  x_1.2.1 (-1 : Int) (191 : Int) (IntKind.wrap .i64 (x_1.2.2.1.1 + (List.getD x.2.2.2.1 (Int.toNat x_1.1) (Ty.zero ActT)).2.2.1)) x_2)).2.1) ∧ Wr ((outT (toldD x_1.2.1 (-1 : Int)
  (191 : Int) (IntKind.wrap .i64 (x_1.2.2.1.1 + (List.getD x.2.2.2.1 (Int.toNat x_1.1) (Ty.zero ActT)).2.2.1)) x_2)).2.2.1 = (outT (toldD x_1.2.1 (-1 : Int) (191 : Int)
  (IntKind.wrap .i64 (x_1.2.2.1.1 + (List.getD x.2.2.2.1 (Int.toNat x_1.1) (Ty.zero ActT)).2.2.1)) x_2)).2.2.1) ∧ Wr ((outT (toldD x_1.2.1 (-1 : Int) (191 : Int) (IntKind.wrap
  IntKind.i64 (x_1.2.2.1.1 + (List.getD x.2.2.2.1 (Int.toNat x_1.1) (Ty.zero ActT)).2.2.1)) x_2)).2.2.2.1 = (outT (toldD x_1.2.1 (-1 : Int) (191 : Int) (IntKind.wrap .i64
  (x_1.2.2.1.1 + (List.getD x.2.2.2.1 (Int.toNat x_1.1) (Ty.zero ActT)).2.2.1)) x_2)).2.2.2.1) ∧ Wr (x_2 = x_2) ∧ Wr (x_1.2.2.2.1.2.1 = x_1.2.2.2.1.2.1) ∧ Wr
  (x_1.2.2.2.1.2.2.1 = x_1.2.2.2.1.2.2.1) ∧ Wr (x_1.2.2.2.1.2.2.2.1 = x_1.2.2.2.1.2.2.2.1) ∧ Wr (x_1.2.2.2.1.2.2.2.2 =
  x_1.2.2.2.1.2.2.2.2) ∧ Wr (nilL Int ++ x_1.2.1.2.2.2.1 = nilL Int ++ x_1.2.1.2.2.2.1)) (Wr ((szB x_1.2.1 && Decidable.decide (List.length (nilL (Int × (Int × Int × Int × Int ×
  Int × Int × Int × Int × Unit) × Int × Unit)) = (0 : Nat))) = Bool.true) ∧ Wr (DoI x_1.2.1 (IntKind.wrap .i64 (x_1.2.2.1.1 + (List.getD x.2.2.2.1 (Int.toNat x_1.1) (Ty.zero
  ActT)).2.2.1)) x_1.2.2.1.2.1 x_1.2.2.1.2.2 x_2 (List.getD x.2.2.2.1 (Int.toNat x_1.1) (Ty.zero ActT)) (outB (toldD x_1.2.1 (-1 : Int) (190 : Int) (IntKind.wrap .i64
  (x_1.2.2.1.1 + (List.getD x.2.2.2.1 (Int.toNat x_1.1) (Ty.zero ActT)).2.2.1)) x_2), x_1.2.2.1.2.1, x_1.2.2.1.2.2, outT (toldD x_1.2.1 (-1 : Int) (190 : Int) (IntKind.wrap
  IntKind.i64 (x_1.2.2.1.1 + (List.getD x.2.2.2.1 (Int.toNat x_1.1) (Ty.zero ActT)).2.2.1)) x_2), Bool.true)) ∧ Wr (Bool.true = Bool.true) ∧ Wr (x.1 = x.1) ∧ Wr (x.2.1 = x.2.1) ∧ Wr
  (x.2.2.1 = x.2.2.1) ∧ Wr (x.2.2.2.1 = x.2.2.2.1) ∧ Wr (x_1.1 = x_1.1) ∧ Wr ((outB (toldD x_1.2.1 (-1 : Int) (190 : Int) (IntKind.wrap .i64 (x_1.2.2.1.1 + (List.getD
  x.2.2.2.1 (Int.toNat x_1.1) (Ty.zero ActT)).2.2.1)) x_2)).1.1 = (outB (toldD x_1.2.1 (-1 : Int) (190 : Int) (IntKind.wrap .i64 (x_1.2.2.1.1 + (List.getD x.2.2.2.1
  (Int.toNat x_1.1) (Ty.zero ActT)).2.2.1)) x_2)).1.1) ∧ Wr ((outB (toldD x_1.2.1 (-1 : Int) (190 : Int) (IntKind.wrap .i64 (x_1.2.2.1.1 + (List.getD x.2.2.2.1 (Int.toNat x_1.1)
  (Ty.zero ActT)).2.2.1)) x_2)).1.2.1 = (outB (toldD x_1.2.1 (-1 : Int) (190 : Int) (IntKind.wrap .i64 (x_1.2.2.1.1 + (List.getD x.2.2.2.1 (Int.toNat x_1.1) (Ty.zero
  ActT)).2.2.1)) x_2)).1.2.1) ∧ Wr ((outB (toldD x_1.2.1 (-1 : Int) (190 : Int) (IntKind.wrap .i64 (x_1.2.2.1.1 + (List.getD x.2.2.2.1 (Int.toNat x_1.1) (Ty.zero
  ActT)).2.2.1)) x_2)).1.2.2.1 = (outB (toldD x_1.2.1 (-1 : Int) (190 : Int) (IntKind.wrap .i64 (x_1.2.2.1.1 + (List.getD x.2.2.2.1 (Int.toNat x_1.1) (Ty.zero
  ActT)).2.2.1)) x_2)).1.2.2.1) ∧ Wr ((outB (toldD x_1.2.1 (-1 : Int) (190 : Int) (IntKind.wrap .i64 (x_1.2.2.1.1 + (List.getD x.2.2.2.1 (Int.toNat x_1.1) (Ty.zero
  ActT)).2.2.1)) x_2)).1.2.2.2.1 = (outB (toldD x_1.2.1 (-1 : Int) (190 : Int) (IntKind.wrap .i64 (x_1.2.2.1.1 + (List.getD x.2.2.2.1 (Int.toNat x_1.1) (Ty.zero
  ActT)).2.2.1)) x_2)).1.2.2.2.1) ∧ Wr ((outB (toldD x_1.2.1 (-1 : Int) (190 : Int) (IntKind.wrap .i64 (x_1.2.2.1.1 + (List.getD x.2.2.2.1 (Int.toNat x_1.1) (Ty.zero
  ActT)).2.2.1)) x_2)).1.2.2.2.2.1 = (outB (toldD x_1.2.1 (-1 : Int) (190 : Int) (IntKind.wrap .i64 (x_1.2.2.1.1 + (List.getD x.2.2.2.1 (Int.toNat x_1.1) (Ty.zero
  ActT)).2.2.1)) x_2)).1.2.2.2.2.1) ∧ Wr ((outB (toldD x_1.2.1 (-1 : Int) (190 : Int) (IntKind.wrap .i64 (x_1.2.2.1.1 + (List.getD x.2.2.2.1 (Int.toNat x_1.1) (Ty.zero
  ActT)).2.2.1)) x_2)).1.2.2.2.2.2.1 = (outB (toldD x_1.2.1 (-1 : Int) (190 : Int) (IntKind.wrap .i64 (x_1.2.2.1.1 + (List.getD x.2.2.2.1 (Int.toNat x_1.1) (Ty.zero
  ActT)).2.2.1)) x_2)).1.2.2.2.2.2.1) ∧ Wr ((outB (toldD x_1.2.1 (-1 : Int) (190 : Int) (IntKind.wrap .i64 (x_1.2.2.1.1 + (List.getD x.2.2.2.1 (Int.toNat x_1.1) (Ty.zero
  ActT)).2.2.1)) x_2)).1.2.2.2.2.2.2.1 = (outB (toldD x_1.2.1 (-1 : Int) (190 : Int) (IntKind.wrap .i64 (x_1.2.2.1.1 + (List.getD x.2.2.2.1 (Int.toNat x_1.1) (Ty.zero
  ActT)).2.2.1)) x_2)).1.2.2.2.2.2.2.1) ∧ Wr ((outB (toldD x_1.2.1 (-1 : Int) (190 : Int) (IntKind.wrap .i64 (x_1.2.2.1.1 + (List.getD x.2.2.2.1 (Int.toNat x_1.1)
  (Ty.zero ActT)).2.2.1)) x_2)).1.2.2.2.2.2.2.2.1 = (outB (toldD x_1.2.1 (-1 : Int) (190 : Int) (IntKind.wrap .i64 (x_1.2.2.1.1 + (List.getD x.2.2.2.1 (Int.toNat x_1.1)
  (Ty.zero ActT)).2.2.1)) x_2)).1.2.2.2.2.2.2.2.1) ∧ Wr ((outB (toldD x_1.2.1 (-1 : Int) (190 : Int) (IntKind.wrap .i64 (x_1.2.2.1.1 + (List.getD x.2.2.2.1 (Int.toNat
  x_1.1) (Ty.zero ActT)).2.2.1)) x_2)).1.2.2.2.2.2.2.2.2.1 = (outB (toldD x_1.2.1 (-1 : Int) (190 : Int) (IntKind.wrap .i64 (x_1.2.2.1.1 + (List.getD x.2.2.2.1
  (Int.toNat x_1.1) (Ty.zero ActT)).2.2.1)) x_2)).1.2.2.2.2.2.2.2.2.1) ∧ Wr ((outB (toldD x_1.2.1 (-1 : Int) (190 : Int) (IntKind.wrap .i64 (x_1.2.2.1.1 + (List.getD
  x.2.2.2.1 (Int.toNat x_1.1) (Ty.zero ActT)).2.2.1)) x_2)).2.1 = (outB (toldD x_1.2.1 (-1 : Int) (190 : Int) (IntKind.wrap .i64 (x_1.2.2.1.1 + (List.getD x.2.2.2.1
  (Int.toNat x_1.1) (Ty.zero ActT)).2.2.1)) x_2)).2.1) ∧ Wr ((outB (toldD x_1.2.1 (-1 : Int) (190 : Int) (IntKind.wrap .i64 (x_1.2.2.1.1 + (List.getD x.2.2.2.1 (Int.toNat x_1.1)
  (Ty.zero ActT)).2.2.1)) x_2)).2.2.1 = (outB (toldD x_1.2.1 (-1 : Int) (190 : Int) (IntKind.wrap .i64 (x_1.2.2.1.1 + (List.getD x.2.2.2.1 (Int.toNat x_1.1) (Ty.zero
  ActT)).2.2.1)) x_2)).2.2.1) ∧ Wr ((outB (toldD x_1.2.1 (-1 : Int) (190 : Int) (IntKind.wrap .i64 (x_1.2.2.1.1 + (List.getD x.2.2.2.1 (Int.toNat x_1.1) (Ty.zero
  ActT)).2.2.1)) x_2)).2.2.2.1 = (outB (toldD x_1.2.1 (-1 : Int) (190 : Int) (IntKind.wrap .i64 (x_1.2.2.1.1 + (List.getD x.2.2.2.1 (Int.toNat x_1.1) (Ty.zero
  ActT)).2.2.1)) x_2)).2.2.2.1) ∧ Wr ((outB (toldD x_1.2.1 (-1 : Int) (190 : Int) (IntKind.wrap .i64 (x_1.2.2.1.1 + (List.getD x.2.2.2.1 (Int.toNat x_1.1) (Ty.zero
  ActT)).2.2.1)) x_2)).2.2.2.2.1.1 = (outB (toldD x_1.2.1 (-1 : Int) (190 : Int) (IntKind.wrap .i64 (x_1.2.2.1.1 + (List.getD x.2.2.2.1 (Int.toNat x_1.1) (Ty.zero
  ActT)).2.2.1)) x_2)).2.2.2.2.1.1) ∧ Wr ((outB (toldD x_1.2.1 (-1 : Int) (190 : Int) (IntKind.wrap .i64 (x_1.2.2.1.1 + (List.getD x.2.2.2.1 (Int.toNat x_1.1) (Ty.zero
  ActT)).2.2.1)) x_2)).2.2.2.2.1.2.1 = (outB (toldD x_1.2.1 (-1 : Int) (190 : Int) (IntKind.wrap .i64 (x_1.2.2.1.1 + (List.getD x.2.2.2.1 (Int.toNat x_1.1) (Ty.zero
  ActT)).2.2.1)) x_2)).2.2.2.2.1.2.1) ∧ Wr ((outB (toldD x_1.2.1 (-1 : Int) (190 : Int) (IntKind.wrap .i64 (x_1.2.2.1.1 + (List.getD x.2.2.2.1 (Int.toNat x_1.1) (Ty.zero
  ActT)).2.2.1)) x_2)).2.2.2.2.1.2.2.1 = (outB (toldD x_1.2.1 (-1 : Int) (190 : Int) (IntKind.wrap .i64 (x_1.2.2.1.1 + (List.getD x.2.2.2.1 (Int.toNat x_1.1) (Ty.zero
  ActT)).2.2.1)) x_2)).2.2.2.2.1.2.2.1) ∧ Wr ((outB (toldD x_1.2.1 (-1 : Int) (190 : Int) (IntKind.wrap .i64 (x_1.2.2.1.1 + (List.getD x.2.2.2.1 (Int.toNat x_1.1)
  (Ty.zero ActT)).2.2.1)) x_2)).2.2.2.2.2.1 = (outB (toldD x_1.2.1 (-1 : Int) (190 : Int) (IntKind.wrap .i64 (x_1.2.2.1.1 + (List.getD x.2.2.2.1 (Int.toNat x_1.1) (Ty.zero
  ActT)).2.2.1)) x_2)).2.2.2.2.2.1) ∧ Wr ((outB (toldD x_1.2.1 (-1 : Int) (190 : Int) (IntKind.wrap .i64 (x_1.2.2.1.1 + (List.getD x.2.2.2.1 (Int.toNat x_1.1) (Ty.zero
  ActT)).2.2.1)) x_2)).2.2.2.2.2.2.1 = (outB (toldD x_1.2.1 (-1 : Int) (190 : Int) (IntKind.wrap .i64 (x_1.2.2.1.1 + (List.getD x.2.2.2.1 (Int.toNat x_1.1) (Ty.zero
  ActT)).2.2.1)) x_2)).2.2.2.2.2.2.1) ∧ Wr (IntKind.wrap .i64 (x_1.2.2.1.1 + (List.getD x.2.2.2.1 (Int.toNat x_1.1) (Ty.zero ActT)).2.2.1) = IntKind.wrap .i64
  (x_1.2.2.1.1 + (List.getD x.2.2.2.1 (Int.toNat x_1.1) (Ty.zero ActT)).2.2.1)) ∧ Wr (x_1.2.2.1.2.1 = x_1.2.2.1.2.1) ∧ Wr (x_1.2.2.1.2.2 = x_1.2.2.1.2.2) ∧
  Wr (x_1.2.2.2.2 = x_1.2.2.2.2) ∧ Wr ((outT (toldD x_1.2.1 (-1 : Int) (190 : Int) (IntKind.wrap .i64 (x_1.2.2.1.1 + (List.getD x.2.2.2.1 (Int.toNat x_1.1) (Ty.zero
  ActT)).2.2.1)) x_2)).1 = (outT (toldD x_1.2.1 (-1 : Int) (190 : Int) (IntKind.wrap .i64 (x_1.2.2.1.1 + (List.getD x.2.2.2.1 (Int.toNat x_1.1) (Ty.zero ActT)).2.2.1)) x_2)).1)
  ∧ Wr ((outT (toldD x_1.2.1 (-1 : Int) (190 : Int) (IntKind.wrap .i64 (x_1.2.2.1.1 + (List.getD x.2.2.2.1 (Int.toNat x_1.1) (Ty.zero ActT)).2.2.1)) x_2)).2.1 = (outT (toldD
  x_1.2.1 (-1 : Int) (190 : Int) (IntKind.wrap .i64 (x_1.2.2.1.1 + (List.getD x.2.2.2.1 (Int.toNat x_1.1) (Ty.zero ActT)).2.2.1)) x_2)).2.1) ∧ Wr ((outT (toldD x_1.2.1 (-1 : Int)
  (190 : Int) (IntKind.wrap .i64 (x_1.2.2.1.1 + (List.getD x.2.2.2.1 (Int.toNat x_1.1) (Ty.zero ActT)).2.2.1)) x_2)).2.2.1 = (outT (toldD x_1.2.1 (-1 : Int) (190 : Int)
  (IntKind.wrap .i64 (x_1.2.2.1.1 + (List.getD x.2.2.2.1 (Int.toNat x_1.1) (Ty.zero ActT)).2.2.1)) x_2)).2.2.1) ∧ Wr ((outT (toldD x_1.2.1 (-1 : Int) (190 : Int) (IntKind.wrap
  IntKind.i64 (x_1.2.2.1.1 + (List.getD x.2.2.2.1 (Int.toNat x_1.1) (Ty.zero ActT)).2.2.1)) x_2)).2.2.2.1 = (outT (toldD x_1.2.1 (-1 : Int) (190 : Int) (IntKind.wrap .i64
  (x_1.2.2.1.1 + (List.getD x.2.2.2.1 (Int.toNat x_1.1) (Ty.zero ActT)).2.2.1)) x_2)).2.2.2.1) ∧ Wr (x_2 = x_2) ∧ Wr (x_1.2.2.2.1.2.1 = x_1.2.2.2.1.2.1) ∧ Wr
  (x_1.2.2.2.1.2.2.1 = x_1.2.2.2.1.2.2.1) ∧ Wr (x_1.2.2.2.1.2.2.2.1 = x_1.2.2.2.1.2.2.2.1) ∧ Wr (x_1.2.2.2.1.2.2.2.2 =
  x_1.2.2.2.1.2.2.2.2) ∧ Wr (nilL Int ++ x_1.2.1.2.2.2.1 = nilL Int ++ x_1.2.1.2.2.2.1))) (bcase (Decidable.decide ((List.getD x.2.2.2.1 (Int.toNat x_1.1) (Ty.zero
  ActT)).1 = (5 : Int))) (Wr (szB x_1.2.1 = Bool.true) ∧ Wr (DoI x_1.2.1 (IntKind.wrap .i64 (x_1.2.2.1.1 + (List.getD x.2.2.2.1 (Int.toNat x_1.1) (Ty.zero ActT)).2.2.1))
  x_1.2.2.1.2.1 x_1.2.2.1.2.2 x_2 (List.getD x.2.2.2.1 (Int.toNat x_1.1) (Ty.zero ActT)) (outB (oldD x_1.2.1 (IntKind.wrap .i64 (x_1.2.2.1.1 + (List.getD x.2.2.2.1
  (Int.toNat x_1.1) (Ty.zero ActT)).2.2.1)) x_2), x_1.2.2.1.2.1, x_1.2.2.1.2.2, outT (oldD x_1.2.1 (IntKind.wrap .i64 (x_1.2.2.1.1 + (List.getD x.2.2.2.1 (Int.toNat
  x_1.1) (Ty.zero ActT)).2.2.1)) x_2), Bool.true)) ∧ Wr (Bool.true = Bool.true) ∧ Wr (x.1 = x.1) ∧ Wr (x.2.1 = x.2.1) ∧ Wr (x.2.2.1 = x.2.2.1) ∧ Wr (x.2.2.2.1 = x.2.2.2.1) ∧
  Wr (x_1.1 = x_1.1) ∧ Wr ((outB (oldD x_1.2.1 (IntKind.wrap .i64 (x_1.2.2.1.1 + (List.getD x.2.2.2.1 (Int.toNat x_1.1) (Ty.zero ActT)).2.2.1)) x_2)).1.1 = (outB (oldD
  x_1.2.1 (IntKind.wrap .i64 (x_1.2.2.1.1 + (List.getD x.2.2.2.1 (Int.toNat x_1.1) (Ty.zero ActT)).2.2.1)) x_2)).1.1) ∧ Wr ((outB (oldD x_1.2.1 (IntKind.wrap .i64
  (x_1.2.2.1.1 + (List.getD x.2.2.2.1 (Int.toNat x_1.1) (Ty.zero ActT)).2.2.1)) x_2)).1.2.1 = (outB (oldD x_1.2.1 (IntKind.wrap .i64 (x_1.2.2.1.1 + (List.getD
  x.2.2.2.1 (Int.toNat x_1.1) (Ty.zero ActT)).2.2.1)) x_2)).1.2.1) ∧ Wr ((outB (oldD x_1.2.1 (IntKind.wrap .i64 (x_1.2.2.1.1 + (List.getD x.2.2.2.1 (Int.toNat x_1.1)
  (Ty.zero ActT)).2.2.1)) x_2)).1.2.2.1 = (outB (oldD x_1.2.1 (IntKind.wrap .i64 (x_1.2.2.1.1 + (List.getD x.2.2.2.1 (Int.toNat x_1.1) (Ty.zero ActT)).2.2.1))
  x_2)).1.2.2.1) ∧ Wr ((outB (oldD x_1.2.1 (IntKind.wrap .i64 (x_1.2.2.1.1 + (List.getD x.2.2.2.1 (Int.toNat x_1.1) (Ty.zero ActT)).2.2.1)) x_2)).1.2.2.2.1 = (outB
  (oldD x_1.2.1 (IntKind.wrap .i64 (x_1.2.2.1.1 + (List.getD x.2.2.2.1 (Int.toNat x_1.1) (Ty.zero ActT)).2.2.1)) x_2)).1.2.2.2.1) ∧ Wr ((outB (oldD x_1.2.1 (IntKind.wrap
  IntKind.i64 (x_1.2.2.1.1 + (List.getD x.2.2.2.1 (Int.toNat x_1.1) (Ty.zero ActT)).2.2.1)) x_2)).1.2.2.2.2.1 = (outB (oldD x_1.2.1 (IntKind.wrap .i64 (x_1.2.2.1.1 +
  (List.getD x.2.2.2.1 (Int.toNat x_1.1) (Ty.zero ActT)).2.2.1)) x_2)).1.2.2.2.2.1) ∧ Wr ((outB (oldD x_1.2.1 (IntKind.wrap .i64 (x_1.2.2.1.1 + (List.getD x.2.2.2.1
  (Int.toNat x_1.1) (Ty.zero ActT)).2.2.1)) x_2)).1.2.2.2.2.2.1 = (outB (oldD x_1.2.1 (IntKind.wrap .i64 (x_1.2.2.1.1 + (List.getD x.2.2.2.1 (Int.toNat x_1.1) (Ty.zero
  ActT)).2.2.1)) x_2)).1.2.2.2.2.2.1) ∧ Wr ((outB (oldD x_1.2.1 (IntKind.wrap .i64 (x_1.2.2.1.1 + (List.getD x.2.2.2.1 (Int.toNat x_1.1) (Ty.zero ActT)).2.2.1))
  x_2)).1.2.2.2.2.2.2.1 = (outB (oldD x_1.2.1 (IntKind.wrap .i64 (x_1.2.2.1.1 + (List.getD x.2.2.2.1 (Int.toNat x_1.1) (Ty.zero ActT)).2.2.1))
  x_2)).1.2.2.2.2.2.2.1) ∧ Wr ((outB (oldD x_1.2.1 (IntKind.wrap .i64 (x_1.2.2.1.1 + (List.getD x.2.2.2.1 (Int.toNat x_1.1) (Ty.zero ActT)).2.2.1))
  x_2)).1.2.2.2.2.2.2.2.1 = (outB (oldD x_1.2.1 (IntKind.wrap .i64 (x_1.2.2.1.1 + (List.getD x.2.2.2.1 (Int.toNat x_1.1) (Ty.zero ActT)).2.2.1))
  x_2)).1.2.2.2.2.2.2.2.1) ∧ Wr ((outB (oldD x_1.2.1 (IntKind.wrap .i64 (x_1.2.2.1.1 + (List.getD x.2.2.2.1 (Int.toNat x_1.1) (Ty.zero ActT)).2.2.1))
  x_2)).1.2.2.2.2.2.2.2.2.1 = (outB (oldD x_1.2.1 (IntKind.wrap .i64 (x_1.2.2.1.1 + (List.getD x.2.2.2.1 (Int.toNat x_1.1) (Ty.zero ActT)).2.2.1))
  x_2)).1.2.2.2.2.2.2.2.2.1) ∧ Wr ((outB (oldD x_1.2.1 (IntKind.wrap .i64 (x_1.2.2.1.1 + (List.getD x.2.2.2.1 (Int.toNat x_1.1) (Ty.zero ActT)).2.2.1)) x_2)).2.1
  = (outB (oldD x_1.2.1 (IntKind.wrap .i64 (x_1.2.2.1.1 + (List.getD x.2.2.2.1 (Int.toNat x_1.1) (Ty.zero ActT)).2.2.1)) x_2)).2.1) ∧ Wr ((outB (oldD x_1.2.1 (IntKind.wrap
  IntKind.i64 (x_1.2.2.1.1 + (List.getD x.2.2.2.1 (Int.toNat x_1.1) (Ty.zero ActT)).2.2.1)) x_2)).2.2.1 = (outB (oldD x_1.2.1 (IntKind.wrap .i64 (x_1.2.2.1.1 + (List.getD
  x.2.2.2.1 (Int.toNat x_1.1) (Ty.zero ActT)).2.2.1)) x_2)).2.2.1) ∧ Wr ((outB (oldD x_1.2.1 (IntKind.wrap .i64 (x_1.2.2.1.1 + (List.getD x.2.2.2.1 (Int.toNat x_1.1)
  (Ty.zero ActT)).2.2.1)) x_2)).2.2.2.1 = (outB (oldD x_1.2.1 (IntKind.wrap .i64 (x_1.2.2.1.1 + (List.getD x.2.2.2.1 (Int.toNat x_1.1) (Ty.zero ActT)).2.2.1))
  x_2)).2.2.2.1) ∧ Wr ((outB (oldD x_1.2.1 (IntKind.wrap .i64 (x_1.2.2.1.1 + (List.getD x.2.2.2.1 (Int.toNat x_1.1) (Ty.zero ActT)).2.2.1)) x_2)).2.2.2.2.1.1 = (outB
  (oldD x_1.2.1 (IntKind.wrap .i64 (x_1.2.2.1.1 + (List.getD x.2.2.2.1 (Int.toNat x_1.1) (Ty.zero ActT)).2.2.1)) x_2)).2.2.2.2.1.1) ∧ Wr ((outB (oldD x_1.2.1
  (IntKind.wrap .i64 (x_1.2.2.1.1 + (List.getD x.2.2.2.1 (Int.toNat x_1.1) (Ty.zero ActT)).2.2.1)) x_2)).2.2.2.2.1.2.1 = (outB (oldD x_1.2.1 (IntKind.wrap .i64
  (x_1.2.2.1.1 + (List.getD x.2.2.2.1 (Int.toNat x_1.1) (Ty.zero ActT)).2.2.1)) x_2)).2.2.2.2.1.2.1) ∧ Wr ((outB (oldD x_1.2.1 (IntKind.wrap .i64 (x_1.2.2.1.1 +
  (List.getD x.2.2.2.1 (Int.toNat x_1.1) (Ty.zero ActT)).2.2.1)) x_2)).2.2.2.2.1.2.2.1 = (outB (oldD x_1.2.1 (IntKind.wrap .i64 (x_1.2.2.1.1 + (List.getD
  x.2.2.2.1 (Int.toNat x_1.1) (Ty.zero ActT)).2.2.1)) x_2)).2.2.2.2.1.2.2.1) ∧ Wr ((outB (oldD x_1.2.1 (IntKind.wrap .i64 (x_1.2.2.1.1 + (List.getD x.2.2.2.1
  (Int.toNat x_1.1) (Ty.zero ActT)).2.2.1)) x_2)).2.2.2.2.2.1 = (outB (oldD x_1.2.1 (IntKind.wrap .i64 (x_1.2.2.1.1 + (List.getD x.2.2.2.1 (Int.toNat x_1.1) (Ty.zero
  ActT)).2.2.1)) x_2)).2.2.2.2.2.1) ∧ Wr ((outB (oldD x_1.2.1 (IntKind.wrap .i64 (x_1.2.2.1.1 + (List.getD x.2.2.2.1 (Int.toNat x_1.1) (Ty.zero ActT)).2.2.1))
  x_2)).2.2.2.2.2.2.1 = (outB (oldD x_1.2.1 (IntKind.wrap .i64 (x_1.2.2.1.1 + (List.getD x.2.2.2.1 (Int.toNat x_1.1) (Ty.zero ActT)).2.2.1))
  x_2)).2.2.2.2.2.2.1) ∧ Wr (IntKind.wrap .i64 (x_1.2.2.1.1 + (List.getD x.2.2.2.1 (Int.toNat x_1.1) (Ty.zero ActT)).2.2.1) = IntKind.wrap .i64 (x_1.2.2.1.1 +
  (List.getD x.2.2.2.1 (Int.toNat x_1.1) (Ty.zero ActT)).2.2.1)) ∧ Wr (x_1.2.2.1.2.1 = x_1.2.2.1.2.1) ∧ Wr (x_1.2.2.1.2.2 = x_1.2.2.1.2.2) ∧ Wr (x_1.2.2.2.2
  = x_1.2.2.2.2) ∧ Wr ((outT (oldD x_1.2.1 (IntKind.wrap .i64 (x_1.2.2.1.1 + (List.getD x.2.2.2.1 (Int.toNat x_1.1) (Ty.zero ActT)).2.2.1)) x_2)).1 = (outT (oldD x_1.2.1
  (IntKind.wrap .i64 (x_1.2.2.1.1 + (List.getD x.2.2.2.1 (Int.toNat x_1.1) (Ty.zero ActT)).2.2.1)) x_2)).1) ∧ Wr ((outT (oldD x_1.2.1 (IntKind.wrap .i64 (x_1.2.2.1.1 +
  (List.getD x.2.2.2.1 (Int.toNat x_1.1) (Ty.zero ActT)).2.2.1)) x_2)).2.1 = (outT (oldD x_1.2.1 (IntKind.wrap .i64 (x_1.2.2.1.1 + (List.getD x.2.2.2.1 (Int.toNat x_1.1)
  (Ty.zero ActT)).2.2.1)) x_2)).2.1) ∧ Wr ((outT (oldD x_1.2.1 (IntKind.wrap .i64 (x_1.2.2.1.1 + (List.getD x.2.2.2.1 (Int.toNat x_1.1) (Ty.zero ActT)).2.2.1))
  x_2)).2.2.1 = (outT (oldD x_1.2.1 (IntKind.wrap .i64 (x_1.2.2.1.1 + (List.getD x.2.2.2.1 (Int.toNat x_1.1) (Ty.zero ActT)).2.2.1)) x_2)).2.2.1) ∧ Wr ((outT (oldD
  x_1.2.1 (IntKind.wrap .i64 (x_1.2.2.1.1 + (List.getD x.2.2.2.1 (Int.toNat x_1.1) (Ty.zero ActT)).2.2.1)) x_2)).2.2.2.1 = (outT (oldD x_1.2.1 (IntKind.wrap .i64
  (x_1.2.2.1.1 + (List.getD x.2.2.2.1 (Int.toNat x_1.1) (Ty.zero ActT)).2.2.1)) x_2)).2.2.2.1) ∧ Wr (x_2 = x_2) ∧ Wr (x_1.2.2.2.1.2.1 = x_1.2.2.2.1.2.1) ∧ Wr
  (x_1.2.2.2.1.2.2.1 = x_1.2.2.2.1.2.2.1) ∧ Wr (x_1.2.2.2.1.2.2.2.1 = x_1.2.2.2.1.2.2.2.1) ∧ Wr (x_1.2.2.2.1.2.2.2.2 =
  x_1.2.2.2.1.2.2.2.2) ∧ Wr (nilL Int ++ x_1.2.1.2.2.2.1 = nilL Int ++ x_1.2.1.2.2.2.1)) (bcase (Decidable.decide ((List.getD x.2.2.2.1 (Int.toNat x_1.1) (Ty.zero
  ActT)).1 = (6 : Int)) && (List.getD x.2.2.2.1 (Int.toNat x_1.1) (Ty.zero ActT)).2.2.2.1) (Wr (szB x_1.2.1 = Bool.true) ∧ Wr (DoI x_1.2.1 (IntKind.wrap .i64 (x_1.2.2.1.1 +
  (List.getD x.2.2.2.1 (Int.toNat x_1.1) (Ty.zero ActT)).2.2.1)) x_1.2.2.1.2.1 x_1.2.2.1.2.2 x_2 (List.getD x.2.2.2.1 (Int.toNat x_1.1) (Ty.zero ActT)) (outB (closeD
  x_1.2.1 (IntKind.wrap .i64 (x_1.2.2.1.2.1 + (1 : Int)))), IntKind.wrap .i64 (x_1.2.2.1.2.1 + (1 : Int)), x_1.2.2.1.2.2, outT (closeD x_1.2.1 (IntKind.wrap .i64
  (x_1.2.2.1.2.1 + (1 : Int)))), Bool.true)) ∧ Wr (Bool.true = Bool.true) ∧ Wr (x.1 = x.1) ∧ Wr (x.2.1 = x.2.1) ∧ Wr (x.2.2.1 = x.2.2.1) ∧ Wr (x.2.2.2.1 = x.2.2.2.1) ∧ Wr
  (x_1.1 = x_1.1) ∧ Wr ((outB (closeD x_1.2.1 (IntKind.wrap .i64 (x_1.2.2.1.2.1 + (1 : Int))))).1.1 = (outB (closeD x_1.2.1 (IntKind.wrap .i64 (x_1.2.2.1.2.1 + (1 :
  Int))))).1.1) ∧ Wr ((outB (closeD x_1.2.1 (IntKind.wrap .i64 (x_1.2.2.1.2.1 + (1 : Int))))).1.2.1 = (outB (closeD x_1.2.1 (IntKind.wrap .i64 (x_1.2.2.1.2.1 + (1 :
  Int))))).1.2.1) ∧ Wr ((outB (closeD x_1.2.1 (IntKind.wrap .i64 (x_1.2.2.1.2.1 + (1 : Int))))).1.2.2.1 = (outB (closeD x_1.2.1 (IntKind.wrap .i64 (x_1.2.2.1.2.1 +
  (1 : Int))))).1.2.2.1) ∧ Wr ((outB (closeD x_1.2.1 (IntKind.wrap .i64 (x_1.2.2.1.2.1 + (1 : Int))))).1.2.2.2.1 = (outB (closeD x_1.2.1 (IntKind.wrap .i64
  (x_1.2.2.1.2.1 + (1 : Int))))).1.2.2.2.1) ∧ Wr ((outB (closeD x_1.2.1 (IntKind.wrap .i64 (x_1.2.2.1.2.1 + (1 : Int))))).1.2.2.2.2.1 = (outB (closeD x_1.2.1
  (IntKind.wrap .i64 (x_1.2.2.1.2.1 + (1 : Int))))).1.2.2.2.2.1) ∧ Wr ((outB (closeD x_1.2.1 (IntKind.wrap .i64 (x_1.2.2.1.2.1 + (1 : Int))))).1.2.2.2.2.2.1
  = (outB (closeD x_1.2.1 (IntKind.wrap .i64 (x_1.2.2.1.2.1 + (1 : Int))))).1.2.2.2.2.2.1) ∧ Wr ((outB (closeD x_1.2.1 (IntKind.wrap .i64 (x_1.2.2.1.2.1 + (1 :
  Int))))).1.2.2.2.2.2.2.1 = (outB (closeD x_1.2.1 (IntKind.wrap .i64 (x_1.2.2.1.2.1 + (1 : Int))))).1.2.2.2.2.2.2.1) ∧ Wr ((outB (closeD x_1.2.1 (IntKind.wrap
  IntKind.i64 (x_1.2.2.1.2.1 + (1 : Int))))).1.2.2.2.2.2.2.2.1 = (outB (closeD x_1.2.1 (IntKind.wrap .i64 (x_1.2.2.1.2.1 + (1 :
  Int))))).1.2.2.2.2.2.2.2.1) ∧ Wr ((outB (closeD x_1.2.1 (IntKind.wrap .i64 (x_1.2.2.1.2.1 + (1 : Int))))).1.2.2.2.2.2.2.2.2.1 = (outB (closeD x_1.2.1
  (IntKind.wrap .i64 (x_1.2.2.1.2.1 + (1 : Int))))).1.2.2.2.2.2.2.2.2.1) ∧ Wr ((outB (closeD x_1.2.1 (IntKind.wrap .i64 (x_1.2.2.1.2.1 + (1 : Int))))).2.1 =
  (outB (closeD x_1.2.1 (IntKind.wrap .i64 (x_1.2.2.1.2.1 + (1 : Int))))).2.1) ∧ Wr ((outB (closeD x_1.2.1 (IntKind.wrap .i64 (x_1.2.2.1.2.1 + (1 : Int))))).2.2.1 =
  (outB (closeD x_1.2.1 (IntKind.wrap .i64 (x_1.2.2.1.2.1 + (1 : Int))))).2.2.1) ∧ Wr ((outB (closeD x_1.2.1 (IntKind.wrap .i64 (x_1.2.2.1.2.1 + (1 :
  Int))))).2.2.2.1 = (outB (closeD x_1.2.1 (IntKind.wrap .i64 (x_1.2.2.1.2.1 + (1 : Int))))).2.2.2.1) ∧ Wr ((outB (closeD x_1.2.1 (IntKind.wrap .i64 (x_1.2.2.1.2.1
  + (1 : Int))))).2.2.2.2.1.1 = (outB (closeD x_1.2.1 (IntKind.wrap .i64 (x_1.2.2.1.2.1 + (1 : Int))))).2.2.2.2.1.1) ∧ Wr ((outB (closeD x_1.2.1 (IntKind.wrap .i64
  (x_1.2.2.1.2.1 + (1 : Int))))).2.2.2.2.1.2.1 = (outB (closeD x_1.2.1 (IntKind.wrap .i64 (x_1.2.2.1.2.1 + (1 : Int))))).2.2.2.2.1.2.1) ∧ Wr ((outB (closeD
  x_1.2.1 (IntKind.wrap .i64 (x_1.2.2.1.2.1 + (1 : Int))))).2.2.2.2.1.2.2.1 = (outB (closeD x_1.2.1 (IntKind.wrap .i64 (x_1.2.2.1.2.1 + (1 :
  Int))))).2.2.2.2.1.2.2.1) ∧ Wr ((outB (closeD x_1.2.1 (IntKind.wrap .i64 (x_1.2.2.1.2.1 + (1 : Int))))).2.2.2.2.2.1 = (outB (closeD x_1.2.1 (IntKind.wrap .i64
  (x_1.2.2.1.2.1 + (1 : Int))))).2.2.2.2.2.1) ∧ Wr ((outB (closeD x_1.2.1 (IntKind.wrap .i64 (x_1.2.2.1.2.1 + (1 : Int))))).2.2.2.2.2.2.1 = (outB (closeD
  x_1.2.1 (IntKind.wrap .i64 (x_1.2.2.1.2.1 + (1 : Int))))).2.2.2.2.2.2.1) ∧ Wr (IntKind.wrap .i64 (x_1.2.2.1.1 + (List.getD x.2.2.2.1 (Int.toNat x_1.1) (Ty.zero
  ActT)).2.2.1) = IntKind.wrap .i64 (x_1.2.2.1.1 + (List.getD x.2.2.2.1 (Int.toNat x_1.1) (Ty.zero ActT)).2.2.1)) ∧ Wr (IntKind.wrap .i64 (x_1.2.2.1.2.1 + (1 : Int)) =
  IntKind.wrap .i64 (x_1.2.2.1.2.1 + (1 : Int))) ∧ Wr (x_1.2.2.1.2.2 = x_1.2.2.1.2.2) ∧ Wr (x_1.2.2.2.2 = x_1.2.2.2.2) ∧ Wr ((outT (closeD x_1.2.1 (IntKind.wrap
  IntKind.i64 (x_1.2.2.1.2.1 + (1 : Int))))).1 = (outT (closeD x_1.2.1 (IntKind.wrap .i64 (x_1.2.2.1.2.1 + (1 : Int))))).1) ∧ Wr ((outT (closeD x_1.2.1 (IntKind.wrap .i64
  (x_1.2.2.1.2.1 + (1 : Int))))).2.1 = (outT (closeD x_1.2.1 (IntKind.wrap .i64 (x_1.2.2.1.2.1 + (1 : Int))))).2.1) ∧ Wr ((outT (closeD x_1.2.1 (IntKind.wrap .i64
  (x_1.2.2.1.2.1 + (1 : Int))))).2.2.1 = (outT (closeD x_1.2.1 (IntKind.wrap .i64 (x_1.2.2.1.2.1 + (1 : Int))))).2.2.1) ∧ Wr ((outT (closeD x_1.2.1 (IntKind.wrap .i64
  (x_1.2.2.1.2.1 + (1 : Int))))).2.2.2.1 = (outT (closeD x_1.2.1 (IntKind.wrap .i64 (x_1.2.2.1.2.1 + (1 : Int))))).2.2.2.1) ∧ Wr (x_2 = x_2) ∧ Wr (x_1.2.2.2.1.2.1
  = x_1.2.2.2.1.2.1) ∧ Wr (x_1.2.2.2.1.2.2.1 = x_1.2.2.2.1.2.2.1) ∧ Wr (x_1.2.2.2.1.2.2.2.1 = x_1.2.2.2.1.2.2.2.1) ∧ Wr
  (x_1.2.2.2.1.2.2.2.2 = x_1.2.2.2.1.2.2.2.2) ∧ Wr (nilL Int ++ x_1.2.1.2.2.2.1 = nilL Int ++ x_1.2.1.2.2.2.1)) (Wr (DoI x_1.2.1 (IntKind.wrap .i64
  (x_1.2.2.1.1 + (List.getD x.2.2.2.1 (Int.toNat x_1.1) (Ty.zero ActT)).2.2.1)) x_1.2.2.1.2.1 x_1.2.2.1.2.2 x_2 (List.getD x.2.2.2.1 (Int.toNat x_1.1) (Ty.zero ActT))
  (x_1.2.1, x_1.2.2.1.2.1, x_1.2.2.1.2.2, (nilL (Int × Int × Int × Unit), nilL Int, Bool.false, Bool.false, ()), Bool.false)) ∧ Wr (Bool.false = Bool.false) ∧ Wr (x.1 = x.1) ∧ Wr (x.2.1 =
  x.2.1) ∧ Wr (x.2.2.1 = x.2.2.1) ∧ Wr (x.2.2.2.1 = x.2.2.2.1) ∧ Wr (x_1.1 = x_1.1) ∧ Wr (x_1.2.1.1.1 = x_1.2.1.1.1) ∧ Wr (x_1.2.1.1.2.1 =
  x_1.2.1.1.2.1) ∧ Wr (x_1.2.1.1.2.2.1 = x_1.2.1.1.2.2.1) ∧ Wr (x_1.2.1.1.2.2.2.1 = x_1.2.1.1.2.2.2.1) ∧ Wr (x_1.2.1.1.2.2.2.2.1 =
  x_1.2.1.1.2.2.2.2.1) ∧ Wr (x_1.2.1.1.2.2.2.2.2.1 = x_1.2.1.1.2.2.2.2.2.1) ∧ Wr (x_1.2.1.1.2.2.2.2.2.2.1 =
  x_1.2.1.1.2.2.2.2.2.2.1) ∧ Wr (x_1.2.1.1.2.2.2.2.2.2.2.1 = x_1.2.1.1.2.2.2.2.2.2.2.1) ∧ Wr (x_1.2.1.1.2.2.2.2.2.2.2.2.1 =
  x_1.2.1.1.2.2.2.2.2.2.2.2.1) ∧ Wr (x_1.2.1.2.1 = x_1.2.1.2.1) ∧ Wr (x_1.2.1.2.2.1 = x_1.2.1.2.2.1) ∧ Wr (x_1.2.1.2.2.2.1 =
  x_1.2.1.2.2.2.1) ∧ Wr (x_1.2.1.2.2.2.2.1.1 = x_1.2.1.2.2.2.2.1.1) ∧ Wr (x_1.2.1.2.2.2.2.1.2.1 = x_1.2.1.2.2.2.2.1.2.1) ∧ Wr
  (x_1.2.1.2.2.2.2.1.2.2.1 = x_1.2.1.2.2.2.2.1.2.2.1) ∧ Wr (x_1.2.1.2.2.2.2.2.1 = x_1.2.1.2.2.2.2.2.1) ∧ Wr (x_1.2.1.2.2.2.2.2.2.1
  = x_1.2.1.2.2.2.2.2.2.1) ∧ Wr (IntKind.wrap .i64 (x_1.2.2.1.1 + (List.getD x.2.2.2.1 (Int.toNat x_1.1) (Ty.zero ActT)).2.2.1) = IntKind.wrap .i64
  (x_1.2.2.1.1 + (List.getD x.2.2.2.1 (Int.toNat x_1.1) (Ty.zero ActT)).2.2.1)) ∧ Wr (x_1.2.2.1.2.1 = x_1.2.2.1.2.1) ∧ Wr (x_1.2.2.1.2.2 = x_1.2.2.1.2.2) ∧
  Wr (x_1.2.2.2.2 = x_1.2.2.2.2) ∧ Wr (nilL (Int × Int × Int × Unit) = nilL (Int × Int × Int × Unit)) ∧ Wr (nilL Int = nilL Int) ∧ Wr (Bool.false = Bool.false) ∧ Wr (Bool.false = Bool.false) ∧ Wr (x_2 =
  x_2) ∧ Wr (x_1.2.2.2.1.2.1 = x_1.2.2.2.1.2.1) ∧ Wr (x_1.2.2.2.1.2.2.1 = x_1.2.2.2.1.2.2.1) ∧ Wr (x_1.2.2.2.1.2.2.2.1 =
  x_1.2.2.2.1.2.2.2.1) ∧ Wr (x_1.2.2.2.1.2.2.2.2 = x_1.2.2.2.1.2.2.2.2) ∧ Wr (nilL Int ++ x_1.2.1.2.2.2.1 = nilL Int ++ x_1.2.1.2.2.2.1)))))))) ∧ ∀
  (x_3 : ((Int × Int × Int × Int × Int × Int × Int × Int × Int × Unit) × List (Int × Int × Unit) × List Int × List Int × (Int × Bool × Int × Unit) × List ((Int × (Int × Int × Int × Int × Int × Int × Int × Int × Unit) ×
  Int × Unit) × Int × Unit) × Bool × Unit) × Int × Int × (List (Int × Int × Int × Unit) × List Int × Bool × Bool × Unit) × Bool), Wr (DoI x_1.2.1 (IntKind.wrap .i64 (x_1.2.2.1.1 + (List.getD
  x.2.2.2.1 (Int.toNat x_1.1) (Ty.zero ActT)).2.2.1)) x_1.2.2.1.2.1 x_1.2.2.1.2.2 x_2 (List.getD x.2.2.2.1 (Int.toNat x_1.1) (Ty.zero ActT)) x_3) → bcase
  (!x_3.2.2.2.2) (Wr (PyI x.1 x.2.1 x.2.2.1 x.2.2.2.1 (IntKind.wrap .i64 (x_1.1 + (1 : Int)), x_3.1, (IntKind.wrap .i64 (x_1.2.2.1.1 + (List.getD x.2.2.2.1
  (Int.toNat x_1.1) (Ty.zero ActT)).2.2.1), x_3.2.1, x_3.2.2.1), (x_2, x_1.2.2.2.1.2), x_1.2.2.2.2)) ∧ Wr (List.length x.2.2.2.1 - Int.toNat (IntKind.wrap .i64 (x_1.1 +
  (1 : Int))) < List.length x.2.2.2.1 - Int.toNat x_1.1) ∧ Wr (IntKind.wrap .i64 (x_1.1 + (1 : Int)) = IntKind.wrap .i64 (x_1.1 + (1 : Int))) ∧ Wr (x.1 = x.1) ∧ Wr (x.2.1 = x.2.1) ∧
  Wr (x.2.2.1 = x.2.2.1) ∧ Wr (x.2.2.2.1 = x.2.2.2.1) ∧ Wr (x_3.1.1.1 = x_3.1.1.1) ∧ Wr (x_3.1.1.2.1 = x_3.1.1.2.1) ∧ Wr (x_3.1.1.2.2.1 =
  x_3.1.1.2.2.1) ∧ Wr (x_3.1.1.2.2.2.1 = x_3.1.1.2.2.2.1) ∧ Wr (x_3.1.1.2.2.2.2.1 = x_3.1.1.2.2.2.2.1) ∧ Wr (x_3.1.1.2.2.2.2.2.1 =
  x_3.1.1.2.2.2.2.2.1) ∧ Wr (x_3.1.1.2.2.2.2.2.2.1 = x_3.1.1.2.2.2.2.2.2.1) ∧ Wr (x_3.1.1.2.2.2.2.2.2.2.1 =
  x_3.1.1.2.2.2.2.2.2.2.1) ∧ Wr (x_3.1.1.2.2.2.2.2.2.2.2.1 = x_3.1.1.2.2.2.2.2.2.2.2.1) ∧ Wr (x_3.1.2.1 = x_3.1.2.1) ∧ Wr (x_3.1.2.2.1 =
  x_3.1.2.2.1) ∧ Wr (x_3.1.2.2.2.1 = x_3.1.2.2.2.1) ∧ Wr (x_3.1.2.2.2.2.1.1 = x_3.1.2.2.2.2.1.1) ∧ Wr (x_3.1.2.2.2.2.1.2.1 =
  x_3.1.2.2.2.2.1.2.1) ∧ Wr (x_3.1.2.2.2.2.1.2.2.1 = x_3.1.2.2.2.2.1.2.2.1) ∧ Wr (x_3.1.2.2.2.2.2.1 = x_3.1.2.2.2.2.2.1) ∧ Wr
  (x_3.1.2.2.2.2.2.2.1 = x_3.1.2.2.2.2.2.2.1) ∧ Wr (IntKind.wrap .i64 (x_1.2.2.1.1 + (List.getD x.2.2.2.1 (Int.toNat x_1.1) (Ty.zero ActT)).2.2.1) =
  IntKind.wrap .i64 (x_1.2.2.1.1 + (List.getD x.2.2.2.1 (Int.toNat x_1.1) (Ty.zero ActT)).2.2.1)) ∧ Wr (x_3.2.1 = x_3.2.1) ∧ Wr (x_3.2.2.1 = x_3.2.2.1) ∧ Wr
  (x_1.2.2.2.2 = x_1.2.2.2.2) ∧ Wr (x_2 = x_2) ∧ Wr (x_1.2.2.2.1.2.1 = x_1.2.2.2.1.2.1) ∧ Wr (x_1.2.2.2.1.2.2.1 = x_1.2.2.2.1.2.2.1) ∧ Wr
  (x_1.2.2.2.1.2.2.2.1 = x_1.2.2.2.1.2.2.2.1) ∧ Wr (x_1.2.2.2.1.2.2.2.2 = x_1.2.2.2.1.2.2.2.2)) ((Wr (JoI x_3.1.2.2.2.1 (nilL Int ++
  x_1.2.1.2.2.2.1) x_1.2.2.2.1.2.2.2.1 ((0 : Int), x_1.2.2.2.1.2.2.2.1)) ∧ Wr ((0 : Int) = (0 : Int)) ∧ Wr (x.1 = x.1) ∧ Wr (x.2.1 = x.2.1) ∧ Wr (x.2.2.1 =
  x.2.2.1) ∧ Wr (x.2.2.2.1 = x.2.2.2.1) ∧ Wr (x_1.1 = x_1.1) ∧ Wr (x_3.2.2.2.2 = x_3.2.2.2.2) ∧ Wr (x_3.1.2.2.2.1 = x_3.1.2.2.2.1) ∧ Wr ((↑(List.length
  x_3.1.2.2.2.1) : Int) = (↑(List.length x_3.1.2.2.2.1) : Int)) ∧ Wr (x_3.1.1.1 = x_3.1.1.1) ∧ Wr (x_3.1.1.2.1 = x_3.1.1.2.1) ∧ Wr (x_3.1.1.2.2.1 =
  x_3.1.1.2.2.1) ∧ Wr (x_3.1.1.2.2.2.1 = x_3.1.1.2.2.2.1) ∧ Wr (x_3.1.1.2.2.2.2.1 = x_3.1.1.2.2.2.2.1) ∧ Wr (x_3.1.1.2.2.2.2.2.1 =
  x_3.1.1.2.2.2.2.2.1) ∧ Wr (x_3.1.1.2.2.2.2.2.2.1 = x_3.1.1.2.2.2.2.2.2.1) ∧ Wr (x_3.1.1.2.2.2.2.2.2.2.1 =
  x_3.1.1.2.2.2.2.2.2.2.1) ∧ Wr (x_3.1.1.2.2.2.2.2.2.2.2.1 = x_3.1.1.2.2.2.2.2.2.2.2.1) ∧ Wr (x_3.1.2.1 = x_3.1.2.1) ∧ Wr (x_3.1.2.2.1 =
  x_3.1.2.2.1) ∧ Wr (x_3.1.2.2.2.1 = x_3.1.2.2.2.1) ∧ Wr (x_3.1.2.2.2.2.1.1 = x_3.1.2.2.2.2.1.1) ∧ Wr (x_3.1.2.2.2.2.1.2.1 =
  x_3.1.2.2.2.2.1.2.1) ∧ Wr (x_3.1.2.2.2.2.1.2.2.1 = x_3.1.2.2.2.2.1.2.2.1) ∧ Wr (x_3.1.2.2.2.2.2.1 = x_3.1.2.2.2.2.2.1) ∧ Wr
  (x_3.1.2.2.2.2.2.2.1 = x_3.1.2.2.2.2.2.2.1) ∧ Wr (IntKind.wrap .i64 (x_1.2.2.1.1 + (List.getD x.2.2.2.1 (Int.toNat x_1.1) (Ty.zero ActT)).2.2.1) =
  IntKind.wrap .i64 (x_1.2.2.1.1 + (List.getD x.2.2.2.1 (Int.toNat x_1.1) (Ty.zero ActT)).2.2.1)) ∧ Wr (x_3.2.1 = x_3.2.1) ∧ Wr (x_3.2.2.1 = x_3.2.2.1) ∧ Wr
  (x_1.2.2.2.2 = x_1.2.2.2.2) ∧ Wr (x_1.2.2.2.1.2.2.2.1 = x_1.2.2.2.1.2.2.2.1) ∧ Wr (x_2 = x_2) ∧ Wr (x_1.2.2.2.1.2.1 = x_1.2.2.2.1.2.1) ∧ Wr
  (x_1.2.2.2.1.2.2.1 = x_1.2.2.2.1.2.2.1) ∧ Wr (x_1.2.2.2.1.2.2.2.2 = x_1.2.2.2.1.2.2.2.2) ∧ Wr (x_3.2.2.2.1.1 = x_3.2.2.2.1.1) ∧ Wr
  (x_3.2.2.2.1.2.1 = x_3.2.2.2.1.2.1) ∧ Wr (x_3.2.2.2.1.2.2.1 = x_3.2.2.2.1.2.2.1) ∧ Wr (x_3.2.2.2.1.2.2.2.1 = x_3.2.2.2.1.2.2.2.1) ∧ Wr
  (nilL Int ++ x_1.2.1.2.2.2.1 = nilL Int ++ x_1.2.1.2.2.2.1)) ∧ ∀ (x_4 : Int × List Int), Wr (JoI x_3.1.2.2.2.1 (nilL Int ++ x_1.2.1.2.2.2.1)
  x_1.2.2.2.1.2.2.2.1 x_4) → bcase (Decidable.decide (x_4.1 < (↑(List.length x_3.1.2.2.2.1) : Int))) (Wr ((0 : Int) ≤ x_4.1) ∧ Wr (x_4.1 < (↑(List.length x_3.1.2.2.2.1) : Int)) ∧
  Wr (Bool.true = Bool.true) ∧ Wr (Bool.true = Bool.true) ∧ bcase (!hasN (nilL Int ++ x_1.2.1.2.2.2.1) (List.getD x_3.1.2.2.2.1 (Int.toNat x_4.1) (0 : Int))) (Wr ((List.length x_4.2 + List.length
  (List.getD x_3.1.2.2.2.1 (Int.toNat x_4.1) (0 : Int) :: nilL Int)) * (8 : Nat) ≤ (140737488355328 : Nat)) ∧ Wr (JoI x_3.1.2.2.2.1 (nilL Int ++ x_1.2.1.2.2.2.1)
  x_1.2.2.2.1.2.2.2.1 (IntKind.wrap .i64 (x_4.1 + (1 : Int)), x_4.2 ++ List.getD x_3.1.2.2.2.1 (Int.toNat x_4.1) (0 : Int) :: nilL Int)) ∧ Wr (List.length x_3.1.2.2.2.1 -
  Int.toNat (IntKind.wrap .i64 (x_4.1 + (1 : Int))) < List.length x_3.1.2.2.2.1 - Int.toNat x_4.1) ∧ Wr (IntKind.wrap .i64 (x_4.1 + (1 : Int)) = IntKind.wrap .i64 (x_4.1 + (1 :
  Int))) ∧ Wr (x.1 = x.1) ∧ Wr (x.2.1 = x.2.1) ∧ Wr (x.2.2.1 = x.2.2.1) ∧ Wr (x.2.2.2.1 = x.2.2.2.1) ∧ Wr (x_1.1 = x_1.1) ∧ Wr (x_3.2.2.2.2 = x_3.2.2.2.2) ∧ Wr
  (x_3.1.2.2.2.1 = x_3.1.2.2.2.1) ∧ Wr ((↑(List.length x_3.1.2.2.2.1) : Int) = (↑(List.length x_3.1.2.2.2.1) : Int)) ∧ Wr (x_3.1.1.1 = x_3.1.1.1) ∧ Wr
  (x_3.1.1.2.1 = x_3.1.1.2.1) ∧ Wr (x_3.1.1.2.2.1 = x_3.1.1.2.2.1) ∧ Wr (x_3.1.1.2.2.2.1 = x_3.1.1.2.2.2.1) ∧ Wr (x_3.1.1.2.2.2.2.1 =
  x_3.1.1.2.2.2.2.1) ∧ Wr (x_3.1.1.2.2.2.2.2.1 = x_3.1.1.2.2.2.2.2.1) ∧ Wr (x_3.1.1.2.2.2.2.2.2.1 = x_3.1.1.2.2.2.2.2.2.1) ∧ Wr
  (x_3.1.1.2.2.2.2.2.2.2.1 = x_3.1.1.2.2.2.2.2.2.2.1) ∧ Wr (x_3.1.1.2.2.2.2.2.2.2.2.1 = x_3.1.1.2.2.2.2.2.2.2.2.1) ∧ Wr (x_3.1.2.1
  = x_3.1.2.1) ∧ Wr (x_3.1.2.2.1 = x_3.1.2.2.1) ∧ Wr (x_3.1.2.2.2.1 = x_3.1.2.2.2.1) ∧ Wr (x_3.1.2.2.2.2.1.1 = x_3.1.2.2.2.2.1.1) ∧ Wr
  (x_3.1.2.2.2.2.1.2.1 = x_3.1.2.2.2.2.1.2.1) ∧ Wr (x_3.1.2.2.2.2.1.2.2.1 = x_3.1.2.2.2.2.1.2.2.1) ∧ Wr (x_3.1.2.2.2.2.2.1 =
  x_3.1.2.2.2.2.2.1) ∧ Wr (x_3.1.2.2.2.2.2.2.1 = x_3.1.2.2.2.2.2.2.1) ∧ Wr (IntKind.wrap .i64 (x_1.2.2.1.1 + (List.getD x.2.2.2.1 (Int.toNat x_1.1)
  (Ty.zero ActT)).2.2.1) = IntKind.wrap .i64 (x_1.2.2.1.1 + (List.getD x.2.2.2.1 (Int.toNat x_1.1) (Ty.zero ActT)).2.2.1)) ∧ Wr (x_3.2.1 = x_3.2.1) ∧ Wr (x_3.2.2.1 =
  x_3.2.2.1) ∧ Wr (x_1.2.2.2.2 = x_1.2.2.2.2) ∧ Wr (x_4.2 ++ List.getD x_3.1.2.2.2.1 (Int.toNat x_4.1) (0 : Int) :: nilL Int = x_4.2 ++ List.getD x_3.1.2.2.2.1 (Int.toNat
  x_4.1) (0 : Int) :: nilL Int) ∧ Wr (x_2 = x_2) ∧ Wr (x_1.2.2.2.1.2.1 = x_1.2.2.2.1.2.1) ∧ Wr (x_1.2.2.2.1.2.2.1 = x_1.2.2.2.1.2.2.1) ∧ Wr
  (x_1.2.2.2.1.2.2.2.2 = x_1.2.2.2.1.2.2.2.2) ∧ Wr (x_3.2.2.2.1.1 = x_3.2.2.2.1.1) ∧ Wr (x_3.2.2.2.1.2.1 = x_3.2.2.2.1.2.1) ∧ Wr
  (x_3.2.2.2.1.2.2.1 = x_3.2.2.2.1.2.2.1) ∧ Wr (x_3.2.2.2.1.2.2.2.1 = x_3.2.2.2.1.2.2.2.1) ∧ Wr (nilL Int ++ x_1.2.1.2.2.2.1 = nilL Int ++
  x_1.2.1.2.2.2.1)) (Wr (JoI x_3.1.2.2.2.1 (nilL Int ++ x_1.2.1.2.2.2.1) x_1.2.2.2.1.2.2.2.1 (IntKind.wrap .i64 (x_4.1 + (1 : Int)), x_4.2)) ∧ Wr (List.length
  x_3.1.2.2.2.1 - Int.toNat (IntKind.wrap .i64 (x_4.1 + (1 : Int))) < List.length x_3.1.2.2.2.1 - Int.toNat x_4.1) ∧ Wr (IntKind.wrap .i64 (x_4.1 + (1 : Int)) = IntKind.wrap
  IntKind.i64 (x_4.1 + (1 : Int))) ∧ Wr (x.1 = x.1) ∧ Wr (x.2.1 = x.2.1) ∧ Wr (x.2.2.1 = x.2.2.1) ∧ Wr (x.2.2.2.1 = x.2.2.2.1) ∧ Wr (x_1.1 = x_1.1) ∧ Wr (x_3.2.2.2.2 =
  x_3.2.2.2.2) ∧ Wr (x_3.1.2.2.2.1 = x_3.1.2.2.2.1) ∧ Wr ((↑(List.length x_3.1.2.2.2.1) : Int) = (↑(List.length x_3.1.2.2.2.1) : Int)) ∧ Wr (x_3.1.1.1 =
  x_3.1.1.1) ∧ Wr (x_3.1.1.2.1 = x_3.1.1.2.1) ∧ Wr (x_3.1.1.2.2.1 = x_3.1.1.2.2.1) ∧ Wr (x_3.1.1.2.2.2.1 = x_3.1.1.2.2.2.1) ∧ Wr
  (x_3.1.1.2.2.2.2.1 = x_3.1.1.2.2.2.2.1) ∧ Wr (x_3.1.1.2.2.2.2.2.1 = x_3.1.1.2.2.2.2.2.1) ∧ Wr (x_3.1.1.2.2.2.2.2.2.1 =
  x_3.1.1.2.2.2.2.2.2.1) ∧ Wr (x_3.1.1.2.2.2.2.2.2.2.1 = x_3.1.1.2.2.2.2.2.2.2.1) ∧ Wr (x_3.1.1.2.2.2.2.2.2.2.2.1 =
  x_3.1.1.2.2.2.2.2.2.2.2.1) ∧ Wr (x_3.1.2.1 = x_3.1.2.1) ∧ Wr (x_3.1.2.2.1 = x_3.1.2.2.1) ∧ Wr (x_3.1.2.2.2.1 = x_3.1.2.2.2.1) ∧ Wr
  (x_3.1.2.2.2.2.1.1 = x_3.1.2.2.2.2.1.1) ∧ Wr (x_3.1.2.2.2.2.1.2.1 = x_3.1.2.2.2.2.1.2.1) ∧ Wr (x_3.1.2.2.2.2.1.2.2.1 =
  x_3.1.2.2.2.2.1.2.2.1) ∧ Wr (x_3.1.2.2.2.2.2.1 = x_3.1.2.2.2.2.2.1) ∧ Wr (x_3.1.2.2.2.2.2.2.1 = x_3.1.2.2.2.2.2.2.1) ∧ Wr (IntKind.wrap
  IntKind.i64 (x_1.2.2.1.1 + (List.getD x.2.2.2.1 (Int.toNat x_1.1) (Ty.zero ActT)).2.2.1) = IntKind.wrap .i64 (x_1.2.2.1.1 + (List.getD x.2.2.2.1 (Int.toNat x_1.1)
  (Ty.zero ActT)).2.2.1)) ∧ Wr (x_3.2.1 = x_3.2.1) ∧ Wr (x_3.2.2.1 = x_3.2.2.1) ∧ Wr (x_1.2.2.2.2 = x_1.2.2.2.2) ∧ Wr (x_4.2 = x_4.2) ∧ Wr (x_2 = x_2) ∧ Wr
  (x_1.2.2.2.1.2.1 = x_1.2.2.2.1.2.1) ∧ Wr (x_1.2.2.2.1.2.2.1 = x_1.2.2.2.1.2.2.1) ∧ Wr (x_1.2.2.2.1.2.2.2.2 = x_1.2.2.2.1.2.2.2.2) ∧ Wr
  (x_3.2.2.2.1.1 = x_3.2.2.2.1.1) ∧ Wr (x_3.2.2.2.1.2.1 = x_3.2.2.2.1.2.1) ∧ Wr (x_3.2.2.2.1.2.2.1 = x_3.2.2.2.1.2.2.1) ∧ Wr
  (x_3.2.2.2.1.2.2.2.1 = x_3.2.2.2.1.2.2.2.1) ∧ Wr (nilL Int ++ x_1.2.1.2.2.2.1 = nilL Int ++ x_1.2.1.2.2.2.1))) ((Wr (TuI x_3.2.2.2.1.1
  x_1.2.2.2.1.2.1 x_1.2.2.2.1.2.2.1 x_4.2 ((0 : Int), x_1.2.2.2.1.2.1, x_1.2.2.2.1.2.2.1)) ∧ Wr ((0 : Int) = (0 : Int)) ∧ Wr (x_3.2.2.2.1.1 =
  x_3.2.2.2.1.1) ∧ Wr ((↑(List.length x_3.2.2.2.1.1) : Int) = (↑(List.length x_3.2.2.2.1.1) : Int)) ∧ Wr (x_3.1.1.1 = x_3.1.1.1) ∧ Wr (x_3.1.1.2.1 = x_3.1.1.2.1) ∧
  Wr (x_3.1.1.2.2.1 = x_3.1.1.2.2.1) ∧ Wr (x_3.1.1.2.2.2.1 = x_3.1.1.2.2.2.1) ∧ Wr (x_3.1.1.2.2.2.2.1 = x_3.1.1.2.2.2.2.1) ∧ Wr
  (x_3.1.1.2.2.2.2.2.1 = x_3.1.1.2.2.2.2.2.1) ∧ Wr (x_3.1.1.2.2.2.2.2.2.1 = x_3.1.1.2.2.2.2.2.2.1) ∧ Wr (x_3.1.1.2.2.2.2.2.2.2.1 =
  x_3.1.1.2.2.2.2.2.2.2.1) ∧ Wr (x_3.1.1.2.2.2.2.2.2.2.2.1 = x_3.1.1.2.2.2.2.2.2.2.2.1) ∧ Wr (x_3.1.2.1 = x_3.1.2.1) ∧ Wr (x_3.1.2.2.1 =
  x_3.1.2.2.1) ∧ Wr (x_3.1.2.2.2.1 = x_3.1.2.2.2.1) ∧ Wr (x_3.1.2.2.2.2.1.1 = x_3.1.2.2.2.2.1.1) ∧ Wr (x_3.1.2.2.2.2.1.2.1 =
  x_3.1.2.2.2.2.1.2.1) ∧ Wr (x_3.1.2.2.2.2.1.2.2.1 = x_3.1.2.2.2.2.1.2.2.1) ∧ Wr (x_3.1.2.2.2.2.2.1 = x_3.1.2.2.2.2.2.1) ∧ Wr
  (x_3.1.2.2.2.2.2.2.1 = x_3.1.2.2.2.2.2.2.1) ∧ Wr (IntKind.wrap .i64 (x_1.2.2.1.1 + (List.getD x.2.2.2.1 (Int.toNat x_1.1) (Ty.zero ActT)).2.2.1) =
  IntKind.wrap .i64 (x_1.2.2.1.1 + (List.getD x.2.2.2.1 (Int.toNat x_1.1) (Ty.zero ActT)).2.2.1)) ∧ Wr (x_3.2.1 = x_3.2.1) ∧ Wr (x_3.2.2.1 = x_3.2.2.1) ∧ Wr
  (x_1.2.2.2.2 = x_1.2.2.2.2) ∧ Wr (x_1.2.2.2.1.2.1 = x_1.2.2.2.1.2.1) ∧ Wr (x_1.2.2.2.1.2.2.1 = x_1.2.2.2.1.2.2.1) ∧ Wr (x_2 = x_2) ∧ Wr (x_4.2 =
  x_4.2) ∧ Wr (x_1.2.2.2.1.2.2.2.2 = x_1.2.2.2.1.2.2.2.2) ∧ Wr (x_3.2.2.2.1.1 = x_3.2.2.2.1.1) ∧ Wr (x_3.2.2.2.1.2.1 = x_3.2.2.2.1.2.1) ∧ Wr
  (x_3.2.2.2.1.2.2.1 = x_3.2.2.2.1.2.2.1) ∧ Wr (x_3.2.2.2.1.2.2.2.1 = x_3.2.2.2.1.2.2.2.1) ∧ Wr (x_3.2.2.2.1.1 = x_3.2.2.2.1.1) ∧ Wr
  (x_3.2.2.2.1.2.1 = x_3.2.2.2.1.2.1) ∧ Wr (x_3.2.2.2.1.2.2.1 = x_3.2.2.2.1.2.2.1) ∧ Wr (x_3.2.2.2.1.2.2.2.1 = x_3.2.2.2.1.2.2.2.1)) ∧ ∀
  (x_5 : Int × List Int × List Int), Wr (TuI x_3.2.2.2.1.1 x_1.2.2.2.1.2.1 x_1.2.2.2.1.2.2.1 x_4.2 x_5) → bcase (Decidable.decide (x_5.1 < (↑(List.length x_3.2.2.2.1.1) :
  Int))) (Wr ((0 : Int) ≤ x_5.1) ∧ Wr (x_5.1 < (↑(List.length x_3.2.2.2.1.1) : Int)) ∧ Wr (Bool.true = Bool.true) ∧ Wr (Bool.true = Bool.true) ∧ bcase (hasN x_5.2.1 (List.getD x_3.2.2.2.1.1
  (Int.toNat x_5.1) (Ty.zero RepT)).1) (Wr ((!!Bool.false) = Bool.true → szB x_3.1 = Bool.true) ∧ (Bool.false, ()) = (Bool.true, ())) (Wr ((List.length x_5.2.1 + List.length ((List.getD x_3.2.2.2.1.1
  (Int.toNat x_5.1) (Ty.zero RepT)).1 :: nilL Int)) * (8 : Nat) ≤ (140737488355328 : Nat)) ∧ bcase (Decidable.decide ((List.getD x_3.2.2.2.1.1 (Int.toNat x_5.1) (Ty.zero RepT)).2.1 ≥ (0 : Int))) (Wr
  (Bool.true = Bool.true) ∧ bcase (hasN x_1.2.2.2.1.2.2.2.2 (List.getD x_3.2.2.2.1.1 (Int.toNat x_5.1) (Ty.zero RepT)).2.1 || !Decidable.decide ((List.getD x_3.2.2.2.1.1
  (Int.toNat x_5.1) (Ty.zero RepT)).2.2.1 = (0 : Int))) (Wr ((!!Bool.false) = Bool.true → szB x_3.1 = Bool.true) ∧ (Bool.false, ()) = (Bool.true, ())) (Wr (Bool.true = Bool.true) ∧ bcase (hasN x_4.2 (List.getD
  x_3.2.2.2.1.1 (Int.toNat x_5.1) (Ty.zero RepT)).1) (Wr ((List.length x_5.2.2 + List.length ((List.getD x_3.2.2.2.1.1 (Int.toNat x_5.1) (Ty.zero RepT)).1 :: nilL Int)) * (8 : Nat) ≤
  (140737488355328 : Nat)) ∧ Wr (TuI x_3.2.2.2.1.1 x_1.2.2.2.1.2.1 x_1.2.2.2.1.2.2.1 x_4.2 (IntKind.wrap .i64 (x_5.1 + (1 : Int)), x_5.2.1 ++ (List.getD
  x_3.2.2.2.1.1 (Int.toNat x_5.1) (Ty.zero RepT)).1 :: nilL Int, x_5.2.2 ++ (List.getD x_3.2.2.2.1.1 (Int.toNat x_5.1) (Ty.zero RepT)).1 :: nilL Int)) ∧ Wr (List.length
  x_3.2.2.2.1.1 - Int.toNat (IntKind.wrap .i64 (x_5.1 + (1 : Int))) < List.length x_3.2.2.2.1.1 - Int.toNat x_5.1) ∧ Wr (IntKind.wrap .i64 (x_5.1 + (1 : Int)) = IntKind.wrap
  IntKind.i64 (x_5.1 + (1 : Int))) ∧ Wr (x_3.2.2.2.1.1 = x_3.2.2.2.1.1) ∧ Wr ((↑(List.length x_3.2.2.2.1.1) : Int) = (↑(List.length x_3.2.2.2.1.1) : Int)) ∧ Wr (x_3.1.1.1 =
  x_3.1.1.1) ∧ Wr (x_3.1.1.2.1 = x_3.1.1.2.1) ∧ Wr (x_3.1.1.2.2.1 = x_3.1.1.2.2.1) ∧ Wr (x_3.1.1.2.2.2.1 = x_3.1.1.2.2.2.1) ∧ Wr
  (x_3.1.1.2.2.2.2.1 = x_3.1.1.2.2.2.2.1) ∧ Wr (x_3.1.1.2.2.2.2.2.1 = x_3.1.1.2.2.2.2.2.1) ∧ Wr (x_3.1.1.2.2.2.2.2.2.1 =
  x_3.1.1.2.2.2.2.2.2.1) ∧ Wr (x_3.1.1.2.2.2.2.2.2.2.1 = x_3.1.1.2.2.2.2.2.2.2.1) ∧ Wr (x_3.1.1.2.2.2.2.2.2.2.2.1 =
  x_3.1.1.2.2.2.2.2.2.2.2.1) ∧ Wr (x_3.1.2.1 = x_3.1.2.1) ∧ Wr (x_3.1.2.2.1 = x_3.1.2.2.1) ∧ Wr (x_3.1.2.2.2.1 = x_3.1.2.2.2.1) ∧ Wr
  (x_3.1.2.2.2.2.1.1 = x_3.1.2.2.2.2.1.1) ∧ Wr (x_3.1.2.2.2.2.1.2.1 = x_3.1.2.2.2.2.1.2.1) ∧ Wr (x_3.1.2.2.2.2.1.2.2.1 =
  x_3.1.2.2.2.2.1.2.2.1) ∧ Wr (x_3.1.2.2.2.2.2.1 = x_3.1.2.2.2.2.2.1) ∧ Wr (x_3.1.2.2.2.2.2.2.1 = x_3.1.2.2.2.2.2.2.1) ∧ Wr (IntKind.wrap
  IntKind.i64 (x_1.2.2.1.1 + (List.getD x.2.2.2.1 (Int.toNat x_1.1) (Ty.zero ActT)).2.2.1) = IntKind.wrap .i64 (x_1.2.2.1.1 + (List.getD x.2.2.2.1 (Int.toNat x_1.1)
  (Ty.zero ActT)).2.2.1)) ∧ Wr (x_3.2.1 = x_3.2.1) ∧ Wr (x_3.2.2.1 = x_3.2.2.1) ∧ Wr (x_1.2.2.2.2 = x_1.2.2.2.2) ∧ Wr (x_5.2.1 ++ (List.getD x_3.2.2.2.1.1 (Int.toNat
  x_5.1) (Ty.zero RepT)).1 :: nilL Int = x_5.2.1 ++ (List.getD x_3.2.2.2.1.1 (Int.toNat x_5.1) (Ty.zero RepT)).1 :: nilL Int) ∧ Wr (x_5.2.2 ++ (List.getD x_3.2.2.2.1.1 (Int.toNat
  x_5.1) (Ty.zero RepT)).1 :: nilL Int = x_5.2.2 ++ (List.getD x_3.2.2.2.1.1 (Int.toNat x_5.1) (Ty.zero RepT)).1 :: nilL Int) ∧ Wr (x_2 = x_2) ∧ Wr (x_4.2 = x_4.2) ∧ Wr
  (x_1.2.2.2.1.2.2.2.2 = x_1.2.2.2.1.2.2.2.2) ∧ Wr (x_3.2.2.2.1.1 = x_3.2.2.2.1.1) ∧ Wr (x_3.2.2.2.1.2.1 = x_3.2.2.2.1.2.1) ∧ Wr
  (x_3.2.2.2.1.2.2.1 = x_3.2.2.2.1.2.2.1) ∧ Wr (x_3.2.2.2.1.2.2.2.1 = x_3.2.2.2.1.2.2.2.1) ∧ Wr (x_3.2.2.2.1.1 = x_3.2.2.2.1.1) ∧ Wr
  (x_3.2.2.2.1.2.1 = x_3.2.2.2.1.2.1) ∧ Wr (x_3.2.2.2.1.2.2.1 = x_3.2.2.2.1.2.2.1) ∧ Wr (x_3.2.2.2.1.2.2.2.1 = x_3.2.2.2.1.2.2.2.1)) (Wr
  (TuI x_3.2.2.2.1.1 x_1.2.2.2.1.2.1 x_1.2.2.2.1.2.2.1 x_4.2 (IntKind.wrap .i64 (x_5.1 + (1 : Int)), x_5.2.1 ++ (List.getD x_3.2.2.2.1.1 (Int.toNat x_5.1)
  (Ty.zero RepT)).1 :: nilL Int, x_5.2.2)) ∧ Wr (List.length x_3.2.2.2.1.1 - Int.toNat (IntKind.wrap .i64 (x_5.1 + (1 : Int))) < List.length x_3.2.2.2.1.1 - Int.toNat x_5.1) ∧ Wr
  (IntKind.wrap .i64 (x_5.1 + (1 : Int)) = IntKind.wrap .i64 (x_5.1 + (1 : Int))) ∧ Wr (x_3.2.2.2.1.1 = x_3.2.2.2.1.1) ∧ Wr ((↑(List.length x_3.2.2.2.1.1) : Int) =
  (↑(List.length x_3.2.2.2.1.1) : Int)) ∧ Wr (x_3.1.1.1 = x_3.1.1.1) ∧ Wr (x_3.1.1.2.1 = x_3.1.1.2.1) ∧ Wr (x_3.1.1.2.2.1 = x_3.1.1.2.2.1) ∧ Wr
  (x_3.1.1.2.2.2.1 = x_3.1.1.2.2.2.1) ∧ Wr (x_3.1.1.2.2.2.2.1 = x_3.1.1.2.2.2.2.1) ∧ Wr (x_3.1.1.2.2.2.2.2.1 = x_3.1.1.2.2.2.2.2.1) ∧ Wr
  (x_3.1.1.2.2.2.2.2.2.1 = x_3.1.1.2.2.2.2.2.2.1) ∧ Wr (x_3.1.1.2.2.2.2.2.2.2.1 = x_3.1.1.2.2.2.2.2.2.2.1) ∧ Wr
  (x_3.1.1.2.2.2.2.2.2.2.2.1 = x_3.1.1.2.2.2.2.2.2.2.2.1) ∧ Wr (x_3.1.2.1 = x_3.1.2.1) ∧ Wr (x_3.1.2.2.1 = x_3.1.2.2.1) ∧ Wr (x_3.1.2.2.2.1
  = x_3.1.2.2.2.1) ∧ Wr (x_3.1.2.2.2.2.1.1 = x_3.1.2.2.2.2.1.1) ∧ Wr (x_3.1.2.2.2.2.1.2.1 = x_3.1.2.2.2.2.1.2.1) ∧ Wr
  (x_3.1.2.2.2.2.1.2.2.1 = x_3.1.2.2.2.2.1.2.2.1) ∧ Wr (x_3.1.2.2.2.2.2.1 = x_3.1.2.2.2.2.2.1) ∧ Wr (x_3.1.2.2.2.2.2.2.1 =
  x_3.1.2.2.2.2.2.2.1) ∧ Wr (IntKind.wrap .i64 (x_1.2.2.1.1 + (List.getD x.2.2.2.1 (Int.toNat x_1.1) (Ty.zero ActT)).2.2.1) = IntKind.wrap .i64 (x_1.2.2.1.1 +
  (List.getD x.2.2.2.1 (Int.toNat x_1.1) (Ty.zero ActT)).2.2.1)) ∧ Wr (x_3.2.1 = x_3.2.1) ∧ Wr (x_3.2.2.1 = x_3.2.2.1) ∧ Wr (x_1.2.2.2.2 = x_1.2.2.2.2) ∧ Wr (x_5.2.1
  ++ (List.getD x_3.2.2.2.1.1 (Int.toNat x_5.1) (Ty.zero RepT)).1 :: nilL Int = x_5.2.1 ++ (List.getD x_3.2.2.2.1.1 (Int.toNat x_5.1) (Ty.zero RepT)).1 :: nilL Int) ∧ Wr (x_5.2.2 =
  x_5.2.2) ∧ Wr (x_2 = x_2) ∧ Wr (x_4.2 = x_4.2) ∧ Wr (x_1.2.2.2.1.2.2.2.2 = x_1.2.2.2.1.2.2.2.2) ∧ Wr (x_3.2.2.2.1.1 = x_3.2.2.2.1.1) ∧ Wr
  (x_3.2.2.2.1.2.1 = x_3.2.2.2.1.2.1) ∧ Wr (x_3.2.2.2.1.2.2.1 = x_3.2.2.2.1.2.2.1) ∧ Wr (x_3.2.2.2.1.2.2.2.1 = x_3.2.2.2.1.2.2.2.1) ∧ Wr
  (x_3.2.2.2.1.1 = x_3.2.2.2.1.1) ∧ Wr (x_3.2.2.2.1.2.1 = x_3.2.2.2.1.2.1) ∧ Wr (x_3.2.2.2.1.2.2.1 = x_3.2.2.2.1.2.2.1) ∧ Wr
  (x_3.2.2.2.1.2.2.2.1 = x_3.2.2.2.1.2.2.2.1)))) (Wr (TuI x_3.2.2.2.1.1 x_1.2.2.2.1.2.1 x_1.2.2.2.1.2.2.1 x_4.2 (IntKind.wrap .i64 (x_5.1 + (1
  : Int)), x_5.2.1 ++ (List.getD x_3.2.2.2.1.1 (Int.toNat x_5.1) (Ty.zero RepT)).1 :: nilL Int, x_5.2.2)) ∧ Wr (List.length x_3.2.2.2.1.1 - Int.toNat (IntKind.wrap .i64 (x_5.1 + (1
  : Int))) < List.length x_3.2.2.2.1.1 - Int.toNat x_5.1) ∧ Wr (IntKind.wrap .i64 (x_5.1 + (1 : Int)) = IntKind.wrap .i64 (x_5.1 + (1 : Int))) ∧ Wr (x_3.2.2.2.1.1 =
  x_3.2.2.2.1.1) ∧ Wr ((↑(List.length x_3.2.2.2.1.1) : Int) = (↑(List.length x_3.2.2.2.1.1) : Int)) ∧ Wr (x_3.1.1.1 = x_3.1.1.1) ∧ Wr (x_3.1.1.2.1 = x_3.1.1.2.1) ∧
  Wr (x_3.1.1.2.2.1 = x_3.1.1.2.2.1) ∧ Wr (x_3.1.1.2.2.2.1 = x_3.1.1.2.2.2.1) ∧ Wr (x_3.1.1.2.2.2.2.1 = x_3.1.1.2.2.2.2.1) ∧ Wr
  (x_3.1.1.2.2.2.2.2.1 = x_3.1.1.2.2.2.2.2.1) ∧ Wr (x_3.1.1.2.2.2.2.2.2.1 = x_3.1.1.2.2.2.2.2.2.1) ∧ Wr (x_3.1.1.2.2.2.2.2.2.2.1 =
  x_3.1.1.2.2.2.2.2.2.2.1) ∧ Wr (x_3.1.1.2.2.2.2.2.2.2.2.1 = x_3.1.1.2.2.2.2.2.2.2.2.1) ∧ Wr (x_3.1.2.1 = x_3.1.2.1) ∧ Wr (x_3.1.2.2.1 =
  x_3.1.2.2.1) ∧ Wr (x_3.1.2.2.2.1 = x_3.1.2.2.2.1) ∧ Wr (x_3.1.2.2.2.2.1.1 = x_3.1.2.2.2.2.1.1) ∧ Wr (x_3.1.2.2.2.2.1.2.1 =
  x_3.1.2.2.2.2.1.2.1) ∧ Wr (x_3.1.2.2.2.2.1.2.2.1 = x_3.1.2.2.2.2.1.2.2.1) ∧ Wr (x_3.1.2.2.2.2.2.1 = x_3.1.2.2.2.2.2.1) ∧ Wr
  (x_3.1.2.2.2.2.2.2.1 = x_3.1.2.2.2.2.2.2.1) ∧ Wr (IntKind.wrap .i64 (x_1.2.2.1.1 + (List.getD x.2.2.2.1 (Int.toNat x_1.1) (Ty.zero ActT)).2.2.1) =
  IntKind.wrap .i64 (x_1.2.2.1.1 + (List.getD x.2.2.2.1 (Int.toNat x_1.1) (Ty.zero ActT)).2.2.1)) ∧ Wr (x_3.2.1 = x_3.2.1) ∧ Wr (x_3.2.2.1 = x_3.2.2.1) ∧ Wr
  (x_1.2.2.2.2 = x_1.2.2.2.2) ∧ Wr (x_5.2.1 ++ (List.getD x_3.2.2.2.1.1 (Int.toNat x_5.1) (Ty.zero RepT)).1 :: nilL Int = x_5.2.1 ++ (List.getD x_3.2.2.2.1.1 (Int.toNat
  x_5.1) (Ty.zero RepT)).1 :: nilL Int) ∧ Wr (x_5.2.2 = x_5.2.2) ∧ Wr (x_2 = x_2) ∧ Wr (x_4.2 = x_4.2) ∧ Wr (x_1.2.2.2.1.2.2.2.2 = x_1.2.2.2.1.2.2.2.2) ∧ Wr
  (x_3.2.2.2.1.1 = x_3.2.2.2.1.1) ∧ Wr (x_3.2.2.2.1.2.1 = x_3.2.2.2.1.2.1) ∧ Wr (x_3.2.2.2.1.2.2.1 = x_3.2.2.2.1.2.2.1) ∧ Wr
  (x_3.2.2.2.1.2.2.2.1 = x_3.2.2.2.1.2.2.2.1) ∧ Wr (x_3.2.2.2.1.1 = x_3.2.2.2.1.1) ∧ Wr (x_3.2.2.2.1.2.1 = x_3.2.2.2.1.2.1) ∧ Wr
  (x_3.2.2.2.1.2.2.1 = x_3.2.2.2.1.2.2.1) ∧ Wr (x_3.2.2.2.1.2.2.2.1 = x_3.2.2.2.1.2.2.2.1)))) ((Wr (ShI x_3.2.2.2.1.2.1
  x_1.2.2.2.1.2.2.2.2 ((0 : Int), x_1.2.2.2.1.2.2.2.2)) ∧ Wr ((0 : Int) = (0 : Int)) ∧ Wr (x_3.2.2.2.1.2.1 = x_3.2.2.2.1.2.1) ∧ Wr ((↑(List.length
  x_3.2.2.2.1.2.1) : Int) = (↑(List.length x_3.2.2.2.1.2.1) : Int)) ∧ Wr (x_3.1.1.1 = x_3.1.1.1) ∧ Wr (x_3.1.1.2.1 = x_3.1.1.2.1) ∧ Wr (x_3.1.1.2.2.1 =
  x_3.1.1.2.2.1) ∧ Wr (x_3.1.1.2.2.2.1 = x_3.1.1.2.2.2.1) ∧ Wr (x_3.1.1.2.2.2.2.1 = x_3.1.1.2.2.2.2.1) ∧ Wr (x_3.1.1.2.2.2.2.2.1 =
  x_3.1.1.2.2.2.2.2.1) ∧ Wr (x_3.1.1.2.2.2.2.2.2.1 = x_3.1.1.2.2.2.2.2.2.1) ∧ Wr (x_3.1.1.2.2.2.2.2.2.2.1 =
  x_3.1.1.2.2.2.2.2.2.2.1) ∧ Wr (x_3.1.1.2.2.2.2.2.2.2.2.1 = x_3.1.1.2.2.2.2.2.2.2.2.1) ∧ Wr (x_3.1.2.1 = x_3.1.2.1) ∧ Wr (x_3.1.2.2.1 =
  x_3.1.2.2.1) ∧ Wr (x_3.1.2.2.2.1 = x_3.1.2.2.2.1) ∧ Wr (x_3.1.2.2.2.2.1.1 = x_3.1.2.2.2.2.1.1) ∧ Wr (x_3.1.2.2.2.2.1.2.1 =
  x_3.1.2.2.2.2.1.2.1) ∧ Wr (x_3.1.2.2.2.2.1.2.2.1 = x_3.1.2.2.2.2.1.2.2.1) ∧ Wr (x_3.1.2.2.2.2.2.1 = x_3.1.2.2.2.2.2.1) ∧ Wr
  (x_3.1.2.2.2.2.2.2.1 = x_3.1.2.2.2.2.2.2.1) ∧ Wr (IntKind.wrap .i64 (x_1.2.2.1.1 + (List.getD x.2.2.2.1 (Int.toNat x_1.1) (Ty.zero ActT)).2.2.1) =
  IntKind.wrap .i64 (x_1.2.2.1.1 + (List.getD x.2.2.2.1 (Int.toNat x_1.1) (Ty.zero ActT)).2.2.1)) ∧ Wr (x_3.2.1 = x_3.2.1) ∧ Wr (x_3.2.2.1 = x_3.2.2.1) ∧ Wr
  (x_1.2.2.2.2 = x_1.2.2.2.2) ∧ Wr (x_1.2.2.2.1.2.2.2.2 = x_1.2.2.2.1.2.2.2.2) ∧ Wr (x_2 = x_2) ∧ Wr (x_5.2.1 = x_5.2.1) ∧ Wr (x_5.2.2 = x_5.2.2) ∧ Wr
  (x_4.2 = x_4.2) ∧ Wr (x_3.2.2.2.1.1 = x_3.2.2.2.1.1) ∧ Wr (x_3.2.2.2.1.2.1 = x_3.2.2.2.1.2.1) ∧ Wr (x_3.2.2.2.1.2.2.1 = x_3.2.2.2.1.2.2.1) ∧ Wr
  (x_3.2.2.2.1.2.2.2.1 = x_3.2.2.2.1.2.2.2.1) ∧ Wr (x_3.2.2.2.1.1 = x_3.2.2.2.1.1) ∧ Wr (x_3.2.2.2.1.2.1 = x_3.2.2.2.1.2.1) ∧ Wr
  (x_3.2.2.2.1.2.2.1 = x_3.2.2.2.1.2.2.1) ∧ Wr (x_3.2.2.2.1.2.2.2.1 = x_3.2.2.2.1.2.2.2.1)) ∧ ∀ (x_6 : Int × List Int), Wr (ShI x_3.2.2.2.1.2.1
  x_1.2.2.2.1.2.2.2.2 x_6) → bcase (Decidable.decide (x_6.1 < (↑(List.length x_3.2.2.2.1.2.1) : Int))) (Wr ((0 : Int) ≤ x_6.1) ∧ Wr (x_6.1 < (↑(List.length x_3.2.2.2.1.2.1) :
  Int)) ∧ Wr (Bool.true = Bool.true) ∧ Wr (Bool.true = Bool.true) ∧ bcase (hasN x_6.2 (List.getD x_3.2.2.2.1.2.1 (Int.toNat x_6.1) (0 : Int))) (Wr ((!!Bool.false) = Bool.true → szB x_3.1 = Bool.true) ∧
  (Bool.false, ()) = (Bool.true, ())) (Wr ((List.length x_6.2 + List.length (List.getD x_3.2.2.2.1.2.1 (Int.toNat x_6.1) (0 : Int) :: nilL Int)) * (8 : Nat) ≤ (140737488355328 : Nat)) ∧ Wr (ShI
  x_3.2.2.2.1.2.1 x_1.2.2.2.1.2.2.2.2 (IntKind.wrap .i64 (x_6.1 + (1 : Int)), x_6.2 ++ List.getD x_3.2.2.2.1.2.1 (Int.toNat x_6.1) (0 : Int) :: nilL Int)) ∧ Wr
  (List.length x_3.2.2.2.1.2.1 - Int.toNat (IntKind.wrap .i64 (x_6.1 + (1 : Int))) < List.length x_3.2.2.2.1.2.1 - Int.toNat x_6.1) ∧ Wr (IntKind.wrap .i64 (x_6.1 + (1 : Int)) =
  IntKind.wrap .i64 (x_6.1 + (1 : Int))) ∧ Wr (x_3.2.2.2.1.2.1 = x_3.2.2.2.1.2.1) ∧ Wr ((↑(List.length x_3.2.2.2.1.2.1) : Int) = (↑(List.length x_3.2.2.2.1.2.1) :
  Int)) ∧ Wr (x_3.1.1.1 = x_3.1.1.1) ∧ Wr (x_3.1.1.2.1 = x_3.1.1.2.1) ∧ Wr (x_3.1.1.2.2.1 = x_3.1.1.2.2.1) ∧ Wr (x_3.1.1.2.2.2.1 = x_3.1.1.2.2.2.1) ∧
  Wr (x_3.1.1.2.2.2.2.1 = x_3.1.1.2.2.2.2.1) ∧ Wr (x_3.1.1.2.2.2.2.2.1 = x_3.1.1.2.2.2.2.2.1) ∧ Wr (x_3.1.1.2.2.2.2.2.2.1 =
  x_3.1.1.2.2.2.2.2.2.1) ∧ Wr (x_3.1.1.2.2.2.2.2.2.2.1 = x_3.1.1.2.2.2.2.2.2.2.1) ∧ Wr (x_3.1.1.2.2.2.2.2.2.2.2.1 =
  x_3.1.1.2.2.2.2.2.2.2.2.1) ∧ Wr (x_3.1.2.1 = x_3.1.2.1) ∧ Wr (x_3.1.2.2.1 = x_3.1.2.2.1) ∧ Wr (x_3.1.2.2.2.1 = x_3.1.2.2.2.1) ∧ Wr
  (x_3.1.2.2.2.2.1.1 = x_3.1.2.2.2.2.1.1) ∧ Wr (x_3.1.2.2.2.2.1.2.1 = x_3.1.2.2.2.2.1.2.1) ∧ Wr (x_3.1.2.2.2.2.1.2.2.1 =
  x_3.1.2.2.2.2.1.2.2.1) ∧ Wr (x_3.1.2.2.2.2.2.1 = x_3.1.2.2.2.2.2.1) ∧ Wr (x_3.1.2.2.2.2.2.2.1 = x_3.1.2.2.2.2.2.2.1) ∧ Wr (IntKind.wrap
  IntKind.i64 (x_1.2.2.1.1 + (List.getD x.2.2.2.1 (Int.toNat x_1.1) (Ty.zero ActT)).2.2.1) = IntKind.wrap .i64 (x_1.2.2.1.1 + (List.getD x.2.2.2.1 (Int.toNat x_1.1)
  (Ty.zero ActT)).2.2.1)) ∧ Wr (x_3.2.1 = x_3.2.1) ∧ Wr (x_3.2.2.1 = x_3.2.2.1) ∧ Wr (x_1.2.2.2.2 = x_1.2.2.2.2) ∧ Wr (x_6.2 ++ List.getD x_3.2.2.2.1.2.1 (Int.toNat
  x_6.1) (0 : Int) :: nilL Int = x_6.2 ++ List.getD x_3.2.2.2.1.2.1 (Int.toNat x_6.1) (0 : Int) :: nilL Int) ∧ Wr (x_2 = x_2) ∧ Wr (x_5.2.1 = x_5.2.1) ∧ Wr (x_5.2.2 = x_5.2.2) ∧ Wr
  (x_4.2 = x_4.2) ∧ Wr (x_3.2.2.2.1.1 = x_3.2.2.2.1.1) ∧ Wr (x_3.2.2.2.1.2.1 = x_3.2.2.2.1.2.1) ∧ Wr (x_3.2.2.2.1.2.2.1 = x_3.2.2.2.1.2.2.1) ∧ Wr
  (x_3.2.2.2.1.2.2.2.1 = x_3.2.2.2.1.2.2.2.1) ∧ Wr (x_3.2.2.2.1.1 = x_3.2.2.2.1.1) ∧ Wr (x_3.2.2.2.1.2.1 = x_3.2.2.2.1.2.1) ∧ Wr
  (x_3.2.2.2.1.2.2.1 = x_3.2.2.2.1.2.2.1) ∧ Wr (x_3.2.2.2.1.2.2.2.1 = x_3.2.2.2.1.2.2.2.1))) (bcase x_3.2.2.2.1.2.2.1 (Wr (Bool.true = Bool.true) ∧
  bcase (!Decidable.decide (beginE x_3.1.2.2.2.2.1 (IntKind.wrap .i64 (x_1.2.2.2.2 + (1 : Int))) = (0 : Int))) (Wr ((!!Bool.false) = Bool.true → szB x_3.1 = Bool.true) ∧ (Bool.false, ()) =
  (Bool.true, ())) (Wr ((!!Bool.true) = Bool.true → szB (startB x_3.1 (IntKind.wrap .i64 (x_1.2.2.2.2 + (1 : Int)))) = Bool.true) ∧ bcase (!Bool.true || !Decidable.decide (ckE (startB x_3.1
  (IntKind.wrap .i64 (x_1.2.2.2.2 + (1 : Int)))) = (0 : Int)) || Decidable.decide ((↑(List.length (startB x_3.1 (IntKind.wrap .i64 (x_1.2.2.2.2 + (1 : Int)))).2.2.2.1) : Int) > (0 :
  Int)) && Decidable.decide ((startB x_3.1 (IntKind.wrap .i64 (x_1.2.2.2.2 + (1 : Int)))).2.2.2.2.1.1 < (0 : Int)) || x_3.2.2.2.1.2.2.1 && x_3.2.2.2.1.2.2.2.1)
  ((Bool.false, ()) = (Bool.true, ())) (Wr (szB (startB x_3.1 (IntKind.wrap .i64 (x_1.2.2.2.2 + (1 : Int)))) = Bool.true) ∧ bcase (!Decidable.decide (IntKind.wrap .i64 ((↑(List.length (ownsL
  (startB x_3.1 (IntKind.wrap .i64 (x_1.2.2.2.2 + (1 : Int)))))) : Int) + (↑(List.length x_6.2) : Int)) = x_3.2.2.1) || (startB x_3.1 (IntKind.wrap .i64 (x_1.2.2.2.2 + (1 :
  Int)))).2.2.2.2.2.2.1 && !Decidable.decide ((↑(List.length x_6.2) : Int) = x_3.2.2.1)) ((Bool.false, ()) = (Bool.true, ())) (Wr (PyI x.1 x.2.1 x.2.2.1 x.2.2.2.1 (IntKind.wrap
  IntKind.i64 (x_1.1 + (1 : Int)), startB x_3.1 (IntKind.wrap .i64 (x_1.2.2.2.2 + (1 : Int))), (IntKind.wrap .i64 (x_1.2.2.1.1 + (List.getD x.2.2.2.1 (Int.toNat x_1.1) (Ty.zero
  ActT)).2.2.1), x_3.2.1, x_3.2.2.1), (x_2, x_5.2.1, x_5.2.2, x_4.2, x_6.2), IntKind.wrap .i64 (x_1.2.2.2.2 + (1 : Int)))) ∧ Wr (List.length x.2.2.2.1 - Int.toNat
  (IntKind.wrap .i64 (x_1.1 + (1 : Int))) < List.length x.2.2.2.1 - Int.toNat x_1.1) ∧ Wr (IntKind.wrap .i64 (x_1.1 + (1 : Int)) = IntKind.wrap .i64 (x_1.1 + (1 : Int))) ∧ Wr (x.1 =
  x.1) ∧ Wr (x.2.1 = x.2.1) ∧ Wr (x.2.2.1 = x.2.2.1) ∧ Wr (x.2.2.2.1 = x.2.2.2.1) ∧ Wr ((startB x_3.1 (IntKind.wrap .i64 (x_1.2.2.2.2 + (1 : Int)))).1.1 = (startB
  x_3.1 (IntKind.wrap .i64 (x_1.2.2.2.2 + (1 : Int)))).1.1) ∧ Wr ((startB x_3.1 (IntKind.wrap .i64 (x_1.2.2.2.2 + (1 : Int)))).1.2.1 = (startB x_3.1 (IntKind.wrap .i64
  (x_1.2.2.2.2 + (1 : Int)))).1.2.1) ∧ Wr ((startB x_3.1 (IntKind.wrap .i64 (x_1.2.2.2.2 + (1 : Int)))).1.2.2.1 = (startB x_3.1 (IntKind.wrap .i64 (x_1.2.2.2.2 + (1
  : Int)))).1.2.2.1) ∧ Wr ((startB x_3.1 (IntKind.wrap .i64 (x_1.2.2.2.2 + (1 : Int)))).1.2.2.2.1 = (startB x_3.1 (IntKind.wrap .i64 (x_1.2.2.2.2 + (1 :
  Int)))).1.2.2.2.1) ∧ Wr ((startB x_3.1 (IntKind.wrap .i64 (x_1.2.2.2.2 + (1 : Int)))).1.2.2.2.2.1 = (startB x_3.1 (IntKind.wrap .i64 (x_1.2.2.2.2 + (1 :
  Int)))).1.2.2.2.2.1) ∧ Wr ((startB x_3.1 (IntKind.wrap .i64 (x_1.2.2.2.2 + (1 : Int)))).1.2.2.2.2.2.1 = (startB x_3.1 (IntKind.wrap .i64 (x_1.2.2.2.2 + (1 :
  Int)))).1.2.2.2.2.2.1) ∧ Wr ((startB x_3.1 (IntKind.wrap .i64 (x_1.2.2.2.2 + (1 : Int)))).1.2.2.2.2.2.2.1 = (startB x_3.1 (IntKind.wrap .i64 (x_1.2.2.2.2 +
  (1 : Int)))).1.2.2.2.2.2.2.1) ∧ Wr ((startB x_3.1 (IntKind.wrap .i64 (x_1.2.2.2.2 + (1 : Int)))).1.2.2.2.2.2.2.2.1 = (startB x_3.1 (IntKind.wrap .i64
  (x_1.2.2.2.2 + (1 : Int)))).1.2.2.2.2.2.2.2.1) ∧ Wr ((startB x_3.1 (IntKind.wrap .i64 (x_1.2.2.2.2 + (1 : Int)))).1.2.2.2.2.2.2.2.2.1 = (startB x_3.1
  (IntKind.wrap .i64 (x_1.2.2.2.2 + (1 : Int)))).1.2.2.2.2.2.2.2.2.1) ∧ Wr ((startB x_3.1 (IntKind.wrap .i64 (x_1.2.2.2.2 + (1 : Int)))).2.1 = (startB x_3.1
  (IntKind.wrap .i64 (x_1.2.2.2.2 + (1 : Int)))).2.1) ∧ Wr ((startB x_3.1 (IntKind.wrap .i64 (x_1.2.2.2.2 + (1 : Int)))).2.2.1 = (startB x_3.1 (IntKind.wrap .i64
  (x_1.2.2.2.2 + (1 : Int)))).2.2.1) ∧ Wr ((startB x_3.1 (IntKind.wrap .i64 (x_1.2.2.2.2 + (1 : Int)))).2.2.2.1 = (startB x_3.1 (IntKind.wrap .i64 (x_1.2.2.2.2 + (1
  : Int)))).2.2.2.1) ∧ Wr ((startB x_3.1 (IntKind.wrap .i64 (x_1.2.2.2.2 + (1 : Int)))).2.2.2.2.1.1 = (startB x_3.1 (IntKind.wrap .i64 (x_1.2.2.2.2 + (1 :
  Int)))).2.2.2.2.1.1) ∧ Wr ((startB x_3.1 (IntKind.wrap .i64 (x_1.2.2.2.2 + (1 : Int)))).2.2.2.2.1.2.1 = (startB x_3.1 (IntKind.wrap .i64 (x_1.2.2.2.2 + (1 :
  Int)))).2.2.2.2.1.2.1) ∧ Wr ((startB x_3.1 (IntKind.wrap .i64 (x_1.2.2.2.2 + (1 : Int)))).2.2.2.2.1.2.2.1 = (startB x_3.1 (IntKind.wrap .i64 (x_1.2.2.2.2 +
  (1 : Int)))).2.2.2.2.1.2.2.1) ∧ Wr ((startB x_3.1 (IntKind.wrap .i64 (x_1.2.2.2.2 + (1 : Int)))).2.2.2.2.2.1 = (startB x_3.1 (IntKind.wrap .i64 (x_1.2.2.2.2
  + (1 : Int)))).2.2.2.2.2.1) ∧ Wr ((startB x_3.1 (IntKind.wrap .i64 (x_1.2.2.2.2 + (1 : Int)))).2.2.2.2.2.2.1 = (startB x_3.1 (IntKind.wrap .i64 (x_1.2.2.2.2 +
  (1 : Int)))).2.2.2.2.2.2.1) ∧ Wr (IntKind.wrap .i64 (x_1.2.2.1.1 + (List.getD x.2.2.2.1 (Int.toNat x_1.1) (Ty.zero ActT)).2.2.1) = IntKind.wrap .i64
  (x_1.2.2.1.1 + (List.getD x.2.2.2.1 (Int.toNat x_1.1) (Ty.zero ActT)).2.2.1)) ∧ Wr (x_3.2.1 = x_3.2.1) ∧ Wr (x_3.2.2.1 = x_3.2.2.1) ∧ Wr (IntKind.wrap .i64
  (x_1.2.2.2.2 + (1 : Int)) = IntKind.wrap .i64 (x_1.2.2.2.2 + (1 : Int))) ∧ Wr (x_2 = x_2) ∧ Wr (x_5.2.1 = x_5.2.1) ∧ Wr (x_5.2.2 = x_5.2.2) ∧ Wr (x_4.2 = x_4.2) ∧ Wr (x_6.2 =
  x_6.2))))) (Wr ((!!Bool.true) = Bool.true → szB x_3.1 = Bool.true) ∧ bcase (!Bool.true || !Decidable.decide (ckE x_3.1 = (0 : Int)) || Decidable.decide ((↑(List.length x_3.1.2.2.2.1) : Int) > (0 : Int))
  && Decidable.decide (x_3.1.2.2.2.2.1.1 < (0 : Int)) || x_3.2.2.2.1.2.2.1 && x_3.2.2.2.1.2.2.2.1) ((Bool.false, ()) = (Bool.true, ())) (Wr (szB x_3.1 = Bool.true) ∧ bcase
  (!Decidable.decide (IntKind.wrap .i64 ((↑(List.length (ownsL x_3.1)) : Int) + (↑(List.length x_6.2) : Int)) = x_3.2.2.1) || x_3.1.2.2.2.2.2.2.1 && !Decidable.decide ((↑(List.length
  x_6.2) : Int) = x_3.2.2.1)) ((Bool.false, ()) = (Bool.true, ())) (Wr (PyI x.1 x.2.1 x.2.2.1 x.2.2.2.1 (IntKind.wrap .i64 (x_1.1 + (1 : Int)), x_3.1, (IntKind.wrap .i64
  (x_1.2.2.1.1 + (List.getD x.2.2.2.1 (Int.toNat x_1.1) (Ty.zero ActT)).2.2.1), x_3.2.1, x_3.2.2.1), (x_2, x_5.2.1, x_5.2.2, x_4.2, x_6.2), x_1.2.2.2.2)) ∧ Wr
  (List.length x.2.2.2.1 - Int.toNat (IntKind.wrap .i64 (x_1.1 + (1 : Int))) < List.length x.2.2.2.1 - Int.toNat x_1.1) ∧ Wr (IntKind.wrap .i64 (x_1.1 + (1 : Int)) = IntKind.wrap
  IntKind.i64 (x_1.1 + (1 : Int))) ∧ Wr (x.1 = x.1) ∧ Wr (x.2.1 = x.2.1) ∧ Wr (x.2.2.1 = x.2.2.1) ∧ Wr (x.2.2.2.1 = x.2.2.2.1) ∧ Wr (x_3.1.1.1 = x_3.1.1.1) ∧ Wr
  (x_3.1.1.2.1 = x_3.1.1.2.1) ∧ Wr (x_3.1.1.2.2.1 = x_3.1.1.2.2.1) ∧ Wr (x_3.1.1.2.2.2.1 = x_3.1.1.2.2.2.1) ∧ Wr (x_3.1.1.2.2.2.2.1 =
  x_3.1.1.2.2.2.2.1) ∧ Wr (x_3.1.1.2.2.2.2.2.1 = x_3.1.1.2.2.2.2.2.1) ∧ Wr (x_3.1.1.2.2.2.2.2.2.1 = x_3.1.1.2.2.2.2.2.2.1) ∧ Wr
  (x_3.1.1.2.2.2.2.2.2.2.1 = x_3.1.1.2.2.2.2.2.2.2.1) ∧ Wr (x_3.1.1.2.2.2.2.2.2.2.2.1 = x_3.1.1.2.2.2.2.2.2.2.2.1) ∧ Wr (x_3.1.2.1
  = x_3.1.2.1) ∧ Wr (x_3.1.2.2.1 = x_3.1.2.2.1) ∧ Wr (x_3.1.2.2.2.1 = x_3.1.2.2.2.1) ∧ Wr (x_3.1.2.2.2.2.1.1 = x_3.1.2.2.2.2.1.1) ∧ Wr
  (x_3.1.2.2.2.2.1.2.1 = x_3.1.2.2.2.2.1.2.1) ∧ Wr (x_3.1.2.2.2.2.1.2.2.1 = x_3.1.2.2.2.2.1.2.2.1) ∧ Wr (x_3.1.2.2.2.2.2.1 =
  x_3.1.2.2.2.2.2.1) ∧ Wr (x_3.1.2.2.2.2.2.2.1 = x_3.1.2.2.2.2.2.2.1) ∧ Wr (IntKind.wrap .i64 (x_1.2.2.1.1 + (List.getD x.2.2.2.1 (Int.toNat x_1.1)
  (Ty.zero ActT)).2.2.1) = IntKind.wrap .i64 (x_1.2.2.1.1 + (List.getD x.2.2.2.1 (Int.toNat x_1.1) (Ty.zero ActT)).2.2.1)) ∧ Wr (x_3.2.1 = x_3.2.1) ∧ Wr (x_3.2.2.1 =
  x_3.2.2.1) ∧ Wr (x_1.2.2.2.2 = x_1.2.2.2.2) ∧ Wr (x_2 = x_2) ∧ Wr (x_5.2.1 = x_5.2.1) ∧ Wr (x_5.2.2 = x_5.2.2) ∧ Wr (x_4.2 = x_4.2) ∧ Wr (x_6.2 = x_6.2)))))))))) ((Wr (AtI
  x_1.2.2.2.1.2.2.2.1 x_1.2.2.2.1.2.2.1 ((0 : Int), (0 : Int))) ∧ Wr ((0 : Int) = (0 : Int)) ∧ Wr ((0 : Int) = (0 : Int)) ∧ Wr (x.1 = x.1) ∧ Wr (x.2.1 = x.2.1) ∧ Wr (x.2.2.1
  = x.2.2.1) ∧ Wr (x.2.2.2.1 = x.2.2.2.1) ∧ Wr ((↑(List.length x_1.2.2.2.1.2.2.2.1) : Int) = (↑(List.length x_1.2.2.2.1.2.2.2.1) : Int)) ∧ Wr (x_1.2.1.1.1 =
  x_1.2.1.1.1) ∧ Wr (x_1.2.1.1.2.1 = x_1.2.1.1.2.1) ∧ Wr (x_1.2.1.1.2.2.1 = x_1.2.1.1.2.2.1) ∧ Wr (x_1.2.1.1.2.2.2.1 = x_1.2.1.1.2.2.2.1) ∧
  Wr (x_1.2.1.1.2.2.2.2.1 = x_1.2.1.1.2.2.2.2.1) ∧ Wr (x_1.2.1.1.2.2.2.2.2.1 = x_1.2.1.1.2.2.2.2.2.1) ∧ Wr (x_1.2.1.1.2.2.2.2.2.2.1 =
  x_1.2.1.1.2.2.2.2.2.2.1) ∧ Wr (x_1.2.1.1.2.2.2.2.2.2.2.1 = x_1.2.1.1.2.2.2.2.2.2.2.1) ∧ Wr (x_1.2.1.1.2.2.2.2.2.2.2.2.1 =
  x_1.2.1.1.2.2.2.2.2.2.2.2.1) ∧ Wr (x_1.2.1.2.1 = x_1.2.1.2.1) ∧ Wr (x_1.2.1.2.2.1 = x_1.2.1.2.2.1) ∧ Wr (x_1.2.1.2.2.2.1 =
  x_1.2.1.2.2.2.1) ∧ Wr (x_1.2.1.2.2.2.2.1.1 = x_1.2.1.2.2.2.2.1.1) ∧ Wr (x_1.2.1.2.2.2.2.1.2.1 = x_1.2.1.2.2.2.2.1.2.1) ∧ Wr
  (x_1.2.1.2.2.2.2.1.2.2.1 = x_1.2.1.2.2.2.2.1.2.2.1) ∧ Wr (x_1.2.1.2.2.2.2.2.1 = x_1.2.1.2.2.2.2.2.1) ∧ Wr (x_1.2.1.2.2.2.2.2.2.1
  = x_1.2.1.2.2.2.2.2.2.1) ∧ Wr (x_1.2.2.1.1 = x_1.2.2.1.1) ∧ Wr (x_1.2.2.1.2.1 = x_1.2.2.1.2.1) ∧ Wr (x_1.2.2.1.2.2 = x_1.2.2.1.2.2) ∧ Wr
  (x_1.2.2.2.2 = x_1.2.2.2.2) ∧ Wr (x_1.2.2.2.1.1 = x_1.2.2.2.1.1) ∧ Wr (x_1.2.2.2.1.2.1 = x_1.2.2.2.1.2.1) ∧ Wr (x_1.2.2.2.1.2.2.1 =
  x_1.2.2.2.1.2.2.1) ∧ Wr (x_1.2.2.2.1.2.2.2.1 = x_1.2.2.2.1.2.2.2.1) ∧ Wr (x_1.2.2.2.1.2.2.2.2 = x_1.2.2.2.1.2.2.2.2)) ∧ ∀ (x_2 : Int × Int),
  Wr (AtI x_1.2.2.2.1.2.2.2.1 x_1.2.2.2.1.2.2.1 x_2) → bcase (Decidable.decide (x_2.2 < (↑(List.length x_1.2.2.2.1.2.2.2.1) : Int))) (Wr ((0 : Int) ≤ x_2.2) ∧ Wr (x_2.2
  < (↑(List.length x_1.2.2.2.1.2.2.2.1) : Int)) ∧ Wr (Decidable.decide (x_2.1 < (↑(List.length x_1.2.2.2.1.2.2.1) : Int)) = Bool.true → (0 : Int) ≤ x_2.1) ∧ Wr (Decidable.decide (x_2.1
  < (↑(List.length x_1.2.2.2.1.2.2.1) : Int)) = Bool.true → x_2.1 < (↑(List.length x_1.2.2.2.1.2.2.1) : Int)) ∧ bcase (Decidable.decide (x_2.1 < (↑(List.length
  x_1.2.2.2.1.2.2.1) : Int)) && Decidable.decide (List.getD x_1.2.2.2.1.2.2.1 (Int.toNat x_2.1) (0 : Int) = List.getD x_1.2.2.2.1.2.2.2.1 (Int.toNat x_2.2) (0 : Int))) (Wr
  (AtI x_1.2.2.2.1.2.2.2.1 x_1.2.2.2.1.2.2.1 (IntKind.wrap .i64 (x_2.1 + (1 : Int)), IntKind.wrap .i64 (x_2.2 + (1 : Int)))) ∧ Wr (List.length
  x_1.2.2.2.1.2.2.2.1 - Int.toNat (IntKind.wrap .i64 (x_2.2 + (1 : Int))) < List.length x_1.2.2.2.1.2.2.2.1 - Int.toNat x_2.2) ∧ Wr (IntKind.wrap .i64 (x_2.1 + (1 :
  Int)) = IntKind.wrap .i64 (x_2.1 + (1 : Int))) ∧ Wr (IntKind.wrap .i64 (x_2.2 + (1 : Int)) = IntKind.wrap .i64 (x_2.2 + (1 : Int))) ∧ Wr (x.1 = x.1) ∧ Wr (x.2.1 = x.2.1) ∧ Wr
  (x.2.2.1 = x.2.2.1) ∧ Wr (x.2.2.2.1 = x.2.2.2.1) ∧ Wr ((↑(List.length x_1.2.2.2.1.2.2.2.1) : Int) = (↑(List.length x_1.2.2.2.1.2.2.2.1) : Int)) ∧ Wr
  (x_1.2.1.1.1 = x_1.2.1.1.1) ∧ Wr (x_1.2.1.1.2.1 = x_1.2.1.1.2.1) ∧ Wr (x_1.2.1.1.2.2.1 = x_1.2.1.1.2.2.1) ∧ Wr (x_1.2.1.1.2.2.2.1 =
  x_1.2.1.1.2.2.2.1) ∧ Wr (x_1.2.1.1.2.2.2.2.1 = x_1.2.1.1.2.2.2.2.1) ∧ Wr (x_1.2.1.1.2.2.2.2.2.1 = x_1.2.1.1.2.2.2.2.2.1) ∧ Wr
  (x_1.2.1.1.2.2.2.2.2.2.1 = x_1.2.1.1.2.2.2.2.2.2.1) ∧ Wr (x_1.2.1.1.2.2.2.2.2.2.2.1 = x_1.2.1.1.2.2.2.2.2.2.2.1) ∧ Wr
  (x_1.2.1.1.2.2.2.2.2.2.2.2.1 = x_1.2.1.1.2.2.2.2.2.2.2.2.1) ∧ Wr (x_1.2.1.2.1 = x_1.2.1.2.1) ∧ Wr (x_1.2.1.2.2.1 = x_1.2.1.2.2.1) ∧ Wr
  (x_1.2.1.2.2.2.1 = x_1.2.1.2.2.2.1) ∧ Wr (x_1.2.1.2.2.2.2.1.1 = x_1.2.1.2.2.2.2.1.1) ∧ Wr (x_1.2.1.2.2.2.2.1.2.1 =
  x_1.2.1.2.2.2.2.1.2.1) ∧ Wr (x_1.2.1.2.2.2.2.1.2.2.1 = x_1.2.1.2.2.2.2.1.2.2.1) ∧ Wr (x_1.2.1.2.2.2.2.2.1 = x_1.2.1.2.2.2.2.2.1)
  ∧ Wr (x_1.2.1.2.2.2.2.2.2.1 = x_1.2.1.2.2.2.2.2.2.1) ∧ Wr (x_1.2.2.1.1 = x_1.2.2.1.1) ∧ Wr (x_1.2.2.1.2.1 = x_1.2.2.1.2.1) ∧ Wr
  (x_1.2.2.1.2.2 = x_1.2.2.1.2.2) ∧ Wr (x_1.2.2.2.2 = x_1.2.2.2.2) ∧ Wr (x_1.2.2.2.1.1 = x_1.2.2.2.1.1) ∧ Wr (x_1.2.2.2.1.2.1 =
  x_1.2.2.2.1.2.1) ∧ Wr (x_1.2.2.2.1.2.2.1 = x_1.2.2.2.1.2.2.1) ∧ Wr (x_1.2.2.2.1.2.2.2.1 = x_1.2.2.2.1.2.2.2.1) ∧ Wr
  (x_1.2.2.2.1.2.2.2.2 = x_1.2.2.2.1.2.2.2.2)) (Wr (AtI x_1.2.2.2.1.2.2.2.1 x_1.2.2.2.1.2.2.1 (x_2.1, IntKind.wrap .i64 (x_2.2 + (1 : Int)))) ∧ Wr
  (List.length x_1.2.2.2.1.2.2.2.1 - Int.toNat (IntKind.wrap .i64 (x_2.2 + (1 : Int))) < List.length x_1.2.2.2.1.2.2.2.1 - Int.toNat x_2.2) ∧ Wr (x_2.1 = x_2.1) ∧ Wr
  (IntKind.wrap .i64 (x_2.2 + (1 : Int)) = IntKind.wrap .i64 (x_2.2 + (1 : Int))) ∧ Wr (x.1 = x.1) ∧ Wr (x.2.1 = x.2.1) ∧ Wr (x.2.2.1 = x.2.2.1) ∧ Wr (x.2.2.2.1 =
  x.2.2.2.1) ∧ Wr ((↑(List.length x_1.2.2.2.1.2.2.2.1) : Int) = (↑(List.length x_1.2.2.2.1.2.2.2.1) : Int)) ∧ Wr (x_1.2.1.1.1 = x_1.2.1.1.1) ∧ Wr
  (x_1.2.1.1.2.1 = x_1.2.1.1.2.1) ∧ Wr (x_1.2.1.1.2.2.1 = x_1.2.1.1.2.2.1) ∧ Wr (x_1.2.1.1.2.2.2.1 = x_1.2.1.1.2.2.2.1) ∧ Wr
  (x_1.2.1.1.2.2.2.2.1 = x_1.2.1.1.2.2.2.2.1) ∧ Wr (x_1.2.1.1.2.2.2.2.2.1 = x_1.2.1.1.2.2.2.2.2.1) ∧ Wr (x_1.2.1.1.2.2.2.2.2.2.1 =
  x_1.2.1.1.2.2.2.2.2.2.1) ∧ Wr (x_1.2.1.1.2.2.2.2.2.2.2.1 = x_1.2.1.1.2.2.2.2.2.2.2.1) ∧ Wr (x_1.2.1.1.2.2.2.2.2.2.2.2.1 =
  x_1.2.1.1.2.2.2.2.2.2.2.2.1) ∧ Wr (x_1.2.1.2.1 = x_1.2.1.2.1) ∧ Wr (x_1.2.1.2.2.1 = x_1.2.1.2.2.1) ∧ Wr (x_1.2.1.2.2.2.1 =
  x_1.2.1.2.2.2.1) ∧ Wr (x_1.2.1.2.2.2.2.1.1 = x_1.2.1.2.2.2.2.1.1) ∧ Wr (x_1.2.1.2.2.2.2.1.2.1 = x_1.2.1.2.2.2.2.1.2.1) ∧ Wr
  (x_1.2.1.2.2.2.2.1.2.2.1 = x_1.2.1.2.2.2.2.1.2.2.1) ∧ Wr (x_1.2.1.2.2.2.2.2.1 = x_1.2.1.2.2.2.2.2.1) ∧ Wr (x_1.2.1.2.2.2.2.2.2.1
  = x_1.2.1.2.2.2.2.2.2.1) ∧ Wr (x_1.2.2.1.1 = x_1.2.2.1.1) ∧ Wr (x_1.2.2.1.2.1 = x_1.2.2.1.2.1) ∧ Wr (x_1.2.2.1.2.2 = x_1.2.2.1.2.2) ∧ Wr
  (x_1.2.2.2.2 = x_1.2.2.2.2) ∧ Wr (x_1.2.2.2.1.1 = x_1.2.2.2.1.1) ∧ Wr (x_1.2.2.2.1.2.1 = x_1.2.2.2.1.2.1) ∧ Wr (x_1.2.2.2.1.2.2.1 =
  x_1.2.2.2.1.2.2.1) ∧ Wr (x_1.2.2.2.1.2.2.2.1 = x_1.2.2.2.1.2.2.2.1) ∧ Wr (x_1.2.2.2.1.2.2.2.2 = x_1.2.2.2.1.2.2.2.2))) (Wr (Decidable.decide
  (x_2.1 = (↑(List.length x_1.2.2.2.1.2.2.1) : Int)) = Bool.true → Bool.true = Bool.true) ∧ (Decidable.decide (x_2.1 = (↑(List.length x_1.2.2.2.1.2.2.1) : Int)) && Bool.true, ()) =
  (Bool.true, ()))))) := by kernel_rfl
end Go.Proofs.Ytdkcgcgefgeooaa.Bk.B
set_option linter.all false
namespace Go.Proofs.Ytdkcgcgefgeooaa.Bk
open Go Go.Eng
set_option maxRecDepth 100000
section
variable {tol shu jo sv : List Int} {ca so : Int} {cf : Cf} {id : List Rs} {le wa : List Int} {fl : Fl} {cl : Bool} {re : List Rp} {sh : List Int} {cut : Bool} {lo : List Int}
theorem flB_iff {fl : Fl} : flB fl = true ↔ -1 ≤ fl.1 ∧ 0 ≤ fl.2.2.1 ∧ (fl.2.1 = true → 0 ≤ fl.1) := by
  simp only [flB, onF, Bool.and_eq_true, Bool.or_eq_true, decide_eq_true_eq, Bool.not_eq_true']
  constructor
  · rintro ⟨⟨h1, h2⟩, h3⟩
    refine ⟨h1, h2, fun h => ?_⟩
    rcases h3 with h3 | h3
    · rw [h3] at h; cases h
    · exact h3
  · rintro ⟨h1, h2, h3⟩
    refine ⟨⟨h1, h2⟩, ?_⟩
    cases h : fl.2.1 with
    | false => exact .inl rfl
    | true => exact .inr (h3 h)
theorem flB_part {fl : Fl} {n : Int} (h : flB fl = true) : flB (partF fl n) = true := by
  rw [flB_iff] at h ⊢
  refine ⟨h.1, by simp only [partF, partN]; omega, fun hc => ?_⟩
  simp only [partF, Bool.or_eq_true] at hc ⊢
  rcases hc with hc | hc
  · exact h.2.2 hc
  · simp only [partC, onF, Bool.and_eq_true, decide_eq_true_eq] at hc
    exact hc.1
theorem partC_on {fl : Fl} {n : Int} (h : partC fl n = true) : 0 ≤ fl.1 := by
  simp only [partC, onF, Bool.and_eq_true, decide_eq_true_eq] at h
  exact h.1
theorem svd_app (jo : List Int) (a b : List Rp) : svd jo (a ++ b) = svd jo a ++ svd jo b := by simp [svd]
theorem svd_neg (jo : List Int) (c e : Int) : svd jo [(c, -1, e, ())] = [] := by simp [svd]
/-- a socket is shut -/
theorem Ld.shut {s : Int} (h : Ld tol shu jo sv ca so cf id le wa fl cl re sh cut (s :: lo)) : Ld tol shu jo sv ca so cf id le wa fl cl re (sh ++ [s]) cut lo := by
  have hp : (id.map skOf ++ (le ++ (lo ++ (shu ++ (sh ++ [s]))))).Perm (id.map skOf ++ (le ++ (s :: lo ++ (shu ++ sh)))) := by
    refine List.Perm.append_left _ (List.Perm.append_left _ ?_)
    rw [← List.append_assoc, ← List.append_assoc, List.cons_append, ← List.append_assoc]
    exact (List.perm_append_comm (l₁ := lo ++ shu ++ sh) (l₂ := [s])).trans (by rfl)
  refine ⟨h.ck, h.rN, h.rr, h.rs, hp.nodup_iff.2 h.sN, fun x hx => h.sr x (hp.mem_iff.1 hx), ?_, h.wr, h.jj, h.jr, h.jN, h.cu⟩
  have := h.sl
  simp only [List.length_append, List.length_cons, List.length_nil] at this ⊢
  omega
/-- a caller is told of an error, or that it is done -/
theorem Ld.tell {c e : Int} (h : Ld tol shu jo sv ca so cf id le wa fl cl re sh cut lo) (h1 : 1 ≤ c) (h2 : c ≤ ca) (h3 : c ∉ tol) (h4 : c ∉ re.map fun r => r.1) (h5 : c ∉ wa) : Ld tol shu jo sv ca so cf id le wa fl cl (re ++ [(c, -1, e, ())]) sh cut lo := by
  refine ⟨h.ck, ?_, ?_, ?_, h.sN, h.sr, h.sl, ?_, ?_, h.jr, h.jN, h.cu⟩
  · rw [List.map_append, List.nodup_append]
    refine ⟨h.rN, by simp, fun x hx y hy => ?_⟩
    simp only [List.map_cons, List.map_nil, List.mem_singleton] at hy
    subst hy
    intro e
    subst e
    exact h4 hx
  · intro r hr
    rcases List.mem_append.1 hr with hr | hr
    · exact h.rr r hr
    · obtain rfl := List.mem_singleton.1 hr
      exact ⟨h1, h2, h3⟩
  · intro r hr h0
    rcases List.mem_append.1 hr with hr | hr
    · exact h.rs r hr h0
    · obtain rfl := List.mem_singleton.1 hr
      exact absurd (show (0 : Int) ≤ -1 from h0) (by decide)
  · intro x hx
    obtain ⟨a, b, d, f⟩ := h.wr x hx
    refine ⟨a, b, d, fun hm => ?_⟩
    rw [List.map_append] at hm
    rcases List.mem_append.1 hm with hm | hm
    · exact f hm
    · simp only [List.map_cons, List.map_nil, List.mem_singleton] at hm
      subst hm
      exact h5 hx
  · rw [svd_app, svd_neg, List.append_nil]
    exact h.jj
/-- the first one who waits is served -/
theorem Ld.serve {s c : Int} {ws : List Int} (h : Ld tol shu jo sv ca so cf id le (c :: ws) fl cl re sh false (s :: lo)) (hs : 0 ≤ s) : Ld tol shu jo sv ca so cf id (le ++ [s]) ws (partF fl 1) cl (re ++ [(c, s, 0, ())]) sh (partC fl 1) lo := by
  have hck := h.ck
  have hid : id = [] := hck.x.resolve_left (by simp)
  have hcl : cl = false := by
    cases hc : cl with
    | false => rfl
    | true => exact absurd (hck.c hc).2.2 (by simp)
  obtain ⟨w1, w2, w3, w4⟩ := h.wr c (List.mem_cons_self ..)
  have hcj : c ∈ jo := h.jj.subset (List.mem_append_right _ (List.mem_append_right _ (List.mem_cons_self ..)))
  have hn := hck.w
  rw [List.nodup_cons] at hn
  have hp : (id.map skOf ++ (le ++ [s] ++ (lo ++ (shu ++ sh)))) = (id.map skOf ++ (le ++ (s :: lo ++ (shu ++ sh)))) := by simp
  have hsn := h.sN
  refine ⟨⟨flB_part hck.f, ?_, hck.i, ?_, hn.2, .inr hid, fun hc => by rw [hcl] at hc; cases hc⟩, ?_, ?_, ?_, by rw [hp]; exact h.sN, by rw [hp]; exact h.sr, ?_, ?_, ?_, h.jr, h.jN, fun hc => partC_on (fl := fl) hc⟩
  · have := hck.r
    simp only [partF, partN, List.length_cons] at this ⊢
    omega
  · rw [← hp, ← List.append_assoc] at hsn
    exact (List.nodup_append.1 hsn).1
  · rw [List.map_append, List.nodup_append]
    refine ⟨h.rN, by simp, fun x hx y hy => ?_⟩
    simp only [List.map_cons, List.map_nil, List.mem_singleton] at hy
    subst hy
    intro e
    subst e
    exact w4 hx
  · intro r hr
    rcases List.mem_append.1 hr with hr | hr
    · exact h.rr r hr
    · obtain rfl := List.mem_singleton.1 hr
      exact ⟨w1, w2, w3⟩
  · intro r hr h0
    rcases List.mem_append.1 hr with hr | hr
    · exact h.rs r hr h0
    · obtain rfl := List.mem_singleton.1 hr
      refine ⟨rfl, fun hm => ?_⟩
      have h1 := (List.nodup_append.1 (List.nodup_append.1 hsn).2.1).2.1
      rw [List.cons_append, List.nodup_cons] at h1
      exact h1.1 (List.mem_append_right _ (List.mem_append_left _ hm))
  · have := h.sl
    simp only [List.length_append, List.length_cons, List.length_nil] at this ⊢
    omega
  · intro x hx
    obtain ⟨a, b, d, f⟩ := h.wr x (List.mem_cons_of_mem _ hx)
    refine ⟨a, b, d, fun hm => ?_⟩
    rw [List.map_append] at hm
    rcases List.mem_append.1 hm with hm | hm
    · exact f hm
    · simp only [List.map_cons, List.map_nil, List.mem_singleton] at hm
      subst hm
      exact hn.1 hx
  · have e : svd jo [(c, s, 0, ())] = [c] := by
      have : hasN jo c = true := hasN_iff.2 hcj
      simp [svd, hs, this]
    rw [svd_app, e]
    have := h.jj
    simpa using this
/-- a socket is filed -/
theorem Ld.file {s now : Int} {sc : List Sc} (h : Ld tol shu jo sv ca so cf id le wa fl cl re sh false [s]) (hcl : cl = false) (hs : 0 ≤ s) {d : Dc} (hd : d = fileD (mkB cf id le wa fl sc cl) re sh s now) :
    ∃ id' le' wa' fl' re' sh' cut', d = (mkB cf id' le' wa' fl' sc cl, re', sh', cut') ∧ Ld tol shu jo sv ca so cf id' le' wa' fl' cl re' sh' cut' [] ∧ wa'.Sublist wa ∧ fl'.1 = fl.1 := by
  subst hd
  cases wa with
  | cons c ws => exact ⟨_, _, _, _, _, _, _, rfl, h.serve hs, List.sublist_cons_self _ _, rfl⟩
  | nil =>
    by_cases hi : (id.length : Int) < cf.2.1
    · have hp : ((id ++ [(s, now, ())]).map skOf ++ (le ++ ([] ++ (shu ++ sh)))).Perm (id.map skOf ++ (le ++ ([s] ++ (shu ++ sh)))) := by
        rw [List.map_append, List.append_assoc]
        refine List.Perm.append_left _ ?_
        show ([s] ++ (le ++ ([] ++ (shu ++ sh)))).Perm _
        rw [List.nil_append, ← List.append_assoc, ← List.append_assoc le]
        exact List.Perm.append_right _ List.perm_append_comm
      refine ⟨id ++ [(s, now, ())], le, [], fl, re, sh, false, ?_, ⟨⟨h.ck.f, h.ck.r, ?_, ?_, h.ck.w, .inl rfl, fun hc => by rw [hcl] at hc; cases hc⟩, h.rN, h.rr, h.rs, hp.nodup_iff.2 h.sN, fun x hx => h.sr x (hp.mem_iff.1 hx), ?_, h.wr, h.jj, h.jr, h.jN, h.cu⟩, List.Sublist.refl _, rfl⟩
      · unfold fileD; dsimp only; rw [decide_eq_true hi]; rfl
      · rw [List.length_append]; simp only [List.length_cons, List.length_nil]; omega
      · have := hp.nodup_iff.2 h.sN
        rw [← List.append_assoc] at this
        exact (List.nodup_append.1 this).1
      · have := h.sl
        simp only [List.length_append, List.length_cons, List.length_nil] at this ⊢
        omega
    · refine ⟨id, le, [], fl, re, sh ++ [s], false, ?_, h.shut, List.Sublist.refl _, rfl⟩
      unfold fileD; dsimp only; rw [decide_eq_false hi]; rfl
/-- a socket is leased to one who comes -/
theorem Ld.lease {s c : Int} (h : Ld tol shu jo sv ca so cf id le wa fl cl re sh cut (s :: lo)) (hcl : cl = false) (h1 : 1 ≤ c) (h2 : c ≤ ca) (h3 : c ∉ tol) (h4 : c ∉ re.map fun r => r.1) (h5 : c ∉ wa) (h6 : c ∉ jo) : Ld tol shu jo sv ca so cf id (le ++ [s]) wa fl cl (re ++ [(c, s, 0, ())]) sh cut lo := by
  have hck := h.ck
  have hp : (id.map skOf ++ (le ++ [s] ++ (lo ++ (shu ++ sh)))) = (id.map skOf ++ (le ++ (s :: lo ++ (shu ++ sh)))) := by simp
  have hsn := h.sN
  refine ⟨⟨hck.f, hck.r, hck.i, ?_, hck.w, hck.x, fun hc => by rw [hcl] at hc; cases hc⟩, ?_, ?_, ?_, by rw [hp]; exact h.sN, by rw [hp]; exact h.sr, ?_, ?_, ?_, h.jr, h.jN, h.cu⟩
  · rw [← hp, ← List.append_assoc] at hsn
    exact (List.nodup_append.1 hsn).1
  · rw [List.map_append, List.nodup_append]
    refine ⟨h.rN, by simp, fun x hx y hy => ?_⟩
    simp only [List.map_cons, List.map_nil, List.mem_singleton] at hy
    subst hy
    intro e
    subst e
    exact h4 hx
  · intro r hr
    rcases List.mem_append.1 hr with hr | hr
    · exact h.rr r hr
    · obtain rfl := List.mem_singleton.1 hr
      exact ⟨h1, h2, h3⟩
  · intro r hr h0
    rcases List.mem_append.1 hr with hr | hr
    · exact h.rs r hr h0
    · obtain rfl := List.mem_singleton.1 hr
      refine ⟨rfl, fun hm => ?_⟩
      have h1 := (List.nodup_append.1 (List.nodup_append.1 hsn).2.1).2.1
      rw [List.cons_append, List.nodup_cons] at h1
      exact h1.1 (List.mem_append_right _ (List.mem_append_left _ hm))
  · have := h.sl
    simp only [List.length_append, List.length_cons, List.length_nil] at this ⊢
    omega
  · intro x hx
    obtain ⟨a, b, d, f⟩ := h.wr x hx
    refine ⟨a, b, d, fun hm => ?_⟩
    rw [List.map_append] at hm
    rcases List.mem_append.1 hm with hm | hm
    · exact f hm
    · simp only [List.map_cons, List.map_nil, List.mem_singleton] at hm
      subst hm
      exact h5 hx
  · have e : svd jo [(c, s, 0, ())] = [] := by
      have : hasN jo c = false := by
        cases hh : hasN jo c with
        | false => rfl
        | true => exact absurd (hasN_iff.1 hh) h6
      simp [svd, this]
    rw [svd_app, e, List.append_nil]
    exact h.jj
/-- the idle ones change -/
theorem Ld.idle {id' : List Rs} {lo' sh' : List Int} (h : Ld tol shu jo sv ca so cf id le wa fl cl re sh cut lo) (hp : (id'.map skOf ++ (le ++ (lo' ++ (shu ++ sh')))).Perm (id.map skOf ++ (le ++ (lo ++ (shu ++ sh))))) (hl : id'.length ≤ id.length) : Ld tol shu jo sv ca so cf id' le wa fl cl re sh' cut lo' := by
  have hck := h.ck
  have hn := hp.nodup_iff.2 h.sN
  have h0 : id = [] → id' = [] := fun e => List.length_eq_zero_iff.1 (by rw [e] at hl; simpa using hl)
  refine ⟨⟨hck.f, hck.r, by have := hck.i; omega, ?_, hck.w, hck.x.imp (fun z => z) h0, fun hc => ⟨h0 (hck.c hc).1, (hck.c hc).2⟩⟩, h.rN, h.rr, h.rs, hn, fun x hx => h.sr x (hp.mem_iff.1 hx), ?_, h.wr, h.jj, h.jr, h.jN, h.cu⟩
  · rw [← List.append_assoc] at hn
    exact (List.nodup_append.1 hn).1
  · have h1 := hp.length_eq
    have h2 := h.sl
    simp only [List.length_append, List.length_map] at h1
    omega
theorem top_perm (lo now : Int) (dead : List Int) (l : List Rs) : ((topR lo now dead l).map skOf ++ ((if topK lo now dead l = true then [topS lo now dead l] else []) ++ topO lo now dead l)).Perm (l.map skOf) := by
  have h1 : l = topQ lo now dead l ++ (l.reverse.takeWhile (spent lo now dead)).reverse := by
    have h := List.takeWhile_append_dropWhile (p := spent lo now dead) (l := l.reverse)
    have h2 := congrArg List.reverse h
    rw [List.reverse_append, List.reverse_reverse] at h2
    exact h2.symm
  have h3 : (l.map skOf).Perm ((topQ lo now dead l).map skOf ++ topO lo now dead l) := by
    have e : l.map skOf = (topQ lo now dead l).map skOf ++ (l.reverse.takeWhile (spent lo now dead)).reverse.map skOf := by
      rw [← List.map_append, ← h1]
    rw [e, topO, List.map_reverse]
    exact List.Perm.append_left _ (List.reverse_perm _)
  refine List.Perm.trans ?_ h3.symm
  rw [← List.append_assoc]
  refine List.Perm.append_right _ ?_
  rw [topR, topK, topS]
  rcases List.eq_nil_or_concat (topQ lo now dead l) with e | ⟨q, r, e⟩
  · rw [e]; simp
  · rw [e]; simp [skOf]
theorem top_len (lo now : Int) (dead : List Int) (l : List Rs) : (topR lo now dead l).length ≤ l.length := by
  have h := (top_perm lo now dead l).length_eq
  simp only [List.length_append, List.length_map] at h
  omega
theorem top_no {lo now : Int} {dead : List Int} {l : List Rs} (h : topK lo now dead l = false) : topR lo now dead l = [] := by
  rw [topK, decide_eq_false_iff_not, ne_eq, Decidable.not_not] at h
  rw [topR, h]; rfl
theorem sft_perm (lo now : Int) (dead : List Int) (l : List Rs) : ((sftG lo now dead l).map skOf ++ sftO lo now dead l).Perm (l.map skOf) := by
  rw [sftG, sftO, ← List.map_append]
  refine List.Perm.map _ ?_
  exact (List.perm_append_comm).trans (List.filter_append_perm (spent lo now dead) l)
/-- one waits -/
theorem Ld.join {c : Int} (h : Ld tol shu jo sv ca so cf [] le wa fl cl [] sh cut lo) (hcl : cl = false) (h1 : 1 ≤ c) (h2 : c ≤ ca) (h3 : c ∉ tol) (h6 : c ∉ jo) : Ld tol shu (jo ++ [c]) sv ca so cf [] le (wa ++ [c]) (joinF fl) cl [] sh cut lo := by
  have hck := h.ck
  have hw : c ∉ wa := fun hm => h6 (h.jj.subset (List.mem_append_right _ (List.mem_append_right _ hm)))
  have hf := flB_iff.1 hck.f
  refine ⟨⟨?_, ?_, hck.i, hck.o, ?_, .inr rfl, fun hc => by rw [hcl] at hc; cases hc⟩, h.rN, h.rr, h.rs, h.sN, h.sr, h.sl, ?_, ?_, ?_, ?_, h.cu⟩
  · rw [flB_iff]
    exact ⟨hf.1, by simp only [joinF]; omega, hf.2.2⟩
  · have := hck.r
    simp only [joinF, List.length_append, List.length_cons, List.length_nil]
    omega
  · rw [List.nodup_append]
    exact ⟨hck.w, by simp, fun x hx y hy e => by rw [List.mem_singleton] at hy; subst hy; subst e; exact hw hx⟩
  · intro x hx
    rcases List.mem_append.1 hx with hx | hx
    · exact h.wr x hx
    · obtain rfl := List.mem_singleton.1 hx
      exact ⟨h1, h2, h3, by simp⟩
  · have := h.jj
    have e0 : svd (jo ++ [c]) [] = [] := rfl
    have e1 : svd jo [] = [] := rfl
    rw [e0, List.nil_append]
    rw [e1, List.nil_append] at this
    rw [← List.append_assoc]
    exact List.Sublist.append this (List.Sublist.refl _)
  · intro x hx
    rcases List.mem_append.1 hx with hx | hx
    · exact h.jr x hx
    · obtain rfl := List.mem_singleton.1 hx
      exact ⟨h1, h2⟩
  · rw [List.nodup_append]
    exact ⟨h.jN, by simp, fun x hx y hy e => by rw [List.mem_singleton] at hy; subst hy; subst e; exact h6 hx⟩
/-- more callers -/
theorem Ld.more {ca' : Int} (h : Ld tol shu jo sv ca so cf id le wa fl cl re sh cut lo) (hc : ca ≤ ca') : Ld tol shu jo sv ca' so cf id le wa fl cl re sh cut lo :=
  ⟨h.ck, h.rN, fun r hr => ⟨(h.rr r hr).1, by have := (h.rr r hr).2.1; omega, (h.rr r hr).2.2⟩, h.rs, h.sN, h.sr, h.sl, fun x hx => ⟨(h.wr x hx).1, by have := (h.wr x hx).2.1; omega, (h.wr x hx).2.2⟩, h.jj, fun x hx => ⟨(h.jr x hx).1, by have := (h.jr x hx).2; omega⟩, h.jN, h.cu⟩
/-- a new socket -/
theorem Ld.fresh (h : Ld tol shu jo sv ca so cf id le wa fl cl re sh cut []) (h0 : 0 ≤ so) : Ld tol shu jo sv ca (so + 1) cf id le wa fl cl re sh cut [so + 1] := by
  have hp : (id.map skOf ++ (le ++ ([so + 1] ++ (shu ++ sh)))).Perm ((so + 1) :: (id.map skOf ++ (le ++ ([] ++ (shu ++ sh))))) := by
    rw [List.nil_append, ← List.append_assoc, ← List.append_assoc (id.map skOf)]
    exact List.perm_middle
  refine ⟨h.ck, h.rN, h.rr, h.rs, hp.nodup_iff.2 (List.nodup_cons.2 ⟨fun hm => by have := (h.sr _ hm).2; omega, h.sN⟩), fun x hx => ?_, ?_, h.wr, h.jj, h.jr, h.jN, h.cu⟩
  · rcases List.mem_cons.1 (hp.mem_iff.1 hx) with rfl | hm
    · omega
    · have := h.sr _ hm; omega
  · have := h.sl
    simp only [List.length_append, List.length_cons, List.length_nil] at this ⊢
    omega
/-- the race has ended -/
theorem Ld.ended (h : Ld tol shu jo sv ca so cf id le wa fl cl re sh false lo) : Ld tol shu jo sv ca so cf id le wa (endF fl) cl re sh false lo := by
  have hck := h.ck
  have hf := flB_iff.1 hck.f
  refine ⟨⟨flB_iff.2 ⟨by simp [endF], by simp only [endF]; omega, fun hc => by cases hc⟩, ?_, hck.i, hck.o, hck.w, hck.x, hck.c⟩, h.rN, h.rr, h.rs, h.sN, h.sr, h.sl, h.wr, h.jj, h.jr, h.jN, fun hc => by cases hc⟩
  have := hck.r
  simp only [endF]
  omega
/-- one waits no longer -/
theorem Ld.quit {c e : Int} {wa' : List Int} (h : Ld tol shu jo sv ca so cf id le wa fl cl [] sh false lo) (hs : wa'.Sublist wa) (hl : wa'.length + 1 = wa.length) (hc : c ∈ wa) (hc' : c ∉ wa') : Ld tol shu jo sv ca so cf id le wa' (partF fl 1) cl [(c, -1, e, ())] sh (partC fl 1) lo := by
  have hck := h.ck
  obtain ⟨w1, w2, w3, w4⟩ := h.wr c hc
  refine ⟨⟨flB_part hck.f, ?_, hck.i, hck.o, hs.nodup hck.w, hck.x.imp (fun e => by rw [e] at hc; cases hc) (fun z => z), fun h' => ⟨(hck.c h').1, (hck.c h').2.1, by rw [(hck.c h').2.2] at hc; cases hc⟩⟩, by simp, ?_, ?_, h.sN, h.sr, h.sl, ?_, ?_, h.jr, h.jN, fun h' => partC_on (fl := fl) h'⟩
  · have := hck.r
    simp only [partF, partN]
    omega
  · intro r hr
    obtain rfl := List.mem_singleton.1 hr
    exact ⟨w1, w2, w3⟩
  · intro r hr h0
    obtain rfl := List.mem_singleton.1 hr
    exact absurd (show (0 : Int) ≤ -1 from h0) (by decide)
  · intro x hx
    obtain ⟨a, b, d, _⟩ := h.wr x (hs.subset hx)
    refine ⟨a, b, d, fun hm => ?_⟩
    simp only [List.map_cons, List.map_nil, List.mem_singleton] at hm
    subst hm
    exact hc' hx
  · rw [svd_neg, List.nil_append]
    have := h.jj
    have e1 : svd jo [] = [] := rfl
    rw [e1, List.nil_append] at this
    exact (List.Sublist.append (List.Sublist.refl sv) hs).trans this
/-- all who wait are told of an error -/
theorem Ld.all {e : Int} (h : Ld tol shu jo sv ca so cf id le wa fl cl [] sh false lo) : Ld tol shu jo sv ca so cf id le [] (partF fl (wa.length : Int)) cl (failL wa e) sh (partC fl (wa.length : Int)) lo := by
  have hck := h.ck
  have hm : (failL wa e).map (fun r => r.1) = wa := by rw [failL, List.map_map]; exact List.map_id _
  have hr : ∀ r ∈ failL wa e, r.1 ∈ wa ∧ r.2.1 = -1 := fun r hr => by
    obtain ⟨c, hc, rfl⟩ := List.mem_map.1 hr
    exact ⟨hc, rfl⟩
  refine ⟨⟨flB_part hck.f, ?_, hck.i, hck.o, by simp, .inl rfl, fun h' => ⟨(hck.c h').1, (hck.c h').2.1, rfl⟩⟩, by rw [hm]; exact hck.w, ?_, ?_, h.sN, h.sr, h.sl, (fun x hx => by cases hx), ?_, h.jr, h.jN, fun h' => partC_on (fl := fl) h'⟩
  · have := hck.r
    simp only [partF, partN, List.length_nil]
    omega
  · intro r hx
    obtain ⟨a, b, d, _⟩ := h.wr r.1 (hr r hx).1
    exact ⟨a, b, d⟩
  · intro r hx h0
    have := (hr r hx).2
    omega
  · have e2 : svd jo (failL wa e) = [] := by
      rw [svd, List.filter_eq_nil_iff.2, List.map_nil]
      intro r hx
      have := (hr r hx).2
      simp [this]
    rw [e2]
    have := h.jj
    have e1 : svd jo [] = [] := rfl
    rw [e1, List.nil_append] at this
    exact (List.Sublist.append (List.Sublist.refl sv) (List.nil_sublist wa)).trans this
end
end Go.Proofs.Ytdkcgcgefgeooaa.Bk
set_option linter.all false
namespace Go.Proofs.Ytdkcgcgefgeooaa.Bk
open Go Go.Eng
set_option maxRecDepth 100000
theorem idx_of {s : Int} {l : List Int} (h : s ∈ l) : ∃ j : Nat, j < l.length ∧ idxN s l = (j : Int) ∧ l = l.take j ++ s :: l.drop (j + 1) ∧ (l.Nodup → s ∉ l.take j ++ l.drop (j + 1)) := by
  have ha : l.any (fun y => decide (y = s)) = true := List.any_eq_true.2 ⟨s, h, decide_eq_true rfl⟩
  have hj : l.findIdx (fun y => decide (y = s)) < l.length := List.findIdx_lt_length_of_exists ⟨s, h, decide_eq_true rfl⟩
  have he : l[l.findIdx (fun y => decide (y = s))] = s := by
    have := List.findIdx_getElem (p := fun y => decide (y = s)) (w := hj)
    exact of_decide_eq_true this
  have hs : l = l.take (l.findIdx (fun y => decide (y = s))) ++ s :: l.drop (l.findIdx (fun y => decide (y = s)) + 1) := by
    have h1 := (List.take_append_drop (l.findIdx (fun y => decide (y = s))) l).symm
    rw [List.drop_eq_getElem_cons hj, he] at h1
    exact h1
  refine ⟨_, hj, by rw [idxN, ha]; rfl, hs, fun hn hm => ?_⟩
  rw [hs] at hn
  have h2 := (List.perm_middle (a := s) (l₁ := l.take (l.findIdx (fun y => decide (y = s)))) (l₂ := l.drop (l.findIdx (fun y => decide (y = s)) + 1))).nodup_iff.1 hn
  exact (List.nodup_cons.1 h2).1 hm
theorem delL_eq (l : List Int) (j : Nat) : delL l (j : Int) ((j : Int) + 1) = l.take j ++ l.drop (j + 1) := by
  have e1 : ((j : Int) + 1).toNat = j + 1 := by omega
  rw [delL, e1, Int.toNat_natCast]
theorem nth_lt (n : Int) {m : Nat} (h : 0 < m) (hm : m ≤ 1000000) : (nthI n (m : Int)).toNat < m := by
  have hL : (0 : Int) < (m : Int) := by omega
  have t1 := Int.tmod_lt_of_pos n hL
  have t2 := Int.lt_tmod_of_pos n hL
  rw [nthI, wrap_id (by omega) (by omega)]
  have t3 := Int.tmod_lt_of_pos (Int.tmod n (m : Int) + (m : Int)) hL
  have t4 : 0 ≤ Int.tmod (Int.tmod n (m : Int) + (m : Int)) (m : Int) := Int.tmod_nonneg _ (by omega)
  omega
theorem getD_mem {l : List Int} {k : Nat} (h : k < l.length) : l.getD k 0 ∈ l := by
  rw [List.getD_eq_getElem?_getD, List.getElem?_eq_getElem h]
  exact List.getElem_mem h
theorem new_none {wa wa' : List Int} (h : ∀ c ∈ wa', c ∈ wa) : wa'.filter (fun c => !hasN wa c) = [] := by
  rw [List.filter_eq_nil_iff]
  intro c hc
  rw [hasN_iff.2 (h c hc)]
  decide
theorem inc_id {n : Int} (h0 : 0 ≤ n) (h1 : n ≤ 1000) : inc n = n + 1 := wrap_id (by omega) (by omega)
section
variable {tol shu jo sv : List Int} {ca so : Int} {cf : Cf} {id : List Rs} {le wa : List Int} {fl : Fl} {cl : Bool}
/-- what an act comes to -/
def Does (tol shu jo sv : List Int) (ca so : Int) (cf : Cf) (wa : List Int) (g : Gd) : Prop :=
  ∃ (id' : List Rs) (le' wa' : List Int) (fl' : Fl) (cl' : Bool) (re : List Rp) (sh : List Int) (cut : Bool) (ca' so' : Int) (jo' : List Int),
    g = (mkB cf id' le' wa' fl' [] cl', ca', so', (re, sh, endsB (mkB cf id' le' wa' fl' [] cl'), cut, ()), true) ∧ Ld tol shu jo' sv ca' so' cf id' le' wa' fl' cl' re sh cut [] ∧
    jo' = jo ++ wa'.filter (fun c => !hasN wa c) ∧ ca ≤ ca' ∧ ca' ≤ ca + 1 ∧ so ≤ so' ∧ so' ≤ so + 1
theorem Does.mk0 {id' : List Rs} {le' wa' : List Int} {fl' : Fl} {cl' : Bool} {re : List Rp} {sh : List Int} {cut : Bool} {ca' so' : Int} {d : Dc} (e : d = (mkB cf id' le' wa' fl' [] cl', re, sh, cut)) (h : Ld tol shu jo sv ca' so' cf id' le' wa' fl' cl' re sh cut []) (hw : ∀ c ∈ wa', c ∈ wa) (h1 : ca ≤ ca') (h2 : ca' ≤ ca + 1) (h3 : so ≤ so') (h4 : so' ≤ so + 1) : Does tol shu jo sv ca so cf wa (outG d ca' so') := by
  subst e
  exact ⟨id', le', wa', fl', cl', re, sh, cut, ca', so', jo, rfl, h, by rw [new_none hw, List.append_nil], h1, h2, h3, h4⟩
theorem ask_ok (h : Ld tol shu jo sv ca so cf id le wa fl cl [] [] false []) (hca : 0 ≤ ca) (htol : ∀ c ∈ tol, c ≤ ca) (now : Int) (dead : List Int) : Does tol shu jo sv ca so cf wa (outG (askD (mkB cf id le wa fl [] cl) (ca + 1) now dead) (ca + 1) so) := by
  have hm := h.more (ca' := ca + 1) (by omega)
  have n3 : ca + 1 ∉ tol := fun hx => by have := htol _ hx; omega
  have n5 : ca + 1 ∉ wa := fun hx => by have := (h.wr _ hx).2.1; omega
  have n6 : ca + 1 ∉ jo := fun hx => by have := (h.jr _ hx).2; omega
  cases hc : cl with
  | true =>
    subst hc
    exact Does.mk0 (d := askD _ _ _ _) rfl (hm.tell (c := ca + 1) (e := 240) (by omega) (by omega) n3 (by simp) n5) (fun c hc => hc) (by omega) (by omega) (by omega) (by omega)
  | false =>
    subst hc
    have hp := top_perm cf.2.2.2.2.2.1 now dead id
    have hl := top_len cf.2.2.2.2.2.1 now dead id
    cases hk : topK cf.2.2.2.2.2.1 now dead id with
    | true =>
      rw [if_pos hk] at hp
      have h1 := hm.idle (id' := topR cf.2.2.2.2.2.1 now dead id) (lo' := [topS cf.2.2.2.2.2.1 now dead id]) (sh' := topO cf.2.2.2.2.2.1 now dead id) (List.perm_iff_count.2 fun a => by
        have := hp.count_eq a
        simp only [List.count_append, List.count_nil] at this ⊢
        omega) hl
      refine Does.mk0 (d := askD _ _ _ _) ?_ (h1.lease (c := ca + 1) rfl (by omega) (by omega) n3 (by simp) n5 n6) (fun c hc => hc) (by omega) (by omega) (by omega) (by omega)
      unfold askD
      dsimp only
      rw [hk]
      rfl
    | false =>
      rw [if_neg (by rw [hk]; decide)] at hp
      have h1 := hm.idle (id' := topR cf.2.2.2.2.2.1 now dead id) (lo' := []) (sh' := topO cf.2.2.2.2.2.1 now dead id) (List.perm_iff_count.2 fun a => by
        have := hp.count_eq a
        simp only [List.count_append, List.count_nil] at this ⊢
        omega) hl
      by_cases hw : cf.2.2.1 ≤ (wa.length : Int)
      · refine Does.mk0 (d := askD _ _ _ _) ?_ (h1.tell (c := ca + 1) (e := 230) (by omega) (by omega) n3 (by simp) n5) (fun c hc => hc) (by omega) (by omega) (by omega) (by omega)
        unfold askD
        dsimp only
        rw [hk, decide_eq_true hw]
        rfl
      · have h0 := top_no hk
        rw [h0] at h1
        refine ⟨[], le, wa ++ [ca + 1], joinF fl, false, [], topO cf.2.2.2.2.2.1 now dead id, false, ca + 1, so, jo ++ [ca + 1], ?_, h1.join rfl (by omega) (by omega) n3 n6, ?_, by omega, by omega, by omega, by omega⟩
        · have e : askD (mkB cf id le wa fl [] false) (ca + 1) now dead = (mkB cf [] le (wa ++ [ca + 1]) (joinF fl) [] false, [], topO cf.2.2.2.2.2.1 now dead id, false) := by
            unfold askD
            dsimp only
            rw [hk, decide_eq_false hw, h0]
            rfl
          rw [e]; rfl
        · rw [List.filter_append, new_none (fun c hc => hc), List.nil_append]
          have : hasN wa (ca + 1) = false := by
            cases hh : hasN wa (ca + 1) with
            | false => rfl
            | true => exact absurd (hasN_iff.1 hh) n5
          simp [this]
theorem back_ok (h : Ld tol shu jo sv ca so cf id le wa fl cl [] [] false []) (hca : 0 ≤ ca) (htol : ∀ c ∈ tol, c ≤ ca) {s : Int} (hs : s ∈ le) (keep : Bool) (now : Int) (dead : List Int) : Does tol shu jo sv ca so cf wa (outG (backD (mkB cf id le wa fl [] cl) (ca + 1) s keep now dead) (ca + 1) so) := by
  have hm := h.more (ca' := ca + 1) (by omega)
  have n3 : ca + 1 ∉ tol := fun hx => by have := htol _ hx; omega
  have n5 : ca + 1 ∉ wa := fun hx => by have := (h.wr _ hx).2.1; omega
  cases hc : cl with
  | true =>
    subst hc
    exact Does.mk0 (d := backD _ _ _ _ _ _) rfl (hm.tell (c := ca + 1) (e := 240) (by omega) (by omega) n3 (by simp) n5) (fun c hc => hc) (by omega) (by omega) (by omega) (by omega)
  | false =>
    subst hc
    obtain ⟨j, hj, hix, hsp, _⟩ := idx_of hs
    have hdl := delL_eq le j
    have hs1 : 1 ≤ s := (h.sr s (List.mem_append_right _ (List.mem_append_left _ hs))).1
    have h1 : Ld tol shu jo sv (ca + 1) so cf id (le.take j ++ le.drop (j + 1)) wa fl false [] [] false [s] := by
      have hp : (id.map skOf ++ ((le.take j ++ le.drop (j + 1)) ++ ([s] ++ (shu ++ [])))).Perm (id.map skOf ++ (le ++ ([] ++ (shu ++ [])))) := List.perm_iff_count.2 fun a => by
        have := congrArg (List.count a) hsp
        simp only [List.count_append, List.count_cons, List.count_nil] at this ⊢
        omega
      have hn := hp.nodup_iff.2 hm.sN
      refine ⟨⟨hm.ck.f, hm.ck.r, hm.ck.i, ?_, hm.ck.w, hm.ck.x, fun hc => by cases hc⟩, hm.rN, hm.rr, hm.rs, hn, fun x hx => hm.sr x (hp.mem_iff.1 hx), ?_, hm.wr, hm.jj, hm.jr, hm.jN, hm.cu⟩
      · rw [← List.append_assoc] at hn
        exact (List.nodup_append.1 hn).1
      · have q1 := hp.length_eq
        have q2 := hm.sl
        simp only [List.length_append, List.length_map] at q1 q2 ⊢
        omega
    have h2 := h1.tell (c := ca + 1) (e := 0) (by omega) (by omega) n3 (by simp) n5
    have e0 : backD (mkB cf id le wa fl [] false) (ca + 1) s keep now dead = bif keep && !hasN dead s then fileD (mkB cf id (le.take j ++ le.drop (j + 1)) wa fl [] false) [(ca + 1, -1, 0, ())] [] s now else (mkB cf id (le.take j ++ le.drop (j + 1)) wa fl [] false, [(ca + 1, -1, 0, ())], [s], false) := by
      unfold backD
      dsimp only
      rw [hix, decide_eq_false (show ¬ (j : Int) < 0 by omega), hdl]
      rfl
    cases hk : (keep && !hasN dead s) with
    | true =>
      rw [hk] at e0
      obtain ⟨id', le', wa', fl', re', sh', cut', hd, hL, hsub, _⟩ := h2.file (sc := []) rfl (by omega) (d := fileD _ _ _ _ _) rfl
      exact Does.mk0 (e0.trans hd) hL (fun c hc => hsub.subset hc) (by omega) (by omega) (by omega) (by omega)
    | false =>
      rw [hk] at e0
      exact Does.mk0 e0 h2.shut (fun c hc => hc) (by omega) (by omega) (by omega) (by omega)
theorem quit_ok (h : Ld tol shu jo sv ca so cf id le wa fl cl [] [] false []) {c : Int} (hc : c ∈ wa) : Does tol shu jo sv ca so cf wa (quitB (mkB cf id le wa fl [] cl) c, ca, so, quitT (mkB cf id le wa fl [] cl) c, true) := by
  obtain ⟨j, hj, hix, hsp, hno⟩ := idx_of hc
  have hdl := delL_eq wa j
  have hsub : (wa.take j ++ wa.drop (j + 1)).Sublist wa := by
    conv => rhs; rw [hsp]
    exact List.Sublist.append (List.Sublist.refl _) (List.sublist_cons_self _ _)
  have hqB : quitB (mkB cf id le wa fl [] cl) c = mkB cf id le (wa.take j ++ wa.drop (j + 1)) (partF fl 1) [] cl := by
    unfold quitB; dsimp only; rw [hix, decide_eq_true (show (0 : Int) ≤ (j : Int) by omega), hdl]; rfl
  have hqT : quitT (mkB cf id le wa fl [] cl) c = ([(c, -1, 191, ())], [], endsB (mkB cf id le (wa.take j ++ wa.drop (j + 1)) (partF fl 1) [] cl), partC fl 1, ()) := by
    unfold quitT; rw [hqB]; dsimp only; rw [hix, decide_eq_true (show (0 : Int) ≤ (j : Int) by omega)]; rfl
  rw [hqB, hqT]
  refine ⟨id, le, _, _, cl, _, [], _, ca, so, jo, rfl, h.quit (c := c) (e := 191) hsub ?_ hc (hno h.ck.w), by rw [new_none (fun c hc => hsub.subset hc), List.append_nil], by omega, by omega, by omega, by omega⟩
  rw [List.length_append, List.length_take, List.length_drop]
  omega
theorem told_ok (h : Ld tol shu jo sv ca so cf id le wa fl cl [] [] false []) (hso : 0 ≤ so) (now : Int) (dead : List Int) : Does tol shu jo sv ca so cf wa (outG (toldD (mkB cf id le wa fl [] cl) (so + 1) 0 now dead) ca (so + 1)) := by
  have h1 := (h.fresh hso).ended
  have en : endB (mkB cf id le wa fl [] cl) = mkB cf id le wa (endF fl) [] cl := rfl
  cases hd : (cl || hasN dead (so + 1)) with
  | true =>
    refine Does.mk0 (d := toldD _ _ _ _ _) ?_ h1.shut (fun c hc => hc) (by omega) (by omega) (by omega) (by omega)
    unfold toldD
    rw [en]
    dsimp only
    rw [hd]
    rfl
  | false =>
    rw [Bool.or_eq_false_iff] at hd
    obtain ⟨id', le', wa', fl', re', sh', cut', hd', hL, hsub, _⟩ := h1.file (now := now) (sc := []) hd.1 (by omega) (d := fileD _ _ _ _ _) rfl
    refine Does.mk0 (d := toldD _ _ _ _ _) (Eq.trans ?_ hd') hL (fun c hc => hsub.subset hc) (by omega) (by omega) (by omega) (by omega)
    unfold toldD
    rw [en]
    dsimp only
    rw [hd.1, hd.2]
    rfl
theorem lost_ok (h : Ld tol shu jo sv ca so cf id le wa fl cl [] [] false []) (e : Int) (he : e ≠ 0) (now : Int) (dead : List Int) : Does tol shu jo sv ca so cf wa (outG (toldD (mkB cf id le wa fl [] cl) (-1) e now dead) ca so) := by
  have h1 := h.ended
  have en : endB (mkB cf id le wa fl [] cl) = mkB cf id le wa (endF fl) [] cl := rfl
  by_cases h2 : e ≠ 191
  · refine Does.mk0 (d := toldD _ _ _ _ _) ?_ (h1.all (e := e)) (fun c hc => by cases hc) (by omega) (by omega) (by omega) (by omega)
    unfold toldD
    rw [en, decide_eq_false he, decide_eq_true h2]
    rfl
  · refine Does.mk0 (d := toldD _ _ _ _ _) ?_ h1 (fun c hc => hc) (by omega) (by omega) (by omega) (by omega)
    unfold toldD
    rw [en, decide_eq_false he, decide_eq_false h2]
    rfl
theorem old_ok (h : Ld tol shu jo sv ca so cf id le wa fl cl [] [] false []) (now : Int) (dead : List Int) : Does tol shu jo sv ca so cf wa (outG (oldD (mkB cf id le wa fl [] cl) now dead) ca so) := by
  have hp := sft_perm cf.2.2.2.2.2.1 now dead id
  have h1 := h.idle (id' := sftG cf.2.2.2.2.2.1 now dead id) (lo' := []) (sh' := sftO cf.2.2.2.2.2.1 now dead id) (List.perm_iff_count.2 fun a => by
    have := hp.count_eq a
    simp only [List.count_append, List.count_nil] at this ⊢
    omega) (List.length_filter_le _ _)
  exact Does.mk0 (d := oldD _ _ _) rfl h1 (fun c hc => hc) (by omega) (by omega) (by omega) (by omega)
theorem close_ok (h : Ld tol shu jo sv ca so cf id le wa fl cl [] [] false []) (hca : 0 ≤ ca) (htol : ∀ c ∈ tol, c ≤ ca) : Does tol shu jo sv ca so cf wa (outG (closeD (mkB cf id le wa fl [] cl) (ca + 1)) (ca + 1) so) := by
  have hm := h.more (ca' := ca + 1) (by omega)
  have n3 : ca + 1 ∉ tol := fun hx => by have := htol _ hx; omega
  have n5 : ca + 1 ∉ wa := fun hx => by have := (h.wr _ hx).2.1; omega
  cases hc : cl with
  | true =>
    subst hc
    exact Does.mk0 (d := closeD _ _) rfl (hm.tell (c := ca + 1) (e := 240) (by omega) (by omega) n3 (by simp) n5) (fun c hc => hc) (by omega) (by omega) (by omega) (by omega)
  | false =>
    subst hc
    have h1 := hm.all (e := 240)
    have hf : (failL wa 240).map (fun r => r.1) = wa := by rw [failL, List.map_map]; exact List.map_id _
    have h2 := h1.tell (c := ca + 1) (e := 0) (by omega) (by omega) n3 (by rw [hf]; exact n5) (by simp)
    have hp : (([] : List Rs).map skOf ++ (([] : List Int) ++ (([] : List Int) ++ (shu ++ (id.map skOf ++ le))))).Perm (id.map skOf ++ (le ++ ([] ++ (shu ++ [])))) := List.perm_iff_count.2 fun a => by
      simp only [List.count_append, List.count_nil, List.map_nil]
      omega
    refine Does.mk0 (d := closeD _ _) rfl ⟨⟨h2.ck.f, h2.ck.r, by have := h2.ck.i; simp; omega, by simp, by simp, .inl rfl, fun _ => ⟨rfl, rfl, rfl⟩⟩, h2.rN, h2.rr, h2.rs, hp.nodup_iff.2 h2.sN, fun x hx => h2.sr x (hp.mem_iff.1 hx), ?_, fun c hc => (by cases hc), h2.jj, h2.jr, h2.jN, h2.cu⟩ (fun c hc => (by cases hc)) (by omega) (by omega) (by omega) (by omega)
    have q1 := hp.length_eq
    have q2 := h2.sl
    simp only [List.length_append, List.length_map, List.length_nil] at q1 q2 ⊢
    have e : (ownsL (mkB cf id le wa fl [] false)).length = id.length + le.length := owns_len' ..
    omega
theorem does_ok (h : Ld tol shu jo sv ca so cf id le wa fl cl [] [] false []) (hca : 0 ≤ ca ∧ ca ≤ 1000) (hso : 0 ≤ so ∧ so ≤ 1000) (htol : ∀ c ∈ tol, c ≤ ca) (hl : le.length ≤ 1000000 ∧ wa.length ≤ 1000000) (x : Ac) (now : Int) (dead : List Int) :
    Does tol shu jo sv ca so cf wa (doesF (mkB cf id le wa fl [] cl) now ca so dead x) ∨ doesF (mkB cf id le wa fl [] cl) now ca so dead x = (mkB cf id le wa fl [] cl, ca, so, ([], [], false, false, ()), false) := by
  unfold doesF
  rw [inc_id hca.1 hca.2, inc_id hso.1 hso.2]
  dsimp only
  split
  · exact .inl (ask_ok h hca.1 htol now dead)
  split
  · rename_i hx
    exact .inl (back_ok h hca.1 htol (getD_mem (nth_lt _ hx.2 hl.1)) _ _ _)
  split
  · rename_i hx
    exact .inl (quit_ok h (getD_mem (nth_lt _ hx.2 hl.2)))
  split
  · exact .inl (told_ok h hso.1 now dead)
  split
  · exact .inl (lost_ok h _ (by split <;> decide) now dead)
  split
  · exact .inl (old_ok h now dead)
  split
  · exact .inl (close_ok h hca.1 htol)
  · exact .inr rfl
end
end Go.Proofs.Ytdkcgcgefgeooaa.Bk
set_option linter.all false
namespace Go.Proofs.Ytdkcgcgefgeooaa.Bk
open Go Go.Eng
set_option maxRecDepth 100000
section
variable {tol shu jo sv : List Int} {ca so : Int} {cf : Cf} {id : List Rs} {le wa : List Int} {fl : Fl} {cl : Bool} {re : List Rp} {sh : List Int} {cut : Bool}
/-- a turn has been taken into account -/
theorem Ld.next {fl' : Fl} (h : Ld tol shu jo sv ca so cf id le wa fl cl re sh cut []) (hf : flB fl' = true) (hr : fl'.2.2.1 = fl.2.2.1) : Ld (tol ++ re.map fun r => r.1) (shu ++ sh) jo (sv ++ svd jo re) ca so cf id le wa fl' cl [] [] false [] := by
  have hck := h.ck
  have e : id.map skOf ++ (le ++ ([] ++ ((shu ++ sh) ++ []))) = id.map skOf ++ (le ++ ([] ++ (shu ++ sh))) := by simp
  refine ⟨⟨hf, by rw [hr]; exact hck.r, hck.i, hck.o, hck.w, hck.x, hck.c⟩, by simp, (fun r hr => by cases hr), (fun r hr => by cases hr), by rw [e]; exact h.sN, by rw [e]; exact h.sr, ?_, ?_, ?_, h.jr, h.jN, fun hc => by cases hc⟩
  · have := h.sl
    simp only [List.length_append, List.length_nil] at this ⊢
    omega
  · intro c hc
    obtain ⟨a, b, d, f⟩ := h.wr c hc
    refine ⟨a, b, fun hm => ?_, by simp⟩
    rcases List.mem_append.1 hm with hm | hm
    · exact d hm
    · exact f hm
  · have e1 : svd jo [] = [] := rfl
    rw [e1, List.nil_append, List.append_assoc]
    exact h.jj
theorem starts_iff : startsF fl = true ↔ fl.1 < 0 ∧ 0 < fl.2.2.1 := by
  simp only [startsF, onF, Bool.and_eq_true, Bool.not_eq_true', decide_eq_false_iff_not, decide_eq_true_eq]
  omega
theorem ends_eq : endsB (mkB cf id le wa fl [] cl) = (!cl && startsF fl) := rfl
/-- a race that is to start starts -/
theorem start_ok {r : Int} (hr : 0 ≤ r) (hs : endsB (mkB cf id le wa fl [] cl) = true) (hf : flB fl = true) :
    beginE fl r = 0 ∧ startB (mkB cf id le wa fl [] cl) r = mkB cf id le wa (beginF fl r) [] cl ∧ flB (beginF fl r) = true ∧ (beginF fl r).2.2.1 = fl.2.2.1 ∧ 0 ≤ (beginF fl r).1 := by
  rw [ends_eq, Bool.and_eq_true] at hs
  obtain ⟨h1, h2⟩ := starts_iff.1 hs.2
  have hon : (onF fl || decide (r < 0)) = false := by
    rw [Bool.or_eq_false_iff]
    exact ⟨decide_eq_false (by omega), decide_eq_false (by omega)⟩
  have e1 : beginE fl r = 0 := by unfold beginE; rw [hon]; rfl
  have e2 : beginF fl r = (r, false, max fl.2.2.1 0, ()) := by unfold beginF; rw [hon]; rfl
  have e3 := (flB_iff.1 hf).2.1
  refine ⟨e1, ?_, ?_, ?_, ?_⟩
  · unfold startB
    dsimp only
    rw [e1]; rfl
  · rw [e2, flB_iff]
    exact ⟨by show -1 ≤ r; omega, by show 0 ≤ max fl.2.2.1 0; omega, fun h => by cases h⟩
  · rw [e2]; show max fl.2.2.1 0 = fl.2.2.1; omega
  · rw [e2]; exact hr
/-- if one waits, a race is on, or is to start -/
theorem waits_on (h : Ld tol shu jo sv ca so cf id le wa fl cl re sh cut []) (hw : wa ≠ []) (hs : endsB (mkB cf id le wa fl [] cl) = false) : 0 ≤ fl.1 := by
  have hck := h.ck
  have hcl : cl = false := by
    cases hc : cl with
    | false => rfl
    | true => exact absurd (hck.c hc).2.2 hw
  have hp : 0 < wa.length := List.length_pos_iff.2 hw
  rw [ends_eq, hcl, Bool.not_false, Bool.true_and] at hs
  by_cases hh : 0 ≤ fl.1
  · exact hh
  · have : startsF fl = true := starts_iff.2 ⟨by omega, by have := hck.r; omega⟩
    rw [this] at hs
    cases hs
theorem start_cut (h : Ld tol shu jo sv ca so cf id le wa fl cl re sh cut []) (hs : endsB (mkB cf id le wa fl [] cl) = true) : cut = false := by
  cases hc : cut with
  | false => rfl
  | true =>
    have := h.cu hc
    rw [ends_eq, Bool.and_eq_true] at hs
    have := (starts_iff.1 hs.2).1
    omega
/-- a caller is told once -/
theorem told_once (h : Ld tol shu jo sv ca so cf id le wa fl cl re sh cut []) {k : Nat} (hk : k < re.length) : hasN (tol ++ (re.take k).map fun r => r.1) (re.getD k (Ty.zero RepT)).1 = false := by
  cases hh : hasN (tol ++ (re.take k).map fun r => r.1) (re.getD k (Ty.zero RepT)).1 with
  | false => rfl
  | true =>
    exfalso
    have hm := hasN_iff.1 hh
    have e : re.getD k (Ty.zero RepT) = re[k] := by rw [List.getD_eq_getElem?_getD, List.getElem?_eq_getElem hk]; rfl
    rw [e] at hm
    rcases List.mem_append.1 hm with hm | hm
    · exact (h.rr re[k] (List.getElem_mem hk)).2.2 hm
    · have hn := h.rN
      have e2 : re.map (fun r => r.1) = (re.take k).map (fun r => r.1) ++ (re[k].1 :: (re.drop (k + 1)).map fun r => r.1) := by
        rw [← List.map_cons (f := fun r : Rp => r.1), ← List.map_append, ← List.drop_eq_getElem_cons hk, List.take_append_drop]
      rw [e2, List.nodup_append] at hn
      exact hn.2.2 _ hm _ (List.mem_cons_self ..) rfl
theorem shut_once (h : Ld tol shu jo sv ca so cf id le wa fl cl re sh cut []) {k : Nat} (hk : k < sh.length) : hasN (shu ++ sh.take k) (sh.getD k 0) = false := by
  cases hh : hasN (shu ++ sh.take k) (sh.getD k 0) with
  | false => rfl
  | true =>
    exfalso
    have hm := hasN_iff.1 hh
    have e : sh.getD k 0 = sh[k] := by rw [List.getD_eq_getElem?_getD, List.getElem?_eq_getElem hk]; rfl
    rw [e] at hm
    have hn := (List.nodup_append.1 (List.nodup_append.1 h.sN).2.1).2.1
    rw [List.nil_append] at hn
    have e2 : shu ++ sh = (shu ++ sh.take k) ++ (sh[k] :: sh.drop (k + 1)) := by
      rw [← List.drop_eq_getElem_cons hk, List.append_assoc, List.take_append_drop]
    rw [e2, List.nodup_append] at hn
    exact hn.2.2 _ hm _ (List.mem_cons_self ..) rfl
theorem sock_ok (h : Ld tol shu jo sv ca so cf id le wa fl cl re sh cut []) {k : Nat} (hk : k < re.length) (h0 : 0 ≤ (re.getD k (Ty.zero RepT)).2.1) : (re.getD k (Ty.zero RepT)).2.2.1 = 0 ∧ hasN shu (re.getD k (Ty.zero RepT)).2.1 = false := by
  have e : re.getD k (Ty.zero RepT) = re[k] := by rw [List.getD_eq_getElem?_getD, List.getElem?_eq_getElem hk]; rfl
  rw [e] at h0 ⊢
  obtain ⟨h1, h2⟩ := h.rs re[k] (List.getElem_mem hk) h0
  refine ⟨h1, ?_⟩
  cases hh : hasN shu re[k].2.1 with
  | false => rfl
  | true => exact absurd (hasN_iff.1 hh) h2
theorem pig : ∀ (n : Nat) {l : List Int}, l.Nodup → (∀ c ∈ l, 1 ≤ c ∧ c ≤ (n : Int)) → l.length ≤ n
  | 0, l, _, hr => by
    cases l with
    | nil => exact Nat.le_refl _
    | cons c r => have := hr c (List.mem_cons_self ..); omega
  | n + 1, l, hn, hr => by
    by_cases hm : ((n + 1 : Nat) : Int) ∈ l
    · have h1 := pig n (hn.erase ((n + 1 : Nat) : Int)) (fun c hc => by
        have h2 := (hn.mem_erase_iff).1 hc
        have h3 := hr c h2.2
        have h4 := h2.1
        omega)
      rw [List.length_erase_of_mem hm] at h1
      omega
    · have h1 := pig n hn (fun c hc => by
        have h3 := hr c hc
        have h4 : c ≠ ((n + 1 : Nat) : Int) := fun e => hm (e ▸ hc)
        omega)
      omega
theorem len_range {l : List Int} {n : Int} (hn : l.Nodup) (hr : ∀ c ∈ l, 1 ≤ c ∧ c ≤ n) (h0 : 0 ≤ n) : (l.length : Int) ≤ n := by
  have := pig n.toNat hn (fun c hc => by have := hr c hc; omega)
  omega
end
theorem atN_le (se : List Int) : ∀ (l : List Int) (k : Nat), k ≤ se.length → atN se l k ≤ se.length
  | [], k, h => h
  | c :: r, k, h => by
    unfold atN
    split
    · rename_i hc; exact atN_le se r _ (by omega)
    · exact atN_le se r _ h
theorem atN_all (se : List Int) : ∀ (l : List Int) (k : Nat), (se.drop k).Sublist l → k ≤ se.length → atN se l k = se.length
  | [], k, h, hk => by
    have := List.sublist_nil.1 h
    have h2 := congrArg List.length this
    simp only [List.length_drop, List.length_nil] at h2
    unfold atN
    omega
  | c :: r, k, h, hk => by
    unfold atN
    by_cases hlt : k < se.length
    · rw [List.drop_eq_getElem_cons hlt] at h
      have hg : se.getD k 0 = se[k] := by rw [List.getD_eq_getElem?_getD, List.getElem?_eq_getElem hlt]; rfl
      by_cases hc : se[k] = c
      · rw [if_pos ⟨hlt, by rw [hg]; exact hc⟩]
        refine atN_all se r _ ?_ (by omega)
        rw [hc] at h
        exact List.cons_sublist_cons.1 h
      · rw [if_neg (by rw [hg]; exact fun h' => hc h'.2)]
        refine atN_all se r _ ?_ hk
        rw [List.drop_eq_getElem_cons hlt]
        rcases List.sublist_cons_iff.1 h with h | ⟨r', e, h⟩
        · exact h
        · exact absurd (List.cons.inj e).1 hc
    · rw [if_neg (fun h' => hlt h'.1)]
      have hk' : k = se.length := by omega
      subst hk'
      exact atN_all se r _ (by rw [List.drop_of_length_le (Nat.le_refl _)]; exact List.nil_sublist _) (Nat.le_refl _)
theorem atN_snoc (se : List Int) (c : Int) : ∀ (l : List Int) (k : Nat), atN se (l ++ [c]) k = if atN se l k < se.length ∧ se.getD (atN se l k) 0 = c then atN se l k + 1 else atN se l k
  | [], k => rfl
  | d :: r, k => by
    rw [List.cons_append]
    unfold atN
    exact atN_snoc se c r _
end Go.Proofs.Ytdkcgcgefgeooaa.Bk
set_option linter.all false
namespace Go.Proofs.Ytdkcgcgefgeooaa.Bk
open Go Go.Eng
set_option maxRecDepth 100000
theorem nth_0 (n : Int) {m : Nat} (h : 0 < m) (hm : m ≤ 1000000) : 0 ≤ nthI n (m : Int) ∧ nthI n (m : Int) < (m : Int) := by
  have hL : (0 : Int) < (m : Int) := by omega
  have t1 := Int.tmod_lt_of_pos n hL
  have t2 := Int.lt_tmod_of_pos n hL
  rw [nthI, wrap_id (by omega) (by omega)]
  exact ⟨Int.tmod_nonneg _ (by omega), Int.tmod_lt_of_pos _ hL⟩
section
variable {tol shu jo sv : List Int} {ca so : Int} {cf : Cf} {id : List Rs} {le wa : List Int} {fl : Fl} {cl : Bool} {re : List Rp} {sh : List Int} {cut : Bool}
theorem Ld.szs (h : Ld tol shu jo sv ca so cf id le wa fl cl re sh cut []) (hca : 0 ≤ ca ∧ ca ≤ 1000) (hso : 0 ≤ so ∧ so ≤ 1000) :
    id.length ≤ 1000 ∧ le.length ≤ 1000 ∧ wa.length ≤ 1000 ∧ shu.length + sh.length ≤ 1000 ∧ jo.length ≤ 1000 ∧ re.length ≤ 1000 := by
  have h1 := h.sl
  simp only [List.length_nil] at h1
  have h2 := len_range h.ck.w (fun c hc => ⟨(h.wr c hc).1, (h.wr c hc).2.1⟩) hca.1
  have h3 := len_range h.jN h.jr hca.1
  have h4 := len_range h.rN (n := ca) (fun c hc => by
    obtain ⟨r, hr, rfl⟩ := List.mem_map.1 hc
    exact ⟨(h.rr r hr).1, (h.rr r hr).2.1⟩) hca.1
  rw [List.length_map] at h4
  omega
theorem Ld.sz (h : Ld tol shu jo sv ca so cf id le wa fl cl re sh cut []) (hca : 0 ≤ ca ∧ ca ≤ 1000) (hso : 0 ≤ so ∧ so ≤ 1000) {fl' : Fl} (hr : fl'.2.2.1 = fl.2.2.1) : szB (mkB cf id le wa fl' [] cl) = true := by
  have h1 := h.szs hca hso
  have h2 := h.ck.r
  rw [szB_iff]
  dsimp only
  rw [hr]
  exact ⟨by omega, by omega, by omega, by simp, by omega⟩
theorem Ld.ck0 (h : Ld tol shu jo sv ca so cf id le wa fl cl re sh cut []) {fl' : Fl} (hf : flB fl' = true) (hr : fl'.2.2.1 = fl.2.2.1) : ckE (mkB cf id le wa fl' [] cl) = 0 := by
  have hck := h.ck
  have : ckB (mkB cf id le wa fl' [] cl) = true := ck_iff.2 ⟨hf, by rw [hr]; exact hck.r, hck.i, hck.o, hck.w, hck.x, hck.c⟩
  rw [ckE, this]; rfl
theorem Ld.own (h : Ld tol shu jo sv ca so cf id le wa fl cl re sh cut []) (hso : 0 ≤ so ∧ so ≤ 1000) {fl' : Fl} : IntKind.wrap .i64 (((ownsL (mkB cf id le wa fl' [] cl)).length : Int) + ((shu ++ sh).length : Int)) = so := by
  have h1 := h.sl
  simp only [List.length_nil] at h1
  rw [owns_len', List.length_append, wrap_id (by omega) (by omega)]
  omega
theorem Ld.shutAll (h : Ld tol shu jo sv ca so cf id le wa fl cl re sh cut []) (hc : cl = true) : ((shu ++ sh).length : Int) = so := by
  have h1 := h.sl
  obtain ⟨e1, e2, _⟩ := h.ck.c hc
  subst e1; subst e2
  simp only [List.length_nil, List.length_append] at h1 ⊢
  omega
theorem PyI.step {idle waiters age : Int} {l : List Ac} {i now ra : Int} {dead : List Int} (h : Ld tol shu jo sv ca so cf id le wa fl cl re sh cut []) {fl' : Fl} (hf : flB fl' = true) (hr : fl'.2.2.1 = fl.2.2.1)
    (hi : 0 ≤ i ∧ i < l.length) (hl : l.length ≤ 100) (htr : ∀ c ∈ tol, 1 ≤ c ∧ c ≤ ca) (htN : tol.Nodup) (hca : 0 ≤ ca ∧ ca ≤ i + 1) (hso : 0 ≤ so ∧ so ≤ i + 1) (hra : 0 ≤ ra ∧ ra ≤ i + 1) (hd : (dead.length : Int) ≤ i + 1) (hon : wa ≠ [] → 0 ≤ fl'.1) :
    PyI idle waiters age l (IntKind.wrap .i64 (i + 1), mkB cf id le wa fl' [] cl, (now, ca, so), (dead, tol ++ re.map (fun r => r.1), sv ++ svd jo re, jo, shu ++ sh), ra) ∧ l.length - (IntKind.wrap .i64 (i + 1)).toNat < l.length - i.toNat := by
  have e : IntKind.wrap .i64 (i + 1) = i + 1 := wrap_id (by omega) (by omega)
  rw [e]
  refine ⟨⟨?_, ?_, rfl, h.next hf hr, ?_, ?_, hca, hso, hra, hd, hon⟩, by omega⟩
  · dsimp only; omega
  · dsimp only; omega
  · intro c hc
    rcases List.mem_append.1 hc with hc | hc
    · exact htr c hc
    · obtain ⟨r, hr, rfl⟩ := List.mem_map.1 hc
      exact ⟨(h.rr r hr).1, (h.rr r hr).2.1⟩
  · refine List.nodup_append.2 ⟨htN, h.rN, fun c hc d hd e => ?_⟩
    subst e
    obtain ⟨r, hr, rfl⟩ := List.mem_map.1 hd
    exact (h.rr r hr).2.2 hc
end
/-! the loops that take a turn into account -/
theorem JoI.zero (wait was jo : List Int) : JoI wait was jo (0, jo) := ⟨by show (0 : Int) ≤ 0; omega, by show (0 : Int) ≤ _; omega, by simp⟩
theorem JoI.len {wait was jo : List Int} {x : Int × List Int} (h : JoI wait was jo x) : x.2.length ≤ jo.length + wait.length := by
  have h1 := List.length_filter_le (fun c => !hasN was c) (wait.take x.1.toNat)
  rw [h.e, List.length_append]
  rw [List.length_take] at h1
  omega
theorem JoI.yes {wait was jo : List Int} {x : Int × List Int} (h : JoI wait was jo x) (hw : wait.length ≤ 1000000) (hi : x.1 < wait.length) (hh : hasN was (wait.getD x.1.toNat 0) = false) :
    JoI wait was jo (IntKind.wrap .i64 (x.1 + 1), x.2 ++ [wait.getD x.1.toNat 0]) ∧ wait.length - (IntKind.wrap .i64 (x.1 + 1)).toNat < wait.length - x.1.toNat := by
  have h0 := h.i0
  have e : IntKind.wrap .i64 (x.1 + 1) = x.1 + 1 := wrap_id (by omega) (by omega)
  rw [e]
  refine ⟨⟨by dsimp only; omega, by dsimp only; omega, ?_⟩, by omega⟩
  dsimp only
  rw [take_succ wait x.1 0 h0 hi, List.filter_append, h.e, List.append_assoc, List.filter_cons_of_pos (by rw [hh]; rfl), List.filter_nil]
theorem JoI.no {wait was jo : List Int} {x : Int × List Int} (h : JoI wait was jo x) (hw : wait.length ≤ 1000000) (hi : x.1 < wait.length) (hh : hasN was (wait.getD x.1.toNat 0) = true) :
    JoI wait was jo (IntKind.wrap .i64 (x.1 + 1), x.2) ∧ wait.length - (IntKind.wrap .i64 (x.1 + 1)).toNat < wait.length - x.1.toNat := by
  have h0 := h.i0
  have e : IntKind.wrap .i64 (x.1 + 1) = x.1 + 1 := wrap_id (by omega) (by omega)
  rw [e]
  refine ⟨⟨by dsimp only; omega, by dsimp only; omega, ?_⟩, by omega⟩
  dsimp only
  rw [take_succ wait x.1 0 h0 hi, List.filter_append, h.e, List.filter_cons_of_neg (by rw [hh]; decide), List.filter_nil, List.append_nil]
theorem JoI.done {wait was jo : List Int} {x : Int × List Int} (h : JoI wait was jo x) (hi : ¬ x.1 < wait.length) : x.2 = jo ++ wait.filter fun c => !hasN was c := by
  have h0 := h.i0
  rw [h.e, List.take_of_length_le (by omega)]
theorem TuI.zero (re : List Rp) (t s jo : List Int) : TuI re t s jo (0, t, s) := ⟨by show (0 : Int) ≤ 0; omega, by show (0 : Int) ≤ _; omega, by simp, by simp⟩
theorem TuI.yes {re : List Rp} {t s jo : List Int} {x : Int × List Int × List Int} (h : TuI re t s jo x) (hw : re.length ≤ 1000000) (hi : x.1 < re.length) (h2 : 0 ≤ (re.getD x.1.toNat (Ty.zero RepT)).2.1) (h3 : hasN jo (re.getD x.1.toNat (Ty.zero RepT)).1 = true) :
    TuI re t s jo (IntKind.wrap .i64 (x.1 + 1), x.2.1 ++ [(re.getD x.1.toNat (Ty.zero RepT)).1], x.2.2 ++ [(re.getD x.1.toNat (Ty.zero RepT)).1]) ∧ re.length - (IntKind.wrap .i64 (x.1 + 1)).toNat < re.length - x.1.toNat := by
  have h0 := h.i0
  have e : IntKind.wrap .i64 (x.1 + 1) = x.1 + 1 := wrap_id (by omega) (by omega)
  rw [e]
  have et := take_succ re x.1 (Ty.zero RepT) h0 hi
  refine ⟨⟨by dsimp only; omega, by dsimp only; omega, ?_, ?_⟩, by omega⟩
  · dsimp only
    rw [et, List.map_append, h.e1, List.append_assoc]; rfl
  · dsimp only
    rw [et, List.filter_append, List.map_append, h.e2, List.append_assoc]
    congr 2
    rw [List.filter_cons_of_pos (by rw [decide_eq_true h2, h3]; rfl)]
    rfl
theorem TuI.no {re : List Rp} {t s jo : List Int} {x : Int × List Int × List Int} (h : TuI re t s jo x) (hw : re.length ≤ 1000000) (hi : x.1 < re.length) (h2 : ¬ 0 ≤ (re.getD x.1.toNat (Ty.zero RepT)).2.1 ∨ hasN jo (re.getD x.1.toNat (Ty.zero RepT)).1 = false) :
    TuI re t s jo (IntKind.wrap .i64 (x.1 + 1), x.2.1 ++ [(re.getD x.1.toNat (Ty.zero RepT)).1], x.2.2) ∧ re.length - (IntKind.wrap .i64 (x.1 + 1)).toNat < re.length - x.1.toNat := by
  have h0 := h.i0
  have e : IntKind.wrap .i64 (x.1 + 1) = x.1 + 1 := wrap_id (by omega) (by omega)
  rw [e]
  have et := take_succ re x.1 (Ty.zero RepT) h0 hi
  refine ⟨⟨by dsimp only; omega, by dsimp only; omega, ?_, ?_⟩, by omega⟩
  · dsimp only
    rw [et, List.map_append, h.e1, List.append_assoc]; rfl
  · dsimp only
    rw [et, List.filter_append, List.map_append, h.e2]
    rw [List.filter_cons_of_neg (by rcases h2 with h2 | h2 <;> rw [Bool.and_eq_true, decide_eq_true_eq] <;> rintro ⟨k1, k2⟩; exact h2 k1; rw [h2] at k2; cases k2), List.filter_nil, List.map_nil, List.append_nil]
theorem TuI.len {re : List Rp} {t s jo : List Int} {x : Int × List Int × List Int} (h : TuI re t s jo x) : x.2.1.length ≤ t.length + re.length ∧ x.2.2.length ≤ s.length + re.length := by
  have h1 := List.length_filter_le (fun r : Rp => decide (0 ≤ r.2.1) && hasN jo r.1) (re.take x.1.toNat)
  rw [h.e1, h.e2, List.length_append, List.length_append, List.length_map, List.length_map]
  rw [List.length_take] at h1 ⊢
  omega
theorem TuI.done {re : List Rp} {t s jo : List Int} {x : Int × List Int × List Int} (h : TuI re t s jo x) (hi : ¬ x.1 < re.length) : x.2.1 = t ++ re.map (fun r => r.1) ∧ x.2.2 = s ++ svd jo re := by
  have h0 := h.i0
  have e : re.take x.1.toNat = re := List.take_of_length_le (by omega)
  rw [h.e1, h.e2, e]
  exact ⟨rfl, rfl⟩
theorem TuI.pre {re : List Rp} {t s jo : List Int} {x : Int × List Int × List Int} (h : TuI re t s jo x) : x.2.1 = t ++ (re.take x.1.toNat).map fun r => r.1 := h.e1
theorem ShI.zero (sh s : List Int) : ShI sh s (0, s) := ⟨by show (0 : Int) ≤ 0; omega, by show (0 : Int) ≤ _; omega, by simp⟩
theorem ShI.next {sh s : List Int} {x : Int × List Int} (h : ShI sh s x) (hw : sh.length ≤ 1000000) (hi : x.1 < sh.length) :
    ShI sh s (IntKind.wrap .i64 (x.1 + 1), x.2 ++ [sh.getD x.1.toNat 0]) ∧ sh.length - (IntKind.wrap .i64 (x.1 + 1)).toNat < sh.length - x.1.toNat := by
  have h0 := h.i0
  have e : IntKind.wrap .i64 (x.1 + 1) = x.1 + 1 := wrap_id (by omega) (by omega)
  rw [e]
  refine ⟨⟨by dsimp only; omega, by dsimp only; omega, ?_⟩, by omega⟩
  dsimp only
  rw [take_succ sh x.1 0 h0 hi, h.e, List.append_assoc]
theorem ShI.done {sh s : List Int} {x : Int × List Int} (h : ShI sh s x) (hi : ¬ x.1 < sh.length) : x.2 = s ++ sh := by
  have h0 := h.i0
  rw [h.e, List.take_of_length_le (by omega)]
theorem ShI.len {sh s : List Int} {x : Int × List Int} (h : ShI sh s x) : x.2.length ≤ s.length + sh.length := by
  rw [h.e, List.length_append, List.length_take]
  omega
theorem AtI.zero (jo se : List Int) : AtI jo se (0, 0) := ⟨by show (0 : Int) ≤ 0; omega, by show (0 : Int) ≤ _; omega, rfl⟩
theorem AtI.next {jo se : List Int} {x : Int × Int} (h : AtI jo se x) (hw : jo.length ≤ 1000000) (hs : se.length ≤ 1000000) (hi : x.2 < jo.length) :
    0 ≤ x.1 ∧ (x.1 < se.length ∧ se.getD x.1.toNat 0 = jo.getD x.2.toNat 0 → AtI jo se (IntKind.wrap .i64 (x.1 + 1), IntKind.wrap .i64 (x.2 + 1)) ∧ jo.length - (IntKind.wrap .i64 (x.2 + 1)).toNat < jo.length - x.2.toNat) ∧
    (¬ x.1 < se.length ∨ ¬ se.getD x.1.toNat 0 = jo.getD x.2.toNat 0 → AtI jo se (x.1, IntKind.wrap .i64 (x.2 + 1)) ∧ jo.length - (IntKind.wrap .i64 (x.2 + 1)).toNat < jo.length - x.2.toNat) := by
  have h0 := h.i0
  have h1 := h.e
  have e2 : IntKind.wrap .i64 (x.2 + 1) = x.2 + 1 := wrap_id (by omega) (by omega)
  have et := take_succ jo x.2 0 h0 hi
  have en := atN_snoc se (jo.getD x.2.toNat 0) (jo.take x.2.toNat) 0
  have ex : x.1.toNat = atN se (jo.take x.2.toNat) 0 := by omega
  rw [e2]
  refine ⟨by omega, fun hc => ⟨⟨by dsimp only; omega, by dsimp only; omega, ?_⟩, by omega⟩, fun hc => ⟨⟨by dsimp only; omega, by dsimp only; omega, ?_⟩, by omega⟩⟩
  · dsimp only
    rw [et, en, if_pos ⟨by omega, by rw [← ex]; exact hc.2⟩, wrap_id (by omega) (by omega)]
    omega
  · dsimp only
    rw [et, en, if_neg (by
      intro hk
      rcases hc with hc | hc
      · omega
      · rw [← ex] at hk; exact hc hk.2)]
    exact h1
theorem AtI.done {jo se : List Int} {x : Int × Int} (h : AtI jo se x) (hs : se.Sublist jo) (hi : ¬ x.2 < jo.length) : x.1 = se.length := by
  have h0 := h.i0
  rw [h.e, List.take_of_length_le (by omega), atN_all se jo 0 (by simpa using hs) (by omega)]
end Go.Proofs.Ytdkcgcgefgeooaa.Bk
set_option linter.all false
namespace Go.Proofs.Ytdkcgcgefgeooaa.Bk.B
open Go Go.Eng Go.RowKit
set_option maxRecDepth 100000
set_option maxHeartbeats 16000000
theorem v41 : Vc g41 300 Try.f41 cNth.T := by
  constructor
  rw [v41_eq]
  simp only [Wr_iff, bcase_iff, true_and, and_true, decide_eq_true_eq, decide_eq_false_iff_not, Bool.and_eq_true, Bool.and_eq_false_iff, Bool.or_eq_true, Bool.or_eq_false_iff, Bool.not_eq_true', Bool.not_eq_false', Option.map_some, Option.getD_some, Option.isSome_some, Option.isSome_map, imp_self, nilL, noneO]
  rintro ⟨m, p, ⟨⟩⟩ ⟨_, h1, h2⟩
  dsimp only at *
  cases p with
  | none => cases h2
  | some y =>
    exact ⟨h2, h2, Int.ne_of_gt h1, Int.ne_of_gt h1, rfl⟩
theorem v21 : Vc g21 300 Try.f21 cHas.T := by
  constructor
  rw [v21_eq]
  simp only [Wr_iff, bcase_iff, true_and, and_true, decide_eq_true_eq, decide_eq_false_iff_not, Bool.and_eq_true, Bool.and_eq_false_iff, Bool.or_eq_true, Bool.or_eq_false_iff, Bool.not_eq_true', Bool.not_eq_false', Option.map_some, Option.getD_some, Option.isSome_some, Option.isSome_map, imp_self, nilL, noneO]
  rintro ⟨l, x, ⟨⟩⟩ ht
  have hl : l.length ≤ 9223372036854775807 := by
    simp only [typedB, Bool.and_eq_true, decide_eq_true_eq] at ht
    exact ht.1.1
  dsimp only
  refine ⟨IdI.zero _ _, fun i hu => ⟨fun hi => ⟨hu.i0, hi, fun hg => ?_, fun hg => hu.succ hl hi hg⟩, fun hi => ?_⟩⟩
  · have : hasN l x = true := hasN_iff.2 (by rw [← hg]; exact getD_mem (by have := hu.i0; omega))
    rw [this]
  · have e : l.take i.toNat = l := List.take_of_length_le (by have := hu.i0; omega)
    have := hu.a
    rw [e] at this
    have h2 : hasN l x = false := this
    rw [h2]
theorem v5 : Vc g5 400 Try.f5 cPlayL.T := by
  constructor
  rw [v5_eq]
  simp only [Wr_iff, bcase_iff, true_and, and_true, decide_eq_true_eq, decide_eq_false_iff_not, Bool.and_eq_true, Bool.and_eq_false_iff, Bool.or_eq_true, Bool.or_eq_false_iff, Bool.not_eq_true', Bool.not_eq_false', Option.map_some, Option.getD_some, Option.isSome_some, Option.isSome_map, imp_self, nilL, noneO]
  rintro ⟨idle, waiters, age, l, ⟨⟩⟩ ht
  dsimp only
  refine ⟨fun _ => trivial, ?_⟩
  intro hc
  refine ⟨⟨by show (0 : Int) ≤ 0; omega, by show (0 : Int) ≤ _; omega, rfl, ?_, (fun c hc => by cases hc), by simp, by dsimp only; omega, by dsimp only; omega, by dsimp only; omega, by dsimp only; simp, fun h => absurd rfl h⟩, ?_⟩
  · exact ⟨⟨rfl, rfl, by show (0 : Int) ≤ idle; omega, by simp, by simp, .inl rfl, fun h => by cases h⟩, by simp, (fun r hr => by cases hr), (fun r hr => by cases hr), by simp, by simp, by simp, (fun r hr => by cases hr), by simp [svd], (fun r hr => by cases hr), by simp, fun h => by cases h⟩
  rintro ⟨i, ⟨cf, id, le, wa, fl, sc, cl, ⟨⟩⟩, ⟨now, ca, so⟩, ⟨dead, tol, sv, jo, shu⟩, ra⟩ hP
  have hi0 := hP.i0
  have hi1 := hP.i1
  have hsc := hP.sc
  have hL := hP.ld
  have htr := hP.tr
  have htN := hP.tN
  have hca := hP.ca
  have hso := hP.so
  have hra := hP.ra
  have hdl := hP.dl
  have hon := hP.on
  dsimp only at hi0 hi1 hsc hL htr htN hca hso hra hdl hon
  subst hsc
  dsimp only
  refine ⟨fun hi => ?_, fun hi => ?_⟩
  · generalize l.getD i.toNat (Ty.zero ActT) = x
    obtain ⟨xd, xn, xl, xy, xz, ⟨⟩⟩ := x
    dsimp only
    refine ⟨hi0, hi, fun _ => trivial, fun hla => ?_⟩
    have hl : l.length ≤ 100 := by omega
    have hca' : 0 ≤ ca ∧ ca ≤ 1000 := by omega
    have hso' : 0 ≤ so ∧ so ≤ 1000 := by omega
    have hz := hL.szs hca' hso'
    have hsz : szB (mkB cf id le wa fl [] cl) = true := hL.sz hca' hso' rfl
    have htl := len_range htN htr hca.1
    generalize IntKind.wrap IntKind.i64 (now + xl) = now'
    refine ⟨⟨fun hd => ⟨by omega, by omega, by simp only [List.length_cons, List.length_nil]; omega, ⟨(if_pos hd).symm⟩⟩, fun hd => ⟨(if_neg (by rintro ⟨a, b⟩; rcases hd with hd | hd; (rw [hd] at a; cases a); exact hd b)).symm⟩⟩, fun dead' hdd => ⟨?_, ⟨?_, ?_⟩⟩⟩
    · show (0 + wa.length) * 8 ≤ _
      omega
    · refine ⟨fun h0 => ⟨hsz, ⟨?_⟩⟩, fun n0 => ⟨fun h1 => ⟨h1.2, (nth_0 _ (m := le.length) (by omega) (by omega)).1, (nth_0 _ (m := le.length) (by omega) (by omega)).2, hsz, ⟨?_⟩⟩, fun n1 => ⟨fun h2 => ⟨h2.2, (nth_0 _ (m := wa.length) (by omega) (by omega)).1, (nth_0 _ (m := wa.length) (by omega) (by omega)).2, ?_, ⟨?_⟩⟩, fun n2 => ⟨fun h3 => ⟨⟨hsz, rfl⟩, ⟨?_⟩⟩, fun n3 => ⟨fun h4 => ⟨fun hb => ⟨⟨hsz, rfl⟩, ⟨?_⟩⟩, fun hb => ⟨⟨hsz, rfl⟩, ⟨?_⟩⟩⟩, fun n4 => ⟨fun h5 => ⟨hsz, ⟨?_⟩⟩, fun n5 => ⟨fun h6 => ⟨hsz, ⟨?_⟩⟩, fun n6 => ⟨?_⟩⟩⟩⟩⟩⟩⟩⟩
      · exact (if_pos h0).symm
      · have m1 : xd = 1 ∧ 0 < le.length := by omega
        unfold doesF; dsimp only
        rw [if_neg n0, if_pos m1]; rfl
      · show szI wa = true
        exact decide_eq_true (by omega)
      · have m1 : ¬ (xd = 1 ∧ 0 < le.length) := by omega
        have m2 : xd = 2 ∧ 0 < wa.length := by omega
        unfold doesF; dsimp only
        rw [if_neg n0, if_neg m1, if_pos m2]
      · have m1 : ¬ (xd = 1 ∧ 0 < le.length) := by omega
        have m2 : ¬ (xd = 2 ∧ 0 < wa.length) := by omega
        have m3 : xd = 3 ∧ 0 ≤ fl.1 := by omega
        unfold doesF; dsimp only
        rw [if_neg n0, if_neg m1, if_neg m2, if_pos m3]; rfl
      · have m1 : ¬ (xd = 1 ∧ 0 < le.length) := by omega
        have m2 : ¬ (xd = 2 ∧ 0 < wa.length) := by omega
        have m3 : ¬ (xd = 3 ∧ 0 ≤ fl.1) := by omega
        have m4 : xd = 4 ∧ 0 ≤ fl.1 := by omega
        unfold doesF; dsimp only
        rw [if_neg n0, if_neg m1, if_neg m2, if_neg m3, if_pos m4, if_pos hb]; rfl
      · have m1 : ¬ (xd = 1 ∧ 0 < le.length) := by omega
        have m2 : ¬ (xd = 2 ∧ 0 < wa.length) := by omega
        have m3 : ¬ (xd = 3 ∧ 0 ≤ fl.1) := by omega
        have m4 : xd = 4 ∧ 0 ≤ fl.1 := by omega
        have m5 : ¬ (fl.2.1 = true) := by rw [hb]; decide
        unfold doesF; dsimp only
        rw [if_neg n0, if_neg m1, if_neg m2, if_neg m3, if_pos m4, if_neg m5]; rfl
      · have m1 : ¬ (xd = 1 ∧ 0 < le.length) := by omega
        have m2 : ¬ (xd = 2 ∧ 0 < wa.length) := by omega
        have m3 : ¬ (xd = 3 ∧ 0 ≤ fl.1) := by omega
        have m4 : ¬ (xd = 4 ∧ 0 ≤ fl.1) := by omega
        unfold doesF; dsimp only
        rw [if_neg n0, if_neg m1, if_neg m2, if_neg m3, if_neg m4, if_pos h5]; rfl
      · have m1 : ¬ (xd = 1 ∧ 0 < le.length) := by omega
        have m2 : ¬ (xd = 2 ∧ 0 < wa.length) := by omega
        have m3 : ¬ (xd = 3 ∧ 0 ≤ fl.1) := by omega
        have m4 : ¬ (xd = 4 ∧ 0 ≤ fl.1) := by omega
        unfold doesF; dsimp only
        rw [if_neg n0, if_neg m1, if_neg m2, if_neg m3, if_neg m4, if_neg n5, if_pos h6]; rfl
      · have m1 : ¬ (xd = 1 ∧ 0 < le.length) := by omega
        have m2 : ¬ (xd = 2 ∧ 0 < wa.length) := by omega
        have m3 : ¬ (xd = 3 ∧ 0 ≤ fl.1) := by omega
        have m4 : ¬ (xd = 4 ∧ 0 ≤ fl.1) := by omega
        have m6 : ¬ (xd = 6 ∧ xy = true) := by
          rintro ⟨a, b⟩
          rcases n6 with n6 | n6
          · exact n6 a
          · rw [n6] at b; cases b
        unfold doesF; dsimp only
        rw [if_neg n0, if_neg m1, if_neg m2, if_neg m3, if_neg m4, if_neg n5, if_neg m6]
    · rintro g hD
      have hdl' : (dead'.length : Int) ≤ i + 1 := by
        rw [hdd.e]
        unfold deadF
        split
        · rw [List.length_append]; simp only [List.length_cons, List.length_nil]; omega
        · omega
      have hg := hD.e
      clear hD hP ht
      rcases does_ok hL hca' hso' (fun c hc => (htr c hc).2) ⟨by omega, by omega⟩ (xd, xn, xl, xy, xz, PUnit.unit) now' dead' with hA | hA
      · obtain ⟨id', le', wa', fl', cl', re, sh, cut, ca', so', jo', e, h2, hj, k1, k2, k3, k4⟩ := hA
        have hg2 := hg.trans e
        clear hg e
        subst hg2
        dsimp only
        simp only [List.nil_append]
        have hc2 : 0 ≤ ca' ∧ ca' ≤ 1000 := by omega
        have hs2 : 0 ≤ so' ∧ so' ≤ 1000 := by omega
        have hz2 := h2.szs hc2 hs2
        have htr2 : ∀ c ∈ tol, 1 ≤ c ∧ c ≤ ca' := fun c hc => ⟨(htr c hc).1, by have := (htr c hc).2; omega⟩
        have hsv : sv.length ≤ 1000 := by
          have := h2.jj.length_le
          rw [List.length_append] at this
          omega
        refine ⟨fun h => (by cases h), fun _ => ⟨JoI.zero _ _ _, fun x4 hJ => ⟨fun hi4 => ⟨hJ.i0, hi4, fun hn => ⟨?_, hJ.yes (by omega) hi4 hn⟩, fun hn => hJ.no (by omega) hi4 hn⟩, fun hi4 => ?_⟩⟩⟩
        · have := hJ.len
          simp only [List.length_cons, List.length_nil]
          omega
        have ej := hJ.done hi4
        rw [← hj] at ej
        clear hJ hi4
        obtain ⟨a4, b4⟩ := x4
        dsimp only at ej ⊢
        subst ej
        refine ⟨TuI.zero _ _ _ _, fun x5 hT => ⟨fun hi5 => ?_, fun hi5 => ?_⟩⟩
        · have hlen := hT.len
          have hk : x5.1.toNat < re.length := by have := hT.i0; omega
          refine ⟨hT.i0, hi5, fun hn => ?_, fun hn => ⟨?_, fun h0 => ⟨fun hb => ?_, fun _ => ⟨fun hy => ⟨?_, hT.yes (by omega) hi5 h0 hy⟩, fun hy => hT.no (by omega) hi5 (.inr hy)⟩⟩, fun h0 => hT.no (by omega) hi5 (.inl h0)⟩⟩
          · rw [hT.e1, told_once h2 hk] at hn
            cases hn
          · simp only [List.length_cons, List.length_nil]
            omega
          · obtain ⟨q1, q2⟩ := sock_ok h2 hk h0
            rcases hb with hb | hb
            · rw [q2] at hb; cases hb
            · exact absurd q1 hb
          · simp only [List.length_cons, List.length_nil]
            omega
        obtain ⟨et, es⟩ := hT.done hi5
        clear hT hi5
        obtain ⟨a5, b5, c5⟩ := x5
        dsimp only at et es ⊢
        subst et
        subst es
        refine ⟨ShI.zero _ _, fun x6 hS => ⟨fun hi6 => ⟨hS.i0, hi6, fun hn => ?_, fun hn => ⟨?_, hS.next (by omega) hi6⟩⟩, fun hi6 => ?_⟩⟩
        · rw [hS.e, shut_once h2 (by have := hS.i0; omega)] at hn
          cases hn
        · have := hS.len
          simp only [List.length_cons, List.length_nil]
          omega
        have esh := hS.done hi6
        clear hS hi6
        obtain ⟨a6, b6⟩ := x6
        dsimp only at esh ⊢
        subst esh
        have er : IntKind.wrap IntKind.i64 (ra + 1) = ra + 1 := wrap_id (by omega) (by omega)
        rw [er]
        refine ⟨fun hs => ?_, fun hs => ?_⟩
        · obtain ⟨s1, s2, s3, s4, s5⟩ := start_ok (r := ra + 1) (by omega) hs h2.ck.f
          refine ⟨fun hb => absurd s1 hb, fun _ => ?_⟩
          rw [s2]
          dsimp only
          refine ⟨fun _ => h2.sz hc2 hs2 s4, fun hb => ?_, fun _ => ⟨h2.sz hc2 hs2 s4, fun hb => ?_, fun _ => PyI.step h2 s3 s4 ⟨hi0, hi⟩ hl htr2 htN (by omega) (by omega) (by omega) hdl' (fun _ => s5)⟩⟩
          · exfalso
            rcases hb with ((hb | hb) | hb) | hb
            · cases hb
            · exact hb (h2.ck0 s3 s4)
            · omega
            · have := start_cut h2 hs
              rw [this] at hb
              cases hb.2
          · exfalso
            rcases hb with hb | hb
            · exact hb (h2.own hs2)
            · exact hb.2 (h2.shutAll hb.1)
        · refine ⟨fun _ => h2.sz hc2 hs2 rfl, fun hb => ?_, fun _ => ⟨h2.sz hc2 hs2 rfl, fun hb => ?_, fun _ => PyI.step h2 h2.ck.f rfl ⟨hi0, hi⟩ hl htr2 htN (by omega) (by omega) (by omega) hdl' (fun hw => waits_on h2 hw hs)⟩⟩
          · exfalso
            rcases hb with ((hb | hb) | hb) | hb
            · cases hb
            · exact hb (h2.ck0 h2.ck.f rfl)
            · have := waits_on h2 (by intro e; rw [e] at hb; simp at hb) hs
              omega
            · have := hb.1
              rw [hs] at this
              cases this
          · exfalso
            rcases hb with hb | hb
            · exact hb (h2.own hs2)
            · exact hb.2 (h2.shutAll hb.1)
      · have hg2 := hg.trans hA
        clear hg hA
        subst hg2
        dsimp only
        refine ⟨fun _ => ?_, fun h => by cases h⟩
        have := PyI.step (idle := idle) (waiters := waiters) (age := age) (now := now') (ra := ra) (dead := dead') hL hL.ck.f rfl ⟨hi0, hi⟩ hl htr htN (by omega) (by omega) (by omega) hdl' hon
        have e1 : svd jo [] = [] := rfl
        rw [e1] at this
        simp only [List.map_nil, List.append_nil] at this
        exact this
  · have hca' : 0 ≤ ca ∧ ca ≤ 1000 := by omega
    have hso' : 0 ≤ so ∧ so ≤ 1000 := by omega
    have hz := hL.szs hca' hso'
    have hsub : sv.Sublist jo := (List.sublist_append_left _ _).trans hL.jj
    have hsl := hsub.length_le
    refine ⟨AtI.zero _ _, fun x2 hA => ⟨fun hi2 => ?_, fun hi2 => ⟨fun _ => trivial, ?_⟩⟩⟩
    · obtain ⟨q0, q1, q2⟩ := hA.next (by omega) (by omega) hi2
      exact ⟨hA.i0, hi2, fun _ => q0, q1, q2⟩
    · rw [decide_eq_true (hA.done hsub hi2)]; rfl
end Go.Proofs.Ytdkcgcgefgeooaa.Bk.B
namespace Go.Proofs.Ytdkcgcgefgeooaa.Bk.B
open Go Go.Eng 
set_option maxRecDepth 100000
theorem val21 : Valid Try.prog GW 21 cHas := Valid.T (mkValid gws Tb.mix Tb.tab_ok Tb.eqs_ok g21 rfl allV_nil allI_nil Try.func21 (by kernel_rfl) v21)
theorem val41 : Valid Try.prog GW 41 cNth := Valid.T (mkValid gws Tb.mix Tb.tab_ok Tb.eqs_ok g41 rfl allV_nil allI_nil Try.func41 (by kernel_rfl) v41)
theorem val5 : Valid Try.prog GW 5 cPlayL := Valid.T (mkValidA gws Tb.mix Tb.tab_ok Tb.eqs_ok (by kernel_rfl) g5 rfl (allB_cons bval15 (allB_cons bval16 (allB_cons bval17 (allB_cons bval42 allB_nil)))) allM_nil (allV_cons val8 (allV_cons val9 (allV_cons val10 (allV_cons val13 (allV_cons val14 (allV_cons val19 (allV_cons val21 (allV_cons val26 (allV_cons val41 allV_nil))))))))) (allI_cons Try.func20 (by kernel_rfl) (allI_cons Try.func22 (by kernel_rfl) allI_nil)) Try.func5 (by kernel_rfl) v5)
end Go.Proofs.Ytdkcgcgefgeooaa.Bk.B

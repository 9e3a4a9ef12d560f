/-
  A text of mine, of several parts: OwoVc, OwPO, OwoV.
-/
import Derived.Test.YtdkcgcgefgeooaaGreatDoorOoa
import Derived.Test.YtdkcgcgefgeooaaGreatDoorOob
import Derived.Test.YtdkcgcgefgeooaaGreatDoorOoc
import Derived.Test.YtdkcgcgefgeooaaGreatDoorOod
import Derived.Test.YtdkcgcgefgeooaaGreatDoorOoe
import Derived.Test.YtdkcgcgefgeooaaGreatDoorOof
set_option linter.all false
namespace Go.Proofs.YtdkcgcgefgeooaaGreatDoor.Ow
open Go Go.Eng 
set_option maxRecDepth 100000
theorem v24_eq : vcFn g24 300 Tryz.f24 cWhose = ( ∀ (x : Int × Unit), E true → bcase (decide (x.1 < (0 : Int))) (((-1 : Int), (-1 : Int), ()) = (whoP x.1, whoW x.1, ())) (Wr ((5 : Int) ≠ (0 : Int)) ∧ Wr ((5 : Int) ≠ (0 : Int)) ∧ (IntKind.wrap IntKind.i64 (Int.tdiv x.1
  (5 : Int)), Int.tmod x.1 (5 : Int), ()) = (whoP x.1, whoW x.1, ()))) := by kernel_rfl
theorem v3_eq : vcFn g3 500 Tryz.f3 cOnceL.T = ( ∀ (x : Cf × List Sp × Unit), Wr (typedB (Ty.cons ConfT (Ty.cons (Ty.sl StT) Ty.unit)) x = true ∧ true = true) → bcase (decide ((↑(List.length x.2.1) : Int) > (100 : Int)) || decide (x.1.2.1 < (0 : Int)) || decide
  (x.1.2.1 > (8 : Int)) || decide (x.1.2.2.1 < (0 : Int)) || decide (x.1.2.2.1 > (16 : Int)) || decide (x.1.2.2.2.2.2.1 < (1 : Int)) || decide (x.1.2.2.2.2.2.1 > (64 : Int))) (Wr True ∧ (true, ()) = (true, ())) (E true ∧
  ((Wr (PyI x.1 x.2.1 ((0 : Int), (0 : Int), false, newO (1 : Int) (0 : Int) (ByteArray.mk (List.toArray ((97 : UInt8) :: nilL UInt8))) (80 : Int) x.1, nilL Int, ((0 : Nat), fun (x : Int) => noneO Int), nilL Int, ((0 :
  Nat), fun (x : Int) => noneO Bool), (0 : Int), false, false, (10 : Int), (0 : Int), nilL Int)) ∧ E ((0 : Int)) ∧ E ((0 : Int)) ∧ E false ∧ E x.2.1 ∧ E ((newO (1 : Int) (0 : Int) (ByteArray.mk (List.toArray ((97 : UInt8)
  :: nilL UInt8))) (80 : Int) x.1).1) ∧ E ((newO (1 : Int) (0 : Int) (ByteArray.mk (List.toArray ((97 : UInt8) :: nilL UInt8))) (80 : Int) x.1).2.1) ∧ E ((newO (1 : Int) (0 : Int) (ByteArray.mk (List.toArray ((97 : UInt8)
  :: nilL UInt8))) (80 : Int) x.1).2.2.1) ∧ E ((newO (1 : Int) (0 : Int) (ByteArray.mk (List.toArray ((97 : UInt8) :: nilL UInt8))) (80 : Int) x.1).2.2.2.1) ∧ E ((newO (1 : Int) (0 : Int) (ByteArray.mk (List.toArray ((97
  : UInt8) :: nilL UInt8))) (80 : Int) x.1).2.2.2.2.1.1.1) ∧ E ((newO (1 : Int) (0 : Int) (ByteArray.mk (List.toArray ((97 : UInt8) :: nilL UInt8))) (80 : Int) x.1).2.2.2.2.1.1.2.1) ∧ E ((newO (1 : Int) (0 : Int)
  (ByteArray.mk (List.toArray ((97 : UInt8) :: nilL UInt8))) (80 : Int) x.1).2.2.2.2.1.1.2.2.1) ∧ E ((newO (1 : Int) (0 : Int) (ByteArray.mk (List.toArray ((97 : UInt8) :: nilL UInt8))) (80 : Int)
  x.1).2.2.2.2.1.1.2.2.2.1) ∧ E ((newO (1 : Int) (0 : Int) (ByteArray.mk (List.toArray ((97 : UInt8) :: nilL UInt8))) (80 : Int) x.1).2.2.2.2.1.1.2.2.2.2.1) ∧ E ((newO (1 : Int) (0 : Int) (ByteArray.mk (List.toArray ((97
  : UInt8) :: nilL UInt8))) (80 : Int) x.1).2.2.2.2.1.1.2.2.2.2.2.1) ∧ E ((newO (1 : Int) (0 : Int) (ByteArray.mk (List.toArray ((97 : UInt8) :: nilL UInt8))) (80 : Int) x.1).2.2.2.2.1.1.2.2.2.2.2.2.1) ∧ E ((newO (1 :
  Int) (0 : Int) (ByteArray.mk (List.toArray ((97 : UInt8) :: nilL UInt8))) (80 : Int) x.1).2.2.2.2.1.1.2.2.2.2.2.2.2.1) ∧ E ((newO (1 : Int) (0 : Int) (ByteArray.mk (List.toArray ((97 : UInt8) :: nilL UInt8))) (80 : Int)
  x.1).2.2.2.2.1.1.2.2.2.2.2.2.2.2.1) ∧ E ((newO (1 : Int) (0 : Int) (ByteArray.mk (List.toArray ((97 : UInt8) :: nilL UInt8))) (80 : Int) x.1).2.2.2.2.1.2.1) ∧ E ((newO (1 : Int) (0 : Int) (ByteArray.mk (List.toArray
  ((97 : UInt8) :: nilL UInt8))) (80 : Int) x.1).2.2.2.2.1.2.2.1) ∧ E ((newO (1 : Int) (0 : Int) (ByteArray.mk (List.toArray ((97 : UInt8) :: nilL UInt8))) (80 : Int) x.1).2.2.2.2.1.2.2.2.1) ∧ E ((newO (1 : Int) (0 : Int)
  (ByteArray.mk (List.toArray ((97 : UInt8) :: nilL UInt8))) (80 : Int) x.1).2.2.2.2.1.2.2.2.2.1.1) ∧ E ((newO (1 : Int) (0 : Int) (ByteArray.mk (List.toArray ((97 : UInt8) :: nilL UInt8))) (80 : Int)
  x.1).2.2.2.2.1.2.2.2.2.1.2.1) ∧ E ((newO (1 : Int) (0 : Int) (ByteArray.mk (List.toArray ((97 : UInt8) :: nilL UInt8))) (80 : Int) x.1).2.2.2.2.1.2.2.2.2.1.2.2.1) ∧ E ((newO (1 : Int) (0 : Int) (ByteArray.mk
  (List.toArray ((97 : UInt8) :: nilL UInt8))) (80 : Int) x.1).2.2.2.2.1.2.2.2.2.2.1) ∧ E ((newO (1 : Int) (0 : Int) (ByteArray.mk (List.toArray ((97 : UInt8) :: nilL UInt8))) (80 : Int) x.1).2.2.2.2.1.2.2.2.2.2.2.1) ∧ E
  ((0 : Int)) ∧ E false ∧ E false ∧ E ((10 : Int)) ∧ E ((0 : Int)) ∧ E (nilL Int) ∧ E (nilL Int) ∧ Wr ((0 : Nat) ≤ (0 : Nat)) ∧ Wr ((fun (x : Int) => noneO Int) = fun (x : Int) => noneO Int) ∧ E (nilL Int) ∧ Wr ((0 : Nat)
  ≤ (0 : Nat)) ∧ Wr ((fun (x : Int) => noneO Bool) = fun (x : Int) => noneO Bool)) ∧ ∀ (x_1 : Int × Int × Bool × Ow × List Int × (Nat × (Int → Option Int)) × List Int × (Nat × (Int → Option Bool)) × Int × Bool × Bool ×
  Int × Int × List Int), Wr (PyI x.1 x.2.1 x_1) → bcase (decide (x_1.1 < (↑(List.length x.2.1) : Int))) (Wr ((0 : Int) ≤ x_1.1) ∧ Wr (x_1.1 < (↑(List.length x.2.1) : Int)) ∧ E true ∧ E true ∧ Wr ((!decide ((sP x
  x_1).2.2.1 < (0 : Int))) = true → (0 : Int) ≤ x_1.1) ∧ Wr ((!decide ((sP x x_1).2.2.1 < (0 : Int))) = true → x_1.1 < (↑(List.length x.2.1) : Int)) ∧ Wr ((!decide ((sP x x_1).2.2.1 < (0 : Int))) = true → true = true) ∧
  Wr ((!decide ((sP x x_1).2.2.1 < (0 : Int))) = true → true = true) ∧ bcase (decide ((sP x x_1).2.2.1 < (0 : Int)) || decide ((sP x x_1).2.2.1 > (1000 : Int))) (Wr True ∧ (true, ()) = (true, ())) (Wr ((0 : Int) ≤ x_1.1)
  ∧ Wr (x_1.1 < (↑(List.length x.2.1) : Int)) ∧ E true ∧ E true ∧ (Wr ((0 : Int) ≤ x_1.1) ∧ Wr (x_1.1 < (↑(List.length x.2.1) : Int)) ∧ E true ∧ E true ∧ Wr ((sP x x_1).2.2.2.2.1 = true → (0 : Int) ≤ x_1.1) ∧ Wr ((sP x
  x_1).2.2.2.2.1 = true → x_1.1 < (↑(List.length x.2.1) : Int)) ∧ Wr ((sP x x_1).2.2.2.2.1 = true → true = true) ∧ Wr ((sP x x_1).2.2.2.2.1 = true → true = true) ∧ Wr (((sP x x_1).2.2.2.2.1 && decide ((sP x x_1).2.1 ≥ (0
  : Int))) = true → (0 : Int) ≤ x_1.1) ∧ Wr (((sP x x_1).2.2.2.2.1 && decide ((sP x x_1).2.1 ≥ (0 : Int))) = true → x_1.1 < (↑(List.length x.2.1) : Int)) ∧ Wr (((sP x x_1).2.2.2.2.1 && decide ((sP x x_1).2.1 ≥ (0 : Int)))
  = true → true = true) ∧ Wr (((sP x x_1).2.2.2.2.1 && decide ((sP x x_1).2.1 ≥ (0 : Int))) = true → true = true) ∧ bcase ((sP x x_1).2.2.2.2.1 && decide ((sP x x_1).2.1 ≥ (0 : Int)) && decide ((sP x x_1).2.1 <
  x_1.2.2.2.2.2.2.2.2.2.2.2.2.1)) (Wr ((List.length (nilL Int) + List.length x_1.2.2.2.2.2.2.2.2.2.2.2.2.2) * (8 : Nat) ≤ (140737488355328 : Nat)) ∧ Wr ((0 : Int) ≤ x_1.1) ∧ Wr (x_1.1 < (↑(List.length x.2.1) : Int)) ∧ E
  true ∧ E true ∧ Wr ((List.length (nilL Int ++ x_1.2.2.2.2.2.2.2.2.2.2.2.2.2) + List.length ((sP x x_1).2.1 :: nilL Int)) * (8 : Nat) ≤ (140737488355328 : Nat)) ∧ Wr (nilL Int ++ x_1.2.2.2.2.2.2.2.2.2.2.2.2.2 ++ (sP x
  x_1).2.1 :: nilL Int = deadF x_1.2.2.2.2.2.2.2.2.2.2.2.2.2 x_1.2.2.2.2.2.2.2.2.2.2.2.2.1 (sP x x_1)) ∧ E x.2.1 ∧ E (IntKind.wrap IntKind.i64 (x_1.2.1 + (sP x x_1).2.2.1)) ∧ E x_1.2.2.1 ∧ E x_1.1 ∧ E x_1.2.2.2.1.1 ∧ E
  x_1.2.2.2.1.2.1 ∧ E x_1.2.2.2.1.2.2.1 ∧ E x_1.2.2.2.1.2.2.2.1 ∧ E x_1.2.2.2.1.2.2.2.2.1.1.1 ∧ E x_1.2.2.2.1.2.2.2.2.1.1.2.1 ∧ E x_1.2.2.2.1.2.2.2.2.1.1.2.2.1 ∧ E x_1.2.2.2.1.2.2.2.2.1.1.2.2.2.1 ∧ E
  x_1.2.2.2.1.2.2.2.2.1.1.2.2.2.2.1 ∧ E x_1.2.2.2.1.2.2.2.2.1.1.2.2.2.2.2.1 ∧ E x_1.2.2.2.1.2.2.2.2.1.1.2.2.2.2.2.2.1 ∧ E x_1.2.2.2.1.2.2.2.2.1.1.2.2.2.2.2.2.2.1 ∧ E x_1.2.2.2.1.2.2.2.2.1.1.2.2.2.2.2.2.2.2.1 ∧ E
  x_1.2.2.2.1.2.2.2.2.1.2.1 ∧ E x_1.2.2.2.1.2.2.2.2.1.2.2.1 ∧ E x_1.2.2.2.1.2.2.2.2.1.2.2.2.1 ∧ E x_1.2.2.2.1.2.2.2.2.1.2.2.2.2.1.1 ∧ E x_1.2.2.2.1.2.2.2.2.1.2.2.2.2.1.2.1 ∧ E x_1.2.2.2.1.2.2.2.2.1.2.2.2.2.1.2.2.1 ∧ E
  x_1.2.2.2.1.2.2.2.2.1.2.2.2.2.2.1 ∧ E x_1.2.2.2.1.2.2.2.2.1.2.2.2.2.2.2.1 ∧ Wr (x_1.2.2.2.2.2.2.2.2.1 = (setDead x_1.2.2.2.2 (nilL Int ++ x_1.2.2.2.2.2.2.2.2.2.2.2.2.2 ++ (sP x x_1).2.1 :: nilL Int)).2.2.2.2.1) ∧ Wr
  (x_1.2.2.2.2.2.2.2.2.2.1 = (setDead x_1.2.2.2.2 (nilL Int ++ x_1.2.2.2.2.2.2.2.2.2.2.2.2.2 ++ (sP x x_1).2.1 :: nilL Int)).2.2.2.2.2.1) ∧ Wr (x_1.2.2.2.2.2.2.2.2.2.2.1 = (setDead x_1.2.2.2.2 (nilL Int ++
  x_1.2.2.2.2.2.2.2.2.2.2.2.2.2 ++ (sP x x_1).2.1 :: nilL Int)).2.2.2.2.2.2.1) ∧ Wr (x_1.2.2.2.2.2.2.2.2.2.2.2.1 = (setDead x_1.2.2.2.2 (nilL Int ++ x_1.2.2.2.2.2.2.2.2.2.2.2.2.2 ++ (sP x x_1).2.1 :: nilL
  Int)).2.2.2.2.2.2.2.1) ∧ Wr (x_1.2.2.2.2.2.2.2.2.2.2.2.2.1 = (setDead x_1.2.2.2.2 (nilL Int ++ x_1.2.2.2.2.2.2.2.2.2.2.2.2.2 ++ (sP x x_1).2.1 :: nilL Int)).2.2.2.2.2.2.2.2.1) ∧ Wr (nilL Int ++
  x_1.2.2.2.2.2.2.2.2.2.2.2.2.2 ++ (sP x x_1).2.1 :: nilL Int = (setDead x_1.2.2.2.2 (nilL Int ++ x_1.2.2.2.2.2.2.2.2.2.2.2.2.2 ++ (sP x x_1).2.1 :: nilL Int)).2.2.2.2.2.2.2.2.2) ∧ Wr (x_1.2.2.2.2.1 = (setDead x_1.2.2.2.2
  (nilL Int ++ x_1.2.2.2.2.2.2.2.2.2.2.2.2.2 ++ (sP x x_1).2.1 :: nilL Int)).1) ∧ Wr (x_1.2.2.2.2.2.1.1 ≤ (setDead x_1.2.2.2.2 (nilL Int ++ x_1.2.2.2.2.2.2.2.2.2.2.2.2.2 ++ (sP x x_1).2.1 :: nilL Int)).2.1.1) ∧ Wr
  (x_1.2.2.2.2.2.1.2 = (setDead x_1.2.2.2.2 (nilL Int ++ x_1.2.2.2.2.2.2.2.2.2.2.2.2.2 ++ (sP x x_1).2.1 :: nilL Int)).2.1.2) ∧ Wr (x_1.2.2.2.2.2.2.1 = (setDead x_1.2.2.2.2 (nilL Int ++ x_1.2.2.2.2.2.2.2.2.2.2.2.2.2 ++
  (sP x x_1).2.1 :: nilL Int)).2.2.1) ∧ Wr (x_1.2.2.2.2.2.2.2.1.1 ≤ (setDead x_1.2.2.2.2 (nilL Int ++ x_1.2.2.2.2.2.2.2.2.2.2.2.2.2 ++ (sP x x_1).2.1 :: nilL Int)).2.2.2.1.1) ∧ Wr (x_1.2.2.2.2.2.2.2.1.2 = (setDead
  x_1.2.2.2.2 (nilL Int ++ x_1.2.2.2.2.2.2.2.2.2.2.2.2.2 ++ (sP x x_1).2.1 :: nilL Int)).2.2.2.1.2)) (Wr (x_1.2.2.2.2.2.2.2.2.2.2.2.2.2 = deadF x_1.2.2.2.2.2.2.2.2.2.2.2.2.2 x_1.2.2.2.2.2.2.2.2.2.2.2.2.1 (sP x x_1)) ∧ E
  x.2.1 ∧ E (IntKind.wrap IntKind.i64 (x_1.2.1 + (sP x x_1).2.2.1)) ∧ E x_1.2.2.1 ∧ E x_1.1 ∧ E x_1.2.2.2.1.1 ∧ E x_1.2.2.2.1.2.1 ∧ E x_1.2.2.2.1.2.2.1 ∧ E x_1.2.2.2.1.2.2.2.1 ∧ E x_1.2.2.2.1.2.2.2.2.1.1.1 ∧ E
  x_1.2.2.2.1.2.2.2.2.1.1.2.1 ∧ E x_1.2.2.2.1.2.2.2.2.1.1.2.2.1 ∧ E x_1.2.2.2.1.2.2.2.2.1.1.2.2.2.1 ∧ E x_1.2.2.2.1.2.2.2.2.1.1.2.2.2.2.1 ∧ E x_1.2.2.2.1.2.2.2.2.1.1.2.2.2.2.2.1 ∧ E x_1.2.2.2.1.2.2.2.2.1.1.2.2.2.2.2.2.1 ∧
  E x_1.2.2.2.1.2.2.2.2.1.1.2.2.2.2.2.2.2.1 ∧ E x_1.2.2.2.1.2.2.2.2.1.1.2.2.2.2.2.2.2.2.1 ∧ E x_1.2.2.2.1.2.2.2.2.1.2.1 ∧ E x_1.2.2.2.1.2.2.2.2.1.2.2.1 ∧ E x_1.2.2.2.1.2.2.2.2.1.2.2.2.1 ∧ E
  x_1.2.2.2.1.2.2.2.2.1.2.2.2.2.1.1 ∧ E x_1.2.2.2.1.2.2.2.2.1.2.2.2.2.1.2.1 ∧ E x_1.2.2.2.1.2.2.2.2.1.2.2.2.2.1.2.2.1 ∧ E x_1.2.2.2.1.2.2.2.2.1.2.2.2.2.2.1 ∧ E x_1.2.2.2.1.2.2.2.2.1.2.2.2.2.2.2.1 ∧ Wr
  (x_1.2.2.2.2.2.2.2.2.1 = (setDead x_1.2.2.2.2 x_1.2.2.2.2.2.2.2.2.2.2.2.2.2).2.2.2.2.1) ∧ Wr (x_1.2.2.2.2.2.2.2.2.2.1 = (setDead x_1.2.2.2.2 x_1.2.2.2.2.2.2.2.2.2.2.2.2.2).2.2.2.2.2.1) ∧ Wr (x_1.2.2.2.2.2.2.2.2.2.2.1 =
  (setDead x_1.2.2.2.2 x_1.2.2.2.2.2.2.2.2.2.2.2.2.2).2.2.2.2.2.2.1) ∧ Wr (x_1.2.2.2.2.2.2.2.2.2.2.2.1 = (setDead x_1.2.2.2.2 x_1.2.2.2.2.2.2.2.2.2.2.2.2.2).2.2.2.2.2.2.2.1) ∧ Wr (x_1.2.2.2.2.2.2.2.2.2.2.2.2.1 = (setDead
  x_1.2.2.2.2 x_1.2.2.2.2.2.2.2.2.2.2.2.2.2).2.2.2.2.2.2.2.2.1) ∧ Wr (x_1.2.2.2.2.2.2.2.2.2.2.2.2.2 = (setDead x_1.2.2.2.2 x_1.2.2.2.2.2.2.2.2.2.2.2.2.2).2.2.2.2.2.2.2.2.2) ∧ Wr (x_1.2.2.2.2.1 = (setDead x_1.2.2.2.2
  x_1.2.2.2.2.2.2.2.2.2.2.2.2.2).1) ∧ Wr (x_1.2.2.2.2.2.1.1 ≤ (setDead x_1.2.2.2.2 x_1.2.2.2.2.2.2.2.2.2.2.2.2.2).2.1.1) ∧ Wr (x_1.2.2.2.2.2.1.2 = (setDead x_1.2.2.2.2 x_1.2.2.2.2.2.2.2.2.2.2.2.2.2).2.1.2) ∧ Wr
  (x_1.2.2.2.2.2.2.1 = (setDead x_1.2.2.2.2 x_1.2.2.2.2.2.2.2.2.2.2.2.2.2).2.2.1) ∧ Wr (x_1.2.2.2.2.2.2.2.1.1 ≤ (setDead x_1.2.2.2.2 x_1.2.2.2.2.2.2.2.2.2.2.2.2.2).2.2.2.1.1) ∧ Wr (x_1.2.2.2.2.2.2.2.1.2 = (setDead
  x_1.2.2.2.2 x_1.2.2.2.2.2.2.2.2.2.2.2.2.2).2.2.2.1.2))) ∧ ∀ (x_2 : List Int), Wr (x_2 = deadF x_1.2.2.2.2.2.2.2.2.2.2.2.2.2 x_1.2.2.2.2.2.2.2.2.2.2.2.2.1 (sP x x_1)) → Wr (szB (bkO x_1.2.2.2.1) = true) ∧ Wr ((!!decide
  ((↑(List.length (offL (casesL x_1.2.2.2.1))) : Int) = (0 : Int)) == (x_1.2.2.1 && !(setDead x_1.2.2.2.2 x_2).2.2.2.2.2.1)) = true → true = true) ∧ bcase (!decide ((↑(List.length (offL (casesL x_1.2.2.2.1))) : Int) = (0
  : Int)) == (x_1.2.2.1 && !(setDead x_1.2.2.2.2 x_2).2.2.2.2.2.1) || !allOv (x_1.2.2.2.1 :: nilL Ow) == decide ((↑(List.length (offL (casesL x_1.2.2.2.1))) : Int) = (0 : Int))) ((false, ()) = (true, ())) (bcase (decide
  ((↑(List.length (offL (casesL x_1.2.2.2.1))) : Int) = (0 : Int))) (Wr (EnO (x_1.2.2.1, setDead x_1.2.2.2.2 x_2)) ∧ E x_1.2.2.1 ∧ E ((setDead x_1.2.2.2.2 x_2).2.2.2.2.1) ∧ E ((setDead x_1.2.2.2.2 x_2).2.2.2.2.2.1) ∧ E
  ((setDead x_1.2.2.2.2 x_2).2.2.2.2.2.2.1) ∧ E ((setDead x_1.2.2.2.2 x_2).2.2.2.2.2.2.2.1) ∧ E ((setDead x_1.2.2.2.2 x_2).2.2.2.2.2.2.2.2.1) ∧ E ((setDead x_1.2.2.2.2 x_2).2.2.2.2.2.2.2.2.2) ∧ E ((setDead x_1.2.2.2.2
  x_2).1) ∧ Wr ((setDead x_1.2.2.2.2 x_2).2.1.1 ≤ (setDead x_1.2.2.2.2 x_2).2.1.1) ∧ E ((setDead x_1.2.2.2.2 x_2).2.1.2) ∧ E ((setDead x_1.2.2.2.2 x_2).2.2.1) ∧ Wr ((setDead x_1.2.2.2.2 x_2).2.2.2.1.1 ≤ (setDead
  x_1.2.2.2.2 x_2).2.2.2.1.1) ∧ E ((setDead x_1.2.2.2.2 x_2).2.2.2.1.2)) ((Wr ((0 : Int) ≤ x_1.1) ∧ Wr (x_1.1 < (↑(List.length x.2.1) : Int)) ∧ E true ∧ bcase (decide ((sP x x_1).1 = (0 : Int))) (Wr ((List.length (nilL
  Int) + List.length (setDead x_1.2.2.2.2 x_2).1) * (8 : Nat) ≤ (140737488355328 : Nat)) ∧ Wr ((List.length (nilL Int ++ (setDead x_1.2.2.2.2 x_2).1) + List.length ((setDead x_1.2.2.2.2 x_2).2.2.2.2.2.2.2.1 :: nilL Int))
  * (8 : Nat) ≤ (140737488355328 : Nat)) ∧ Wr ((((1 : Int), (setDead x_1.2.2.2.2 x_2).2.2.2.2.2.2.2.1, (0 : Int), (0 : Int), ByteArray.empty, (0 : Int), ()), true, nilL Int ++ (setDead x_1.2.2.2.2 x_2).1 ++ (setDead
  x_1.2.2.2.2 x_2).2.2.2.2.2.2.2.1 :: nilL Int, IntKind.wrap IntKind.i64 ((setDead x_1.2.2.2.2 x_2).2.2.2.2.2.2.2.1 + (1 : Int))) = letF (setDead x_1.2.2.2.2 x_2) (sP x x_1)) ∧ E true ∧ E x.2.1 ∧ E (IntKind.wrap
  IntKind.i64 (x_1.2.1 + (sP x x_1).2.2.1)) ∧ E x_1.2.2.1 ∧ E x_1.1 ∧ E (offL (casesL x_1.2.2.2.1)) ∧ E ((setDead x_1.2.2.2.2 x_2).2.2.2.2.1) ∧ E x_1.2.2.2.1.1 ∧ E x_1.2.2.2.1.2.1 ∧ E x_1.2.2.2.1.2.2.1 ∧ E
  x_1.2.2.2.1.2.2.2.1 ∧ E x_1.2.2.2.1.2.2.2.2.1.1.1 ∧ E x_1.2.2.2.1.2.2.2.2.1.1.2.1 ∧ E x_1.2.2.2.1.2.2.2.2.1.1.2.2.1 ∧ E x_1.2.2.2.1.2.2.2.2.1.1.2.2.2.1 ∧ E x_1.2.2.2.1.2.2.2.2.1.1.2.2.2.2.1 ∧ E
  x_1.2.2.2.1.2.2.2.2.1.1.2.2.2.2.2.1 ∧ E x_1.2.2.2.1.2.2.2.2.1.1.2.2.2.2.2.2.1 ∧ E x_1.2.2.2.1.2.2.2.2.1.1.2.2.2.2.2.2.2.1 ∧ E x_1.2.2.2.1.2.2.2.2.1.1.2.2.2.2.2.2.2.2.1 ∧ E x_1.2.2.2.1.2.2.2.2.1.2.1 ∧ E
  x_1.2.2.2.1.2.2.2.2.1.2.2.1 ∧ E x_1.2.2.2.1.2.2.2.2.1.2.2.2.1 ∧ E x_1.2.2.2.1.2.2.2.2.1.2.2.2.2.1.1 ∧ E x_1.2.2.2.1.2.2.2.2.1.2.2.2.2.1.2.1 ∧ E x_1.2.2.2.1.2.2.2.2.1.2.2.2.2.1.2.2.1 ∧ E x_1.2.2.2.1.2.2.2.2.1.2.2.2.2.2.1
  ∧ E x_1.2.2.2.1.2.2.2.2.1.2.2.2.2.2.2.1 ∧ E ((1 : Int)) ∧ E ((setDead x_1.2.2.2.2 x_2).2.2.2.2.2.2.2.1) ∧ E ((0 : Int)) ∧ E ((0 : Int)) ∧ E ByteArray.empty ∧ E ((0 : Int)) ∧ Wr ((setDead x_1.2.2.2.2 x_2).2.2.2.2.1 =
  (setLet (setDead x_1.2.2.2.2 x_2) (nilL Int ++ (setDead x_1.2.2.2.2 x_2).1 ++ (setDead x_1.2.2.2.2 x_2).2.2.2.2.2.2.2.1 :: nilL Int) (IntKind.wrap IntKind.i64 ((setDead x_1.2.2.2.2 x_2).2.2.2.2.2.2.2.1 + (1 :
  Int)))).2.2.2.2.1) ∧ Wr ((setDead x_1.2.2.2.2 x_2).2.2.2.2.2.1 = (setLet (setDead x_1.2.2.2.2 x_2) (nilL Int ++ (setDead x_1.2.2.2.2 x_2).1 ++ (setDead x_1.2.2.2.2 x_2).2.2.2.2.2.2.2.1 :: nilL Int) (IntKind.wrap
  IntKind.i64 ((setDead x_1.2.2.2.2 x_2).2.2.2.2.2.2.2.1 + (1 : Int)))).2.2.2.2.2.1) ∧ Wr ((setDead x_1.2.2.2.2 x_2).2.2.2.2.2.2.1 = (setLet (setDead x_1.2.2.2.2 x_2) (nilL Int ++ (setDead x_1.2.2.2.2 x_2).1 ++ (setDead
  x_1.2.2.2.2 x_2).2.2.2.2.2.2.2.1 :: nilL Int) (IntKind.wrap IntKind.i64 ((setDead x_1.2.2.2.2 x_2).2.2.2.2.2.2.2.1 + (1 : Int)))).2.2.2.2.2.2.1) ∧ Wr (IntKind.wrap IntKind.i64 ((setDead x_1.2.2.2.2 x_2).2.2.2.2.2.2.2.1
  + (1 : Int)) = (setLet (setDead x_1.2.2.2.2 x_2) (nilL Int ++ (setDead x_1.2.2.2.2 x_2).1 ++ (setDead x_1.2.2.2.2 x_2).2.2.2.2.2.2.2.1 :: nilL Int) (IntKind.wrap IntKind.i64 ((setDead x_1.2.2.2.2 x_2).2.2.2.2.2.2.2.1 +
  (1 : Int)))).2.2.2.2.2.2.2.1) ∧ Wr ((setDead x_1.2.2.2.2 x_2).2.2.2.2.2.2.2.2.1 = (setLet (setDead x_1.2.2.2.2 x_2) (nilL Int ++ (setDead x_1.2.2.2.2 x_2).1 ++ (setDead x_1.2.2.2.2 x_2).2.2.2.2.2.2.2.1 :: nilL Int)
  (IntKind.wrap IntKind.i64 ((setDead x_1.2.2.2.2 x_2).2.2.2.2.2.2.2.1 + (1 : Int)))).2.2.2.2.2.2.2.2.1) ∧ Wr ((setDead x_1.2.2.2.2 x_2).2.2.2.2.2.2.2.2.2 = (setLet (setDead x_1.2.2.2.2 x_2) (nilL Int ++ (setDead
  x_1.2.2.2.2 x_2).1 ++ (setDead x_1.2.2.2.2 x_2).2.2.2.2.2.2.2.1 :: nilL Int) (IntKind.wrap IntKind.i64 ((setDead x_1.2.2.2.2 x_2).2.2.2.2.2.2.2.1 + (1 : Int)))).2.2.2.2.2.2.2.2.2) ∧ Wr (nilL Int ++ (setDead x_1.2.2.2.2
  x_2).1 ++ (setDead x_1.2.2.2.2 x_2).2.2.2.2.2.2.2.1 :: nilL Int = (setLet (setDead x_1.2.2.2.2 x_2) (nilL Int ++ (setDead x_1.2.2.2.2 x_2).1 ++ (setDead x_1.2.2.2.2 x_2).2.2.2.2.2.2.2.1 :: nilL Int) (IntKind.wrap
  IntKind.i64 ((setDead x_1.2.2.2.2 x_2).2.2.2.2.2.2.2.1 + (1 : Int)))).1) ∧ Wr ((setDead x_1.2.2.2.2 x_2).2.1.1 ≤ (setLet (setDead x_1.2.2.2.2 x_2) (nilL Int ++ (setDead x_1.2.2.2.2 x_2).1 ++ (setDead x_1.2.2.2.2
  x_2).2.2.2.2.2.2.2.1 :: nilL Int) (IntKind.wrap IntKind.i64 ((setDead x_1.2.2.2.2 x_2).2.2.2.2.2.2.2.1 + (1 : Int)))).2.1.1) ∧ Wr ((setDead x_1.2.2.2.2 x_2).2.1.2 = (setLet (setDead x_1.2.2.2.2 x_2) (nilL Int ++
  (setDead x_1.2.2.2.2 x_2).1 ++ (setDead x_1.2.2.2.2 x_2).2.2.2.2.2.2.2.1 :: nilL Int) (IntKind.wrap IntKind.i64 ((setDead x_1.2.2.2.2 x_2).2.2.2.2.2.2.2.1 + (1 : Int)))).2.1.2) ∧ Wr ((setDead x_1.2.2.2.2 x_2).2.2.1 =
  (setLet (setDead x_1.2.2.2.2 x_2) (nilL Int ++ (setDead x_1.2.2.2.2 x_2).1 ++ (setDead x_1.2.2.2.2 x_2).2.2.2.2.2.2.2.1 :: nilL Int) (IntKind.wrap IntKind.i64 ((setDead x_1.2.2.2.2 x_2).2.2.2.2.2.2.2.1 + (1 :
  Int)))).2.2.1) ∧ Wr ((setDead x_1.2.2.2.2 x_2).2.2.2.1.1 ≤ (setLet (setDead x_1.2.2.2.2 x_2) (nilL Int ++ (setDead x_1.2.2.2.2 x_2).1 ++ (setDead x_1.2.2.2.2 x_2).2.2.2.2.2.2.2.1 :: nilL Int) (IntKind.wrap IntKind.i64
  ((setDead x_1.2.2.2.2 x_2).2.2.2.2.2.2.2.1 + (1 : Int)))).2.2.2.1.1) ∧ Wr ((setDead x_1.2.2.2.2 x_2).2.2.2.1.2 = (setLet (setDead x_1.2.2.2.2 x_2) (nilL Int ++ (setDead x_1.2.2.2.2 x_2).1 ++ (setDead x_1.2.2.2.2
  x_2).2.2.2.2.2.2.2.1 :: nilL Int) (IntKind.wrap IntKind.i64 ((setDead x_1.2.2.2.2 x_2).2.2.2.2.2.2.2.1 + (1 : Int)))).2.2.2.1.2)) (bcase (decide ((sP x x_1).1 = (1 : Int))) (bcase (decide ((sP x x_1).2.1 < (0 : Int)) ||
  decide ((sP x x_1).2.1 ≥ (↑(List.length (setDead x_1.2.2.2.2 x_2).2.2.1) : Int))) (Wr ((((2 : Int), (setDead x_1.2.2.2.2 x_2).2.2.2.2.2.2.2.1, andI IntKind.i64 (sP x x_1).2.2.1 (1 : Int), (0 : Int), ByteArray.empty, (0
  : Int), ()), false, (setDead x_1.2.2.2.2 x_2).1, (setDead x_1.2.2.2.2 x_2).2.2.2.2.2.2.2.1) = letF (setDead x_1.2.2.2.2 x_2) (sP x x_1)) ∧ E false ∧ E x.2.1 ∧ E (IntKind.wrap IntKind.i64 (x_1.2.1 + (sP x x_1).2.2.1)) ∧
  E x_1.2.2.1 ∧ E x_1.1 ∧ E (offL (casesL x_1.2.2.2.1)) ∧ E ((setDead x_1.2.2.2.2 x_2).2.2.2.2.1) ∧ E x_1.2.2.2.1.1 ∧ E x_1.2.2.2.1.2.1 ∧ E x_1.2.2.2.1.2.2.1 ∧ E x_1.2.2.2.1.2.2.2.1 ∧ E x_1.2.2.2.1.2.2.2.2.1.1.1 ∧ E
  x_1.2.2.2.1.2.2.2.2.1.1.2.1 ∧ E x_1.2.2.2.1.2.2.2.2.1.1.2.2.1 ∧ E x_1.2.2.2.1.2.2.2.2.1.1.2.2.2.1 ∧ E x_1.2.2.2.1.2.2.2.2.1.1.2.2.2.2.1 ∧ E x_1.2.2.2.1.2.2.2.2.1.1.2.2.2.2.2.1 ∧ E x_1.2.2.2.1.2.2.2.2.1.1.2.2.2.2.2.2.1 ∧
  E x_1.2.2.2.1.2.2.2.2.1.1.2.2.2.2.2.2.2.1 ∧ E x_1.2.2.2.1.2.2.2.2.1.1.2.2.2.2.2.2.2.2.1 ∧ E x_1.2.2.2.1.2.2.2.2.1.2.1 ∧ E x_1.2.2.2.1.2.2.2.2.1.2.2.1 ∧ E x_1.2.2.2.1.2.2.2.2.1.2.2.2.1 ∧ E
  x_1.2.2.2.1.2.2.2.2.1.2.2.2.2.1.1 ∧ E x_1.2.2.2.1.2.2.2.2.1.2.2.2.2.1.2.1 ∧ E x_1.2.2.2.1.2.2.2.2.1.2.2.2.2.1.2.2.1 ∧ E x_1.2.2.2.1.2.2.2.2.1.2.2.2.2.2.1 ∧ E x_1.2.2.2.1.2.2.2.2.1.2.2.2.2.2.2.1 ∧ E ((2 : Int)) ∧ E
  ((setDead x_1.2.2.2.2 x_2).2.2.2.2.2.2.2.1) ∧ E (andI IntKind.i64 (sP x x_1).2.2.1 (1 : Int)) ∧ E ((0 : Int)) ∧ E ByteArray.empty ∧ E ((0 : Int)) ∧ Wr ((setDead x_1.2.2.2.2 x_2).2.2.2.2.1 = (tL0 x_1 x_2).2.2.2.2.1) ∧ Wr
  ((setDead x_1.2.2.2.2 x_2).2.2.2.2.2.1 = (tL0 x_1 x_2).2.2.2.2.2.1) ∧ Wr ((setDead x_1.2.2.2.2 x_2).2.2.2.2.2.2.1 = (tL0 x_1 x_2).2.2.2.2.2.2.1) ∧ Wr ((setDead x_1.2.2.2.2 x_2).2.2.2.2.2.2.2.1 = (tL0 x_1
  x_2).2.2.2.2.2.2.2.1) ∧ Wr ((setDead x_1.2.2.2.2 x_2).2.2.2.2.2.2.2.2.1 = (tL0 x_1 x_2).2.2.2.2.2.2.2.2.1) ∧ Wr ((setDead x_1.2.2.2.2 x_2).2.2.2.2.2.2.2.2.2 = (tL0 x_1 x_2).2.2.2.2.2.2.2.2.2) ∧ Wr ((setDead x_1.2.2.2.2
  x_2).1 = (tL0 x_1 x_2).1) ∧ Wr ((setDead x_1.2.2.2.2 x_2).2.1.1 ≤ (tL0 x_1 x_2).2.1.1) ∧ Wr ((setDead x_1.2.2.2.2 x_2).2.1.2 = (tL0 x_1 x_2).2.1.2) ∧ Wr ((setDead x_1.2.2.2.2 x_2).2.2.1 = (tL0 x_1 x_2).2.2.1) ∧ Wr
  ((setDead x_1.2.2.2.2 x_2).2.2.2.1.1 ≤ (tL0 x_1 x_2).2.2.2.1.1) ∧ Wr ((setDead x_1.2.2.2.2 x_2).2.2.2.1.2 = (tL0 x_1 x_2).2.2.2.1.2)) (Wr ((0 : Int) ≤ (sP x x_1).2.1) ∧ Wr ((sP x x_1).2.1 < (↑(List.length (setDead
  x_1.2.2.2.2 x_2).2.2.1) : Int)) ∧ Wr ((((2 : Int), (setDead x_1.2.2.2.2 x_2).2.2.2.2.2.2.2.1, andI IntKind.i64 (sP x x_1).2.2.1 (1 : Int), List.getD (setDead x_1.2.2.2.2 x_2).2.2.1 (Int.toNat (sP x x_1).2.1) (0 : Int),
  ByteArray.empty, (0 : Int), ()), true, (setDead x_1.2.2.2.2 x_2).1, IntKind.wrap IntKind.i64 ((setDead x_1.2.2.2.2 x_2).2.2.2.2.2.2.2.1 + (1 : Int))) = letF (setDead x_1.2.2.2.2 x_2) (sP x x_1)) ∧ E true ∧ E x.2.1 ∧ E
  (IntKind.wrap IntKind.i64 (x_1.2.1 + (sP x x_1).2.2.1)) ∧ E x_1.2.2.1 ∧ E x_1.1 ∧ E (offL (casesL x_1.2.2.2.1)) ∧ E ((setDead x_1.2.2.2.2 x_2).2.2.2.2.1) ∧ E x_1.2.2.2.1.1 ∧ E x_1.2.2.2.1.2.1 ∧ E x_1.2.2.2.1.2.2.1 ∧ E
  x_1.2.2.2.1.2.2.2.1 ∧ E x_1.2.2.2.1.2.2.2.2.1.1.1 ∧ E x_1.2.2.2.1.2.2.2.2.1.1.2.1 ∧ E x_1.2.2.2.1.2.2.2.2.1.1.2.2.1 ∧ E x_1.2.2.2.1.2.2.2.2.1.1.2.2.2.1 ∧ E x_1.2.2.2.1.2.2.2.2.1.1.2.2.2.2.1 ∧ E
  x_1.2.2.2.1.2.2.2.2.1.1.2.2.2.2.2.1 ∧ E x_1.2.2.2.1.2.2.2.2.1.1.2.2.2.2.2.2.1 ∧ E x_1.2.2.2.1.2.2.2.2.1.1.2.2.2.2.2.2.2.1 ∧ E x_1.2.2.2.1.2.2.2.2.1.1.2.2.2.2.2.2.2.2.1 ∧ E x_1.2.2.2.1.2.2.2.2.1.2.1 ∧ E
  x_1.2.2.2.1.2.2.2.2.1.2.2.1 ∧ E x_1.2.2.2.1.2.2.2.2.1.2.2.2.1 ∧ E x_1.2.2.2.1.2.2.2.2.1.2.2.2.2.1.1 ∧ E x_1.2.2.2.1.2.2.2.2.1.2.2.2.2.1.2.1 ∧ E x_1.2.2.2.1.2.2.2.2.1.2.2.2.2.1.2.2.1 ∧ E x_1.2.2.2.1.2.2.2.2.1.2.2.2.2.2.1
  ∧ E x_1.2.2.2.1.2.2.2.2.1.2.2.2.2.2.2.1 ∧ E ((2 : Int)) ∧ E ((setDead x_1.2.2.2.2 x_2).2.2.2.2.2.2.2.1) ∧ E (andI IntKind.i64 (sP x x_1).2.2.1 (1 : Int)) ∧ E (List.getD (setDead x_1.2.2.2.2 x_2).2.2.1 (Int.toNat (sP x
  x_1).2.1) (0 : Int)) ∧ E ByteArray.empty ∧ E ((0 : Int)) ∧ Wr ((setDead x_1.2.2.2.2 x_2).2.2.2.2.1 = (setLet (setDead x_1.2.2.2.2 x_2) (setDead x_1.2.2.2.2 x_2).1 (IntKind.wrap IntKind.i64 ((setDead x_1.2.2.2.2
  x_2).2.2.2.2.2.2.2.1 + (1 : Int)))).2.2.2.2.1) ∧ Wr ((setDead x_1.2.2.2.2 x_2).2.2.2.2.2.1 = (setLet (setDead x_1.2.2.2.2 x_2) (setDead x_1.2.2.2.2 x_2).1 (IntKind.wrap IntKind.i64 ((setDead x_1.2.2.2.2
  x_2).2.2.2.2.2.2.2.1 + (1 : Int)))).2.2.2.2.2.1) ∧ Wr ((setDead x_1.2.2.2.2 x_2).2.2.2.2.2.2.1 = (setLet (setDead x_1.2.2.2.2 x_2) (setDead x_1.2.2.2.2 x_2).1 (IntKind.wrap IntKind.i64 ((setDead x_1.2.2.2.2
  x_2).2.2.2.2.2.2.2.1 + (1 : Int)))).2.2.2.2.2.2.1) ∧ Wr (IntKind.wrap IntKind.i64 ((setDead x_1.2.2.2.2 x_2).2.2.2.2.2.2.2.1 + (1 : Int)) = (setLet (setDead x_1.2.2.2.2 x_2) (setDead x_1.2.2.2.2 x_2).1 (IntKind.wrap
  IntKind.i64 ((setDead x_1.2.2.2.2 x_2).2.2.2.2.2.2.2.1 + (1 : Int)))).2.2.2.2.2.2.2.1) ∧ Wr ((setDead x_1.2.2.2.2 x_2).2.2.2.2.2.2.2.2.1 = (setLet (setDead x_1.2.2.2.2 x_2) (setDead x_1.2.2.2.2 x_2).1 (IntKind.wrap
  IntKind.i64 ((setDead x_1.2.2.2.2 x_2).2.2.2.2.2.2.2.1 + (1 : Int)))).2.2.2.2.2.2.2.2.1) ∧ Wr ((setDead x_1.2.2.2.2 x_2).2.2.2.2.2.2.2.2.2 = (setLet (setDead x_1.2.2.2.2 x_2) (setDead x_1.2.2.2.2 x_2).1 (IntKind.wrap
  IntKind.i64 ((setDead x_1.2.2.2.2 x_2).2.2.2.2.2.2.2.1 + (1 : Int)))).2.2.2.2.2.2.2.2.2) ∧ Wr ((setDead x_1.2.2.2.2 x_2).1 = (setLet (setDead x_1.2.2.2.2 x_2) (setDead x_1.2.2.2.2 x_2).1 (IntKind.wrap IntKind.i64
  ((setDead x_1.2.2.2.2 x_2).2.2.2.2.2.2.2.1 + (1 : Int)))).1) ∧ Wr ((setDead x_1.2.2.2.2 x_2).2.1.1 ≤ (setLet (setDead x_1.2.2.2.2 x_2) (setDead x_1.2.2.2.2 x_2).1 (IntKind.wrap IntKind.i64 ((setDead x_1.2.2.2.2
  x_2).2.2.2.2.2.2.2.1 + (1 : Int)))).2.1.1) ∧ Wr ((setDead x_1.2.2.2.2 x_2).2.1.2 = (setLet (setDead x_1.2.2.2.2 x_2) (setDead x_1.2.2.2.2 x_2).1 (IntKind.wrap IntKind.i64 ((setDead x_1.2.2.2.2 x_2).2.2.2.2.2.2.2.1 + (1
  : Int)))).2.1.2) ∧ Wr ((setDead x_1.2.2.2.2 x_2).2.2.1 = (setLet (setDead x_1.2.2.2.2 x_2) (setDead x_1.2.2.2.2 x_2).1 (IntKind.wrap IntKind.i64 ((setDead x_1.2.2.2.2 x_2).2.2.2.2.2.2.2.1 + (1 : Int)))).2.2.1) ∧ Wr
  ((setDead x_1.2.2.2.2 x_2).2.2.2.1.1 ≤ (setLet (setDead x_1.2.2.2.2 x_2) (setDead x_1.2.2.2.2 x_2).1 (IntKind.wrap IntKind.i64 ((setDead x_1.2.2.2.2 x_2).2.2.2.2.2.2.2.1 + (1 : Int)))).2.2.2.1.1) ∧ Wr ((setDead
  x_1.2.2.2.2 x_2).2.2.2.1.2 = (setLet (setDead x_1.2.2.2.2 x_2) (setDead x_1.2.2.2.2 x_2).1 (IntKind.wrap IntKind.i64 ((setDead x_1.2.2.2.2 x_2).2.2.2.2.2.2.2.1 + (1 : Int)))).2.2.2.1.2))) (bcase (decide ((sP x x_1).1 =
  (2 : Int))) (bcase (decide ((sP x x_1).2.1 < (0 : Int)) || decide ((sP x x_1).2.1 ≥ (↑(List.length (setDead x_1.2.2.2.2 x_2).1) : Int))) (Wr ((((3 : Int), (setDead x_1.2.2.2.2 x_2).2.2.2.2.2.2.2.1, (0 : Int), (0 : Int),
  ByteArray.empty, (0 : Int), ()), false, (setDead x_1.2.2.2.2 x_2).1, (setDead x_1.2.2.2.2 x_2).2.2.2.2.2.2.2.1) = letF (setDead x_1.2.2.2.2 x_2) (sP x x_1)) ∧ E false ∧ E x.2.1 ∧ E (IntKind.wrap IntKind.i64 (x_1.2.1 +
  (sP x x_1).2.2.1)) ∧ E x_1.2.2.1 ∧ E x_1.1 ∧ E (offL (casesL x_1.2.2.2.1)) ∧ E ((setDead x_1.2.2.2.2 x_2).2.2.2.2.1) ∧ E x_1.2.2.2.1.1 ∧ E x_1.2.2.2.1.2.1 ∧ E x_1.2.2.2.1.2.2.1 ∧ E x_1.2.2.2.1.2.2.2.1 ∧ E
  x_1.2.2.2.1.2.2.2.2.1.1.1 ∧ E x_1.2.2.2.1.2.2.2.2.1.1.2.1 ∧ E x_1.2.2.2.1.2.2.2.2.1.1.2.2.1 ∧ E x_1.2.2.2.1.2.2.2.2.1.1.2.2.2.1 ∧ E x_1.2.2.2.1.2.2.2.2.1.1.2.2.2.2.1 ∧ E x_1.2.2.2.1.2.2.2.2.1.1.2.2.2.2.2.1 ∧ E
  x_1.2.2.2.1.2.2.2.2.1.1.2.2.2.2.2.2.1 ∧ E x_1.2.2.2.1.2.2.2.2.1.1.2.2.2.2.2.2.2.1 ∧ E x_1.2.2.2.1.2.2.2.2.1.1.2.2.2.2.2.2.2.2.1 ∧ E x_1.2.2.2.1.2.2.2.2.1.2.1 ∧ E x_1.2.2.2.1.2.2.2.2.1.2.2.1 ∧ E
  x_1.2.2.2.1.2.2.2.2.1.2.2.2.1 ∧ E x_1.2.2.2.1.2.2.2.2.1.2.2.2.2.1.1 ∧ E x_1.2.2.2.1.2.2.2.2.1.2.2.2.2.1.2.1 ∧ E x_1.2.2.2.1.2.2.2.2.1.2.2.2.2.1.2.2.1 ∧ E x_1.2.2.2.1.2.2.2.2.1.2.2.2.2.2.1 ∧ E
  x_1.2.2.2.1.2.2.2.2.1.2.2.2.2.2.2.1 ∧ E ((3 : Int)) ∧ E ((setDead x_1.2.2.2.2 x_2).2.2.2.2.2.2.2.1) ∧ E ((0 : Int)) ∧ E ((0 : Int)) ∧ E ByteArray.empty ∧ E ((0 : Int)) ∧ Wr ((setDead x_1.2.2.2.2 x_2).2.2.2.2.1 = (tL0
  x_1 x_2).2.2.2.2.1) ∧ Wr ((setDead x_1.2.2.2.2 x_2).2.2.2.2.2.1 = (tL0 x_1 x_2).2.2.2.2.2.1) ∧ Wr ((setDead x_1.2.2.2.2 x_2).2.2.2.2.2.2.1 = (tL0 x_1 x_2).2.2.2.2.2.2.1) ∧ Wr ((setDead x_1.2.2.2.2 x_2).2.2.2.2.2.2.2.1 =
  (tL0 x_1 x_2).2.2.2.2.2.2.2.1) ∧ Wr ((setDead x_1.2.2.2.2 x_2).2.2.2.2.2.2.2.2.1 = (tL0 x_1 x_2).2.2.2.2.2.2.2.2.1) ∧ Wr ((setDead x_1.2.2.2.2 x_2).2.2.2.2.2.2.2.2.2 = (tL0 x_1 x_2).2.2.2.2.2.2.2.2.2) ∧ Wr ((setDead
  x_1.2.2.2.2 x_2).1 = (tL0 x_1 x_2).1) ∧ Wr ((setDead x_1.2.2.2.2 x_2).2.1.1 ≤ (tL0 x_1 x_2).2.1.1) ∧ Wr ((setDead x_1.2.2.2.2 x_2).2.1.2 = (tL0 x_1 x_2).2.1.2) ∧ Wr ((setDead x_1.2.2.2.2 x_2).2.2.1 = (tL0 x_1
  x_2).2.2.1) ∧ Wr ((setDead x_1.2.2.2.2 x_2).2.2.2.1.1 ≤ (tL0 x_1 x_2).2.2.2.1.1) ∧ Wr ((setDead x_1.2.2.2.2 x_2).2.2.2.1.2 = (tL0 x_1 x_2).2.2.2.1.2)) (Wr ((0 : Int) ≤ (sP x x_1).2.1) ∧ Wr ((sP x x_1).2.1 <
  (↑(List.length (setDead x_1.2.2.2.2 x_2).1) : Int)) ∧ Wr ((((3 : Int), List.getD (setDead x_1.2.2.2.2 x_2).1 (Int.toNat (sP x x_1).2.1) (0 : Int), (0 : Int), (0 : Int), ByteArray.empty, (0 : Int), ()), true, (setDead
  x_1.2.2.2.2 x_2).1, (setDead x_1.2.2.2.2 x_2).2.2.2.2.2.2.2.1) = letF (setDead x_1.2.2.2.2 x_2) (sP x x_1)) ∧ E true ∧ E x.2.1 ∧ E (IntKind.wrap IntKind.i64 (x_1.2.1 + (sP x x_1).2.2.1)) ∧ E x_1.2.2.1 ∧ E x_1.1 ∧ E
  (offL (casesL x_1.2.2.2.1)) ∧ E ((setDead x_1.2.2.2.2 x_2).2.2.2.2.1) ∧ E x_1.2.2.2.1.1 ∧ E x_1.2.2.2.1.2.1 ∧ E x_1.2.2.2.1.2.2.1 ∧ E x_1.2.2.2.1.2.2.2.1 ∧ E x_1.2.2.2.1.2.2.2.2.1.1.1 ∧ E x_1.2.2.2.1.2.2.2.2.1.1.2.1 ∧ E
  x_1.2.2.2.1.2.2.2.2.1.1.2.2.1 ∧ E x_1.2.2.2.1.2.2.2.2.1.1.2.2.2.1 ∧ E x_1.2.2.2.1.2.2.2.2.1.1.2.2.2.2.1 ∧ E x_1.2.2.2.1.2.2.2.2.1.1.2.2.2.2.2.1 ∧ E x_1.2.2.2.1.2.2.2.2.1.1.2.2.2.2.2.2.1 ∧ E
  x_1.2.2.2.1.2.2.2.2.1.1.2.2.2.2.2.2.2.1 ∧ E x_1.2.2.2.1.2.2.2.2.1.1.2.2.2.2.2.2.2.2.1 ∧ E x_1.2.2.2.1.2.2.2.2.1.2.1 ∧ E x_1.2.2.2.1.2.2.2.2.1.2.2.1 ∧ E x_1.2.2.2.1.2.2.2.2.1.2.2.2.1 ∧ E x_1.2.2.2.1.2.2.2.2.1.2.2.2.2.1.1
  ∧ E x_1.2.2.2.1.2.2.2.2.1.2.2.2.2.1.2.1 ∧ E x_1.2.2.2.1.2.2.2.2.1.2.2.2.2.1.2.2.1 ∧ E x_1.2.2.2.1.2.2.2.2.1.2.2.2.2.2.1 ∧ E x_1.2.2.2.1.2.2.2.2.1.2.2.2.2.2.2.1 ∧ E ((3 : Int)) ∧ E (List.getD (setDead x_1.2.2.2.2 x_2).1
  (Int.toNat (sP x x_1).2.1) (0 : Int)) ∧ E ((0 : Int)) ∧ E ((0 : Int)) ∧ E ByteArray.empty ∧ E ((0 : Int)) ∧ Wr ((setDead x_1.2.2.2.2 x_2).2.2.2.2.1 = (tL0 x_1 x_2).2.2.2.2.1) ∧ Wr ((setDead x_1.2.2.2.2 x_2).2.2.2.2.2.1
  = (tL0 x_1 x_2).2.2.2.2.2.1) ∧ Wr ((setDead x_1.2.2.2.2 x_2).2.2.2.2.2.2.1 = (tL0 x_1 x_2).2.2.2.2.2.2.1) ∧ Wr ((setDead x_1.2.2.2.2 x_2).2.2.2.2.2.2.2.1 = (tL0 x_1 x_2).2.2.2.2.2.2.2.1) ∧ Wr ((setDead x_1.2.2.2.2
  x_2).2.2.2.2.2.2.2.2.1 = (tL0 x_1 x_2).2.2.2.2.2.2.2.2.1) ∧ Wr ((setDead x_1.2.2.2.2 x_2).2.2.2.2.2.2.2.2.2 = (tL0 x_1 x_2).2.2.2.2.2.2.2.2.2) ∧ Wr ((setDead x_1.2.2.2.2 x_2).1 = (tL0 x_1 x_2).1) ∧ Wr ((setDead
  x_1.2.2.2.2 x_2).2.1.1 ≤ (tL0 x_1 x_2).2.1.1) ∧ Wr ((setDead x_1.2.2.2.2 x_2).2.1.2 = (tL0 x_1 x_2).2.1.2) ∧ Wr ((setDead x_1.2.2.2.2 x_2).2.2.1 = (tL0 x_1 x_2).2.2.1) ∧ Wr ((setDead x_1.2.2.2.2 x_2).2.2.2.1.1 ≤ (tL0
  x_1 x_2).2.2.2.1.1) ∧ Wr ((setDead x_1.2.2.2.2 x_2).2.2.2.1.2 = (tL0 x_1 x_2).2.2.2.1.2))) (bcase (decide ((sP x x_1).1 = (3 : Int))) (Wr ((((4 : Int), (setDead x_1.2.2.2.2 x_2).2.2.2.2.2.2.2.1, (0 : Int), (0 : Int),
  ByteArray.empty, (0 : Int), ()), true, (setDead x_1.2.2.2.2 x_2).1, IntKind.wrap IntKind.i64 ((setDead x_1.2.2.2.2 x_2).2.2.2.2.2.2.2.1 + (1 : Int))) = letF (setDead x_1.2.2.2.2 x_2) (sP x x_1)) ∧ E true ∧ E x.2.1 ∧ E
  (IntKind.wrap IntKind.i64 (x_1.2.1 + (sP x x_1).2.2.1)) ∧ E x_1.2.2.1 ∧ E x_1.1 ∧ E (offL (casesL x_1.2.2.2.1)) ∧ E ((setDead x_1.2.2.2.2 x_2).2.2.2.2.1) ∧ E x_1.2.2.2.1.1 ∧ E x_1.2.2.2.1.2.1 ∧ E x_1.2.2.2.1.2.2.1 ∧ E
  x_1.2.2.2.1.2.2.2.1 ∧ E x_1.2.2.2.1.2.2.2.2.1.1.1 ∧ E x_1.2.2.2.1.2.2.2.2.1.1.2.1 ∧ E x_1.2.2.2.1.2.2.2.2.1.1.2.2.1 ∧ E x_1.2.2.2.1.2.2.2.2.1.1.2.2.2.1 ∧ E x_1.2.2.2.1.2.2.2.2.1.1.2.2.2.2.1 ∧ E
  x_1.2.2.2.1.2.2.2.2.1.1.2.2.2.2.2.1 ∧ E x_1.2.2.2.1.2.2.2.2.1.1.2.2.2.2.2.2.1 ∧ E x_1.2.2.2.1.2.2.2.2.1.1.2.2.2.2.2.2.2.1 ∧ E x_1.2.2.2.1.2.2.2.2.1.1.2.2.2.2.2.2.2.2.1 ∧ E x_1.2.2.2.1.2.2.2.2.1.2.1 ∧ E
  x_1.2.2.2.1.2.2.2.2.1.2.2.1 ∧ E x_1.2.2.2.1.2.2.2.2.1.2.2.2.1 ∧ E x_1.2.2.2.1.2.2.2.2.1.2.2.2.2.1.1 ∧ E x_1.2.2.2.1.2.2.2.2.1.2.2.2.2.1.2.1 ∧ E x_1.2.2.2.1.2.2.2.2.1.2.2.2.2.1.2.2.1 ∧ E x_1.2.2.2.1.2.2.2.2.1.2.2.2.2.2.1
  ∧ E x_1.2.2.2.1.2.2.2.2.1.2.2.2.2.2.2.1 ∧ E ((4 : Int)) ∧ E ((setDead x_1.2.2.2.2 x_2).2.2.2.2.2.2.2.1) ∧ E ((0 : Int)) ∧ E ((0 : Int)) ∧ E ByteArray.empty ∧ E ((0 : Int)) ∧ Wr ((setDead x_1.2.2.2.2 x_2).2.2.2.2.1 =
  (setLet (setDead x_1.2.2.2.2 x_2) (setDead x_1.2.2.2.2 x_2).1 (IntKind.wrap IntKind.i64 ((setDead x_1.2.2.2.2 x_2).2.2.2.2.2.2.2.1 + (1 : Int)))).2.2.2.2.1) ∧ Wr ((setDead x_1.2.2.2.2 x_2).2.2.2.2.2.1 = (setLet (setDead
  x_1.2.2.2.2 x_2) (setDead x_1.2.2.2.2 x_2).1 (IntKind.wrap IntKind.i64 ((setDead x_1.2.2.2.2 x_2).2.2.2.2.2.2.2.1 + (1 : Int)))).2.2.2.2.2.1) ∧ Wr ((setDead x_1.2.2.2.2 x_2).2.2.2.2.2.2.1 = (setLet (setDead x_1.2.2.2.2
  x_2) (setDead x_1.2.2.2.2 x_2).1 (IntKind.wrap IntKind.i64 ((setDead x_1.2.2.2.2 x_2).2.2.2.2.2.2.2.1 + (1 : Int)))).2.2.2.2.2.2.1) ∧ Wr (IntKind.wrap IntKind.i64 ((setDead x_1.2.2.2.2 x_2).2.2.2.2.2.2.2.1 + (1 : Int))
  = (setLet (setDead x_1.2.2.2.2 x_2) (setDead x_1.2.2.2.2 x_2).1 (IntKind.wrap IntKind.i64 ((setDead x_1.2.2.2.2 x_2).2.2.2.2.2.2.2.1 + (1 : Int)))).2.2.2.2.2.2.2.1) ∧ Wr ((setDead x_1.2.2.2.2 x_2).2.2.2.2.2.2.2.2.1 =
  (setLet (setDead x_1.2.2.2.2 x_2) (setDead x_1.2.2.2.2 x_2).1 (IntKind.wrap IntKind.i64 ((setDead x_1.2.2.2.2 x_2).2.2.2.2.2.2.2.1 + (1 : Int)))).2.2.2.2.2.2.2.2.1) ∧ Wr ((setDead x_1.2.2.2.2 x_2).2.2.2.2.2.2.2.2.2 =
  (setLet (setDead x_1.2.2.2.2 x_2) (setDead x_1.2.2.2.2 x_2).1 (IntKind.wrap IntKind.i64 ((setDead x_1.2.2.2.2 x_2).2.2.2.2.2.2.2.1 + (1 : Int)))).2.2.2.2.2.2.2.2.2) ∧ Wr ((setDead x_1.2.2.2.2 x_2).1 = (setLet (setDead
  x_1.2.2.2.2 x_2) (setDead x_1.2.2.2.2 x_2).1 (IntKind.wrap IntKind.i64 ((setDead x_1.2.2.2.2 x_2).2.2.2.2.2.2.2.1 + (1 : Int)))).1) ∧ Wr ((setDead x_1.2.2.2.2 x_2).2.1.1 ≤ (setLet (setDead x_1.2.2.2.2 x_2) (setDead
  x_1.2.2.2.2 x_2).1 (IntKind.wrap IntKind.i64 ((setDead x_1.2.2.2.2 x_2).2.2.2.2.2.2.2.1 + (1 : Int)))).2.1.1) ∧ Wr ((setDead x_1.2.2.2.2 x_2).2.1.2 = (setLet (setDead x_1.2.2.2.2 x_2) (setDead x_1.2.2.2.2 x_2).1
  (IntKind.wrap IntKind.i64 ((setDead x_1.2.2.2.2 x_2).2.2.2.2.2.2.2.1 + (1 : Int)))).2.1.2) ∧ Wr ((setDead x_1.2.2.2.2 x_2).2.2.1 = (setLet (setDead x_1.2.2.2.2 x_2) (setDead x_1.2.2.2.2 x_2).1 (IntKind.wrap IntKind.i64
  ((setDead x_1.2.2.2.2 x_2).2.2.2.2.2.2.2.1 + (1 : Int)))).2.2.1) ∧ Wr ((setDead x_1.2.2.2.2 x_2).2.2.2.1.1 ≤ (setLet (setDead x_1.2.2.2.2 x_2) (setDead x_1.2.2.2.2 x_2).1 (IntKind.wrap IntKind.i64 ((setDead x_1.2.2.2.2
  x_2).2.2.2.2.2.2.2.1 + (1 : Int)))).2.2.2.1.1) ∧ Wr ((setDead x_1.2.2.2.2 x_2).2.2.2.1.2 = (setLet (setDead x_1.2.2.2.2 x_2) (setDead x_1.2.2.2.2 x_2).1 (IntKind.wrap IntKind.i64 ((setDead x_1.2.2.2.2
  x_2).2.2.2.2.2.2.2.1 + (1 : Int)))).2.2.2.1.2)) (Wr ((((0 : Int), (setDead x_1.2.2.2.2 x_2).2.2.2.2.2.2.2.1, (0 : Int), (0 : Int), ByteArray.empty, (0 : Int), ()), false, (setDead x_1.2.2.2.2 x_2).1, (setDead
  x_1.2.2.2.2 x_2).2.2.2.2.2.2.2.1) = letF (setDead x_1.2.2.2.2 x_2) (sP x x_1)) ∧ E false ∧ E x.2.1 ∧ E (IntKind.wrap IntKind.i64 (x_1.2.1 + (sP x x_1).2.2.1)) ∧ E x_1.2.2.1 ∧ E x_1.1 ∧ E (offL (casesL x_1.2.2.2.1)) ∧ E
  ((setDead x_1.2.2.2.2 x_2).2.2.2.2.1) ∧ E x_1.2.2.2.1.1 ∧ E x_1.2.2.2.1.2.1 ∧ E x_1.2.2.2.1.2.2.1 ∧ E x_1.2.2.2.1.2.2.2.1 ∧ E x_1.2.2.2.1.2.2.2.2.1.1.1 ∧ E x_1.2.2.2.1.2.2.2.2.1.1.2.1 ∧ E x_1.2.2.2.1.2.2.2.2.1.1.2.2.1 ∧
  E x_1.2.2.2.1.2.2.2.2.1.1.2.2.2.1 ∧ E x_1.2.2.2.1.2.2.2.2.1.1.2.2.2.2.1 ∧ E x_1.2.2.2.1.2.2.2.2.1.1.2.2.2.2.2.1 ∧ E x_1.2.2.2.1.2.2.2.2.1.1.2.2.2.2.2.2.1 ∧ E x_1.2.2.2.1.2.2.2.2.1.1.2.2.2.2.2.2.2.1 ∧ E
  x_1.2.2.2.1.2.2.2.2.1.1.2.2.2.2.2.2.2.2.1 ∧ E x_1.2.2.2.1.2.2.2.2.1.2.1 ∧ E x_1.2.2.2.1.2.2.2.2.1.2.2.1 ∧ E x_1.2.2.2.1.2.2.2.2.1.2.2.2.1 ∧ E x_1.2.2.2.1.2.2.2.2.1.2.2.2.2.1.1 ∧ E x_1.2.2.2.1.2.2.2.2.1.2.2.2.2.1.2.1 ∧ E
  x_1.2.2.2.1.2.2.2.2.1.2.2.2.2.1.2.2.1 ∧ E x_1.2.2.2.1.2.2.2.2.1.2.2.2.2.2.1 ∧ E x_1.2.2.2.1.2.2.2.2.1.2.2.2.2.2.2.1 ∧ E ((0 : Int)) ∧ E ((setDead x_1.2.2.2.2 x_2).2.2.2.2.2.2.2.1) ∧ E ((0 : Int)) ∧ E ((0 : Int)) ∧ E
  ByteArray.empty ∧ E ((0 : Int)) ∧ Wr ((setDead x_1.2.2.2.2 x_2).2.2.2.2.1 = (tL0 x_1 x_2).2.2.2.2.1) ∧ Wr ((setDead x_1.2.2.2.2 x_2).2.2.2.2.2.1 = (tL0 x_1 x_2).2.2.2.2.2.1) ∧ Wr ((setDead x_1.2.2.2.2 x_2).2.2.2.2.2.2.1
  = (tL0 x_1 x_2).2.2.2.2.2.2.1) ∧ Wr ((setDead x_1.2.2.2.2 x_2).2.2.2.2.2.2.2.1 = (tL0 x_1 x_2).2.2.2.2.2.2.2.1) ∧ Wr ((setDead x_1.2.2.2.2 x_2).2.2.2.2.2.2.2.2.1 = (tL0 x_1 x_2).2.2.2.2.2.2.2.2.1) ∧ Wr ((setDead
  x_1.2.2.2.2 x_2).2.2.2.2.2.2.2.2.2 = (tL0 x_1 x_2).2.2.2.2.2.2.2.2.2) ∧ Wr ((setDead x_1.2.2.2.2 x_2).1 = (tL0 x_1 x_2).1) ∧ Wr ((setDead x_1.2.2.2.2 x_2).2.1.1 ≤ (tL0 x_1 x_2).2.1.1) ∧ Wr ((setDead x_1.2.2.2.2
  x_2).2.1.2 = (tL0 x_1 x_2).2.1.2) ∧ Wr ((setDead x_1.2.2.2.2 x_2).2.2.1 = (tL0 x_1 x_2).2.2.1) ∧ Wr ((setDead x_1.2.2.2.2 x_2).2.2.2.1.1 ≤ (tL0 x_1 x_2).2.2.2.1.1) ∧ Wr ((setDead x_1.2.2.2.2 x_2).2.2.2.1.2 = (tL0 x_1
  x_2).2.2.2.1.2)))))) ∧ ∀ (x_3 : Lt × Bool × List Int × Int), Wr (x_3 = letF (setDead x_1.2.2.2.2 x_2) (sP x x_1)) → (Wr ((0 : Int) ≤ x_1.1) ∧ Wr (x_1.1 < (↑(List.length x.2.1) : Int)) ∧ E true ∧ E true ∧ bcase (decide
  ((sP x x_1).1 = (4 : Int)) && (tL x_1 x_2 x_3).2.2.2.2.2.1) (Wr ((!decide ((↑(List.length (offL (casesL x_1.2.2.2.1))) : Int) < (2 : Int))) = true → (0 : Int) ≤ (1 : Int)) ∧ Wr ((!decide ((↑(List.length (offL (casesL
  x_1.2.2.2.1))) : Int) < (2 : Int))) = true → (1 : Int) < (↑(List.length (offL (casesL x_1.2.2.2.1))) : Int)) ∧ Wr ((!decide ((↑(List.length (offL (casesL x_1.2.2.2.1))) : Int) < (2 : Int))) = true → true = true) ∧ Wr
  ((!decide ((↑(List.length (offL (casesL x_1.2.2.2.1))) : Int) < (2 : Int))) = true → true = true) ∧ Wr ((!(decide ((↑(List.length (offL (casesL x_1.2.2.2.1))) : Int) < (2 : Int)) || !decide ((List.getD (offL (casesL
  x_1.2.2.2.1)) (Int.toNat (1 : Int)) (Ty.zero OffT)).1 = (1 : Int)))) = true → (0 : Int) ≤ (1 : Int)) ∧ Wr ((!(decide ((↑(List.length (offL (casesL x_1.2.2.2.1))) : Int) < (2 : Int)) || !decide ((List.getD (offL (casesL
  x_1.2.2.2.1)) (Int.toNat (1 : Int)) (Ty.zero OffT)).1 = (1 : Int)))) = true → (1 : Int) < (↑(List.length (offL (casesL x_1.2.2.2.1))) : Int)) ∧ Wr ((!(decide ((↑(List.length (offL (casesL x_1.2.2.2.1))) : Int) < (2 :
  Int)) || !decide ((List.getD (offL (casesL x_1.2.2.2.1)) (Int.toNat (1 : Int)) (Ty.zero OffT)).1 = (1 : Int)))) = true → true = true) ∧ Wr ((!(decide ((↑(List.length (offL (casesL x_1.2.2.2.1))) : Int) < (2 : Int)) ||
  !decide ((List.getD (offL (casesL x_1.2.2.2.1)) (Int.toNat (1 : Int)) (Ty.zero OffT)).1 = (1 : Int)))) = true → true = true) ∧ Wr ((!(decide ((↑(List.length (offL (casesL x_1.2.2.2.1))) : Int) < (2 : Int)) || !decide
  ((List.getD (offL (casesL x_1.2.2.2.1)) (Int.toNat (1 : Int)) (Ty.zero OffT)).1 = (1 : Int)))) = true → true = true) ∧ bcase (decide ((↑(List.length (offL (casesL x_1.2.2.2.1))) : Int) < (2 : Int)) || !decide
  ((List.getD (offL (casesL x_1.2.2.2.1)) (Int.toNat (1 : Int)) (Ty.zero OffT)).1 = (1 : Int)) || !decide ((List.getD (offL (casesL x_1.2.2.2.1)) (Int.toNat (1 : Int)) (Ty.zero OffT)).2.1 = dOf (setDead x_1.2.2.2.2
  x_2).2.2.2.2.1 (2 : Int))) ((false, ()) = (true, ())) (Wr ((0 : Int) ≤ x_1.1) ∧ Wr (x_1.1 < (↑(List.length x.2.1) : Int)) ∧ E true ∧ E true ∧ Wr ((0 : Int) ≤ x_1.1) ∧ Wr (x_1.1 < (↑(List.length x.2.1) : Int)) ∧ E true ∧
  E true ∧ bcase (decide ((sP x x_1).2.2.2.1 = (0 : Int))) (Wr (chF (tL x_1 x_2 x_3) (sP x x_1) (setDead x_1.2.2.2.2 x_2).2.2.2.2.1 (offL (casesL x_1.2.2.2.1)) x_3.1 x_3.2.1 = some ((1 : Int), ((10 : Int), (setDead
  x_1.2.2.2.2 x_2).2.2.2.2.1, (0 : Int), (tL x_1 x_2 x_3).2.2.2.2.2.2.2.2.1, ByteArray.empty, (sP x x_1).2.2.2.1, ()), false, IntKind.wrap IntKind.i64 ((tL x_1 x_2 x_3).2.2.2.2.2.2.2.2.1 + (1 : Int)))) ∧ E ((1 : Int)) ∧ E
  x.2.1 ∧ E (IntKind.wrap IntKind.i64 (x_1.2.1 + (sP x x_1).2.2.1)) ∧ E x_1.2.2.1 ∧ E x_1.1 ∧ E (offL (casesL x_1.2.2.2.1)) ∧ E ((setDead x_1.2.2.2.2 x_2).2.2.2.2.1) ∧ E x_1.2.2.2.1.1 ∧ E x_1.2.2.2.1.2.1 ∧ E
  x_1.2.2.2.1.2.2.1 ∧ E x_1.2.2.2.1.2.2.2.1 ∧ E x_1.2.2.2.1.2.2.2.2.1.1.1 ∧ E x_1.2.2.2.1.2.2.2.2.1.1.2.1 ∧ E x_1.2.2.2.1.2.2.2.2.1.1.2.2.1 ∧ E x_1.2.2.2.1.2.2.2.2.1.1.2.2.2.1 ∧ E x_1.2.2.2.1.2.2.2.2.1.1.2.2.2.2.1 ∧ E
  x_1.2.2.2.1.2.2.2.2.1.1.2.2.2.2.2.1 ∧ E x_1.2.2.2.1.2.2.2.2.1.1.2.2.2.2.2.2.1 ∧ E x_1.2.2.2.1.2.2.2.2.1.1.2.2.2.2.2.2.2.1 ∧ E x_1.2.2.2.1.2.2.2.2.1.1.2.2.2.2.2.2.2.2.1 ∧ E x_1.2.2.2.1.2.2.2.2.1.2.1 ∧ E
  x_1.2.2.2.1.2.2.2.2.1.2.2.1 ∧ E x_1.2.2.2.1.2.2.2.2.1.2.2.2.1 ∧ E x_1.2.2.2.1.2.2.2.2.1.2.2.2.2.1.1 ∧ E x_1.2.2.2.1.2.2.2.2.1.2.2.2.2.1.2.1 ∧ E x_1.2.2.2.1.2.2.2.2.1.2.2.2.2.1.2.2.1 ∧ E x_1.2.2.2.1.2.2.2.2.1.2.2.2.2.2.1
  ∧ E x_1.2.2.2.1.2.2.2.2.1.2.2.2.2.2.2.1 ∧ E ((10 : Int)) ∧ E ((setDead x_1.2.2.2.2 x_2).2.2.2.2.1) ∧ E ((0 : Int)) ∧ E ((tL x_1 x_2 x_3).2.2.2.2.2.2.2.2.1) ∧ E ByteArray.empty ∧ E ((sP x x_1).2.2.2.1) ∧ Wr ((tL x_1 x_2
  x_3).2.2.2.2.1 = (setOn (tL x_1 x_2 x_3) false (IntKind.wrap IntKind.i64 ((tL x_1 x_2 x_3).2.2.2.2.2.2.2.2.1 + (1 : Int)))).2.2.2.2.1) ∧ Wr (false = (setOn (tL x_1 x_2 x_3) false (IntKind.wrap IntKind.i64 ((tL x_1 x_2
  x_3).2.2.2.2.2.2.2.2.1 + (1 : Int)))).2.2.2.2.2.1) ∧ Wr ((tL x_1 x_2 x_3).2.2.2.2.2.2.1 = (setOn (tL x_1 x_2 x_3) false (IntKind.wrap IntKind.i64 ((tL x_1 x_2 x_3).2.2.2.2.2.2.2.2.1 + (1 : Int)))).2.2.2.2.2.2.1) ∧ Wr
  ((tL x_1 x_2 x_3).2.2.2.2.2.2.2.1 = (setOn (tL x_1 x_2 x_3) false (IntKind.wrap IntKind.i64 ((tL x_1 x_2 x_3).2.2.2.2.2.2.2.2.1 + (1 : Int)))).2.2.2.2.2.2.2.1) ∧ Wr (IntKind.wrap IntKind.i64 ((tL x_1 x_2
  x_3).2.2.2.2.2.2.2.2.1 + (1 : Int)) = (setOn (tL x_1 x_2 x_3) false (IntKind.wrap IntKind.i64 ((tL x_1 x_2 x_3).2.2.2.2.2.2.2.2.1 + (1 : Int)))).2.2.2.2.2.2.2.2.1) ∧ Wr ((tL x_1 x_2 x_3).2.2.2.2.2.2.2.2.2 = (setOn (tL
  x_1 x_2 x_3) false (IntKind.wrap IntKind.i64 ((tL x_1 x_2 x_3).2.2.2.2.2.2.2.2.1 + (1 : Int)))).2.2.2.2.2.2.2.2.2) ∧ Wr ((tL x_1 x_2 x_3).1 = (setOn (tL x_1 x_2 x_3) false (IntKind.wrap IntKind.i64 ((tL x_1 x_2
  x_3).2.2.2.2.2.2.2.2.1 + (1 : Int)))).1) ∧ Wr ((tL x_1 x_2 x_3).2.1.1 ≤ (setOn (tL x_1 x_2 x_3) false (IntKind.wrap IntKind.i64 ((tL x_1 x_2 x_3).2.2.2.2.2.2.2.2.1 + (1 : Int)))).2.1.1) ∧ Wr ((tL x_1 x_2 x_3).2.1.2 =
  (setOn (tL x_1 x_2 x_3) false (IntKind.wrap IntKind.i64 ((tL x_1 x_2 x_3).2.2.2.2.2.2.2.2.1 + (1 : Int)))).2.1.2) ∧ Wr ((tL x_1 x_2 x_3).2.2.1 = (setOn (tL x_1 x_2 x_3) false (IntKind.wrap IntKind.i64 ((tL x_1 x_2
  x_3).2.2.2.2.2.2.2.2.1 + (1 : Int)))).2.2.1) ∧ Wr ((tL x_1 x_2 x_3).2.2.2.1.1 ≤ (setOn (tL x_1 x_2 x_3) false (IntKind.wrap IntKind.i64 ((tL x_1 x_2 x_3).2.2.2.2.2.2.2.2.1 + (1 : Int)))).2.2.2.1.1) ∧ Wr ((tL x_1 x_2
  x_3).2.2.2.1.2 = (setOn (tL x_1 x_2 x_3) false (IntKind.wrap IntKind.i64 ((tL x_1 x_2 x_3).2.2.2.2.2.2.2.2.1 + (1 : Int)))).2.2.2.1.2)) (Wr (chF (tL x_1 x_2 x_3) (sP x x_1) (setDead x_1.2.2.2.2 x_2).2.2.2.2.1 (offL
  (casesL x_1.2.2.2.1)) x_3.1 x_3.2.1 = some ((1 : Int), ((10 : Int), (setDead x_1.2.2.2.2 x_2).2.2.2.2.1, (0 : Int), (-1 : Int), ByteArray.empty, (sP x x_1).2.2.2.1, ()), false, (tL x_1 x_2 x_3).2.2.2.2.2.2.2.2.1)) ∧ E
  ((1 : Int)) ∧ E x.2.1 ∧ E (IntKind.wrap IntKind.i64 (x_1.2.1 + (sP x x_1).2.2.1)) ∧ E x_1.2.2.1 ∧ E x_1.1 ∧ E (offL (casesL x_1.2.2.2.1)) ∧ E ((setDead x_1.2.2.2.2 x_2).2.2.2.2.1) ∧ E x_1.2.2.2.1.1 ∧ E x_1.2.2.2.1.2.1 ∧
  E x_1.2.2.2.1.2.2.1 ∧ E x_1.2.2.2.1.2.2.2.1 ∧ E x_1.2.2.2.1.2.2.2.2.1.1.1 ∧ E x_1.2.2.2.1.2.2.2.2.1.1.2.1 ∧ E x_1.2.2.2.1.2.2.2.2.1.1.2.2.1 ∧ E x_1.2.2.2.1.2.2.2.2.1.1.2.2.2.1 ∧ E x_1.2.2.2.1.2.2.2.2.1.1.2.2.2.2.1 ∧ E
  x_1.2.2.2.1.2.2.2.2.1.1.2.2.2.2.2.1 ∧ E x_1.2.2.2.1.2.2.2.2.1.1.2.2.2.2.2.2.1 ∧ E x_1.2.2.2.1.2.2.2.2.1.1.2.2.2.2.2.2.2.1 ∧ E x_1.2.2.2.1.2.2.2.2.1.1.2.2.2.2.2.2.2.2.1 ∧ E x_1.2.2.2.1.2.2.2.2.1.2.1 ∧ E
  x_1.2.2.2.1.2.2.2.2.1.2.2.1 ∧ E x_1.2.2.2.1.2.2.2.2.1.2.2.2.1 ∧ E x_1.2.2.2.1.2.2.2.2.1.2.2.2.2.1.1 ∧ E x_1.2.2.2.1.2.2.2.2.1.2.2.2.2.1.2.1 ∧ E x_1.2.2.2.1.2.2.2.2.1.2.2.2.2.1.2.2.1 ∧ E x_1.2.2.2.1.2.2.2.2.1.2.2.2.2.2.1
  ∧ E x_1.2.2.2.1.2.2.2.2.1.2.2.2.2.2.2.1 ∧ E ((10 : Int)) ∧ E ((setDead x_1.2.2.2.2 x_2).2.2.2.2.1) ∧ E ((0 : Int)) ∧ E ((-1 : Int)) ∧ E ByteArray.empty ∧ E ((sP x x_1).2.2.2.1) ∧ Wr ((tL x_1 x_2 x_3).2.2.2.2.1 = (setOn
  (tL x_1 x_2 x_3) false (tL x_1 x_2 x_3).2.2.2.2.2.2.2.2.1).2.2.2.2.1) ∧ Wr (false = (setOn (tL x_1 x_2 x_3) false (tL x_1 x_2 x_3).2.2.2.2.2.2.2.2.1).2.2.2.2.2.1) ∧ Wr ((tL x_1 x_2 x_3).2.2.2.2.2.2.1 = (setOn (tL x_1
  x_2 x_3) false (tL x_1 x_2 x_3).2.2.2.2.2.2.2.2.1).2.2.2.2.2.2.1) ∧ Wr ((tL x_1 x_2 x_3).2.2.2.2.2.2.2.1 = (setOn (tL x_1 x_2 x_3) false (tL x_1 x_2 x_3).2.2.2.2.2.2.2.2.1).2.2.2.2.2.2.2.1) ∧ Wr ((tL x_1 x_2
  x_3).2.2.2.2.2.2.2.2.1 = (setOn (tL x_1 x_2 x_3) false (tL x_1 x_2 x_3).2.2.2.2.2.2.2.2.1).2.2.2.2.2.2.2.2.1) ∧ Wr ((tL x_1 x_2 x_3).2.2.2.2.2.2.2.2.2 = (setOn (tL x_1 x_2 x_3) false (tL x_1 x_2
  x_3).2.2.2.2.2.2.2.2.1).2.2.2.2.2.2.2.2.2) ∧ Wr ((tL x_1 x_2 x_3).1 = (setOn (tL x_1 x_2 x_3) false (tL x_1 x_2 x_3).2.2.2.2.2.2.2.2.1).1) ∧ Wr ((tL x_1 x_2 x_3).2.1.1 ≤ (setOn (tL x_1 x_2 x_3) false (tL x_1 x_2
  x_3).2.2.2.2.2.2.2.2.1).2.1.1) ∧ Wr ((tL x_1 x_2 x_3).2.1.2 = (setOn (tL x_1 x_2 x_3) false (tL x_1 x_2 x_3).2.2.2.2.2.2.2.2.1).2.1.2) ∧ Wr ((tL x_1 x_2 x_3).2.2.1 = (setOn (tL x_1 x_2 x_3) false (tL x_1 x_2
  x_3).2.2.2.2.2.2.2.2.1).2.2.1) ∧ Wr ((tL x_1 x_2 x_3).2.2.2.1.1 ≤ (setOn (tL x_1 x_2 x_3) false (tL x_1 x_2 x_3).2.2.2.2.2.2.2.2.1).2.2.2.1.1) ∧ Wr ((tL x_1 x_2 x_3).2.2.2.1.2 = (setOn (tL x_1 x_2 x_3) false (tL x_1 x_2
  x_3).2.2.2.2.2.2.2.2.1).2.2.2.1.2)))) (Wr ((0 : Int) ≤ x_1.1) ∧ Wr (x_1.1 < (↑(List.length x.2.1) : Int)) ∧ E true ∧ E true ∧ Wr (decide ((sP x x_1).1 = (5 : Int)) = true → (0 : Int) ≤ IntKind.wrap IntKind.i64
  ((↑(List.length (offL (casesL x_1.2.2.2.1))) : Int) - (1 : Int))) ∧ Wr (decide ((sP x x_1).1 = (5 : Int)) = true → IntKind.wrap IntKind.i64 ((↑(List.length (offL (casesL x_1.2.2.2.1))) : Int) - (1 : Int)) <
  (↑(List.length (offL (casesL x_1.2.2.2.1))) : Int)) ∧ Wr (decide ((sP x x_1).1 = (5 : Int)) = true → true = true) ∧ Wr (decide ((sP x x_1).1 = (5 : Int)) = true → true = true) ∧ bcase (decide ((sP x x_1).1 = (5 : Int))
  && decide ((List.getD (offL (casesL x_1.2.2.2.1)) (Int.toNat (IntKind.wrap IntKind.i64 ((↑(List.length (offL (casesL x_1.2.2.2.1))) : Int) - (1 : Int)))) (Ty.zero OffT)).1 = (2 : Int))) (Wr (chF (tL x_1 x_2 x_3) (sP x
  x_1) (setDead x_1.2.2.2.2 x_2).2.2.2.2.1 (offL (casesL x_1.2.2.2.1)) x_3.1 x_3.2.1 = some (IntKind.wrap IntKind.i64 ((↑(List.length (offL (casesL x_1.2.2.2.1))) : Int) - (1 : Int)), ltz, (tL x_1 x_2 x_3).2.2.2.2.2.1,
  (tL x_1 x_2 x_3).2.2.2.2.2.2.2.2.1)) ∧ E (IntKind.wrap IntKind.i64 ((↑(List.length (offL (casesL x_1.2.2.2.1))) : Int) - (1 : Int))) ∧ E x.2.1 ∧ E (IntKind.wrap IntKind.i64 (x_1.2.1 + (sP x x_1).2.2.1)) ∧ E x_1.2.2.1 ∧
  E x_1.1 ∧ E (offL (casesL x_1.2.2.2.1)) ∧ E ((setDead x_1.2.2.2.2 x_2).2.2.2.2.1) ∧ E x_1.2.2.2.1.1 ∧ E x_1.2.2.2.1.2.1 ∧ E x_1.2.2.2.1.2.2.1 ∧ E x_1.2.2.2.1.2.2.2.1 ∧ E x_1.2.2.2.1.2.2.2.2.1.1.1 ∧ E
  x_1.2.2.2.1.2.2.2.2.1.1.2.1 ∧ E x_1.2.2.2.1.2.2.2.2.1.1.2.2.1 ∧ E x_1.2.2.2.1.2.2.2.2.1.1.2.2.2.1 ∧ E x_1.2.2.2.1.2.2.2.2.1.1.2.2.2.2.1 ∧ E x_1.2.2.2.1.2.2.2.2.1.1.2.2.2.2.2.1 ∧ E x_1.2.2.2.1.2.2.2.2.1.1.2.2.2.2.2.2.1 ∧
  E x_1.2.2.2.1.2.2.2.2.1.1.2.2.2.2.2.2.2.1 ∧ E x_1.2.2.2.1.2.2.2.2.1.1.2.2.2.2.2.2.2.2.1 ∧ E x_1.2.2.2.1.2.2.2.2.1.2.1 ∧ E x_1.2.2.2.1.2.2.2.2.1.2.2.1 ∧ E x_1.2.2.2.1.2.2.2.2.1.2.2.2.1 ∧ E
  x_1.2.2.2.1.2.2.2.2.1.2.2.2.2.1.1 ∧ E x_1.2.2.2.1.2.2.2.2.1.2.2.2.2.1.2.1 ∧ E x_1.2.2.2.1.2.2.2.2.1.2.2.2.2.1.2.2.1 ∧ E x_1.2.2.2.1.2.2.2.2.1.2.2.2.2.2.1 ∧ E x_1.2.2.2.1.2.2.2.2.1.2.2.2.2.2.2.1 ∧ E ((0 : Int)) ∧ E ((0 :
  Int)) ∧ E ((0 : Int)) ∧ E ((0 : Int)) ∧ E ByteArray.empty ∧ E ((0 : Int)) ∧ Wr ((tL x_1 x_2 x_3).2.2.2.2.1 = (setOn (tL x_1 x_2 x_3) (tL x_1 x_2 x_3).2.2.2.2.2.1 (tL x_1 x_2 x_3).2.2.2.2.2.2.2.2.1).2.2.2.2.1) ∧ Wr ((tL
  x_1 x_2 x_3).2.2.2.2.2.1 = (setOn (tL x_1 x_2 x_3) (tL x_1 x_2 x_3).2.2.2.2.2.1 (tL x_1 x_2 x_3).2.2.2.2.2.2.2.2.1).2.2.2.2.2.1) ∧ Wr ((tL x_1 x_2 x_3).2.2.2.2.2.2.1 = (setOn (tL x_1 x_2 x_3) (tL x_1 x_2
  x_3).2.2.2.2.2.1 (tL x_1 x_2 x_3).2.2.2.2.2.2.2.2.1).2.2.2.2.2.2.1) ∧ Wr ((tL x_1 x_2 x_3).2.2.2.2.2.2.2.1 = (setOn (tL x_1 x_2 x_3) (tL x_1 x_2 x_3).2.2.2.2.2.1 (tL x_1 x_2 x_3).2.2.2.2.2.2.2.2.1).2.2.2.2.2.2.2.1) ∧ Wr
  ((tL x_1 x_2 x_3).2.2.2.2.2.2.2.2.1 = (setOn (tL x_1 x_2 x_3) (tL x_1 x_2 x_3).2.2.2.2.2.1 (tL x_1 x_2 x_3).2.2.2.2.2.2.2.2.1).2.2.2.2.2.2.2.2.1) ∧ Wr ((tL x_1 x_2 x_3).2.2.2.2.2.2.2.2.2 = (setOn (tL x_1 x_2 x_3) (tL
  x_1 x_2 x_3).2.2.2.2.2.1 (tL x_1 x_2 x_3).2.2.2.2.2.2.2.2.1).2.2.2.2.2.2.2.2.2) ∧ Wr ((tL x_1 x_2 x_3).1 = (setOn (tL x_1 x_2 x_3) (tL x_1 x_2 x_3).2.2.2.2.2.1 (tL x_1 x_2 x_3).2.2.2.2.2.2.2.2.1).1) ∧ Wr ((tL x_1 x_2
  x_3).2.1.1 ≤ (setOn (tL x_1 x_2 x_3) (tL x_1 x_2 x_3).2.2.2.2.2.1 (tL x_1 x_2 x_3).2.2.2.2.2.2.2.2.1).2.1.1) ∧ Wr ((tL x_1 x_2 x_3).2.1.2 = (setOn (tL x_1 x_2 x_3) (tL x_1 x_2 x_3).2.2.2.2.2.1 (tL x_1 x_2
  x_3).2.2.2.2.2.2.2.2.1).2.1.2) ∧ Wr ((tL x_1 x_2 x_3).2.2.1 = (setOn (tL x_1 x_2 x_3) (tL x_1 x_2 x_3).2.2.2.2.2.1 (tL x_1 x_2 x_3).2.2.2.2.2.2.2.2.1).2.2.1) ∧ Wr ((tL x_1 x_2 x_3).2.2.2.1.1 ≤ (setOn (tL x_1 x_2 x_3)
  (tL x_1 x_2 x_3).2.2.2.2.2.1 (tL x_1 x_2 x_3).2.2.2.2.2.2.2.2.1).2.2.2.1.1) ∧ Wr ((tL x_1 x_2 x_3).2.2.2.1.2 = (setOn (tL x_1 x_2 x_3) (tL x_1 x_2 x_3).2.2.2.2.2.1 (tL x_1 x_2 x_3).2.2.2.2.2.2.2.2.1).2.2.2.1.2)) (bcase
  (!x_3.2.1) (Wr (PyI x.1 x.2.1 (IntKind.wrap IntKind.i64 (x_1.1 + (1 : Int)), IntKind.wrap IntKind.i64 (x_1.2.1 + (sP x x_1).2.2.1), x_1.2.2.1, x_1.2.2.2.1, setLet (setDead x_1.2.2.2.2 x_2) x_3.2.2.1 x_3.2.2.2)) ∧ Wr
  (List.length x.2.1 - Int.toNat (IntKind.wrap IntKind.i64 (x_1.1 + (1 : Int))) < List.length x.2.1 - Int.toNat x_1.1) ∧ E (IntKind.wrap IntKind.i64 (x_1.1 + (1 : Int))) ∧ E (IntKind.wrap IntKind.i64 (x_1.2.1 + (sP x
  x_1).2.2.1)) ∧ E x_1.2.2.1 ∧ E x.2.1 ∧ E x_1.2.2.2.1.1 ∧ E x_1.2.2.2.1.2.1 ∧ E x_1.2.2.2.1.2.2.1 ∧ E x_1.2.2.2.1.2.2.2.1 ∧ E x_1.2.2.2.1.2.2.2.2.1.1.1 ∧ E x_1.2.2.2.1.2.2.2.2.1.1.2.1 ∧ E x_1.2.2.2.1.2.2.2.2.1.1.2.2.1 ∧
  E x_1.2.2.2.1.2.2.2.2.1.1.2.2.2.1 ∧ E x_1.2.2.2.1.2.2.2.2.1.1.2.2.2.2.1 ∧ E x_1.2.2.2.1.2.2.2.2.1.1.2.2.2.2.2.1 ∧ E x_1.2.2.2.1.2.2.2.2.1.1.2.2.2.2.2.2.1 ∧ E x_1.2.2.2.1.2.2.2.2.1.1.2.2.2.2.2.2.2.1 ∧ E
  x_1.2.2.2.1.2.2.2.2.1.1.2.2.2.2.2.2.2.2.1 ∧ E x_1.2.2.2.1.2.2.2.2.1.2.1 ∧ E x_1.2.2.2.1.2.2.2.2.1.2.2.1 ∧ E x_1.2.2.2.1.2.2.2.2.1.2.2.2.1 ∧ E x_1.2.2.2.1.2.2.2.2.1.2.2.2.2.1.1 ∧ E x_1.2.2.2.1.2.2.2.2.1.2.2.2.2.1.2.1 ∧ E
  x_1.2.2.2.1.2.2.2.2.1.2.2.2.2.1.2.2.1 ∧ E x_1.2.2.2.1.2.2.2.2.1.2.2.2.2.2.1 ∧ E x_1.2.2.2.1.2.2.2.2.1.2.2.2.2.2.2.1 ∧ E ((tL x_1 x_2 x_3).2.2.2.2.1) ∧ E ((tL x_1 x_2 x_3).2.2.2.2.2.1) ∧ E ((tL x_1 x_2
  x_3).2.2.2.2.2.2.1) ∧ E ((tL x_1 x_2 x_3).2.2.2.2.2.2.2.1) ∧ E ((tL x_1 x_2 x_3).2.2.2.2.2.2.2.2.1) ∧ E ((tL x_1 x_2 x_3).2.2.2.2.2.2.2.2.2) ∧ E ((tL x_1 x_2 x_3).1) ∧ Wr ((tL x_1 x_2 x_3).2.1.1 ≤ (tL x_1 x_2
  x_3).2.1.1) ∧ E ((tL x_1 x_2 x_3).2.1.2) ∧ E ((tL x_1 x_2 x_3).2.2.1) ∧ Wr ((tL x_1 x_2 x_3).2.2.2.1.1 ≤ (tL x_1 x_2 x_3).2.2.2.1.1) ∧ E ((tL x_1 x_2 x_3).2.2.2.1.2)) (Wr (chF (tL x_1 x_2 x_3) (sP x x_1) (setDead
  x_1.2.2.2.2 x_2).2.2.2.2.1 (offL (casesL x_1.2.2.2.1)) x_3.1 x_3.2.1 = some ((0 : Int), x_3.1, (tL x_1 x_2 x_3).2.2.2.2.2.1, (tL x_1 x_2 x_3).2.2.2.2.2.2.2.2.1)) ∧ E ((0 : Int)) ∧ E x.2.1 ∧ E (IntKind.wrap IntKind.i64
  (x_1.2.1 + (sP x x_1).2.2.1)) ∧ E x_1.2.2.1 ∧ E x_1.1 ∧ E (offL (casesL x_1.2.2.2.1)) ∧ E ((setDead x_1.2.2.2.2 x_2).2.2.2.2.1) ∧ E x_1.2.2.2.1.1 ∧ E x_1.2.2.2.1.2.1 ∧ E x_1.2.2.2.1.2.2.1 ∧ E x_1.2.2.2.1.2.2.2.1 ∧ E
  x_1.2.2.2.1.2.2.2.2.1.1.1 ∧ E x_1.2.2.2.1.2.2.2.2.1.1.2.1 ∧ E x_1.2.2.2.1.2.2.2.2.1.1.2.2.1 ∧ E x_1.2.2.2.1.2.2.2.2.1.1.2.2.2.1 ∧ E x_1.2.2.2.1.2.2.2.2.1.1.2.2.2.2.1 ∧ E x_1.2.2.2.1.2.2.2.2.1.1.2.2.2.2.2.1 ∧ E
  x_1.2.2.2.1.2.2.2.2.1.1.2.2.2.2.2.2.1 ∧ E x_1.2.2.2.1.2.2.2.2.1.1.2.2.2.2.2.2.2.1 ∧ E x_1.2.2.2.1.2.2.2.2.1.1.2.2.2.2.2.2.2.2.1 ∧ E x_1.2.2.2.1.2.2.2.2.1.2.1 ∧ E x_1.2.2.2.1.2.2.2.2.1.2.2.1 ∧ E
  x_1.2.2.2.1.2.2.2.2.1.2.2.2.1 ∧ E x_1.2.2.2.1.2.2.2.2.1.2.2.2.2.1.1 ∧ E x_1.2.2.2.1.2.2.2.2.1.2.2.2.2.1.2.1 ∧ E x_1.2.2.2.1.2.2.2.2.1.2.2.2.2.1.2.2.1 ∧ E x_1.2.2.2.1.2.2.2.2.1.2.2.2.2.2.1 ∧ E
  x_1.2.2.2.1.2.2.2.2.1.2.2.2.2.2.2.1 ∧ E x_3.1.1 ∧ E x_3.1.2.1 ∧ E x_3.1.2.2.1 ∧ E x_3.1.2.2.2.1 ∧ E x_3.1.2.2.2.2.1 ∧ E x_3.1.2.2.2.2.2.1 ∧ Wr ((tL x_1 x_2 x_3).2.2.2.2.1 = (setOn (tL x_1 x_2 x_3) (tL x_1 x_2
  x_3).2.2.2.2.2.1 (tL x_1 x_2 x_3).2.2.2.2.2.2.2.2.1).2.2.2.2.1) ∧ Wr ((tL x_1 x_2 x_3).2.2.2.2.2.1 = (setOn (tL x_1 x_2 x_3) (tL x_1 x_2 x_3).2.2.2.2.2.1 (tL x_1 x_2 x_3).2.2.2.2.2.2.2.2.1).2.2.2.2.2.1) ∧ Wr ((tL x_1
  x_2 x_3).2.2.2.2.2.2.1 = (setOn (tL x_1 x_2 x_3) (tL x_1 x_2 x_3).2.2.2.2.2.1 (tL x_1 x_2 x_3).2.2.2.2.2.2.2.2.1).2.2.2.2.2.2.1) ∧ Wr ((tL x_1 x_2 x_3).2.2.2.2.2.2.2.1 = (setOn (tL x_1 x_2 x_3) (tL x_1 x_2
  x_3).2.2.2.2.2.1 (tL x_1 x_2 x_3).2.2.2.2.2.2.2.2.1).2.2.2.2.2.2.2.1) ∧ Wr ((tL x_1 x_2 x_3).2.2.2.2.2.2.2.2.1 = (setOn (tL x_1 x_2 x_3) (tL x_1 x_2 x_3).2.2.2.2.2.1 (tL x_1 x_2
  x_3).2.2.2.2.2.2.2.2.1).2.2.2.2.2.2.2.2.1) ∧ Wr ((tL x_1 x_2 x_3).2.2.2.2.2.2.2.2.2 = (setOn (tL x_1 x_2 x_3) (tL x_1 x_2 x_3).2.2.2.2.2.1 (tL x_1 x_2 x_3).2.2.2.2.2.2.2.2.1).2.2.2.2.2.2.2.2.2) ∧ Wr ((tL x_1 x_2 x_3).1
  = (setOn (tL x_1 x_2 x_3) (tL x_1 x_2 x_3).2.2.2.2.2.1 (tL x_1 x_2 x_3).2.2.2.2.2.2.2.2.1).1) ∧ Wr ((tL x_1 x_2 x_3).2.1.1 ≤ (setOn (tL x_1 x_2 x_3) (tL x_1 x_2 x_3).2.2.2.2.2.1 (tL x_1 x_2
  x_3).2.2.2.2.2.2.2.2.1).2.1.1) ∧ Wr ((tL x_1 x_2 x_3).2.1.2 = (setOn (tL x_1 x_2 x_3) (tL x_1 x_2 x_3).2.2.2.2.2.1 (tL x_1 x_2 x_3).2.2.2.2.2.2.2.2.1).2.1.2) ∧ Wr ((tL x_1 x_2 x_3).2.2.1 = (setOn (tL x_1 x_2 x_3) (tL
  x_1 x_2 x_3).2.2.2.2.2.1 (tL x_1 x_2 x_3).2.2.2.2.2.2.2.2.1).2.2.1) ∧ Wr ((tL x_1 x_2 x_3).2.2.2.1.1 ≤ (setOn (tL x_1 x_2 x_3) (tL x_1 x_2 x_3).2.2.2.2.2.1 (tL x_1 x_2 x_3).2.2.2.2.2.2.2.2.1).2.2.2.1.1) ∧ Wr ((tL x_1
  x_2 x_3).2.2.2.1.2 = (setOn (tL x_1 x_2 x_3) (tL x_1 x_2 x_3).2.2.2.2.2.1 (tL x_1 x_2 x_3).2.2.2.2.2.2.2.2.1).2.2.2.1.2))))) ∧ ∀ (x_4 : Int × Lt × Bool × Int), Wr (chF (tL x_1 x_2 x_3) (sP x x_1) (setDead x_1.2.2.2.2
  x_2).2.2.2.2.1 (offL (casesL x_1.2.2.2.1)) x_3.1 x_3.2.1 = some x_4) → Wr (takeOk x_1.2.2.2.1 x_4.2.1 (tS x_1 x_2 x_3 x_4).2.2.2.2.2.2.2.2.2 = true) ∧ (Wr (SeI (setDead x_1.2.2.2.2 x_2).2.2.2.2.1 (dT x x_1 x_2 x_3 x_4)
  (tS x_1 x_2 x_3 x_4) ((0 : Int), setOn (tL x_1 x_2 x_3) x_4.2.2.1 x_4.2.2.2)) ∧ E ((0 : Int)) ∧ E (dT x x_1 x_2 x_3 x_4) ∧ E ((setDead x_1.2.2.2.2 x_2).2.2.2.2.1) ∧ E ((tS x_1 x_2 x_3 x_4).2.2.2.2.1) ∧ E ((tS x_1 x_2
  x_3 x_4).2.2.2.2.2.1) ∧ E ((tS x_1 x_2 x_3 x_4).2.2.2.2.2.2.1) ∧ E ((tS x_1 x_2 x_3 x_4).2.2.2.2.2.2.2.1) ∧ E ((tS x_1 x_2 x_3 x_4).2.2.2.2.2.2.2.2.1) ∧ E ((tS x_1 x_2 x_3 x_4).2.2.2.2.2.2.2.2.2) ∧ E ((tS x_1 x_2 x_3
  x_4).1) ∧ Wr ((tS x_1 x_2 x_3 x_4).2.1.1 ≤ (tS x_1 x_2 x_3 x_4).2.1.1) ∧ E ((tS x_1 x_2 x_3 x_4).2.1.2) ∧ E ((tS x_1 x_2 x_3 x_4).2.2.1) ∧ Wr ((tS x_1 x_2 x_3 x_4).2.2.2.1.1 ≤ (tS x_1 x_2 x_3 x_4).2.2.2.1.1) ∧ E ((tS
  x_1 x_2 x_3 x_4).2.2.2.1.2) ∧ E ((oT x x_1 x_2 x_3 x_4).1) ∧ E ((oT x x_1 x_2 x_3 x_4).2.1) ∧ E ((oT x x_1 x_2 x_3 x_4).2.2.1) ∧ E ((oT x x_1 x_2 x_3 x_4).2.2.2.1) ∧ E ((oT x x_1 x_2 x_3 x_4).2.2.2.2.1.1.1) ∧ E ((oT x
  x_1 x_2 x_3 x_4).2.2.2.2.1.1.2.1) ∧ E ((oT x x_1 x_2 x_3 x_4).2.2.2.2.1.1.2.2.1) ∧ E ((oT x x_1 x_2 x_3 x_4).2.2.2.2.1.1.2.2.2.1) ∧ E ((oT x x_1 x_2 x_3 x_4).2.2.2.2.1.1.2.2.2.2.1) ∧ E ((oT x x_1 x_2 x_3
  x_4).2.2.2.2.1.1.2.2.2.2.2.1) ∧ E ((oT x x_1 x_2 x_3 x_4).2.2.2.2.1.1.2.2.2.2.2.2.1) ∧ E ((oT x x_1 x_2 x_3 x_4).2.2.2.2.1.1.2.2.2.2.2.2.2.1) ∧ E ((oT x x_1 x_2 x_3 x_4).2.2.2.2.1.1.2.2.2.2.2.2.2.2.1) ∧ E ((oT x x_1 x_2
  x_3 x_4).2.2.2.2.1.2.1) ∧ E ((oT x x_1 x_2 x_3 x_4).2.2.2.2.1.2.2.1) ∧ E ((oT x x_1 x_2 x_3 x_4).2.2.2.2.1.2.2.2.1) ∧ E ((oT x x_1 x_2 x_3 x_4).2.2.2.2.1.2.2.2.2.1.1) ∧ E ((oT x x_1 x_2 x_3 x_4).2.2.2.2.1.2.2.2.2.1.2.1)
  ∧ E ((oT x x_1 x_2 x_3 x_4).2.2.2.2.1.2.2.2.2.1.2.2.1) ∧ E ((oT x x_1 x_2 x_3 x_4).2.2.2.2.1.2.2.2.2.2.1) ∧ E ((oT x x_1 x_2 x_3 x_4).2.2.2.2.1.2.2.2.2.2.2.1) ∧ E ((oT x x_1 x_2 x_3 x_4).1) ∧ E ((oT x x_1 x_2 x_3
  x_4).2.1) ∧ E ((oT x x_1 x_2 x_3 x_4).2.2.1) ∧ E ((oT x x_1 x_2 x_3 x_4).2.2.2.1) ∧ E ((oT x x_1 x_2 x_3 x_4).2.2.2.2.1.1.1) ∧ E ((oT x x_1 x_2 x_3 x_4).2.2.2.2.1.1.2.1) ∧ E ((oT x x_1 x_2 x_3 x_4).2.2.2.2.1.1.2.2.1) ∧
  E ((oT x x_1 x_2 x_3 x_4).2.2.2.2.1.1.2.2.2.1) ∧ E ((oT x x_1 x_2 x_3 x_4).2.2.2.2.1.1.2.2.2.2.1) ∧ E ((oT x x_1 x_2 x_3 x_4).2.2.2.2.1.1.2.2.2.2.2.1) ∧ E ((oT x x_1 x_2 x_3 x_4).2.2.2.2.1.1.2.2.2.2.2.2.1) ∧ E ((oT x
  x_1 x_2 x_3 x_4).2.2.2.2.1.1.2.2.2.2.2.2.2.1) ∧ E ((oT x x_1 x_2 x_3 x_4).2.2.2.2.1.1.2.2.2.2.2.2.2.2.1) ∧ E ((oT x x_1 x_2 x_3 x_4).2.2.2.2.1.2.1) ∧ E ((oT x x_1 x_2 x_3 x_4).2.2.2.2.1.2.2.1) ∧ E ((oT x x_1 x_2 x_3
  x_4).2.2.2.2.1.2.2.2.1) ∧ E ((oT x x_1 x_2 x_3 x_4).2.2.2.2.1.2.2.2.2.1.1) ∧ E ((oT x x_1 x_2 x_3 x_4).2.2.2.2.1.2.2.2.2.1.2.1) ∧ E ((oT x x_1 x_2 x_3 x_4).2.2.2.2.1.2.2.2.2.1.2.2.1) ∧ E ((oT x x_1 x_2 x_3
  x_4).2.2.2.2.1.2.2.2.2.2.1) ∧ E ((oT x x_1 x_2 x_3 x_4).2.2.2.2.1.2.2.2.2.2.2.1) ∧ E x_1.2.2.2.1.1 ∧ E x_1.2.2.2.1.2.1 ∧ E x_1.2.2.2.1.2.2.1 ∧ E x_1.2.2.2.1.2.2.2.1 ∧ E x_1.2.2.2.1.2.2.2.2.1.1.1 ∧ E
  x_1.2.2.2.1.2.2.2.2.1.1.2.1 ∧ E x_1.2.2.2.1.2.2.2.2.1.1.2.2.1 ∧ E x_1.2.2.2.1.2.2.2.2.1.1.2.2.2.1 ∧ E x_1.2.2.2.1.2.2.2.2.1.1.2.2.2.2.1 ∧ E x_1.2.2.2.1.2.2.2.2.1.1.2.2.2.2.2.1 ∧ E x_1.2.2.2.1.2.2.2.2.1.1.2.2.2.2.2.2.1 ∧
  E x_1.2.2.2.1.2.2.2.2.1.1.2.2.2.2.2.2.2.1 ∧ E x_1.2.2.2.1.2.2.2.2.1.1.2.2.2.2.2.2.2.2.1 ∧ E x_1.2.2.2.1.2.2.2.2.1.2.1 ∧ E x_1.2.2.2.1.2.2.2.2.1.2.2.1 ∧ E x_1.2.2.2.1.2.2.2.2.1.2.2.2.1 ∧ E
  x_1.2.2.2.1.2.2.2.2.1.2.2.2.2.1.1 ∧ E x_1.2.2.2.1.2.2.2.2.1.2.2.2.2.1.2.1 ∧ E x_1.2.2.2.1.2.2.2.2.1.2.2.2.2.1.2.2.1 ∧ E x_1.2.2.2.1.2.2.2.2.1.2.2.2.2.2.1 ∧ E x_1.2.2.2.1.2.2.2.2.1.2.2.2.2.2.2.1 ∧ E x_4.2.1.1 ∧ E
  x_4.2.1.2.1 ∧ E x_4.2.1.2.2.1 ∧ E x_4.2.1.2.2.2.1 ∧ E x_4.2.1.2.2.2.2.1 ∧ E x_4.2.1.2.2.2.2.2.1) ∧ ∀ (x_5 : Int × List Int × (Nat × (Int → Option Int)) × List Int × (Nat × (Int → Option Bool)) × Int × Bool × Bool × Int
  × Int × List Int), Wr (SeI (setDead x_1.2.2.2.2 x_2).2.2.2.2.1 (dT x x_1 x_2 x_3 x_4) (tS x_1 x_2 x_3 x_4) x_5) → bcase (decide (x_5.1 < (↑(List.length (dT x x_1 x_2 x_3 x_4)) : Int))) (Wr ((0 : Int) ≤ x_5.1) ∧ Wr
  (x_5.1 < (↑(List.length (dT x x_1 x_2 x_3 x_4)) : Int)) ∧ E true ∧ E true ∧ bcase (decide ((List.getD (dT x x_1 x_2 x_3 x_4) (Int.toNat x_5.1) (Ty.zero DeedT)).1 = (2 : Int))) (Wr ((0 : Int) ≤ x_5.1) ∧ Wr (x_5.1 <
  (↑(List.length (dT x x_1 x_2 x_3 x_4)) : Int)) ∧ E true ∧ E true ∧ E true ∧ Wr ((!!decide (whoW (List.getD (dT x x_1 x_2 x_3 x_4) (Int.toNat x_5.1) (Ty.zero DeedT)).2.1 = (2 : Int))) = true → (0 : Int) ≤ x_5.1) ∧ Wr
  ((!!decide (whoW (List.getD (dT x x_1 x_2 x_3 x_4) (Int.toNat x_5.1) (Ty.zero DeedT)).2.1 = (2 : Int))) = true → x_5.1 < (↑(List.length (dT x x_1 x_2 x_3 x_4)) : Int)) ∧ Wr ((!!decide (whoW (List.getD (dT x x_1 x_2 x_3
  x_4) (Int.toNat x_5.1) (Ty.zero DeedT)).2.1 = (2 : Int))) = true → true = true) ∧ Wr ((!!decide (whoW (List.getD (dT x x_1 x_2 x_3 x_4) (Int.toNat x_5.1) (Ty.zero DeedT)).2.1 = (2 : Int))) = true → true = true) ∧ Wr
  ((!!decide (whoW (List.getD (dT x x_1 x_2 x_3 x_4) (Int.toNat x_5.1) (Ty.zero DeedT)).2.1 = (2 : Int))) = true → true = true) ∧ Wr ((!(!decide (whoW (List.getD (dT x x_1 x_2 x_3 x_4) (Int.toNat x_5.1) (Ty.zero
  DeedT)).2.1 = (2 : Int)) || !decide ((List.getD (dT x x_1 x_2 x_3 x_4) (Int.toNat x_5.1) (Ty.zero DeedT)).2.2.1.1 = (5 : Int)))) = true → (0 : Int) ≤ x_5.1) ∧ Wr ((!(!decide (whoW (List.getD (dT x x_1 x_2 x_3 x_4)
  (Int.toNat x_5.1) (Ty.zero DeedT)).2.1 = (2 : Int)) || !decide ((List.getD (dT x x_1 x_2 x_3 x_4) (Int.toNat x_5.1) (Ty.zero DeedT)).2.2.1.1 = (5 : Int)))) = true → x_5.1 < (↑(List.length (dT x x_1 x_2 x_3 x_4)) : Int))
  ∧ Wr ((!(!decide (whoW (List.getD (dT x x_1 x_2 x_3 x_4) (Int.toNat x_5.1) (Ty.zero DeedT)).2.1 = (2 : Int)) || !decide ((List.getD (dT x x_1 x_2 x_3 x_4) (Int.toNat x_5.1) (Ty.zero DeedT)).2.2.1.1 = (5 : Int)))) = true
  → true = true) ∧ Wr ((!(!decide (whoW (List.getD (dT x x_1 x_2 x_3 x_4) (Int.toNat x_5.1) (Ty.zero DeedT)).2.1 = (2 : Int)) || !decide ((List.getD (dT x x_1 x_2 x_3 x_4) (Int.toNat x_5.1) (Ty.zero DeedT)).2.2.1.1 = (5 :
  Int)))) = true → true = true) ∧ Wr ((!(!decide (whoW (List.getD (dT x x_1 x_2 x_3 x_4) (Int.toNat x_5.1) (Ty.zero DeedT)).2.1 = (2 : Int)) || !decide ((List.getD (dT x x_1 x_2 x_3 x_4) (Int.toNat x_5.1) (Ty.zero
  DeedT)).2.2.1.1 = (5 : Int)))) = true → true = true) ∧ bcase (!decide (whoW (List.getD (dT x x_1 x_2 x_3 x_4) (Int.toNat x_5.1) (Ty.zero DeedT)).2.1 = (2 : Int)) || !decide ((List.getD (dT x x_1 x_2 x_3 x_4) (Int.toNat
  x_5.1) (Ty.zero DeedT)).2.2.1.1 = (5 : Int)) || !decide ((List.getD (dT x x_1 x_2 x_3 x_4) (Int.toNat x_5.1) (Ty.zero DeedT)).2.2.1.2.1 = (1 : Int))) ((false, ()) = (true, ())) (Wr (x_5.2.2.1.1 < Go.maxLen) ∧ Wr ((0 :
  Int) ≤ x_5.1) ∧ Wr (x_5.1 < (↑(List.length (dT x x_1 x_2 x_3 x_4)) : Int)) ∧ E true ∧ E true ∧ E true ∧ Wr (decide ((List.getD (dT x x_1 x_2 x_3 x_4) (Int.toNat x_5.1) (Ty.zero DeedT)).2.2.1.2.2.2.2.2.1 = (0 : Int)) =
  true → (0 : Int) ≤ x_5.1) ∧ Wr (decide ((List.getD (dT x x_1 x_2 x_3 x_4) (Int.toNat x_5.1) (Ty.zero DeedT)).2.2.1.2.2.2.2.2.1 = (0 : Int)) = true → x_5.1 < (↑(List.length (dT x x_1 x_2 x_3 x_4)) : Int)) ∧ Wr (decide
  ((List.getD (dT x x_1 x_2 x_3 x_4) (Int.toNat x_5.1) (Ty.zero DeedT)).2.2.1.2.2.2.2.2.1 = (0 : Int)) = true → true = true) ∧ Wr (decide ((List.getD (dT x x_1 x_2 x_3 x_4) (Int.toNat x_5.1) (Ty.zero
  DeedT)).2.2.1.2.2.2.2.2.1 = (0 : Int)) = true → true = true) ∧ Wr (decide ((List.getD (dT x x_1 x_2 x_3 x_4) (Int.toNat x_5.1) (Ty.zero DeedT)).2.2.1.2.2.2.2.2.1 = (0 : Int)) = true → true = true) ∧ bcase (decide
  ((List.getD (dT x x_1 x_2 x_3 x_4) (Int.toNat x_5.1) (Ty.zero DeedT)).2.2.1.2.2.2.2.2.1 = (0 : Int)) && decide ((List.getD (dT x x_1 x_2 x_3 x_4) (Int.toNat x_5.1) (Ty.zero DeedT)).2.2.1.2.2.2.1 ≥ (0 : Int))) (Wr ((0 :
  Int) ≤ x_5.1) ∧ Wr (x_5.1 < (↑(List.length (dT x x_1 x_2 x_3 x_4)) : Int)) ∧ E true ∧ E true ∧ E true ∧ bcase (Option.getD (x_5.2.2.2.2.1.2 (List.getD (dT x x_1 x_2 x_3 x_4) (Int.toNat x_5.1) (Ty.zero
  DeedT)).2.2.1.2.2.2.1) false) ((false, ()) = (true, ())) (Wr ((List.length (nilL Int) + List.length x_5.2.2.2.1) * (8 : Nat) ≤ (140737488355328 : Nat)) ∧ Wr ((0 : Int) ≤ x_5.1) ∧ Wr (x_5.1 < (↑(List.length (dT x x_1 x_2
  x_3 x_4)) : Int)) ∧ E true ∧ E true ∧ E true ∧ Wr ((List.length (nilL Int ++ x_5.2.2.2.1) + List.length ((List.getD (dT x x_1 x_2 x_3 x_4) (Int.toNat x_5.1) (Ty.zero DeedT)).2.2.1.2.2.2.1 :: nilL Int)) * (8 : Nat) ≤
  (140737488355328 : Nat)) ∧ Wr (SeI (setDead x_1.2.2.2.2 x_2).2.2.2.2.1 (dT x x_1 x_2 x_3 x_4) (tS x_1 x_2 x_3 x_4) (IntKind.wrap IntKind.i64 (x_5.1 + (1 : Int)), x_5.2.1, (x_5.2.2.1.1 + (1 : Nat), updF I64 I64
  x_5.2.2.1.2 (whoP (List.getD (dT x x_1 x_2 x_3 x_4) (Int.toNat x_5.1) (Ty.zero DeedT)).2.1) (IntKind.wrap IntKind.i64 (Option.getD (x_5.2.2.1.2 (whoP (List.getD (dT x x_1 x_2 x_3 x_4) (Int.toNat x_5.1) (Ty.zero
  DeedT)).2.1)) (0 : Int) + (1 : Int)))), nilL Int ++ x_5.2.2.2.1 ++ (List.getD (dT x x_1 x_2 x_3 x_4) (Int.toNat x_5.1) (Ty.zero DeedT)).2.2.1.2.2.2.1 :: nilL Int, x_5.2.2.2.2)) ∧ Wr (List.length (dT x x_1 x_2 x_3 x_4) -
  Int.toNat (IntKind.wrap IntKind.i64 (x_5.1 + (1 : Int))) < List.length (dT x x_1 x_2 x_3 x_4) - Int.toNat x_5.1) ∧ E (IntKind.wrap IntKind.i64 (x_5.1 + (1 : Int))) ∧ E (dT x x_1 x_2 x_3 x_4) ∧ E ((setDead x_1.2.2.2.2
  x_2).2.2.2.2.1) ∧ E x_5.2.2.2.2.2.1 ∧ E x_5.2.2.2.2.2.2.1 ∧ E x_5.2.2.2.2.2.2.2.1 ∧ E x_5.2.2.2.2.2.2.2.2.1 ∧ E x_5.2.2.2.2.2.2.2.2.2.1 ∧ E x_5.2.2.2.2.2.2.2.2.2.2 ∧ E x_5.2.1 ∧ Wr (x_5.2.2.1.1 + (1 : Nat) ≤ x_5.2.2.1.1
  + (1 : Nat)) ∧ E (updF I64 I64 x_5.2.2.1.2 (whoP (List.getD (dT x x_1 x_2 x_3 x_4) (Int.toNat x_5.1) (Ty.zero DeedT)).2.1) (IntKind.wrap IntKind.i64 (Option.getD (x_5.2.2.1.2 (whoP (List.getD (dT x x_1 x_2 x_3 x_4)
  (Int.toNat x_5.1) (Ty.zero DeedT)).2.1)) (0 : Int) + (1 : Int)))) ∧ E (nilL Int ++ x_5.2.2.2.1 ++ (List.getD (dT x x_1 x_2 x_3 x_4) (Int.toNat x_5.1) (Ty.zero DeedT)).2.2.1.2.2.2.1 :: nilL Int) ∧ Wr (x_5.2.2.2.2.1.1 ≤
  x_5.2.2.2.2.1.1) ∧ E x_5.2.2.2.2.1.2 ∧ E ((oT x x_1 x_2 x_3 x_4).1) ∧ E ((oT x x_1 x_2 x_3 x_4).2.1) ∧ E ((oT x x_1 x_2 x_3 x_4).2.2.1) ∧ E ((oT x x_1 x_2 x_3 x_4).2.2.2.1) ∧ E ((oT x x_1 x_2 x_3 x_4).2.2.2.2.1.1.1) ∧ E
  ((oT x x_1 x_2 x_3 x_4).2.2.2.2.1.1.2.1) ∧ E ((oT x x_1 x_2 x_3 x_4).2.2.2.2.1.1.2.2.1) ∧ E ((oT x x_1 x_2 x_3 x_4).2.2.2.2.1.1.2.2.2.1) ∧ E ((oT x x_1 x_2 x_3 x_4).2.2.2.2.1.1.2.2.2.2.1) ∧ E ((oT x x_1 x_2 x_3
  x_4).2.2.2.2.1.1.2.2.2.2.2.1) ∧ E ((oT x x_1 x_2 x_3 x_4).2.2.2.2.1.1.2.2.2.2.2.2.1) ∧ E ((oT x x_1 x_2 x_3 x_4).2.2.2.2.1.1.2.2.2.2.2.2.2.1) ∧ E ((oT x x_1 x_2 x_3 x_4).2.2.2.2.1.1.2.2.2.2.2.2.2.2.1) ∧ E ((oT x x_1 x_2
  x_3 x_4).2.2.2.2.1.2.1) ∧ E ((oT x x_1 x_2 x_3 x_4).2.2.2.2.1.2.2.1) ∧ E ((oT x x_1 x_2 x_3 x_4).2.2.2.2.1.2.2.2.1) ∧ E ((oT x x_1 x_2 x_3 x_4).2.2.2.2.1.2.2.2.2.1.1) ∧ E ((oT x x_1 x_2 x_3 x_4).2.2.2.2.1.2.2.2.2.1.2.1)
  ∧ E ((oT x x_1 x_2 x_3 x_4).2.2.2.2.1.2.2.2.2.1.2.2.1) ∧ E ((oT x x_1 x_2 x_3 x_4).2.2.2.2.1.2.2.2.2.2.1) ∧ E ((oT x x_1 x_2 x_3 x_4).2.2.2.2.1.2.2.2.2.2.2.1) ∧ E ((oT x x_1 x_2 x_3 x_4).1) ∧ E ((oT x x_1 x_2 x_3
  x_4).2.1) ∧ E ((oT x x_1 x_2 x_3 x_4).2.2.1) ∧ E ((oT x x_1 x_2 x_3 x_4).2.2.2.1) ∧ E ((oT x x_1 x_2 x_3 x_4).2.2.2.2.1.1.1) ∧ E ((oT x x_1 x_2 x_3 x_4).2.2.2.2.1.1.2.1) ∧ E ((oT x x_1 x_2 x_3 x_4).2.2.2.2.1.1.2.2.1) ∧
  E ((oT x x_1 x_2 x_3 x_4).2.2.2.2.1.1.2.2.2.1) ∧ E ((oT x x_1 x_2 x_3 x_4).2.2.2.2.1.1.2.2.2.2.1) ∧ E ((oT x x_1 x_2 x_3 x_4).2.2.2.2.1.1.2.2.2.2.2.1) ∧ E ((oT x x_1 x_2 x_3 x_4).2.2.2.2.1.1.2.2.2.2.2.2.1) ∧ E ((oT x
  x_1 x_2 x_3 x_4).2.2.2.2.1.1.2.2.2.2.2.2.2.1) ∧ E ((oT x x_1 x_2 x_3 x_4).2.2.2.2.1.1.2.2.2.2.2.2.2.2.1) ∧ E ((oT x x_1 x_2 x_3 x_4).2.2.2.2.1.2.1) ∧ E ((oT x x_1 x_2 x_3 x_4).2.2.2.2.1.2.2.1) ∧ E ((oT x x_1 x_2 x_3
  x_4).2.2.2.2.1.2.2.2.1) ∧ E ((oT x x_1 x_2 x_3 x_4).2.2.2.2.1.2.2.2.2.1.1) ∧ E ((oT x x_1 x_2 x_3 x_4).2.2.2.2.1.2.2.2.2.1.2.1) ∧ E ((oT x x_1 x_2 x_3 x_4).2.2.2.2.1.2.2.2.2.1.2.2.1) ∧ E ((oT x x_1 x_2 x_3
  x_4).2.2.2.2.1.2.2.2.2.2.1) ∧ E ((oT x x_1 x_2 x_3 x_4).2.2.2.2.1.2.2.2.2.2.2.1) ∧ E x_1.2.2.2.1.1 ∧ E x_1.2.2.2.1.2.1 ∧ E x_1.2.2.2.1.2.2.1 ∧ E x_1.2.2.2.1.2.2.2.1 ∧ E x_1.2.2.2.1.2.2.2.2.1.1.1 ∧ E
  x_1.2.2.2.1.2.2.2.2.1.1.2.1 ∧ E x_1.2.2.2.1.2.2.2.2.1.1.2.2.1 ∧ E x_1.2.2.2.1.2.2.2.2.1.1.2.2.2.1 ∧ E x_1.2.2.2.1.2.2.2.2.1.1.2.2.2.2.1 ∧ E x_1.2.2.2.1.2.2.2.2.1.1.2.2.2.2.2.1 ∧ E x_1.2.2.2.1.2.2.2.2.1.1.2.2.2.2.2.2.1 ∧
  E x_1.2.2.2.1.2.2.2.2.1.1.2.2.2.2.2.2.2.1 ∧ E x_1.2.2.2.1.2.2.2.2.1.1.2.2.2.2.2.2.2.2.1 ∧ E x_1.2.2.2.1.2.2.2.2.1.2.1 ∧ E x_1.2.2.2.1.2.2.2.2.1.2.2.1 ∧ E x_1.2.2.2.1.2.2.2.2.1.2.2.2.1 ∧ E
  x_1.2.2.2.1.2.2.2.2.1.2.2.2.2.1.1 ∧ E x_1.2.2.2.1.2.2.2.2.1.2.2.2.2.1.2.1 ∧ E x_1.2.2.2.1.2.2.2.2.1.2.2.2.2.1.2.2.1 ∧ E x_1.2.2.2.1.2.2.2.2.1.2.2.2.2.2.1 ∧ E x_1.2.2.2.1.2.2.2.2.1.2.2.2.2.2.2.1 ∧ E x_4.2.1.1 ∧ E
  x_4.2.1.2.1 ∧ E x_4.2.1.2.2.1 ∧ E x_4.2.1.2.2.2.1 ∧ E x_4.2.1.2.2.2.2.1 ∧ E x_4.2.1.2.2.2.2.2.1)) (Wr (SeI (setDead x_1.2.2.2.2 x_2).2.2.2.2.1 (dT x x_1 x_2 x_3 x_4) (tS x_1 x_2 x_3 x_4) (IntKind.wrap IntKind.i64 (x_5.1
  + (1 : Int)), x_5.2.1, (x_5.2.2.1.1 + (1 : Nat), updF I64 I64 x_5.2.2.1.2 (whoP (List.getD (dT x x_1 x_2 x_3 x_4) (Int.toNat x_5.1) (Ty.zero DeedT)).2.1) (IntKind.wrap IntKind.i64 (Option.getD (x_5.2.2.1.2 (whoP
  (List.getD (dT x x_1 x_2 x_3 x_4) (Int.toNat x_5.1) (Ty.zero DeedT)).2.1)) (0 : Int) + (1 : Int)))), x_5.2.2.2)) ∧ Wr (List.length (dT x x_1 x_2 x_3 x_4) - Int.toNat (IntKind.wrap IntKind.i64 (x_5.1 + (1 : Int))) <
  List.length (dT x x_1 x_2 x_3 x_4) - Int.toNat x_5.1) ∧ E (IntKind.wrap IntKind.i64 (x_5.1 + (1 : Int))) ∧ E (dT x x_1 x_2 x_3 x_4) ∧ E ((setDead x_1.2.2.2.2 x_2).2.2.2.2.1) ∧ E x_5.2.2.2.2.2.1 ∧ E x_5.2.2.2.2.2.2.1 ∧ E
  x_5.2.2.2.2.2.2.2.1 ∧ E x_5.2.2.2.2.2.2.2.2.1 ∧ E x_5.2.2.2.2.2.2.2.2.2.1 ∧ E x_5.2.2.2.2.2.2.2.2.2.2 ∧ E x_5.2.1 ∧ Wr (x_5.2.2.1.1 + (1 : Nat) ≤ x_5.2.2.1.1 + (1 : Nat)) ∧ E (updF I64 I64 x_5.2.2.1.2 (whoP (List.getD
  (dT x x_1 x_2 x_3 x_4) (Int.toNat x_5.1) (Ty.zero DeedT)).2.1) (IntKind.wrap IntKind.i64 (Option.getD (x_5.2.2.1.2 (whoP (List.getD (dT x x_1 x_2 x_3 x_4) (Int.toNat x_5.1) (Ty.zero DeedT)).2.1)) (0 : Int) + (1 :
  Int)))) ∧ E x_5.2.2.2.1 ∧ Wr (x_5.2.2.2.2.1.1 ≤ x_5.2.2.2.2.1.1) ∧ E x_5.2.2.2.2.1.2 ∧ E ((oT x x_1 x_2 x_3 x_4).1) ∧ E ((oT x x_1 x_2 x_3 x_4).2.1) ∧ E ((oT x x_1 x_2 x_3 x_4).2.2.1) ∧ E ((oT x x_1 x_2 x_3
  x_4).2.2.2.1) ∧ E ((oT x x_1 x_2 x_3 x_4).2.2.2.2.1.1.1) ∧ E ((oT x x_1 x_2 x_3 x_4).2.2.2.2.1.1.2.1) ∧ E ((oT x x_1 x_2 x_3 x_4).2.2.2.2.1.1.2.2.1) ∧ E ((oT x x_1 x_2 x_3 x_4).2.2.2.2.1.1.2.2.2.1) ∧ E ((oT x x_1 x_2
  x_3 x_4).2.2.2.2.1.1.2.2.2.2.1) ∧ E ((oT x x_1 x_2 x_3 x_4).2.2.2.2.1.1.2.2.2.2.2.1) ∧ E ((oT x x_1 x_2 x_3 x_4).2.2.2.2.1.1.2.2.2.2.2.2.1) ∧ E ((oT x x_1 x_2 x_3 x_4).2.2.2.2.1.1.2.2.2.2.2.2.2.1) ∧ E ((oT x x_1 x_2 x_3
  x_4).2.2.2.2.1.1.2.2.2.2.2.2.2.2.1) ∧ E ((oT x x_1 x_2 x_3 x_4).2.2.2.2.1.2.1) ∧ E ((oT x x_1 x_2 x_3 x_4).2.2.2.2.1.2.2.1) ∧ E ((oT x x_1 x_2 x_3 x_4).2.2.2.2.1.2.2.2.1) ∧ E ((oT x x_1 x_2 x_3
  x_4).2.2.2.2.1.2.2.2.2.1.1) ∧ E ((oT x x_1 x_2 x_3 x_4).2.2.2.2.1.2.2.2.2.1.2.1) ∧ E ((oT x x_1 x_2 x_3 x_4).2.2.2.2.1.2.2.2.2.1.2.2.1) ∧ E ((oT x x_1 x_2 x_3 x_4).2.2.2.2.1.2.2.2.2.2.1) ∧ E ((oT x x_1 x_2 x_3
  x_4).2.2.2.2.1.2.2.2.2.2.2.1) ∧ E ((oT x x_1 x_2 x_3 x_4).1) ∧ E ((oT x x_1 x_2 x_3 x_4).2.1) ∧ E ((oT x x_1 x_2 x_3 x_4).2.2.1) ∧ E ((oT x x_1 x_2 x_3 x_4).2.2.2.1) ∧ E ((oT x x_1 x_2 x_3 x_4).2.2.2.2.1.1.1) ∧ E ((oT x
  x_1 x_2 x_3 x_4).2.2.2.2.1.1.2.1) ∧ E ((oT x x_1 x_2 x_3 x_4).2.2.2.2.1.1.2.2.1) ∧ E ((oT x x_1 x_2 x_3 x_4).2.2.2.2.1.1.2.2.2.1) ∧ E ((oT x x_1 x_2 x_3 x_4).2.2.2.2.1.1.2.2.2.2.1) ∧ E ((oT x x_1 x_2 x_3
  x_4).2.2.2.2.1.1.2.2.2.2.2.1) ∧ E ((oT x x_1 x_2 x_3 x_4).2.2.2.2.1.1.2.2.2.2.2.2.1) ∧ E ((oT x x_1 x_2 x_3 x_4).2.2.2.2.1.1.2.2.2.2.2.2.2.1) ∧ E ((oT x x_1 x_2 x_3 x_4).2.2.2.2.1.1.2.2.2.2.2.2.2.2.1) ∧ E ((oT x x_1 x_2
  x_3 x_4).2.2.2.2.1.2.1) ∧ E ((oT x x_1 x_2 x_3 x_4).2.2.2.2.1.2.2.1) ∧ E ((oT x x_1 x_2 x_3 x_4).2.2.2.2.1.2.2.2.1) ∧ E ((oT x x_1 x_2 x_3 x_4).2.2.2.2.1.2.2.2.2.1.1) ∧ E ((oT x x_1 x_2 x_3 x_4).2.2.2.2.1.2.2.2.2.1.2.1)
  ∧ E ((oT x x_1 x_2 x_3 x_4).2.2.2.2.1.2.2.2.2.1.2.2.1) ∧ E ((oT x x_1 x_2 x_3 x_4).2.2.2.2.1.2.2.2.2.2.1) ∧ E ((oT x x_1 x_2 x_3 x_4).2.2.2.2.1.2.2.2.2.2.2.1) ∧ E x_1.2.2.2.1.1 ∧ E x_1.2.2.2.1.2.1 ∧ E x_1.2.2.2.1.2.2.1
  ∧ E x_1.2.2.2.1.2.2.2.1 ∧ E x_1.2.2.2.1.2.2.2.2.1.1.1 ∧ E x_1.2.2.2.1.2.2.2.2.1.1.2.1 ∧ E x_1.2.2.2.1.2.2.2.2.1.1.2.2.1 ∧ E x_1.2.2.2.1.2.2.2.2.1.1.2.2.2.1 ∧ E x_1.2.2.2.1.2.2.2.2.1.1.2.2.2.2.1 ∧ E
  x_1.2.2.2.1.2.2.2.2.1.1.2.2.2.2.2.1 ∧ E x_1.2.2.2.1.2.2.2.2.1.1.2.2.2.2.2.2.1 ∧ E x_1.2.2.2.1.2.2.2.2.1.1.2.2.2.2.2.2.2.1 ∧ E x_1.2.2.2.1.2.2.2.2.1.1.2.2.2.2.2.2.2.2.1 ∧ E x_1.2.2.2.1.2.2.2.2.1.2.1 ∧ E
  x_1.2.2.2.1.2.2.2.2.1.2.2.1 ∧ E x_1.2.2.2.1.2.2.2.2.1.2.2.2.1 ∧ E x_1.2.2.2.1.2.2.2.2.1.2.2.2.2.1.1 ∧ E x_1.2.2.2.1.2.2.2.2.1.2.2.2.2.1.2.1 ∧ E x_1.2.2.2.1.2.2.2.2.1.2.2.2.2.1.2.2.1 ∧ E x_1.2.2.2.1.2.2.2.2.1.2.2.2.2.2.1
  ∧ E x_1.2.2.2.1.2.2.2.2.1.2.2.2.2.2.2.1 ∧ E x_4.2.1.1 ∧ E x_4.2.1.2.1 ∧ E x_4.2.1.2.2.1 ∧ E x_4.2.1.2.2.2.1 ∧ E x_4.2.1.2.2.2.2.1 ∧ E x_4.2.1.2.2.2.2.2.1))) (bcase (decide ((List.getD (dT x x_1 x_2 x_3 x_4) (Int.toNat
  x_5.1) (Ty.zero DeedT)).1 = (6 : Int))) (Wr ((0 : Int) ≤ x_5.1) ∧ Wr (x_5.1 < (↑(List.length (dT x x_1 x_2 x_3 x_4)) : Int)) ∧ E true ∧ E true ∧ Wr ((!(Option.getD (x_5.2.2.2.2.1.2 (List.getD (dT x x_1 x_2 x_3 x_4)
  (Int.toNat x_5.1) (Ty.zero DeedT)).2.1) false || decide (IntKind.wrap IntKind.i64 (x_5.1 + (1 : Int)) ≥ (↑(List.length (dT x x_1 x_2 x_3 x_4)) : Int)))) = true → (0 : Int) ≤ IntKind.wrap IntKind.i64 (x_5.1 + (1 : Int)))
  ∧ Wr ((!(Option.getD (x_5.2.2.2.2.1.2 (List.getD (dT x x_1 x_2 x_3 x_4) (Int.toNat x_5.1) (Ty.zero DeedT)).2.1) false || decide (IntKind.wrap IntKind.i64 (x_5.1 + (1 : Int)) ≥ (↑(List.length (dT x x_1 x_2 x_3 x_4)) :
  Int)))) = true → IntKind.wrap IntKind.i64 (x_5.1 + (1 : Int)) < (↑(List.length (dT x x_1 x_2 x_3 x_4)) : Int)) ∧ Wr ((!(Option.getD (x_5.2.2.2.2.1.2 (List.getD (dT x x_1 x_2 x_3 x_4) (Int.toNat x_5.1) (Ty.zero
  DeedT)).2.1) false || decide (IntKind.wrap IntKind.i64 (x_5.1 + (1 : Int)) ≥ (↑(List.length (dT x x_1 x_2 x_3 x_4)) : Int)))) = true → true = true) ∧ Wr ((!(Option.getD (x_5.2.2.2.2.1.2 (List.getD (dT x x_1 x_2 x_3 x_4)
  (Int.toNat x_5.1) (Ty.zero DeedT)).2.1) false || decide (IntKind.wrap IntKind.i64 (x_5.1 + (1 : Int)) ≥ (↑(List.length (dT x x_1 x_2 x_3 x_4)) : Int)))) = true → true = true) ∧ Wr ((!(Option.getD (x_5.2.2.2.2.1.2
  (List.getD (dT x x_1 x_2 x_3 x_4) (Int.toNat x_5.1) (Ty.zero DeedT)).2.1) false || decide (IntKind.wrap IntKind.i64 (x_5.1 + (1 : Int)) ≥ (↑(List.length (dT x x_1 x_2 x_3 x_4)) : Int)) || !decide ((List.getD (dT x x_1
  x_2 x_3 x_4) (Int.toNat (IntKind.wrap IntKind.i64 (x_5.1 + (1 : Int)))) (Ty.zero DeedT)).1 = (3 : Int)))) = true → (0 : Int) ≤ IntKind.wrap IntKind.i64 (x_5.1 + (1 : Int))) ∧ Wr ((!(Option.getD (x_5.2.2.2.2.1.2
  (List.getD (dT x x_1 x_2 x_3 x_4) (Int.toNat x_5.1) (Ty.zero DeedT)).2.1) false || decide (IntKind.wrap IntKind.i64 (x_5.1 + (1 : Int)) ≥ (↑(List.length (dT x x_1 x_2 x_3 x_4)) : Int)) || !decide ((List.getD (dT x x_1
  x_2 x_3 x_4) (Int.toNat (IntKind.wrap IntKind.i64 (x_5.1 + (1 : Int)))) (Ty.zero DeedT)).1 = (3 : Int)))) = true → IntKind.wrap IntKind.i64 (x_5.1 + (1 : Int)) < (↑(List.length (dT x x_1 x_2 x_3 x_4)) : Int)) ∧ Wr
  ((!(Option.getD (x_5.2.2.2.2.1.2 (List.getD (dT x x_1 x_2 x_3 x_4) (Int.toNat x_5.1) (Ty.zero DeedT)).2.1) false || decide (IntKind.wrap IntKind.i64 (x_5.1 + (1 : Int)) ≥ (↑(List.length (dT x x_1 x_2 x_3 x_4)) : Int))
  || !decide ((List.getD (dT x x_1 x_2 x_3 x_4) (Int.toNat (IntKind.wrap IntKind.i64 (x_5.1 + (1 : Int)))) (Ty.zero DeedT)).1 = (3 : Int)))) = true → true = true) ∧ Wr ((!(Option.getD (x_5.2.2.2.2.1.2 (List.getD (dT x x_1
  x_2 x_3 x_4) (Int.toNat x_5.1) (Ty.zero DeedT)).2.1) false || decide (IntKind.wrap IntKind.i64 (x_5.1 + (1 : Int)) ≥ (↑(List.length (dT x x_1 x_2 x_3 x_4)) : Int)) || !decide ((List.getD (dT x x_1 x_2 x_3 x_4)
  (Int.toNat (IntKind.wrap IntKind.i64 (x_5.1 + (1 : Int)))) (Ty.zero DeedT)).1 = (3 : Int)))) = true → true = true) ∧ Wr ((!(Option.getD (x_5.2.2.2.2.1.2 (List.getD (dT x x_1 x_2 x_3 x_4) (Int.toNat x_5.1) (Ty.zero
  DeedT)).2.1) false || decide (IntKind.wrap IntKind.i64 (x_5.1 + (1 : Int)) ≥ (↑(List.length (dT x x_1 x_2 x_3 x_4)) : Int)) || !decide ((List.getD (dT x x_1 x_2 x_3 x_4) (Int.toNat (IntKind.wrap IntKind.i64 (x_5.1 + (1
  : Int)))) (Ty.zero DeedT)).1 = (3 : Int)))) = true → true = true) ∧ bcase (Option.getD (x_5.2.2.2.2.1.2 (List.getD (dT x x_1 x_2 x_3 x_4) (Int.toNat x_5.1) (Ty.zero DeedT)).2.1) false || decide (IntKind.wrap IntKind.i64
  (x_5.1 + (1 : Int)) ≥ (↑(List.length (dT x x_1 x_2 x_3 x_4)) : Int)) || !decide ((List.getD (dT x x_1 x_2 x_3 x_4) (Int.toNat (IntKind.wrap IntKind.i64 (x_5.1 + (1 : Int)))) (Ty.zero DeedT)).1 = (3 : Int)) || !decide
  ((List.getD (dT x x_1 x_2 x_3 x_4) (Int.toNat (IntKind.wrap IntKind.i64 (x_5.1 + (1 : Int)))) (Ty.zero DeedT)).2.1 = dOf (1 : Int) (4 : Int))) ((false, ()) = (true, ())) (Wr ((0 : Int) ≤ x_5.1) ∧ Wr (x_5.1 <
  (↑(List.length (dT x x_1 x_2 x_3 x_4)) : Int)) ∧ E true ∧ E true ∧ Wr (x_5.2.2.2.2.1.1 < Go.maxLen) ∧ Wr (SeI (setDead x_1.2.2.2.2 x_2).2.2.2.2.1 (dT x x_1 x_2 x_3 x_4) (tS x_1 x_2 x_3 x_4) (IntKind.wrap IntKind.i64
  (x_5.1 + (1 : Int)), x_5.2.1, x_5.2.2.1, x_5.2.2.2.1, (x_5.2.2.2.2.1.1 + (1 : Nat), updF I64 Ty.bool x_5.2.2.2.2.1.2 (List.getD (dT x x_1 x_2 x_3 x_4) (Int.toNat x_5.1) (Ty.zero DeedT)).2.1 true), x_5.2.2.2.2.2)) ∧ Wr
  (List.length (dT x x_1 x_2 x_3 x_4) - Int.toNat (IntKind.wrap IntKind.i64 (x_5.1 + (1 : Int))) < List.length (dT x x_1 x_2 x_3 x_4) - Int.toNat x_5.1) ∧ E (IntKind.wrap IntKind.i64 (x_5.1 + (1 : Int))) ∧ E (dT x x_1 x_2
  x_3 x_4) ∧ E ((setDead x_1.2.2.2.2 x_2).2.2.2.2.1) ∧ E x_5.2.2.2.2.2.1 ∧ E x_5.2.2.2.2.2.2.1 ∧ E x_5.2.2.2.2.2.2.2.1 ∧ E x_5.2.2.2.2.2.2.2.2.1 ∧ E x_5.2.2.2.2.2.2.2.2.2.1 ∧ E x_5.2.2.2.2.2.2.2.2.2.2 ∧ E x_5.2.1 ∧ Wr
  (x_5.2.2.1.1 ≤ x_5.2.2.1.1) ∧ E x_5.2.2.1.2 ∧ E x_5.2.2.2.1 ∧ Wr (x_5.2.2.2.2.1.1 + (1 : Nat) ≤ x_5.2.2.2.2.1.1 + (1 : Nat)) ∧ E (updF I64 Ty.bool x_5.2.2.2.2.1.2 (List.getD (dT x x_1 x_2 x_3 x_4) (Int.toNat x_5.1)
  (Ty.zero DeedT)).2.1 true) ∧ E ((oT x x_1 x_2 x_3 x_4).1) ∧ E ((oT x x_1 x_2 x_3 x_4).2.1) ∧ E ((oT x x_1 x_2 x_3 x_4).2.2.1) ∧ E ((oT x x_1 x_2 x_3 x_4).2.2.2.1) ∧ E ((oT x x_1 x_2 x_3 x_4).2.2.2.2.1.1.1) ∧ E ((oT x
  x_1 x_2 x_3 x_4).2.2.2.2.1.1.2.1) ∧ E ((oT x x_1 x_2 x_3 x_4).2.2.2.2.1.1.2.2.1) ∧ E ((oT x x_1 x_2 x_3 x_4).2.2.2.2.1.1.2.2.2.1) ∧ E ((oT x x_1 x_2 x_3 x_4).2.2.2.2.1.1.2.2.2.2.1) ∧ E ((oT x x_1 x_2 x_3
  x_4).2.2.2.2.1.1.2.2.2.2.2.1) ∧ E ((oT x x_1 x_2 x_3 x_4).2.2.2.2.1.1.2.2.2.2.2.2.1) ∧ E ((oT x x_1 x_2 x_3 x_4).2.2.2.2.1.1.2.2.2.2.2.2.2.1) ∧ E ((oT x x_1 x_2 x_3 x_4).2.2.2.2.1.1.2.2.2.2.2.2.2.2.1) ∧ E ((oT x x_1 x_2
  x_3 x_4).2.2.2.2.1.2.1) ∧ E ((oT x x_1 x_2 x_3 x_4).2.2.2.2.1.2.2.1) ∧ E ((oT x x_1 x_2 x_3 x_4).2.2.2.2.1.2.2.2.1) ∧ E ((oT x x_1 x_2 x_3 x_4).2.2.2.2.1.2.2.2.2.1.1) ∧ E ((oT x x_1 x_2 x_3 x_4).2.2.2.2.1.2.2.2.2.1.2.1)
  ∧ E ((oT x x_1 x_2 x_3 x_4).2.2.2.2.1.2.2.2.2.1.2.2.1) ∧ E ((oT x x_1 x_2 x_3 x_4).2.2.2.2.1.2.2.2.2.2.1) ∧ E ((oT x x_1 x_2 x_3 x_4).2.2.2.2.1.2.2.2.2.2.2.1) ∧ E ((oT x x_1 x_2 x_3 x_4).1) ∧ E ((oT x x_1 x_2 x_3
  x_4).2.1) ∧ E ((oT x x_1 x_2 x_3 x_4).2.2.1) ∧ E ((oT x x_1 x_2 x_3 x_4).2.2.2.1) ∧ E ((oT x x_1 x_2 x_3 x_4).2.2.2.2.1.1.1) ∧ E ((oT x x_1 x_2 x_3 x_4).2.2.2.2.1.1.2.1) ∧ E ((oT x x_1 x_2 x_3 x_4).2.2.2.2.1.1.2.2.1) ∧
  E ((oT x x_1 x_2 x_3 x_4).2.2.2.2.1.1.2.2.2.1) ∧ E ((oT x x_1 x_2 x_3 x_4).2.2.2.2.1.1.2.2.2.2.1) ∧ E ((oT x x_1 x_2 x_3 x_4).2.2.2.2.1.1.2.2.2.2.2.1) ∧ E ((oT x x_1 x_2 x_3 x_4).2.2.2.2.1.1.2.2.2.2.2.2.1) ∧ E ((oT x
  x_1 x_2 x_3 x_4).2.2.2.2.1.1.2.2.2.2.2.2.2.1) ∧ E ((oT x x_1 x_2 x_3 x_4).2.2.2.2.1.1.2.2.2.2.2.2.2.2.1) ∧ E ((oT x x_1 x_2 x_3 x_4).2.2.2.2.1.2.1) ∧ E ((oT x x_1 x_2 x_3 x_4).2.2.2.2.1.2.2.1) ∧ E ((oT x x_1 x_2 x_3
  x_4).2.2.2.2.1.2.2.2.1) ∧ E ((oT x x_1 x_2 x_3 x_4).2.2.2.2.1.2.2.2.2.1.1) ∧ E ((oT x x_1 x_2 x_3 x_4).2.2.2.2.1.2.2.2.2.1.2.1) ∧ E ((oT x x_1 x_2 x_3 x_4).2.2.2.2.1.2.2.2.2.1.2.2.1) ∧ E ((oT x x_1 x_2 x_3
  x_4).2.2.2.2.1.2.2.2.2.2.1) ∧ E ((oT x x_1 x_2 x_3 x_4).2.2.2.2.1.2.2.2.2.2.2.1) ∧ E x_1.2.2.2.1.1 ∧ E x_1.2.2.2.1.2.1 ∧ E x_1.2.2.2.1.2.2.1 ∧ E x_1.2.2.2.1.2.2.2.1 ∧ E x_1.2.2.2.1.2.2.2.2.1.1.1 ∧ E
  x_1.2.2.2.1.2.2.2.2.1.1.2.1 ∧ E x_1.2.2.2.1.2.2.2.2.1.1.2.2.1 ∧ E x_1.2.2.2.1.2.2.2.2.1.1.2.2.2.1 ∧ E x_1.2.2.2.1.2.2.2.2.1.1.2.2.2.2.1 ∧ E x_1.2.2.2.1.2.2.2.2.1.1.2.2.2.2.2.1 ∧ E x_1.2.2.2.1.2.2.2.2.1.1.2.2.2.2.2.2.1 ∧
  E x_1.2.2.2.1.2.2.2.2.1.1.2.2.2.2.2.2.2.1 ∧ E x_1.2.2.2.1.2.2.2.2.1.1.2.2.2.2.2.2.2.2.1 ∧ E x_1.2.2.2.1.2.2.2.2.1.2.1 ∧ E x_1.2.2.2.1.2.2.2.2.1.2.2.1 ∧ E x_1.2.2.2.1.2.2.2.2.1.2.2.2.1 ∧ E
  x_1.2.2.2.1.2.2.2.2.1.2.2.2.2.1.1 ∧ E x_1.2.2.2.1.2.2.2.2.1.2.2.2.2.1.2.1 ∧ E x_1.2.2.2.1.2.2.2.2.1.2.2.2.2.1.2.2.1 ∧ E x_1.2.2.2.1.2.2.2.2.1.2.2.2.2.2.1 ∧ E x_1.2.2.2.1.2.2.2.2.1.2.2.2.2.2.2.1 ∧ E x_4.2.1.1 ∧ E
  x_4.2.1.2.1 ∧ E x_4.2.1.2.2.1 ∧ E x_4.2.1.2.2.2.1 ∧ E x_4.2.1.2.2.2.2.1 ∧ E x_4.2.1.2.2.2.2.2.1)) (bcase (decide ((List.getD (dT x x_1 x_2 x_3 x_4) (Int.toNat x_5.1) (Ty.zero DeedT)).1 = (0 : Int))) (Wr
  ((!x_5.2.2.2.2.2.2.1) = true → (0 : Int) ≤ x_5.1) ∧ Wr ((!x_5.2.2.2.2.2.2.1) = true → x_5.1 < (↑(List.length (dT x x_1 x_2 x_3 x_4)) : Int)) ∧ Wr ((!x_5.2.2.2.2.2.2.1) = true → true = true) ∧ Wr ((!x_5.2.2.2.2.2.2.1) =
  true → true = true) ∧ Wr ((!(x_5.2.2.2.2.2.2.1 || Option.isNone (List.getD (dT x x_1 x_2 x_3 x_4) (Int.toNat x_5.1) (Ty.zero DeedT)).2.2.2.2.1)) = true → (0 : Int) ≤ x_5.1) ∧ Wr ((!(x_5.2.2.2.2.2.2.1 || Option.isNone
  (List.getD (dT x x_1 x_2 x_3 x_4) (Int.toNat x_5.1) (Ty.zero DeedT)).2.2.2.2.1)) = true → x_5.1 < (↑(List.length (dT x x_1 x_2 x_3 x_4)) : Int)) ∧ Wr ((!(x_5.2.2.2.2.2.2.1 || Option.isNone (List.getD (dT x x_1 x_2 x_3
  x_4) (Int.toNat x_5.1) (Ty.zero DeedT)).2.2.2.2.1)) = true → true = true) ∧ Wr ((!(x_5.2.2.2.2.2.2.1 || Option.isNone (List.getD (dT x x_1 x_2 x_3 x_4) (Int.toNat x_5.1) (Ty.zero DeedT)).2.2.2.2.1)) = true → true =
  true) ∧ Wr ((!(x_5.2.2.2.2.2.2.1 || Option.isNone (List.getD (dT x x_1 x_2 x_3 x_4) (Int.toNat x_5.1) (Ty.zero DeedT)).2.2.2.2.1)) = true → Option.isSome (List.getD (dT x x_1 x_2 x_3 x_4) (Int.toNat x_5.1) (Ty.zero
  DeedT)).2.2.2.2.1 = true) ∧ Wr ((!(x_5.2.2.2.2.2.2.1 || Option.isNone (List.getD (dT x x_1 x_2 x_3 x_4) (Int.toNat x_5.1) (Ty.zero DeedT)).2.2.2.2.1)) = true → Option.isSome (List.getD (dT x x_1 x_2 x_3 x_4) (Int.toNat
  x_5.1) (Ty.zero DeedT)).2.2.2.2.1 = true) ∧ Wr ((!(x_5.2.2.2.2.2.2.1 || Option.isNone (List.getD (dT x x_1 x_2 x_3 x_4) (Int.toNat x_5.1) (Ty.zero DeedT)).2.2.2.2.1)) = true → Option.isSome (Option.map (fun (x : Pr) =>
  x.1) (List.getD (dT x x_1 x_2 x_3 x_4) (Int.toNat x_5.1) (Ty.zero DeedT)).2.2.2.2.1) = true) ∧ Wr ((!(x_5.2.2.2.2.2.2.1 || Option.isNone (List.getD (dT x x_1 x_2 x_3 x_4) (Int.toNat x_5.1) (Ty.zero DeedT)).2.2.2.2.1 ||
  !decide (Option.getD (Option.map (fun (x : Pr) => x.1) (List.getD (dT x x_1 x_2 x_3 x_4) (Int.toNat x_5.1) (Ty.zero DeedT)).2.2.2.2.1) (0 : Int) = (3 : Int)))) = true → (0 : Int) ≤ x_5.1) ∧ Wr ((!(x_5.2.2.2.2.2.2.1 ||
  Option.isNone (List.getD (dT x x_1 x_2 x_3 x_4) (Int.toNat x_5.1) (Ty.zero DeedT)).2.2.2.2.1 || !decide (Option.getD (Option.map (fun (x : Pr) => x.1) (List.getD (dT x x_1 x_2 x_3 x_4) (Int.toNat x_5.1) (Ty.zero
  DeedT)).2.2.2.2.1) (0 : Int) = (3 : Int)))) = true → x_5.1 < (↑(List.length (dT x x_1 x_2 x_3 x_4)) : Int)) ∧ Wr ((!(x_5.2.2.2.2.2.2.1 || Option.isNone (List.getD (dT x x_1 x_2 x_3 x_4) (Int.toNat x_5.1) (Ty.zero
  DeedT)).2.2.2.2.1 || !decide (Option.getD (Option.map (fun (x : Pr) => x.1) (List.getD (dT x x_1 x_2 x_3 x_4) (Int.toNat x_5.1) (Ty.zero DeedT)).2.2.2.2.1) (0 : Int) = (3 : Int)))) = true → true = true) ∧ Wr
  ((!(x_5.2.2.2.2.2.2.1 || Option.isNone (List.getD (dT x x_1 x_2 x_3 x_4) (Int.toNat x_5.1) (Ty.zero DeedT)).2.2.2.2.1 || !decide (Option.getD (Option.map (fun (x : Pr) => x.1) (List.getD (dT x x_1 x_2 x_3 x_4)
  (Int.toNat x_5.1) (Ty.zero DeedT)).2.2.2.2.1) (0 : Int) = (3 : Int)))) = true → true = true) ∧ Wr ((!(x_5.2.2.2.2.2.2.1 || Option.isNone (List.getD (dT x x_1 x_2 x_3 x_4) (Int.toNat x_5.1) (Ty.zero DeedT)).2.2.2.2.1 ||
  !decide (Option.getD (Option.map (fun (x : Pr) => x.1) (List.getD (dT x x_1 x_2 x_3 x_4) (Int.toNat x_5.1) (Ty.zero DeedT)).2.2.2.2.1) (0 : Int) = (3 : Int)))) = true → Option.isSome (List.getD (dT x x_1 x_2 x_3 x_4)
  (Int.toNat x_5.1) (Ty.zero DeedT)).2.2.2.2.1 = true) ∧ Wr ((!(x_5.2.2.2.2.2.2.1 || Option.isNone (List.getD (dT x x_1 x_2 x_3 x_4) (Int.toNat x_5.1) (Ty.zero DeedT)).2.2.2.2.1 || !decide (Option.getD (Option.map (fun (x
  : Pr) => x.1) (List.getD (dT x x_1 x_2 x_3 x_4) (Int.toNat x_5.1) (Ty.zero DeedT)).2.2.2.2.1) (0 : Int) = (3 : Int)))) = true → Option.isSome (List.getD (dT x x_1 x_2 x_3 x_4) (Int.toNat x_5.1) (Ty.zero
  DeedT)).2.2.2.2.1 = true) ∧ Wr ((!(x_5.2.2.2.2.2.2.1 || Option.isNone (List.getD (dT x x_1 x_2 x_3 x_4) (Int.toNat x_5.1) (Ty.zero DeedT)).2.2.2.2.1 || !decide (Option.getD (Option.map (fun (x : Pr) => x.1) (List.getD
  (dT x x_1 x_2 x_3 x_4) (Int.toNat x_5.1) (Ty.zero DeedT)).2.2.2.2.1) (0 : Int) = (3 : Int)))) = true → Option.isSome (Option.map (fun (x : Pr) => x.2.2.2.2.1) (List.getD (dT x x_1 x_2 x_3 x_4) (Int.toNat x_5.1) (Ty.zero
  DeedT)).2.2.2.2.1) = true) ∧ Wr ((!(x_5.2.2.2.2.2.2.1 || Option.isNone (List.getD (dT x x_1 x_2 x_3 x_4) (Int.toNat x_5.1) (Ty.zero DeedT)).2.2.2.2.1 || !decide (Option.getD (Option.map (fun (x : Pr) => x.1) (List.getD
  (dT x x_1 x_2 x_3 x_4) (Int.toNat x_5.1) (Ty.zero DeedT)).2.2.2.2.1) (0 : Int) = (3 : Int)))) = true → Option.isSome (Option.map (fun (x : Int × Int × Int × Cf × ByteArray × Int × List Sc × Int × (List Ad × Int × Int ×
  List Int × Int × Bool × Unit) × Unit) => x.1) (Option.map (fun (x : Pr) => x.2.2.2.2.1) (List.getD (dT x x_1 x_2 x_3 x_4) (Int.toNat x_5.1) (Ty.zero DeedT)).2.2.2.2.1)) = true) ∧ bcase (x_5.2.2.2.2.2.2.1 ||
  Option.isNone (List.getD (dT x x_1 x_2 x_3 x_4) (Int.toNat x_5.1) (Ty.zero DeedT)).2.2.2.2.1 || !decide (Option.getD (Option.map (fun (x : Pr) => x.1) (List.getD (dT x x_1 x_2 x_3 x_4) (Int.toNat x_5.1) (Ty.zero
  DeedT)).2.2.2.2.1) (0 : Int) = (3 : Int)) || !decide (Option.getD (Option.map (fun (x : Int × Int × Int × Cf × ByteArray × Int × List Sc × Int × (List Ad × Int × Int × List Int × Int × Bool × Unit) × Unit) => x.1)
  (Option.map (fun (x : Pr) => x.2.2.2.2.1) (List.getD (dT x x_1 x_2 x_3 x_4) (Int.toNat x_5.1) (Ty.zero DeedT)).2.2.2.2.1)) (0 : Int) = x_5.2.2.2.2.2.2.2.2.1)) ((false, ()) = (true, ())) (Wr (SeI (setDead x_1.2.2.2.2
  x_2).2.2.2.2.1 (dT x x_1 x_2 x_3 x_4) (tS x_1 x_2 x_3 x_4) (IntKind.wrap IntKind.i64 (x_5.1 + (1 : Int)), x_5.2.1, x_5.2.2.1, x_5.2.2.2.1, x_5.2.2.2.2.1, x_5.2.2.2.2.2.2.2.2.1, true, false, IntKind.wrap IntKind.i64
  (x_5.2.2.2.2.2.2.2.2.1 + (1 : Int)), x_5.2.2.2.2.2.2.2.2.2)) ∧ Wr (List.length (dT x x_1 x_2 x_3 x_4) - Int.toNat (IntKind.wrap IntKind.i64 (x_5.1 + (1 : Int))) < List.length (dT x x_1 x_2 x_3 x_4) - Int.toNat x_5.1) ∧
  E (IntKind.wrap IntKind.i64 (x_5.1 + (1 : Int))) ∧ E (dT x x_1 x_2 x_3 x_4) ∧ E ((setDead x_1.2.2.2.2 x_2).2.2.2.2.1) ∧ E x_5.2.2.2.2.2.2.2.2.1 ∧ E true ∧ E false ∧ E (IntKind.wrap IntKind.i64 (x_5.2.2.2.2.2.2.2.2.1 +
  (1 : Int))) ∧ E x_5.2.2.2.2.2.2.2.2.2.1 ∧ E x_5.2.2.2.2.2.2.2.2.2.2 ∧ E x_5.2.1 ∧ Wr (x_5.2.2.1.1 ≤ x_5.2.2.1.1) ∧ E x_5.2.2.1.2 ∧ E x_5.2.2.2.1 ∧ Wr (x_5.2.2.2.2.1.1 ≤ x_5.2.2.2.2.1.1) ∧ E x_5.2.2.2.2.1.2 ∧ E ((oT x
  x_1 x_2 x_3 x_4).1) ∧ E ((oT x x_1 x_2 x_3 x_4).2.1) ∧ E ((oT x x_1 x_2 x_3 x_4).2.2.1) ∧ E ((oT x x_1 x_2 x_3 x_4).2.2.2.1) ∧ E ((oT x x_1 x_2 x_3 x_4).2.2.2.2.1.1.1) ∧ E ((oT x x_1 x_2 x_3 x_4).2.2.2.2.1.1.2.1) ∧ E
  ((oT x x_1 x_2 x_3 x_4).2.2.2.2.1.1.2.2.1) ∧ E ((oT x x_1 x_2 x_3 x_4).2.2.2.2.1.1.2.2.2.1) ∧ E ((oT x x_1 x_2 x_3 x_4).2.2.2.2.1.1.2.2.2.2.1) ∧ E ((oT x x_1 x_2 x_3 x_4).2.2.2.2.1.1.2.2.2.2.2.1) ∧ E ((oT x x_1 x_2 x_3
  x_4).2.2.2.2.1.1.2.2.2.2.2.2.1) ∧ E ((oT x x_1 x_2 x_3 x_4).2.2.2.2.1.1.2.2.2.2.2.2.2.1) ∧ E ((oT x x_1 x_2 x_3 x_4).2.2.2.2.1.1.2.2.2.2.2.2.2.2.1) ∧ E ((oT x x_1 x_2 x_3 x_4).2.2.2.2.1.2.1) ∧ E ((oT x x_1 x_2 x_3
  x_4).2.2.2.2.1.2.2.1) ∧ E ((oT x x_1 x_2 x_3 x_4).2.2.2.2.1.2.2.2.1) ∧ E ((oT x x_1 x_2 x_3 x_4).2.2.2.2.1.2.2.2.2.1.1) ∧ E ((oT x x_1 x_2 x_3 x_4).2.2.2.2.1.2.2.2.2.1.2.1) ∧ E ((oT x x_1 x_2 x_3
  x_4).2.2.2.2.1.2.2.2.2.1.2.2.1) ∧ E ((oT x x_1 x_2 x_3 x_4).2.2.2.2.1.2.2.2.2.2.1) ∧ E ((oT x x_1 x_2 x_3 x_4).2.2.2.2.1.2.2.2.2.2.2.1) ∧ E ((oT x x_1 x_2 x_3 x_4).1) ∧ E ((oT x x_1 x_2 x_3 x_4).2.1) ∧ E ((oT x x_1 x_2
  x_3 x_4).2.2.1) ∧ E ((oT x x_1 x_2 x_3 x_4).2.2.2.1) ∧ E ((oT x x_1 x_2 x_3 x_4).2.2.2.2.1.1.1) ∧ E ((oT x x_1 x_2 x_3 x_4).2.2.2.2.1.1.2.1) ∧ E ((oT x x_1 x_2 x_3 x_4).2.2.2.2.1.1.2.2.1) ∧ E ((oT x x_1 x_2 x_3
  x_4).2.2.2.2.1.1.2.2.2.1) ∧ E ((oT x x_1 x_2 x_3 x_4).2.2.2.2.1.1.2.2.2.2.1) ∧ E ((oT x x_1 x_2 x_3 x_4).2.2.2.2.1.1.2.2.2.2.2.1) ∧ E ((oT x x_1 x_2 x_3 x_4).2.2.2.2.1.1.2.2.2.2.2.2.1) ∧ E ((oT x x_1 x_2 x_3
  x_4).2.2.2.2.1.1.2.2.2.2.2.2.2.1) ∧ E ((oT x x_1 x_2 x_3 x_4).2.2.2.2.1.1.2.2.2.2.2.2.2.2.1) ∧ E ((oT x x_1 x_2 x_3 x_4).2.2.2.2.1.2.1) ∧ E ((oT x x_1 x_2 x_3 x_4).2.2.2.2.1.2.2.1) ∧ E ((oT x x_1 x_2 x_3
  x_4).2.2.2.2.1.2.2.2.1) ∧ E ((oT x x_1 x_2 x_3 x_4).2.2.2.2.1.2.2.2.2.1.1) ∧ E ((oT x x_1 x_2 x_3 x_4).2.2.2.2.1.2.2.2.2.1.2.1) ∧ E ((oT x x_1 x_2 x_3 x_4).2.2.2.2.1.2.2.2.2.1.2.2.1) ∧ E ((oT x x_1 x_2 x_3
  x_4).2.2.2.2.1.2.2.2.2.2.1) ∧ E ((oT x x_1 x_2 x_3 x_4).2.2.2.2.1.2.2.2.2.2.2.1) ∧ E x_1.2.2.2.1.1 ∧ E x_1.2.2.2.1.2.1 ∧ E x_1.2.2.2.1.2.2.1 ∧ E x_1.2.2.2.1.2.2.2.1 ∧ E x_1.2.2.2.1.2.2.2.2.1.1.1 ∧ E
  x_1.2.2.2.1.2.2.2.2.1.1.2.1 ∧ E x_1.2.2.2.1.2.2.2.2.1.1.2.2.1 ∧ E x_1.2.2.2.1.2.2.2.2.1.1.2.2.2.1 ∧ E x_1.2.2.2.1.2.2.2.2.1.1.2.2.2.2.1 ∧ E x_1.2.2.2.1.2.2.2.2.1.1.2.2.2.2.2.1 ∧ E x_1.2.2.2.1.2.2.2.2.1.1.2.2.2.2.2.2.1 ∧
  E x_1.2.2.2.1.2.2.2.2.1.1.2.2.2.2.2.2.2.1 ∧ E x_1.2.2.2.1.2.2.2.2.1.1.2.2.2.2.2.2.2.2.1 ∧ E x_1.2.2.2.1.2.2.2.2.1.2.1 ∧ E x_1.2.2.2.1.2.2.2.2.1.2.2.1 ∧ E x_1.2.2.2.1.2.2.2.2.1.2.2.2.1 ∧ E
  x_1.2.2.2.1.2.2.2.2.1.2.2.2.2.1.1 ∧ E x_1.2.2.2.1.2.2.2.2.1.2.2.2.2.1.2.1 ∧ E x_1.2.2.2.1.2.2.2.2.1.2.2.2.2.1.2.2.1 ∧ E x_1.2.2.2.1.2.2.2.2.1.2.2.2.2.2.1 ∧ E x_1.2.2.2.1.2.2.2.2.1.2.2.2.2.2.2.1 ∧ E x_4.2.1.1 ∧ E
  x_4.2.1.2.1 ∧ E x_4.2.1.2.2.1 ∧ E x_4.2.1.2.2.2.1 ∧ E x_4.2.1.2.2.2.2.1 ∧ E x_4.2.1.2.2.2.2.2.1)) (bcase (decide ((List.getD (dT x x_1 x_2 x_3 x_4) (Int.toNat x_5.1) (Ty.zero DeedT)).1 = (1 : Int))) (Wr
  ((!(!x_5.2.2.2.2.2.2.1 || x_5.2.2.2.2.2.2.2.1)) = true → (0 : Int) ≤ x_5.1) ∧ Wr ((!(!x_5.2.2.2.2.2.2.1 || x_5.2.2.2.2.2.2.2.1)) = true → x_5.1 < (↑(List.length (dT x x_1 x_2 x_3 x_4)) : Int)) ∧ Wr
  ((!(!x_5.2.2.2.2.2.2.1 || x_5.2.2.2.2.2.2.2.1)) = true → true = true) ∧ Wr ((!(!x_5.2.2.2.2.2.2.1 || x_5.2.2.2.2.2.2.2.1)) = true → true = true) ∧ Wr ((!(!x_5.2.2.2.2.2.2.1 || x_5.2.2.2.2.2.2.2.1)) = true → true = true)
  ∧ bcase (!x_5.2.2.2.2.2.2.1 || x_5.2.2.2.2.2.2.2.1 || !decide ((List.getD (dT x x_1 x_2 x_3 x_4) (Int.toNat x_5.1) (Ty.zero DeedT)).2.1 = dOf (setDead x_1.2.2.2.2 x_2).2.2.2.2.1 (1 : Int))) ((false, ()) = (true, ()))
  (Wr (SeI (setDead x_1.2.2.2.2 x_2).2.2.2.2.1 (dT x x_1 x_2 x_3 x_4) (tS x_1 x_2 x_3 x_4) (IntKind.wrap IntKind.i64 (x_5.1 + (1 : Int)), x_5.2.1, x_5.2.2.1, x_5.2.2.2.1, x_5.2.2.2.2.1, x_5.2.2.2.2.2.1, x_5.2.2.2.2.2.2.1,
  true, x_5.2.2.2.2.2.2.2.2)) ∧ Wr (List.length (dT x x_1 x_2 x_3 x_4) - Int.toNat (IntKind.wrap IntKind.i64 (x_5.1 + (1 : Int))) < List.length (dT x x_1 x_2 x_3 x_4) - Int.toNat x_5.1) ∧ E (IntKind.wrap IntKind.i64
  (x_5.1 + (1 : Int))) ∧ E (dT x x_1 x_2 x_3 x_4) ∧ E ((setDead x_1.2.2.2.2 x_2).2.2.2.2.1) ∧ E x_5.2.2.2.2.2.1 ∧ E x_5.2.2.2.2.2.2.1 ∧ E true ∧ E x_5.2.2.2.2.2.2.2.2.1 ∧ E x_5.2.2.2.2.2.2.2.2.2.1 ∧ E
  x_5.2.2.2.2.2.2.2.2.2.2 ∧ E x_5.2.1 ∧ Wr (x_5.2.2.1.1 ≤ x_5.2.2.1.1) ∧ E x_5.2.2.1.2 ∧ E x_5.2.2.2.1 ∧ Wr (x_5.2.2.2.2.1.1 ≤ x_5.2.2.2.2.1.1) ∧ E x_5.2.2.2.2.1.2 ∧ E ((oT x x_1 x_2 x_3 x_4).1) ∧ E ((oT x x_1 x_2 x_3
  x_4).2.1) ∧ E ((oT x x_1 x_2 x_3 x_4).2.2.1) ∧ E ((oT x x_1 x_2 x_3 x_4).2.2.2.1) ∧ E ((oT x x_1 x_2 x_3 x_4).2.2.2.2.1.1.1) ∧ E ((oT x x_1 x_2 x_3 x_4).2.2.2.2.1.1.2.1) ∧ E ((oT x x_1 x_2 x_3 x_4).2.2.2.2.1.1.2.2.1) ∧
  E ((oT x x_1 x_2 x_3 x_4).2.2.2.2.1.1.2.2.2.1) ∧ E ((oT x x_1 x_2 x_3 x_4).2.2.2.2.1.1.2.2.2.2.1) ∧ E ((oT x x_1 x_2 x_3 x_4).2.2.2.2.1.1.2.2.2.2.2.1) ∧ E ((oT x x_1 x_2 x_3 x_4).2.2.2.2.1.1.2.2.2.2.2.2.1) ∧ E ((oT x
  x_1 x_2 x_3 x_4).2.2.2.2.1.1.2.2.2.2.2.2.2.1) ∧ E ((oT x x_1 x_2 x_3 x_4).2.2.2.2.1.1.2.2.2.2.2.2.2.2.1) ∧ E ((oT x x_1 x_2 x_3 x_4).2.2.2.2.1.2.1) ∧ E ((oT x x_1 x_2 x_3 x_4).2.2.2.2.1.2.2.1) ∧ E ((oT x x_1 x_2 x_3
  x_4).2.2.2.2.1.2.2.2.1) ∧ E ((oT x x_1 x_2 x_3 x_4).2.2.2.2.1.2.2.2.2.1.1) ∧ E ((oT x x_1 x_2 x_3 x_4).2.2.2.2.1.2.2.2.2.1.2.1) ∧ E ((oT x x_1 x_2 x_3 x_4).2.2.2.2.1.2.2.2.2.1.2.2.1) ∧ E ((oT x x_1 x_2 x_3
  x_4).2.2.2.2.1.2.2.2.2.2.1) ∧ E ((oT x x_1 x_2 x_3 x_4).2.2.2.2.1.2.2.2.2.2.2.1) ∧ E ((oT x x_1 x_2 x_3 x_4).1) ∧ E ((oT x x_1 x_2 x_3 x_4).2.1) ∧ E ((oT x x_1 x_2 x_3 x_4).2.2.1) ∧ E ((oT x x_1 x_2 x_3 x_4).2.2.2.1) ∧
  E ((oT x x_1 x_2 x_3 x_4).2.2.2.2.1.1.1) ∧ E ((oT x x_1 x_2 x_3 x_4).2.2.2.2.1.1.2.1) ∧ E ((oT x x_1 x_2 x_3 x_4).2.2.2.2.1.1.2.2.1) ∧ E ((oT x x_1 x_2 x_3 x_4).2.2.2.2.1.1.2.2.2.1) ∧ E ((oT x x_1 x_2 x_3
  x_4).2.2.2.2.1.1.2.2.2.2.1) ∧ E ((oT x x_1 x_2 x_3 x_4).2.2.2.2.1.1.2.2.2.2.2.1) ∧ E ((oT x x_1 x_2 x_3 x_4).2.2.2.2.1.1.2.2.2.2.2.2.1) ∧ E ((oT x x_1 x_2 x_3 x_4).2.2.2.2.1.1.2.2.2.2.2.2.2.1) ∧ E ((oT x x_1 x_2 x_3
  x_4).2.2.2.2.1.1.2.2.2.2.2.2.2.2.1) ∧ E ((oT x x_1 x_2 x_3 x_4).2.2.2.2.1.2.1) ∧ E ((oT x x_1 x_2 x_3 x_4).2.2.2.2.1.2.2.1) ∧ E ((oT x x_1 x_2 x_3 x_4).2.2.2.2.1.2.2.2.1) ∧ E ((oT x x_1 x_2 x_3
  x_4).2.2.2.2.1.2.2.2.2.1.1) ∧ E ((oT x x_1 x_2 x_3 x_4).2.2.2.2.1.2.2.2.2.1.2.1) ∧ E ((oT x x_1 x_2 x_3 x_4).2.2.2.2.1.2.2.2.2.1.2.2.1) ∧ E ((oT x x_1 x_2 x_3 x_4).2.2.2.2.1.2.2.2.2.2.1) ∧ E ((oT x x_1 x_2 x_3
  x_4).2.2.2.2.1.2.2.2.2.2.2.1) ∧ E x_1.2.2.2.1.1 ∧ E x_1.2.2.2.1.2.1 ∧ E x_1.2.2.2.1.2.2.1 ∧ E x_1.2.2.2.1.2.2.2.1 ∧ E x_1.2.2.2.1.2.2.2.2.1.1.1 ∧ E x_1.2.2.2.1.2.2.2.2.1.1.2.1 ∧ E x_1.2.2.2.1.2.2.2.2.1.1.2.2.1 ∧ E
  x_1.2.2.2.1.2.2.2.2.1.1.2.2.2.1 ∧ E x_1.2.2.2.1.2.2.2.2.1.1.2.2.2.2.1 ∧ E x_1.2.2.2.1.2.2.2.2.1.1.2.2.2.2.2.1 ∧ E x_1.2.2.2.1.2.2.2.2.1.1.2.2.2.2.2.2.1 ∧ E x_1.2.2.2.1.2.2.2.2.1.1.2.2.2.2.2.2.2.1 ∧ E
  x_1.2.2.2.1.2.2.2.2.1.1.2.2.2.2.2.2.2.2.1 ∧ E x_1.2.2.2.1.2.2.2.2.1.2.1 ∧ E x_1.2.2.2.1.2.2.2.2.1.2.2.1 ∧ E x_1.2.2.2.1.2.2.2.2.1.2.2.2.1 ∧ E x_1.2.2.2.1.2.2.2.2.1.2.2.2.2.1.1 ∧ E x_1.2.2.2.1.2.2.2.2.1.2.2.2.2.1.2.1 ∧ E
  x_1.2.2.2.1.2.2.2.2.1.2.2.2.2.1.2.2.1 ∧ E x_1.2.2.2.1.2.2.2.2.1.2.2.2.2.2.1 ∧ E x_1.2.2.2.1.2.2.2.2.1.2.2.2.2.2.2.1 ∧ E x_4.2.1.1 ∧ E x_4.2.1.2.1 ∧ E x_4.2.1.2.2.1 ∧ E x_4.2.1.2.2.2.1 ∧ E x_4.2.1.2.2.2.2.1 ∧ E
  x_4.2.1.2.2.2.2.2.1)) (Wr (SeI (setDead x_1.2.2.2.2 x_2).2.2.2.2.1 (dT x x_1 x_2 x_3 x_4) (tS x_1 x_2 x_3 x_4) (IntKind.wrap IntKind.i64 (x_5.1 + (1 : Int)), x_5.2)) ∧ Wr (List.length (dT x x_1 x_2 x_3 x_4) - Int.toNat
  (IntKind.wrap IntKind.i64 (x_5.1 + (1 : Int))) < List.length (dT x x_1 x_2 x_3 x_4) - Int.toNat x_5.1) ∧ E (IntKind.wrap IntKind.i64 (x_5.1 + (1 : Int))) ∧ E (dT x x_1 x_2 x_3 x_4) ∧ E ((setDead x_1.2.2.2.2
  x_2).2.2.2.2.1) ∧ E x_5.2.2.2.2.2.1 ∧ E x_5.2.2.2.2.2.2.1 ∧ E x_5.2.2.2.2.2.2.2.1 ∧ E x_5.2.2.2.2.2.2.2.2.1 ∧ E x_5.2.2.2.2.2.2.2.2.2.1 ∧ E x_5.2.2.2.2.2.2.2.2.2.2 ∧ E x_5.2.1 ∧ Wr (x_5.2.2.1.1 ≤ x_5.2.2.1.1) ∧ E
  x_5.2.2.1.2 ∧ E x_5.2.2.2.1 ∧ Wr (x_5.2.2.2.2.1.1 ≤ x_5.2.2.2.2.1.1) ∧ E x_5.2.2.2.2.1.2 ∧ E ((oT x x_1 x_2 x_3 x_4).1) ∧ E ((oT x x_1 x_2 x_3 x_4).2.1) ∧ E ((oT x x_1 x_2 x_3 x_4).2.2.1) ∧ E ((oT x x_1 x_2 x_3
  x_4).2.2.2.1) ∧ E ((oT x x_1 x_2 x_3 x_4).2.2.2.2.1.1.1) ∧ E ((oT x x_1 x_2 x_3 x_4).2.2.2.2.1.1.2.1) ∧ E ((oT x x_1 x_2 x_3 x_4).2.2.2.2.1.1.2.2.1) ∧ E ((oT x x_1 x_2 x_3 x_4).2.2.2.2.1.1.2.2.2.1) ∧ E ((oT x x_1 x_2
  x_3 x_4).2.2.2.2.1.1.2.2.2.2.1) ∧ E ((oT x x_1 x_2 x_3 x_4).2.2.2.2.1.1.2.2.2.2.2.1) ∧ E ((oT x x_1 x_2 x_3 x_4).2.2.2.2.1.1.2.2.2.2.2.2.1) ∧ E ((oT x x_1 x_2 x_3 x_4).2.2.2.2.1.1.2.2.2.2.2.2.2.1) ∧ E ((oT x x_1 x_2 x_3
  x_4).2.2.2.2.1.1.2.2.2.2.2.2.2.2.1) ∧ E ((oT x x_1 x_2 x_3 x_4).2.2.2.2.1.2.1) ∧ E ((oT x x_1 x_2 x_3 x_4).2.2.2.2.1.2.2.1) ∧ E ((oT x x_1 x_2 x_3 x_4).2.2.2.2.1.2.2.2.1) ∧ E ((oT x x_1 x_2 x_3
  x_4).2.2.2.2.1.2.2.2.2.1.1) ∧ E ((oT x x_1 x_2 x_3 x_4).2.2.2.2.1.2.2.2.2.1.2.1) ∧ E ((oT x x_1 x_2 x_3 x_4).2.2.2.2.1.2.2.2.2.1.2.2.1) ∧ E ((oT x x_1 x_2 x_3 x_4).2.2.2.2.1.2.2.2.2.2.1) ∧ E ((oT x x_1 x_2 x_3
  x_4).2.2.2.2.1.2.2.2.2.2.2.1) ∧ E ((oT x x_1 x_2 x_3 x_4).1) ∧ E ((oT x x_1 x_2 x_3 x_4).2.1) ∧ E ((oT x x_1 x_2 x_3 x_4).2.2.1) ∧ E ((oT x x_1 x_2 x_3 x_4).2.2.2.1) ∧ E ((oT x x_1 x_2 x_3 x_4).2.2.2.2.1.1.1) ∧ E ((oT x
  x_1 x_2 x_3 x_4).2.2.2.2.1.1.2.1) ∧ E ((oT x x_1 x_2 x_3 x_4).2.2.2.2.1.1.2.2.1) ∧ E ((oT x x_1 x_2 x_3 x_4).2.2.2.2.1.1.2.2.2.1) ∧ E ((oT x x_1 x_2 x_3 x_4).2.2.2.2.1.1.2.2.2.2.1) ∧ E ((oT x x_1 x_2 x_3
  x_4).2.2.2.2.1.1.2.2.2.2.2.1) ∧ E ((oT x x_1 x_2 x_3 x_4).2.2.2.2.1.1.2.2.2.2.2.2.1) ∧ E ((oT x x_1 x_2 x_3 x_4).2.2.2.2.1.1.2.2.2.2.2.2.2.1) ∧ E ((oT x x_1 x_2 x_3 x_4).2.2.2.2.1.1.2.2.2.2.2.2.2.2.1) ∧ E ((oT x x_1 x_2
  x_3 x_4).2.2.2.2.1.2.1) ∧ E ((oT x x_1 x_2 x_3 x_4).2.2.2.2.1.2.2.1) ∧ E ((oT x x_1 x_2 x_3 x_4).2.2.2.2.1.2.2.2.1) ∧ E ((oT x x_1 x_2 x_3 x_4).2.2.2.2.1.2.2.2.2.1.1) ∧ E ((oT x x_1 x_2 x_3 x_4).2.2.2.2.1.2.2.2.2.1.2.1)
  ∧ E ((oT x x_1 x_2 x_3 x_4).2.2.2.2.1.2.2.2.2.1.2.2.1) ∧ E ((oT x x_1 x_2 x_3 x_4).2.2.2.2.1.2.2.2.2.2.1) ∧ E ((oT x x_1 x_2 x_3 x_4).2.2.2.2.1.2.2.2.2.2.2.1) ∧ E x_1.2.2.2.1.1 ∧ E x_1.2.2.2.1.2.1 ∧ E x_1.2.2.2.1.2.2.1
  ∧ E x_1.2.2.2.1.2.2.2.1 ∧ E x_1.2.2.2.1.2.2.2.2.1.1.1 ∧ E x_1.2.2.2.1.2.2.2.2.1.1.2.1 ∧ E x_1.2.2.2.1.2.2.2.2.1.1.2.2.1 ∧ E x_1.2.2.2.1.2.2.2.2.1.1.2.2.2.1 ∧ E x_1.2.2.2.1.2.2.2.2.1.1.2.2.2.2.1 ∧ E
  x_1.2.2.2.1.2.2.2.2.1.1.2.2.2.2.2.1 ∧ E x_1.2.2.2.1.2.2.2.2.1.1.2.2.2.2.2.2.1 ∧ E x_1.2.2.2.1.2.2.2.2.1.1.2.2.2.2.2.2.2.1 ∧ E x_1.2.2.2.1.2.2.2.2.1.1.2.2.2.2.2.2.2.2.1 ∧ E x_1.2.2.2.1.2.2.2.2.1.2.1 ∧ E
  x_1.2.2.2.1.2.2.2.2.1.2.2.1 ∧ E x_1.2.2.2.1.2.2.2.2.1.2.2.2.1 ∧ E x_1.2.2.2.1.2.2.2.2.1.2.2.2.2.1.1 ∧ E x_1.2.2.2.1.2.2.2.2.1.2.2.2.2.1.2.1 ∧ E x_1.2.2.2.1.2.2.2.2.1.2.2.2.2.1.2.2.1 ∧ E x_1.2.2.2.1.2.2.2.2.1.2.2.2.2.2.1
  ∧ E x_1.2.2.2.1.2.2.2.2.1.2.2.2.2.2.2.1 ∧ E x_4.2.1.1 ∧ E x_4.2.1.2.1 ∧ E x_4.2.1.2.2.1 ∧ E x_4.2.1.2.2.2.1 ∧ E x_4.2.1.2.2.2.2.1 ∧ E x_4.2.1.2.2.2.2.2.1))))) (bcase ((decide (x_4.2.1.1 = (2 : Int)) || decide (x_4.2.1.1
  = (4 : Int))) && !decide (Option.getD (x_5.2.2.1.2 x_4.2.1.2.1) (0 : Int) = IntKind.wrap IntKind.i64 (Option.getD (x_1.2.2.2.2.2.1.2 x_4.2.1.2.1) (0 : Int) + (1 : Int)))) ((false, ()) = (true, ())) (Wr (PyI x.1 x.2.1
  (IntKind.wrap IntKind.i64 (x_1.1 + (1 : Int)), IntKind.wrap IntKind.i64 (x_1.2.1 + (sP x x_1).2.2.1), x_1.2.2.1 || decide (x_4.2.1.1 = (4 : Int)), oT x x_1 x_2 x_3 x_4, x_5.2)) ∧ Wr (List.length x.2.1 - Int.toNat
  (IntKind.wrap IntKind.i64 (x_1.1 + (1 : Int))) < List.length x.2.1 - Int.toNat x_1.1) ∧ E (IntKind.wrap IntKind.i64 (x_1.1 + (1 : Int))) ∧ E (IntKind.wrap IntKind.i64 (x_1.2.1 + (sP x x_1).2.2.1)) ∧ E ((x_1.2.2.1 ||
  decide (x_4.2.1.1 = (4 : Int)))) ∧ E x.2.1 ∧ E ((oT x x_1 x_2 x_3 x_4).1) ∧ E ((oT x x_1 x_2 x_3 x_4).2.1) ∧ E ((oT x x_1 x_2 x_3 x_4).2.2.1) ∧ E ((oT x x_1 x_2 x_3 x_4).2.2.2.1) ∧ E ((oT x x_1 x_2 x_3
  x_4).2.2.2.2.1.1.1) ∧ E ((oT x x_1 x_2 x_3 x_4).2.2.2.2.1.1.2.1) ∧ E ((oT x x_1 x_2 x_3 x_4).2.2.2.2.1.1.2.2.1) ∧ E ((oT x x_1 x_2 x_3 x_4).2.2.2.2.1.1.2.2.2.1) ∧ E ((oT x x_1 x_2 x_3 x_4).2.2.2.2.1.1.2.2.2.2.1) ∧ E
  ((oT x x_1 x_2 x_3 x_4).2.2.2.2.1.1.2.2.2.2.2.1) ∧ E ((oT x x_1 x_2 x_3 x_4).2.2.2.2.1.1.2.2.2.2.2.2.1) ∧ E ((oT x x_1 x_2 x_3 x_4).2.2.2.2.1.1.2.2.2.2.2.2.2.1) ∧ E ((oT x x_1 x_2 x_3 x_4).2.2.2.2.1.1.2.2.2.2.2.2.2.2.1)
  ∧ E ((oT x x_1 x_2 x_3 x_4).2.2.2.2.1.2.1) ∧ E ((oT x x_1 x_2 x_3 x_4).2.2.2.2.1.2.2.1) ∧ E ((oT x x_1 x_2 x_3 x_4).2.2.2.2.1.2.2.2.1) ∧ E ((oT x x_1 x_2 x_3 x_4).2.2.2.2.1.2.2.2.2.1.1) ∧ E ((oT x x_1 x_2 x_3
  x_4).2.2.2.2.1.2.2.2.2.1.2.1) ∧ E ((oT x x_1 x_2 x_3 x_4).2.2.2.2.1.2.2.2.2.1.2.2.1) ∧ E ((oT x x_1 x_2 x_3 x_4).2.2.2.2.1.2.2.2.2.2.1) ∧ E ((oT x x_1 x_2 x_3 x_4).2.2.2.2.1.2.2.2.2.2.2.1) ∧ E x_5.2.2.2.2.2.1 ∧ E
  x_5.2.2.2.2.2.2.1 ∧ E x_5.2.2.2.2.2.2.2.1 ∧ E x_5.2.2.2.2.2.2.2.2.1 ∧ E x_5.2.2.2.2.2.2.2.2.2.1 ∧ E x_5.2.2.2.2.2.2.2.2.2.2 ∧ E x_5.2.1 ∧ Wr (x_5.2.2.1.1 ≤ x_5.2.2.1.1) ∧ E x_5.2.2.1.2 ∧ E x_5.2.2.2.1 ∧ Wr
  (x_5.2.2.2.2.1.1 ≤ x_5.2.2.2.2.1.1) ∧ E x_5.2.2.2.2.1.2)))))) (Wr (EnO (x_1.2.2.1, x_1.2.2.2.2)) ∧ E x_1.2.2.1 ∧ E x_1.2.2.2.2.2.2.2.2.1 ∧ E x_1.2.2.2.2.2.2.2.2.2.1 ∧ E x_1.2.2.2.2.2.2.2.2.2.2.1 ∧ E
  x_1.2.2.2.2.2.2.2.2.2.2.2.1 ∧ E x_1.2.2.2.2.2.2.2.2.2.2.2.2.1 ∧ E x_1.2.2.2.2.2.2.2.2.2.2.2.2.2 ∧ E x_1.2.2.2.2.1 ∧ Wr (x_1.2.2.2.2.2.1.1 ≤ x_1.2.2.2.2.2.1.1) ∧ E x_1.2.2.2.2.2.1.2 ∧ E x_1.2.2.2.2.2.2.1 ∧ Wr
  (x_1.2.2.2.2.2.2.2.1.1 ≤ x_1.2.2.2.2.2.2.2.1.1) ∧ E x_1.2.2.2.2.2.2.2.1.2)) ∧ ∀ (x_1 : Bool × List Int × (Nat × (Int → Option Int)) × List Int × (Nat × (Int → Option Bool)) × Int × Bool × Bool × Int × Int × List Int),
  Wr (EnO x_1) → (Wr (FiI x_1.1 x_1.2 (0 : Int)) ∧ E ((0 : Int)) ∧ E x_1.1 ∧ E x_1.2.2.2.2.2.1 ∧ E x_1.2.2.2.2.2.2.1 ∧ E x_1.2.2.2.2.2.2.2.1 ∧ E x_1.2.2.2.2.2.2.2.2.1 ∧ E x_1.2.2.2.2.2.2.2.2.2.1 ∧ E
  x_1.2.2.2.2.2.2.2.2.2.2 ∧ E x_1.2.1 ∧ Wr (x_1.2.2.1.1 ≤ x_1.2.2.1.1) ∧ E x_1.2.2.1.2 ∧ E x_1.2.2.2.1 ∧ Wr (x_1.2.2.2.2.1.1 ≤ x_1.2.2.2.2.1.1) ∧ E x_1.2.2.2.2.1.2) ∧ ∀ (x_2 : Int), Wr (FiI x_1.1 x_1.2 x_2) → bcase
  (decide (x_2 < (↑(List.length x_1.2.1) : Int))) (Wr ((0 : Int) ≤ x_2) ∧ Wr (x_2 < (↑(List.length x_1.2.1) : Int)) ∧ Wr ((!decide (Option.getD (x_1.2.2.1.2 (List.getD x_1.2.1 (Int.toNat x_2) (0 : Int))) (0 : Int) > (1 :
  Int)) && x_1.1) = true → (0 : Int) ≤ x_2) ∧ Wr ((!decide (Option.getD (x_1.2.2.1.2 (List.getD x_1.2.1 (Int.toNat x_2) (0 : Int))) (0 : Int) > (1 : Int)) && x_1.1) = true → x_2 < (↑(List.length x_1.2.1) : Int)) ∧ bcase
  (decide (Option.getD (x_1.2.2.1.2 (List.getD x_1.2.1 (Int.toNat x_2) (0 : Int))) (0 : Int) > (1 : Int)) || x_1.1 && !decide (Option.getD (x_1.2.2.1.2 (List.getD x_1.2.1 (Int.toNat x_2) (0 : Int))) (0 : Int) = (1 :
  Int))) ((false, ()) = (true, ())) (Wr (FiI x_1.1 x_1.2 (IntKind.wrap IntKind.i64 (x_2 + (1 : Int)))) ∧ Wr (List.length x_1.2.1 - Int.toNat (IntKind.wrap IntKind.i64 (x_2 + (1 : Int))) < List.length x_1.2.1 - Int.toNat
  x_2) ∧ E (IntKind.wrap IntKind.i64 (x_2 + (1 : Int))) ∧ E x_1.1 ∧ E x_1.2.2.2.2.2.1 ∧ E x_1.2.2.2.2.2.2.1 ∧ E x_1.2.2.2.2.2.2.2.1 ∧ E x_1.2.2.2.2.2.2.2.2.1 ∧ E x_1.2.2.2.2.2.2.2.2.2.1 ∧ E x_1.2.2.2.2.2.2.2.2.2.2 ∧ E
  x_1.2.1 ∧ Wr (x_1.2.2.1.1 ≤ x_1.2.2.1.1) ∧ E x_1.2.2.1.2 ∧ E x_1.2.2.2.1 ∧ Wr (x_1.2.2.2.2.1.1 ≤ x_1.2.2.2.2.1.1) ∧ E x_1.2.2.2.2.1.2)) (Wr True ∧ (true, ()) = (true, ())))) := by kernel_rfl
end Go.Proofs.YtdkcgcgefgeooaaGreatDoor.Ow
set_option linter.all false
namespace Go.Proofs.YtdkcgcgefgeooaaGreatDoor.Ow
open Go Go.Eng Go.RowKit
set_option maxRecDepth 100000
set_option maxHeartbeats 16000000
theorem v24 : Vc g24 300 Tryz.f24 cWhose := by
  constructor
  rw [v24_eq]
  simp only [Wr_iff, E_iff, bcase_iff, true_and, and_true, decide_eq_true_eq, decide_eq_false_iff_not, Bool.and_eq_true, Bool.and_eq_false_iff, Bool.or_eq_true, Bool.or_eq_false_iff, Bool.not_eq_true', Bool.not_eq_false', Option.map_some, Option.getD_some, Option.isSome_some, Option.isSome_map, imp_self, nilL, noneO]
  rintro ⟨n, ⟨⟩⟩ -
  dsimp only
  refine ⟨fun h => ?_, fun h => ⟨by decide, by decide, ?_⟩⟩
  · unfold whoP whoW; rw [decide_eq_true h]; rfl
  · unfold whoP whoW; rw [decide_eq_false h]; rfl
theorem v3 : Vc g3 500 Tryz.f3 cOnceL.T := by
  constructor
  rw [v3_eq]
  simp only [Wr_iff, E_iff, bcase_iff, true_and, and_true, decide_eq_true_eq, decide_eq_false_iff_not, Bool.and_eq_true, Bool.and_eq_false_iff, Bool.or_eq_true, Bool.or_eq_false_iff, Bool.not_eq_true', Bool.not_eq_false', Option.map_some, Option.getD_some, Option.isSome_some, Option.isSome_map, imp_self, nilL, noneO]
  rintro ⟨c, l, ⟨⟩⟩ ht
  dsimp only
  refine ⟨fun _ => trivial, fun hc => ⟨⟨?_, ?_⟩, ?_⟩⟩
  · exact ⟨PyI.zero (by omega), Nat.le_refl _, Nat.le_refl _⟩
  · rintro ⟨i, now, cl, o, t⟩ hP
    generalize hsx : sP (c, l, PUnit.unit) (i, now, cl, o, t) = sx
    have hl : l.length ≤ 100 := by omega
    have hi0 : 0 ≤ i := hP.i0
    have hi1 : i ≤ l.length := hP.i1
    have hi100 : i ≤ 100 := by omega
    obtain ⟨id, le, wa, fl, tol, shu, hB⟩ := hP.bk
    have hN := hP.nu
    have hE : EnO (cl, t) := bk_end hB hN hi100
    have hdn : (t.2.2.2.2.2.2.2.2.2.length : Int) ≤ i := hN.dl
    have hcn : (t.1.length : Int) ≤ i := hN.cl
    have hov := bk_over hB
    dsimp only at hB hN hov ⊢
    refine ⟨fun hi => ⟨hi0, hi, fun _ => hi0, fun _ => hi, fun _ => trivial, fun _ => trivial, fun _ => trivial, fun hby => ⟨hi0, hi, ⟨hi0, hi, fun _ => hi0, fun _ => hi, fun _ => trivial, fun _ => trivial, fun _ => hi0, fun _ => hi, fun _ => trivial, fun _ => trivial, fun hd => ?_, fun hd => ?_⟩, fun d hd => ?_⟩⟩, fun _ => ⟨hE, Nat.le_refl _, Nat.le_refl _⟩⟩
    · have e : deadF t.2.2.2.2.2.2.2.2.2 t.2.2.2.2.2.2.2.2.1 sx = t.2.2.2.2.2.2.2.2.2 ++ [sx.2.1] := by
        unfold deadF; rw [hd.1.1, decide_eq_true hd.1.2, decide_eq_true hd.2]; rfl
      refine ⟨?_, hi0, hi, ?_, e.symm, rfl, rfl, rfl, rfl, rfl, rfl, rfl, Nat.le_refl _, rfl, rfl, Nat.le_refl _, rfl⟩
      · simp only [List.length_nil]; omega
      · simp only [List.length_append, List.length_nil, List.length_cons]; omega
    · have e : deadF t.2.2.2.2.2.2.2.2.2 t.2.2.2.2.2.2.2.2.1 sx = t.2.2.2.2.2.2.2.2.2 := by
        unfold deadF
        rcases hd with (hd | hd) | hd
        · rw [hd]; rfl
        · rw [decide_eq_false (show ¬ 0 ≤ sx.2.1 from hd), Bool.and_false]; rfl
        · rw [decide_eq_false hd, Bool.and_false]; rfl
      exact ⟨e.symm, rfl, rfl, rfl, rfl, rfl, rfl, rfl, Nat.le_refl _, rfl, rfl, Nat.le_refl _, rfl⟩
    · have hdl : d.length ≤ t.2.2.2.2.2.2.2.2.2.length + 1 := by rw [hd]; exact dead_len _ _ _
      have hov2 : (cl && !(setDead t d).2.2.2.2.2.1) = overO o := hov
      rw [over_len, hov2, all_one]
      simp only [beq_self_eq_true]
      refine ⟨bk_sz hB hN hi100, fun _ => trivial, fun h => ?_, fun _ => ⟨fun h0 => ⟨⟨hE.l, hE.a⟩, Nat.le_refl _, Nat.le_refl _⟩, fun h0 => ⟨⟨hi0, hi, ?_⟩, fun m hm => ?_⟩⟩⟩
      · rcases h with h | h <;> exact absurd h (by decide)
      · refine ⟨fun h => ?_, fun h => ⟨fun h1 => ⟨fun hb => ?_, fun hb => ?_⟩, fun h1 => ⟨fun h2 => ⟨fun hb => ?_, fun hb => ?_⟩, fun h2 => ⟨fun h3 => ?_, fun h3 => ?_⟩⟩⟩⟩
        · refine ⟨?_, ?_, ?_, rfl, rfl, rfl, rfl, rfl, rfl, rfl, Nat.le_refl _, rfl, rfl, Nat.le_refl _, rfl⟩
          · show (([] : List Int).length + t.1.length) * 8 ≤ _
            simp only [List.length_nil]; omega
          · show ((([] : List Int) ++ t.1).length + [_].length) * 8 ≤ _
            simp only [List.length_append, List.length_nil, List.length_cons]; omega
          · unfold letF; rw [decide_eq_true h]; rfl
        · refine ⟨?_, rfl, rfl, rfl, rfl, rfl, rfl, rfl, Nat.le_refl _, rfl, rfl, Nat.le_refl _, rfl⟩
          unfold letF; rw [decide_eq_false h, decide_eq_true h1, show (decide (sx.2.1 < 0) || decide (((setDead t d).2.2.1.length : Int) ≤ sx.2.1)) = true by simp only [Bool.or_eq_true, decide_eq_true_eq]; exact hb]; rfl
        · refine ⟨by omega, by omega, ?_, rfl, rfl, rfl, rfl, rfl, rfl, rfl, Nat.le_refl _, rfl, rfl, Nat.le_refl _, rfl⟩
          unfold letF; rw [decide_eq_false h, decide_eq_true h1, show (decide (sx.2.1 < 0) || decide (((setDead t d).2.2.1.length : Int) ≤ sx.2.1)) = false by simp only [Bool.or_eq_false_iff, decide_eq_false_iff_not]; exact hb]; rfl
        · refine ⟨?_, rfl, rfl, rfl, rfl, rfl, rfl, rfl, Nat.le_refl _, rfl, rfl, Nat.le_refl _, rfl⟩
          unfold letF; rw [decide_eq_false h, decide_eq_false h1, decide_eq_true h2, show (decide (sx.2.1 < 0) || decide (((setDead t d).1.length : Int) ≤ sx.2.1)) = true by simp only [Bool.or_eq_true, decide_eq_true_eq]; exact hb]; rfl
        · refine ⟨by omega, by omega, ?_, rfl, rfl, rfl, rfl, rfl, rfl, rfl, Nat.le_refl _, rfl, rfl, Nat.le_refl _, rfl⟩
          unfold letF; rw [decide_eq_false h, decide_eq_false h1, decide_eq_true h2, show (decide (sx.2.1 < 0) || decide (((setDead t d).1.length : Int) ≤ sx.2.1)) = false by simp only [Bool.or_eq_false_iff, decide_eq_false_iff_not]; exact hb]; rfl
        · refine ⟨?_, rfl, rfl, rfl, rfl, rfl, rfl, rfl, Nat.le_refl _, rfl, rfl, Nat.le_refl _, rfl⟩
          unfold letF; rw [decide_eq_false h, decide_eq_false h1, decide_eq_false h2, decide_eq_true h3]; rfl
        · refine ⟨?_, rfl, rfl, rfl, rfl, rfl, rfl, rfl, Nat.le_refl _, rfl, rfl, Nat.le_refl _, rfl⟩
          unfold letF; rw [decide_eq_false h, decide_eq_false h1, decide_eq_false h2, decide_eq_false h3]; rfl
      · have hof : overO o = false := over_cases.2 h0
        have hcl := cases_len o
        have hel : (offL (casesL o)).length = (casesL o).length := by unfold offL; rw [List.length_map]
        have hwr : IntKind.wrap .i64 (((offL (casesL o)).length : Int) - 1) = ((offL (casesL o)).length : Int) - 1 := wrap_id (by omega) (by omega)
        refine ⟨⟨hi0, hi, fun hr => ?_, fun hr => ⟨hi0, hi, fun _ => by rw [hwr]; omega, fun _ => by rw [hwr]; omega, fun _ => trivial, fun _ => trivial, fun h5 => ⟨ch_old hr h5.1 h5.2, rfl, rfl, rfl, rfl, rfl, rfl, rfl, Nat.le_refl _, rfl, rfl, Nat.le_refl _, rfl⟩, fun h5 => ⟨fun hm0 => ?_, fun hm1 => ⟨ch_let hr h5 hm1, rfl, rfl, rfl, rfl, rfl, rfl, rfl, Nat.le_refl _, rfl, rfl, Nat.le_refl _, rfl⟩⟩⟩⟩, fun h hc => ?_⟩
        · obtain ⟨o1, o2⟩ := bk_on hB hr.2
          obtain ⟨r1, r2, r3⟩ := race_case hof o1
          rw [o2] at r3
          refine ⟨fun _ => by decide, fun _ => by omega, fun _ => trivial, fun _ => trivial, fun _ => by decide, fun _ => by omega, fun _ => trivial, fun _ => trivial, fun _ => trivial, fun h => ?_, fun _ => ⟨hi0, hi, hi0, hi, fun he => ⟨ch_race0 hr.1 hr.2 he, rfl, rfl, rfl, rfl, rfl, rfl, rfl, Nat.le_refl _, rfl, rfl, Nat.le_refl _, rfl⟩, fun he => ⟨ch_race1 hr.1 hr.2 he, rfl, rfl, rfl, rfl, rfl, rfl, rfl, Nat.le_refl _, rfl, rfl, Nat.le_refl _, rfl⟩⟩⟩
          rcases h with (h | h) | h
          · exact absurd h r1
          · exact absurd r2 h
          · exact absurd r3 h
        · rw [hm] at hm0
          obtain ⟨n1, n2⟩ := let_no hm0
          obtain ⟨g1, g2⟩ := hP.go (by_ := sx.2.2.1) hl hi (by omega) (by omega) hdl (show m.2.2.1 = t.1 by rw [hm]; exact n1) (show m.2.2.2 = t.2.2.2.2.2.2.2.1 by rw [hm]; exact n2)
          exact ⟨g1, g2, Nat.le_refl _, Nat.le_refl _⟩
        · rw [hm] at hc
          obtain ⟨s1, s2, s3, s4⟩ := step_ok (now := nW (c, l, PUnit.unit) (i, now, cl, o, t)) hi0 (by omega) hP.oi hB hN hof hdl hc (T0 := tS (i, now, cl, o, t) d m h) (by rw [hm])
          have s2' : runOk t.2.2.2.2.1 (tS (i, now, cl, o, t) d m h) (dT (c, l, PUnit.unit) (i, now, cl, o, t) d m h) := s2
          have s3' : (dT (c, l, PUnit.unit) (i, now, cl, o, t) d m h).length ≤ 100000 := s3
          have s4' : ∀ T : Tl, T = (dT (c, l, PUnit.unit) (i, now, cl, o, t) d m h).foldl seeS (tS (i, now, cl, o, t) d m h) → ((h.2.1.1 = 2 ∨ h.2.1.1 = 4) → Option.getD (T.2.1.2 h.2.1.2.1) 0 = IntKind.wrap .i64 (Option.getD (t.2.1.2 h.2.1.2.1) 0 + 1)) ∧ (oT (c, l, PUnit.unit) (i, now, cl, o, t) d m h).1 = 1 ∧ (∃ id le wa fl tol shu, BkI c (i + 1) (cl || decide (h.2.1.1 = 4)) (bkO (oT (c, l, PUnit.unit) (i, now, cl, o, t) d m h)) T id le wa fl tol shu) ∧ NuI (i + 1) T := s4
          have z := SeI.zero s2' s3' (by have := hN.n1; show t.2.1.1 ≤ 100000; omega) (by have := hN.n2; show t.2.2.2.1.1 ≤ 100000; omega) (by have := hN.ol; show t.2.2.1.length ≤ 100000; omega)
          clear s2 s3 s4 s2'
          generalize dT (c, l, PUnit.unit) (i, now, cl, o, t) d m h = D at *
          refine ⟨?_, ⟨z, Nat.le_refl _, Nat.le_refl _⟩, fun x hx => ⟨fun hxi => ?_, fun hxi => ?_⟩⟩
          · show ((szB (bkO o) && szI d) && decide (h.2.1.2.2.2.2.1 = ByteArray.empty)) = true
            rw [bk_sz hB hN hi100, decide_eq_true s1, show szI d = true from decide_eq_true (by omega)]; rfl
          · have x0 := hx.i0
            have xb := hx.b
            have xdl := hx.dl
            obtain ⟨k, hs⟩ := hx.step hxi
            obtain ⟨e1, e2⟩ := toNat_wrap x0 (by omega) hxi
            generalize hdd : List.getD D x.1.toNat DeedT.zero = dd at k hs ⊢
            refine ⟨x0, hxi, fun h2 => ?_, fun h2 => ⟨fun h6 => ?_, fun h6 => ⟨fun h00 => ?_, fun h00 => ⟨fun h1 => ?_, fun h1 => ?_⟩⟩⟩⟩
            · obtain ⟨p1, p2, p3, p4⟩ := k.put h2
              have e := (see_2 (t := x.2) h2).symm
              refine ⟨x0, hxi, fun _ => x0, fun _ => hxi, fun _ => trivial, fun _ => trivial, fun _ => trivial, fun _ => x0, fun _ => hxi, fun _ => trivial, fun _ => trivial, fun _ => trivial, fun hn => ?_, fun _ => ⟨?_, x0, hxi, fun _ => x0, fun _ => hxi, fun _ => trivial, fun _ => trivial, fun _ => trivial, fun h8 => ⟨x0, hxi, fun hb => ?_, fun hb => ⟨?_, x0, hxi, ?_, ?_⟩⟩, fun h9 => ?_⟩⟩
              · rcases hn with (hn | hn) | hn
                · exact absurd p1 hn
                · exact absurd p2 hn
                · exact absurd p3 hn
              · unfold maxLen; omega
              · rw [p4 h8.1 h8.2] at hb; cases hb
              · show (([] : List Int).length + x.2.2.2.1.length) * 8 ≤ _
                simp only [List.length_nil]; omega
              · show ((([] : List Int) ++ x.2.2.2.1).length + [_].length) * 8 ≤ _
                simp only [List.length_append, List.length_nil, List.length_cons]; omega
              · have h8' : dd.2.2.1.2.2.2.2.2.1 = 0 ∧ 0 ≤ dd.2.2.1.2.2.2.1 := h8
                rw [if_pos h8'] at e
                exact ⟨(hs _ e).1, (hs _ e).2, Nat.le_refl _, Nat.le_refl _⟩
              · have h9' : ¬ (dd.2.2.1.2.2.2.2.2.1 = 0 ∧ 0 ≤ dd.2.2.1.2.2.2.1) := by omega
                rw [if_neg h9'] at e
                exact ⟨(hs _ e).1, (hs _ e).2, Nat.le_refl _, Nat.le_refl _⟩
            · obtain ⟨q1, e', q, q2, q3, q4⟩ := k.shu h6
              obtain ⟨n1, n2⟩ := next_of q2
              have e := (see_6 (t := x.2) h6).symm
              have w0 : 0 ≤ IntKind.wrap .i64 (x.1 + 1) := by omega
              have w1 : IntKind.wrap .i64 (x.1 + 1) < D.length := by omega
              have d2 : List.getD D (IntKind.wrap .i64 (x.1 + 1)).toNat DeedT.zero = e' := by rw [e1, e2]; exact n2
              refine ⟨x0, hxi, fun _ => w0, fun _ => w1, fun _ => trivial, fun _ => trivial, fun _ => w0, fun _ => w1, fun _ => trivial, fun _ => trivial, fun _ => trivial, fun hn => ?_, fun _ => ⟨x0, hxi, ?_, (hs _ e).1, (hs _ e).2, Nat.le_refl _, Nat.le_refl _⟩⟩
              · rw [d2] at hn
                rcases hn with ((hn | hn) | hn) | hn
                · rw [q1] at hn; cases hn
                · omega
                · exact absurd q3 hn
                · exact absurd q4 hn
              · unfold maxLen; omega
            · obtain ⟨q1, p, q2, q3, q4⟩ := k.spn h00
              have e := (see_0 (t := x.2) h00).symm
              have hsm : dd.2.2.2.2.1.isSome = true := by rw [q2]; rfl
              refine ⟨fun _ => x0, fun _ => hxi, fun _ => trivial, fun _ => trivial, fun _ => x0, fun _ => hxi, fun _ => trivial, fun _ => trivial, fun _ => hsm, fun _ => hsm, fun _ => hsm, fun _ => x0, fun _ => hxi, fun _ => trivial, fun _ => trivial, fun _ => hsm, fun _ => hsm, fun _ => hsm, fun _ => hsm, fun hn => ?_, fun _ => ⟨(hs _ e).1, (hs _ e).2, Nat.le_refl _, Nat.le_refl _⟩⟩
              rcases hn with ((hn | hn) | hn) | hn
              · rw [q1] at hn; cases hn
              · rw [q2] at hn; cases hn
              · rw [q2] at hn; exact absurd q3 hn
              · rw [q2] at hn; exact absurd q4 hn
            · obtain ⟨q1, q2, q3⟩ := k.cut h1
              have e := (see_1 (t := x.2) h1).symm
              refine ⟨fun _ => x0, fun _ => hxi, fun _ => trivial, fun _ => trivial, fun _ => trivial, fun hn => ?_, fun _ => ⟨(hs _ e).1, (hs _ e).2, Nat.le_refl _, Nat.le_refl _⟩⟩
              rcases hn with (hn | hn) | hn
              · rw [q1] at hn; cases hn
              · rw [q2] at hn; cases hn
              · exact absurd q3 hn
            · have e := (see_x (t := x.2) h2 h6 h00 h1).symm
              exact ⟨(hs _ e).1, (hs _ e).2, Nat.le_refl _, Nat.le_refl _⟩
          · obtain ⟨u1, u2, u3, u4⟩ := s4' x.2 (hx.done hxi)
            obtain ⟨g1, g2⟩ := hP.next (by_ := sx.2.2.1) hl hi (by omega) (by omega) u2 u3 u4
            exact ⟨fun hb => absurd (u1 hb.1) hb.2, fun _ => ⟨g1, g2, Nat.le_refl _, Nat.le_refl _⟩⟩
  · rintro ⟨cl, t⟩ hE
    dsimp only
    have hl := hE.l
    have ha := hE.a
    dsimp only at hl ha
    refine ⟨⟨⟨Int.le_refl _, by show (0 : Int) ≤ _; omega⟩, Nat.le_refl _, Nat.le_refl _⟩, fun x hx => ⟨fun hi => ?_, fun _ => trivial⟩⟩
    have h0 := hx.i0
    have hlt : x.toNat < t.1.length := by omega
    have hm : t.1.getD x.toNat 0 ∈ t.1 := by
      rw [getD_get hlt]; exact List.getElem_mem _
    obtain ⟨a1, a2⟩ := ha _ hm
    obtain ⟨s1, s2⟩ := hx.succ hl hi
    refine ⟨h0, hi, fun _ => h0, fun _ => hi, fun h => ?_, fun _ => ⟨s1, s2, Nat.le_refl _, Nat.le_refl _⟩⟩
    rcases h with h | ⟨h, h2⟩
    · omega
    · exact absurd (a2 h) h2
end Go.Proofs.YtdkcgcgefgeooaaGreatDoor.Ow
namespace Go.Proofs.YtdkcgcgefgeooaaGreatDoor.Ow
open Go Go.Eng 
set_option maxRecDepth 100000
theorem val24 : Valid Tryz.prog GW 24 cWhose := mkValid gws To.mix To.tab_ok To.eqs_ok g24 rfl allV_nil allI_nil Tryz.func24 (by kernel_rfl) v24
theorem val3 : Valid Tryz.prog GW 3 cOnceL := Valid.T (mkValidA gws To.mix To.tab_ok To.eqs_ok (by kernel_rfl) g3 rfl allB_nil allM_nil (allV_cons val6 (allV_cons val7 (allV_cons val8 (allV_cons val9 (allV_cons val11 (allV_cons val12 (allV_cons val24 allV_nil))))))) (allI_cons Tryz.func10 (by kernel_rfl) (allI_cons Tryz.func13 (by kernel_rfl) allI_nil)) Tryz.func3 (by kernel_rfl) v3)
end Go.Proofs.YtdkcgcgefgeooaaGreatDoor.Ow

/-
  A text of mine, of several parts: ArVc, ArP1, ArP2, ArP3, ArP4, ArP5, ArP6, ArP7, ArV.
-/
import Derived.Test.YtkimpfoimblhjaaDoorAea
import Derived.Test.YtkimpfoimblhjaaDoorAeb
import Derived.Test.YtkimpfoimblhjaaDoorAec
import Derived.Test.YtkimpfoimblhjaaDoorAed
import Derived.Test.YtkimpfoimblhjaaDoorAee
set_option linter.all false
namespace Go.Proofs.YtkimpfoimblhjaaDoor.Ad
open Go Go.Eng Go.Lb Go.Ad Lb
set_option maxRecDepth 100000
theorem v74_eq : vcFn g74 300 Tryd.f74 cMay1 = ( ∀ (x : (Int × (Int × Int × Int × Int × Int × Int × Int × Int × Unit) × Int × Unit) × Unit), Wr (Bool.true = Bool.true) → bcase (Decidable.decide (x.fst.snd.snd.fst < (1 : Int)) || Decidable.decide (x.fst.snd.snd.fst >
  (65535 : Int)) || !Decidable.decide (x.fst.fst = (4 : Int)) && !Decidable.decide (x.fst.fst = (6 : Int))) ((Bool.false, ()) = (Go.Ad.may1 x.fst, ())) ((Wr (May2I x.fst (2 : Int)) ∧ Wr ((2 : Int) = (2 : Int)) ∧ Wr
  (x.fst.fst = x.fst.fst) ∧ Wr (x.fst.snd.fst.fst = x.fst.snd.fst.fst) ∧ Wr (x.fst.snd.fst.snd.fst = x.fst.snd.fst.snd.fst) ∧ Wr (x.fst.snd.fst.snd.snd.fst = x.fst.snd.fst.snd.snd.fst) ∧ Wr (x.fst.snd.fst.snd.snd.snd.fst
  = x.fst.snd.fst.snd.snd.snd.fst) ∧ Wr (x.fst.snd.fst.snd.snd.snd.snd.fst = x.fst.snd.fst.snd.snd.snd.snd.fst) ∧ Wr (x.fst.snd.fst.snd.snd.snd.snd.snd.fst = x.fst.snd.fst.snd.snd.snd.snd.snd.fst) ∧ Wr
  (x.fst.snd.fst.snd.snd.snd.snd.snd.snd.fst = x.fst.snd.fst.snd.snd.snd.snd.snd.snd.fst) ∧ Wr (x.fst.snd.fst.snd.snd.snd.snd.snd.snd.snd.fst = x.fst.snd.fst.snd.snd.snd.snd.snd.snd.snd.fst) ∧ Wr (x.fst.snd.snd.fst =
  x.fst.snd.snd.fst)) ∧ ∀ (x_1 : Int), Wr (May2I x.fst x_1) → bcase (Decidable.decide (x_1 < (8 : Int)) && Decidable.decide (x.fst.fst = (4 : Int))) (Wr ((0 : Int) ≤ x_1) ∧ Wr (x_1 < (↑(8 : Nat) : Int)) ∧ bcase
  (!Decidable.decide (List.getD (x.fst.snd.fst.fst :: x.fst.snd.fst.snd.fst :: x.fst.snd.fst.snd.snd.fst :: x.fst.snd.fst.snd.snd.snd.fst :: x.fst.snd.fst.snd.snd.snd.snd.fst :: x.fst.snd.fst.snd.snd.snd.snd.snd.fst ::
  x.fst.snd.fst.snd.snd.snd.snd.snd.snd.fst :: x.fst.snd.fst.snd.snd.snd.snd.snd.snd.snd.fst :: nilL Int) (Int.toNat x_1) (0 : Int) = (0 : Int))) ((Bool.false, ()) = (Go.Ad.may1 x.fst, ())) (Wr (May2I x.fst (IntKind.wrap
  IntKind.i64 (x_1 + (1 : Int)))) ∧ Wr ((8 : Nat) - Int.toNat (IntKind.wrap IntKind.i64 (x_1 + (1 : Int))) < (8 : Nat) - Int.toNat x_1) ∧ Wr (IntKind.wrap IntKind.i64 (x_1 + (1 : Int)) = IntKind.wrap IntKind.i64 (x_1 + (1
  : Int))) ∧ Wr (x.fst.fst = x.fst.fst) ∧ Wr (x.fst.snd.fst.fst = x.fst.snd.fst.fst) ∧ Wr (x.fst.snd.fst.snd.fst = x.fst.snd.fst.snd.fst) ∧ Wr (x.fst.snd.fst.snd.snd.fst = x.fst.snd.fst.snd.snd.fst) ∧ Wr
  (x.fst.snd.fst.snd.snd.snd.fst = x.fst.snd.fst.snd.snd.snd.fst) ∧ Wr (x.fst.snd.fst.snd.snd.snd.snd.fst = x.fst.snd.fst.snd.snd.snd.snd.fst) ∧ Wr (x.fst.snd.fst.snd.snd.snd.snd.snd.fst =
  x.fst.snd.fst.snd.snd.snd.snd.snd.fst) ∧ Wr (x.fst.snd.fst.snd.snd.snd.snd.snd.snd.fst = x.fst.snd.fst.snd.snd.snd.snd.snd.snd.fst) ∧ Wr (x.fst.snd.fst.snd.snd.snd.snd.snd.snd.snd.fst =
  x.fst.snd.fst.snd.snd.snd.snd.snd.snd.snd.fst) ∧ Wr (x.fst.snd.snd.fst = x.fst.snd.snd.fst))) ((Bool.true, ()) = (Go.Ad.may1 x.fst, ())))) := by kernel_rfl
theorem v47_eq : vcFn g47 300 Tryd.f47 cMay = ( ∀ (x : List (Int × (Int × Int × Int × Int × Int × Int × Int × Int × Unit) × Int × Unit) × Unit), Wr (lenA x.fst = Bool.true) → (Wr (MayI x.fst (0 : Int)) ∧ Wr ((0 : Int) = (0 : Int)) ∧ Wr (x.fst = x.fst)) ∧ ∀ (x_1 :
  Int), Wr (MayI x.fst x_1) → bcase (Decidable.decide (x_1 < (↑(List.length x.fst) : Int))) (Wr ((0 : Int) ≤ x_1) ∧ Wr (x_1 < (↑(List.length x.fst) : Int)) ∧ Wr (Bool.true = Bool.true) ∧ Wr (Bool.true = Bool.true) ∧ bcase
  (!Go.Ad.may1 (List.getD x.fst (Int.toNat x_1) (Ty.zero AdT))) ((Bool.false, ()) = (Go.Ad.mayA x.fst, ())) (Wr (MayI x.fst (IntKind.wrap IntKind.i64 (x_1 + (1 : Int)))) ∧ Wr (List.length x.fst - Int.toNat (IntKind.wrap
  IntKind.i64 (x_1 + (1 : Int))) < List.length x.fst - Int.toNat x_1) ∧ Wr (IntKind.wrap IntKind.i64 (x_1 + (1 : Int)) = IntKind.wrap IntKind.i64 (x_1 + (1 : Int))) ∧ Wr (x.fst = x.fst))) ((Bool.true, ()) = (Go.Ad.mayA
  x.fst, ()))) := by kernel_rfl
theorem v75_eq : vcFn g75 300 Tryd.f75 cDigs = ( ∀ (x : Int × Int × Unit), Wr ((Decidable.decide ((0 : Int) ≤ x.fst) && Decidable.decide (x.fst ≤ (65535 : Ty.El Go.Proofs.YtkimpfoimblhjaaDoor.Lb.I64)) && (Decidable.decide (x.snd.fst = (10 : Ty.El
  Go.Proofs.YtkimpfoimblhjaaDoor.Lb.I64)) || Decidable.decide (x.snd.fst = (16 : Ty.El Go.Proofs.YtkimpfoimblhjaaDoor.Lb.I64)))) = Bool.true) → bcase (Decidable.decide (x.fst = (0 : Int))) ((ByteArray.mk (List.toArray
  ((48 : UInt8) :: nilL UInt8)), ()) = (dgS x.fst x.snd.fst, ())) ((Wr (DgRI x.snd.fst x.fst x.fst (ByteArray.mk (List.toArray (nilL UInt8)))) ∧ Wr (x.fst = x.fst) ∧ Wr (ByteArray.mk (List.toArray (nilL UInt8)) =
  ByteArray.mk (List.toArray (nilL UInt8))) ∧ Wr (x.snd.fst = x.snd.fst)) ∧ ∀ (x_1 : Int × ByteArray), Wr (DgRI x.snd.fst x.fst x_1.fst x_1.snd) → bcase (Decidable.decide (x_1.fst > (0 : Int))) (Wr (x.snd.fst ≠ (0 : Int))
  ∧ Wr (x.snd.fst ≠ (0 : Int)) ∧ Wr ((0 : Int) ≤ Int.tmod x_1.fst x.snd.fst) ∧ Wr (Int.tmod x_1.fst x.snd.fst ≤ IntKind.wrap IntKind.i64 (Int.tmod x_1.fst x.snd.fst + (1 : Int))) ∧ Wr (IntKind.wrap IntKind.i64 (Int.tmod
  x_1.fst x.snd.fst + (1 : Int)) ≤ (↑(ByteArray.size (ByteArray.mk (List.toArray ((48 : UInt8) :: (49 : UInt8) :: (50 : UInt8) :: (51 : UInt8) :: (52 : UInt8) :: (53 : UInt8) :: (54 : UInt8) :: (55 : UInt8) :: (56 :
  UInt8) :: (57 : UInt8) :: (97 : UInt8) :: (98 : UInt8) :: (99 : UInt8) :: (100 : UInt8) :: (101 : UInt8) :: (102 : UInt8) :: nilL UInt8)))) : Int)) ∧ Wr (ByteArray.size (subS (ByteArray.mk (List.toArray ((48 : UInt8) ::
  (49 : UInt8) :: (50 : UInt8) :: (51 : UInt8) :: (52 : UInt8) :: (53 : UInt8) :: (54 : UInt8) :: (55 : UInt8) :: (56 : UInt8) :: (57 : UInt8) :: (97 : UInt8) :: (98 : UInt8) :: (99 : UInt8) :: (100 : UInt8) :: (101 :
  UInt8) :: (102 : UInt8) :: nilL UInt8))) (Int.toNat (Int.tmod x_1.fst x.snd.fst)) (Int.toNat (IntKind.wrap IntKind.i64 (Int.tmod x_1.fst x.snd.fst + (1 : Int))))) + ByteArray.size x_1.snd ≤ Go.maxLen) ∧ Wr (x.snd.fst ≠
  (0 : Int)) ∧ Wr (DgRI x.snd.fst x.fst (IntKind.wrap IntKind.i64 (Int.tdiv x_1.fst x.snd.fst)) (subS (ByteArray.mk (List.toArray ((48 : UInt8) :: (49 : UInt8) :: (50 : UInt8) :: (51 : UInt8) :: (52 : UInt8) :: (53 :
  UInt8) :: (54 : UInt8) :: (55 : UInt8) :: (56 : UInt8) :: (57 : UInt8) :: (97 : UInt8) :: (98 : UInt8) :: (99 : UInt8) :: (100 : UInt8) :: (101 : UInt8) :: (102 : UInt8) :: nilL UInt8))) (Int.toNat (Int.tmod x_1.fst
  x.snd.fst)) (Int.toNat (IntKind.wrap IntKind.i64 (Int.tmod x_1.fst x.snd.fst + (1 : Int)))) ++ x_1.snd)) ∧ Wr (Int.toNat (IntKind.wrap IntKind.i64 (Int.tdiv x_1.fst x.snd.fst)) < Int.toNat x_1.fst) ∧ Wr (IntKind.wrap
  IntKind.i64 (Int.tdiv x_1.fst x.snd.fst) = IntKind.wrap IntKind.i64 (Int.tdiv x_1.fst x.snd.fst)) ∧ Wr (subS (ByteArray.mk (List.toArray ((48 : UInt8) :: (49 : UInt8) :: (50 : UInt8) :: (51 : UInt8) :: (52 : UInt8) ::
  (53 : UInt8) :: (54 : UInt8) :: (55 : UInt8) :: (56 : UInt8) :: (57 : UInt8) :: (97 : UInt8) :: (98 : UInt8) :: (99 : UInt8) :: (100 : UInt8) :: (101 : UInt8) :: (102 : UInt8) :: nilL UInt8))) (Int.toNat (Int.tmod
  x_1.fst x.snd.fst)) (Int.toNat (IntKind.wrap IntKind.i64 (Int.tmod x_1.fst x.snd.fst + (1 : Int)))) ++ x_1.snd = subS (ByteArray.mk (List.toArray ((48 : UInt8) :: (49 : UInt8) :: (50 : UInt8) :: (51 : UInt8) :: (52 :
  UInt8) :: (53 : UInt8) :: (54 : UInt8) :: (55 : UInt8) :: (56 : UInt8) :: (57 : UInt8) :: (97 : UInt8) :: (98 : UInt8) :: (99 : UInt8) :: (100 : UInt8) :: (101 : UInt8) :: (102 : UInt8) :: nilL UInt8))) (Int.toNat
  (Int.tmod x_1.fst x.snd.fst)) (Int.toNat (IntKind.wrap IntKind.i64 (Int.tmod x_1.fst x.snd.fst + (1 : Int)))) ++ x_1.snd) ∧ Wr (x.snd.fst = x.snd.fst)) ((x_1.snd, ()) = (dgS x.fst x.snd.fst, ())))) := by kernel_rfl
theorem v100_eq : vcFn g100 300 Tryd.f100 cRun = ( ∀ (x : (Int × Int × Int × Int × Int × Int × Int × Int × Unit) × Unit), Wr (Bool.true = Bool.true) → (Wr (RunRI x.fst (-1 : Int) (1 : Int) (0 : Int)) ∧ Wr ((-1 : Int) = (-1 : Int)) ∧ Wr ((1 : Int) = (1 : Int)) ∧ Wr ((0 :
  Int) = (0 : Int)) ∧ Wr (x.fst.fst = x.fst.fst) ∧ Wr (x.fst.snd.fst = x.fst.snd.fst) ∧ Wr (x.fst.snd.snd.fst = x.fst.snd.snd.fst) ∧ Wr (x.fst.snd.snd.snd.fst = x.fst.snd.snd.snd.fst) ∧ Wr (x.fst.snd.snd.snd.snd.fst =
  x.fst.snd.snd.snd.snd.fst) ∧ Wr (x.fst.snd.snd.snd.snd.snd.fst = x.fst.snd.snd.snd.snd.snd.fst) ∧ Wr (x.fst.snd.snd.snd.snd.snd.snd.fst = x.fst.snd.snd.snd.snd.snd.snd.fst) ∧ Wr (x.fst.snd.snd.snd.snd.snd.snd.snd.fst =
  x.fst.snd.snd.snd.snd.snd.snd.snd.fst)) ∧ ∀ (x_1 : Int × Int × Int), Wr (RunRI x.fst x_1.fst x_1.snd.fst x_1.snd.snd) → bcase (Decidable.decide (x_1.snd.snd < (8 : Int))) ((Wr (ZcI x.fst x_1.snd.snd (0 : Int)) ∧ Wr ((0
  : Int) = (0 : Int)) ∧ Wr (x_1.fst = x_1.fst) ∧ Wr (x_1.snd.fst = x_1.snd.fst) ∧ Wr (x_1.snd.snd = x_1.snd.snd) ∧ Wr (x.fst.fst = x.fst.fst) ∧ Wr (x.fst.snd.fst = x.fst.snd.fst) ∧ Wr (x.fst.snd.snd.fst =
  x.fst.snd.snd.fst) ∧ Wr (x.fst.snd.snd.snd.fst = x.fst.snd.snd.snd.fst) ∧ Wr (x.fst.snd.snd.snd.snd.fst = x.fst.snd.snd.snd.snd.fst) ∧ Wr (x.fst.snd.snd.snd.snd.snd.fst = x.fst.snd.snd.snd.snd.snd.fst) ∧ Wr
  (x.fst.snd.snd.snd.snd.snd.snd.fst = x.fst.snd.snd.snd.snd.snd.snd.fst) ∧ Wr (x.fst.snd.snd.snd.snd.snd.snd.snd.fst = x.fst.snd.snd.snd.snd.snd.snd.snd.fst)) ∧ ∀ (x_2 : Int), Wr (ZcI x.fst x_1.snd.snd x_2) → Wr
  (Decidable.decide (IntKind.wrap IntKind.i64 (x_1.snd.snd + x_2) < (8 : Int)) = Bool.true → (0 : Int) ≤ IntKind.wrap IntKind.i64 (x_1.snd.snd + x_2)) ∧ Wr (Decidable.decide (IntKind.wrap IntKind.i64 (x_1.snd.snd + x_2) <
  (8 : Int)) = Bool.true → IntKind.wrap IntKind.i64 (x_1.snd.snd + x_2) < (↑(8 : Nat) : Int)) ∧ bcase (Decidable.decide (IntKind.wrap IntKind.i64 (x_1.snd.snd + x_2) < (8 : Int)) && Decidable.decide (List.getD (x.fst.fst
  :: x.fst.snd.fst :: x.fst.snd.snd.fst :: x.fst.snd.snd.snd.fst :: x.fst.snd.snd.snd.snd.fst :: x.fst.snd.snd.snd.snd.snd.fst :: x.fst.snd.snd.snd.snd.snd.snd.fst :: x.fst.snd.snd.snd.snd.snd.snd.snd.fst :: nilL Int)
  (Int.toNat (IntKind.wrap IntKind.i64 (x_1.snd.snd + x_2))) (0 : Int) = (0 : Int))) (Wr (ZcI x.fst x_1.snd.snd (IntKind.wrap IntKind.i64 (x_2 + (1 : Int)))) ∧ Wr ((8 : Nat) - Int.toNat (IntKind.wrap IntKind.i64 (x_2 + (1
  : Int))) < (8 : Nat) - Int.toNat x_2) ∧ Wr (IntKind.wrap IntKind.i64 (x_2 + (1 : Int)) = IntKind.wrap IntKind.i64 (x_2 + (1 : Int))) ∧ Wr (x_1.fst = x_1.fst) ∧ Wr (x_1.snd.fst = x_1.snd.fst) ∧ Wr (x_1.snd.snd =
  x_1.snd.snd) ∧ Wr (x.fst.fst = x.fst.fst) ∧ Wr (x.fst.snd.fst = x.fst.snd.fst) ∧ Wr (x.fst.snd.snd.fst = x.fst.snd.snd.fst) ∧ Wr (x.fst.snd.snd.snd.fst = x.fst.snd.snd.snd.fst) ∧ Wr (x.fst.snd.snd.snd.snd.fst =
  x.fst.snd.snd.snd.snd.fst) ∧ Wr (x.fst.snd.snd.snd.snd.snd.fst = x.fst.snd.snd.snd.snd.snd.fst) ∧ Wr (x.fst.snd.snd.snd.snd.snd.snd.fst = x.fst.snd.snd.snd.snd.snd.snd.fst) ∧ Wr (x.fst.snd.snd.snd.snd.snd.snd.snd.fst =
  x.fst.snd.snd.snd.snd.snd.snd.snd.fst)) (bcase (Decidable.decide (x_2 > x_1.snd.fst)) (Wr (RunRI x.fst x_1.snd.snd x_2 (IntKind.wrap IntKind.i64 (x_1.snd.snd + (1 : Int)))) ∧ Wr ((8 : Nat) - Int.toNat (IntKind.wrap
  IntKind.i64 (x_1.snd.snd + (1 : Int))) < (8 : Nat) - Int.toNat x_1.snd.snd) ∧ Wr (x_1.snd.snd = x_1.snd.snd) ∧ Wr (x_2 = x_2) ∧ Wr (IntKind.wrap IntKind.i64 (x_1.snd.snd + (1 : Int)) = IntKind.wrap IntKind.i64
  (x_1.snd.snd + (1 : Int))) ∧ Wr (x.fst.fst = x.fst.fst) ∧ Wr (x.fst.snd.fst = x.fst.snd.fst) ∧ Wr (x.fst.snd.snd.fst = x.fst.snd.snd.fst) ∧ Wr (x.fst.snd.snd.snd.fst = x.fst.snd.snd.snd.fst) ∧ Wr
  (x.fst.snd.snd.snd.snd.fst = x.fst.snd.snd.snd.snd.fst) ∧ Wr (x.fst.snd.snd.snd.snd.snd.fst = x.fst.snd.snd.snd.snd.snd.fst) ∧ Wr (x.fst.snd.snd.snd.snd.snd.snd.fst = x.fst.snd.snd.snd.snd.snd.snd.fst) ∧ Wr
  (x.fst.snd.snd.snd.snd.snd.snd.snd.fst = x.fst.snd.snd.snd.snd.snd.snd.snd.fst)) (Wr (RunRI x.fst x_1.fst x_1.snd.fst (IntKind.wrap IntKind.i64 (x_1.snd.snd + (1 : Int)))) ∧ Wr ((8 : Nat) - Int.toNat (IntKind.wrap
  IntKind.i64 (x_1.snd.snd + (1 : Int))) < (8 : Nat) - Int.toNat x_1.snd.snd) ∧ Wr (x_1.fst = x_1.fst) ∧ Wr (x_1.snd.fst = x_1.snd.fst) ∧ Wr (IntKind.wrap IntKind.i64 (x_1.snd.snd + (1 : Int)) = IntKind.wrap IntKind.i64
  (x_1.snd.snd + (1 : Int))) ∧ Wr (x.fst.fst = x.fst.fst) ∧ Wr (x.fst.snd.fst = x.fst.snd.fst) ∧ Wr (x.fst.snd.snd.fst = x.fst.snd.snd.fst) ∧ Wr (x.fst.snd.snd.snd.fst = x.fst.snd.snd.snd.fst) ∧ Wr
  (x.fst.snd.snd.snd.snd.fst = x.fst.snd.snd.snd.snd.fst) ∧ Wr (x.fst.snd.snd.snd.snd.snd.fst = x.fst.snd.snd.snd.snd.snd.fst) ∧ Wr (x.fst.snd.snd.snd.snd.snd.snd.fst = x.fst.snd.snd.snd.snd.snd.snd.fst) ∧ Wr
  (x.fst.snd.snd.snd.snd.snd.snd.snd.fst = x.fst.snd.snd.snd.snd.snd.snd.snd.fst)))) ((x_1.fst, x_1.snd.fst, ()) = (run1 x.fst, run2 x.fst, ()))) := by kernel_rfl
theorem v76_eq : vcFn g76 300 Tryd.f76 cSixS.T = ( ∀ (x : (Int × Int × Int × Int × Int × Int × Int × Int × Unit) × Unit), Wr (typedB (Ty.cons G8T Ty.unit) x = Bool.true ∧ Bool.true = Bool.true) → Wr (Bool.true = Bool.true) ∧ (Wr (SixRI x.fst (ByteArray.mk (List.toArray
  (nilL UInt8))) (0 : Int)) ∧ Wr (ByteArray.mk (List.toArray (nilL UInt8)) = ByteArray.mk (List.toArray (nilL UInt8))) ∧ Wr ((0 : Int) = (0 : Int)) ∧ Wr (run1 x.fst = run1 x.fst) ∧ Wr (run2 x.fst = run2 x.fst) ∧ Wr
  (x.fst.fst = x.fst.fst) ∧ Wr (x.fst.snd.fst = x.fst.snd.fst) ∧ Wr (x.fst.snd.snd.fst = x.fst.snd.snd.fst) ∧ Wr (x.fst.snd.snd.snd.fst = x.fst.snd.snd.snd.fst) ∧ Wr (x.fst.snd.snd.snd.snd.fst = x.fst.snd.snd.snd.snd.fst)
  ∧ Wr (x.fst.snd.snd.snd.snd.snd.fst = x.fst.snd.snd.snd.snd.snd.fst) ∧ Wr (x.fst.snd.snd.snd.snd.snd.snd.fst = x.fst.snd.snd.snd.snd.snd.snd.fst) ∧ Wr (x.fst.snd.snd.snd.snd.snd.snd.snd.fst =
  x.fst.snd.snd.snd.snd.snd.snd.snd.fst)) ∧ ∀ (x_1 : ByteArray × Int), Wr (SixRI x.fst x_1.fst x_1.snd) → bcase (Decidable.decide (x_1.snd < (8 : Int))) (bcase (Decidable.decide (x_1.snd = run1 x.fst)) (Wr (ByteArray.size
  x_1.fst + ByteArray.size (ByteArray.mk (List.toArray ((58 : UInt8) :: (58 : UInt8) :: nilL UInt8))) ≤ Go.maxLen) ∧ Wr (SixRI x.fst (x_1.fst ++ ByteArray.mk (List.toArray ((58 : UInt8) :: (58 : UInt8) :: nilL UInt8)))
  (IntKind.wrap IntKind.i64 (IntKind.wrap IntKind.i64 (IntKind.wrap IntKind.i64 (x_1.snd + run2 x.fst) - (1 : Int)) + (1 : Int)))) ∧ Wr ((8 : Nat) - Int.toNat (IntKind.wrap IntKind.i64 (IntKind.wrap IntKind.i64
  (IntKind.wrap IntKind.i64 (x_1.snd + run2 x.fst) - (1 : Int)) + (1 : Int))) < (8 : Nat) - Int.toNat x_1.snd) ∧ Wr (x_1.fst ++ ByteArray.mk (List.toArray ((58 : UInt8) :: (58 : UInt8) :: nilL UInt8)) = x_1.fst ++
  ByteArray.mk (List.toArray ((58 : UInt8) :: (58 : UInt8) :: nilL UInt8))) ∧ Wr (IntKind.wrap IntKind.i64 (IntKind.wrap IntKind.i64 (IntKind.wrap IntKind.i64 (x_1.snd + run2 x.fst) - (1 : Int)) + (1 : Int)) =
  IntKind.wrap IntKind.i64 (IntKind.wrap IntKind.i64 (IntKind.wrap IntKind.i64 (x_1.snd + run2 x.fst) - (1 : Int)) + (1 : Int))) ∧ Wr (run1 x.fst = run1 x.fst) ∧ Wr (run2 x.fst = run2 x.fst) ∧ Wr (x.fst.fst = x.fst.fst) ∧
  Wr (x.fst.snd.fst = x.fst.snd.fst) ∧ Wr (x.fst.snd.snd.fst = x.fst.snd.snd.fst) ∧ Wr (x.fst.snd.snd.snd.fst = x.fst.snd.snd.snd.fst) ∧ Wr (x.fst.snd.snd.snd.snd.fst = x.fst.snd.snd.snd.snd.fst) ∧ Wr
  (x.fst.snd.snd.snd.snd.snd.fst = x.fst.snd.snd.snd.snd.snd.fst) ∧ Wr (x.fst.snd.snd.snd.snd.snd.snd.fst = x.fst.snd.snd.snd.snd.snd.snd.fst) ∧ Wr (x.fst.snd.snd.snd.snd.snd.snd.snd.fst =
  x.fst.snd.snd.snd.snd.snd.snd.snd.fst)) (Wr ((!Decidable.decide (x_1.fst = ByteArray.mk (List.toArray (nilL UInt8)))) = Bool.true → (0 : Int) ≤ IntKind.wrap IntKind.i64 ((↑(ByteArray.size x_1.fst) : Int) - (1 : Int))) ∧
  Wr ((!Decidable.decide (x_1.fst = ByteArray.mk (List.toArray (nilL UInt8)))) = Bool.true → IntKind.wrap IntKind.i64 ((↑(ByteArray.size x_1.fst) : Int) - (1 : Int)) < (↑(ByteArray.size x_1.fst) : Int)) ∧ bcase
  (!Decidable.decide (x_1.fst = ByteArray.mk (List.toArray (nilL UInt8))) && !Decidable.decide (byteAt x_1.fst (Int.toNat (IntKind.wrap IntKind.i64 ((↑(ByteArray.size x_1.fst) : Int) - (1 : Int)))) = (58 : Int))) (Wr
  (ByteArray.size x_1.fst + ByteArray.size (ByteArray.mk (List.toArray ((58 : UInt8) :: nilL UInt8))) ≤ Go.maxLen) ∧ Wr ((0 : Int) ≤ x_1.snd) ∧ Wr (x_1.snd < (↑(8 : Nat) : Int)) ∧ Wr ((Decidable.decide ((0 : Int) ≤
  IntKind.wrap IntKind.i64 (List.getD (x.fst.fst :: x.fst.snd.fst :: x.fst.snd.snd.fst :: x.fst.snd.snd.snd.fst :: x.fst.snd.snd.snd.snd.fst :: x.fst.snd.snd.snd.snd.snd.fst :: x.fst.snd.snd.snd.snd.snd.snd.fst ::
  x.fst.snd.snd.snd.snd.snd.snd.snd.fst :: nilL Int) (Int.toNat x_1.snd) (0 : Int))) && Decidable.decide (IntKind.wrap IntKind.i64 (List.getD (x.fst.fst :: x.fst.snd.fst :: x.fst.snd.snd.fst :: x.fst.snd.snd.snd.fst ::
  x.fst.snd.snd.snd.snd.fst :: x.fst.snd.snd.snd.snd.snd.fst :: x.fst.snd.snd.snd.snd.snd.snd.fst :: x.fst.snd.snd.snd.snd.snd.snd.snd.fst :: nilL Int) (Int.toNat x_1.snd) (0 : Int)) ≤ (65535 : Ty.El
  Go.Proofs.YtkimpfoimblhjaaDoor.Lb.I64)) && (Decidable.decide ((16 : Int) = (10 : Ty.El Go.Proofs.YtkimpfoimblhjaaDoor.Lb.I64)) || Decidable.decide ((16 : Int) = (16 : Ty.El Go.Proofs.YtkimpfoimblhjaaDoor.Lb.I64)))) =
  Bool.true) ∧ Wr (ByteArray.size (x_1.fst ++ ByteArray.mk (List.toArray ((58 : UInt8) :: nilL UInt8))) + ByteArray.size (dgS (IntKind.wrap IntKind.i64 (List.getD (x.fst.fst :: x.fst.snd.fst :: x.fst.snd.snd.fst ::
  x.fst.snd.snd.snd.fst :: x.fst.snd.snd.snd.snd.fst :: x.fst.snd.snd.snd.snd.snd.fst :: x.fst.snd.snd.snd.snd.snd.snd.fst :: x.fst.snd.snd.snd.snd.snd.snd.snd.fst :: nilL Int) (Int.toNat x_1.snd) (0 : Int))) (16 : Int))
  ≤ Go.maxLen) ∧ Wr (SixRI x.fst (x_1.fst ++ ByteArray.mk (List.toArray ((58 : UInt8) :: nilL UInt8)) ++ dgS (IntKind.wrap IntKind.i64 (List.getD (x.fst.fst :: x.fst.snd.fst :: x.fst.snd.snd.fst :: x.fst.snd.snd.snd.fst
  :: x.fst.snd.snd.snd.snd.fst :: x.fst.snd.snd.snd.snd.snd.fst :: x.fst.snd.snd.snd.snd.snd.snd.fst :: x.fst.snd.snd.snd.snd.snd.snd.snd.fst :: nilL Int) (Int.toNat x_1.snd) (0 : Int))) (16 : Int)) (IntKind.wrap
  IntKind.i64 (x_1.snd + (1 : Int)))) ∧ Wr ((8 : Nat) - Int.toNat (IntKind.wrap IntKind.i64 (x_1.snd + (1 : Int))) < (8 : Nat) - Int.toNat x_1.snd) ∧ Wr (x_1.fst ++ ByteArray.mk (List.toArray ((58 : UInt8) :: nilL UInt8))
  ++ dgS (IntKind.wrap IntKind.i64 (List.getD (x.fst.fst :: x.fst.snd.fst :: x.fst.snd.snd.fst :: x.fst.snd.snd.snd.fst :: x.fst.snd.snd.snd.snd.fst :: x.fst.snd.snd.snd.snd.snd.fst :: x.fst.snd.snd.snd.snd.snd.snd.fst ::
  x.fst.snd.snd.snd.snd.snd.snd.snd.fst :: nilL Int) (Int.toNat x_1.snd) (0 : Int))) (16 : Int) = x_1.fst ++ ByteArray.mk (List.toArray ((58 : UInt8) :: nilL UInt8)) ++ dgS (IntKind.wrap IntKind.i64 (List.getD (x.fst.fst
  :: x.fst.snd.fst :: x.fst.snd.snd.fst :: x.fst.snd.snd.snd.fst :: x.fst.snd.snd.snd.snd.fst :: x.fst.snd.snd.snd.snd.snd.fst :: x.fst.snd.snd.snd.snd.snd.snd.fst :: x.fst.snd.snd.snd.snd.snd.snd.snd.fst :: nilL Int)
  (Int.toNat x_1.snd) (0 : Int))) (16 : Int)) ∧ Wr (IntKind.wrap IntKind.i64 (x_1.snd + (1 : Int)) = IntKind.wrap IntKind.i64 (x_1.snd + (1 : Int))) ∧ Wr (run1 x.fst = run1 x.fst) ∧ Wr (run2 x.fst = run2 x.fst) ∧ Wr
  (x.fst.fst = x.fst.fst) ∧ Wr (x.fst.snd.fst = x.fst.snd.fst) ∧ Wr (x.fst.snd.snd.fst = x.fst.snd.snd.fst) ∧ Wr (x.fst.snd.snd.snd.fst = x.fst.snd.snd.snd.fst) ∧ Wr (x.fst.snd.snd.snd.snd.fst = x.fst.snd.snd.snd.snd.fst)
  ∧ Wr (x.fst.snd.snd.snd.snd.snd.fst = x.fst.snd.snd.snd.snd.snd.fst) ∧ Wr (x.fst.snd.snd.snd.snd.snd.snd.fst = x.fst.snd.snd.snd.snd.snd.snd.fst) ∧ Wr (x.fst.snd.snd.snd.snd.snd.snd.snd.fst =
  x.fst.snd.snd.snd.snd.snd.snd.snd.fst)) (Wr ((0 : Int) ≤ x_1.snd) ∧ Wr (x_1.snd < (↑(8 : Nat) : Int)) ∧ Wr ((Decidable.decide ((0 : Int) ≤ IntKind.wrap IntKind.i64 (List.getD (x.fst.fst :: x.fst.snd.fst ::
  x.fst.snd.snd.fst :: x.fst.snd.snd.snd.fst :: x.fst.snd.snd.snd.snd.fst :: x.fst.snd.snd.snd.snd.snd.fst :: x.fst.snd.snd.snd.snd.snd.snd.fst :: x.fst.snd.snd.snd.snd.snd.snd.snd.fst :: nilL Int) (Int.toNat x_1.snd) (0
  : Int))) && Decidable.decide (IntKind.wrap IntKind.i64 (List.getD (x.fst.fst :: x.fst.snd.fst :: x.fst.snd.snd.fst :: x.fst.snd.snd.snd.fst :: x.fst.snd.snd.snd.snd.fst :: x.fst.snd.snd.snd.snd.snd.fst ::
  x.fst.snd.snd.snd.snd.snd.snd.fst :: x.fst.snd.snd.snd.snd.snd.snd.snd.fst :: nilL Int) (Int.toNat x_1.snd) (0 : Int)) ≤ (65535 : Ty.El Go.Proofs.YtkimpfoimblhjaaDoor.Lb.I64)) && (Decidable.decide ((16 : Int) = (10 :
  Ty.El Go.Proofs.YtkimpfoimblhjaaDoor.Lb.I64)) || Decidable.decide ((16 : Int) = (16 : Ty.El Go.Proofs.YtkimpfoimblhjaaDoor.Lb.I64)))) = Bool.true) ∧ Wr (ByteArray.size x_1.fst + ByteArray.size (dgS (IntKind.wrap
  IntKind.i64 (List.getD (x.fst.fst :: x.fst.snd.fst :: x.fst.snd.snd.fst :: x.fst.snd.snd.snd.fst :: x.fst.snd.snd.snd.snd.fst :: x.fst.snd.snd.snd.snd.snd.fst :: x.fst.snd.snd.snd.snd.snd.snd.fst ::
  x.fst.snd.snd.snd.snd.snd.snd.snd.fst :: nilL Int) (Int.toNat x_1.snd) (0 : Int))) (16 : Int)) ≤ Go.maxLen) ∧ Wr (SixRI x.fst (x_1.fst ++ dgS (IntKind.wrap IntKind.i64 (List.getD (x.fst.fst :: x.fst.snd.fst ::
  x.fst.snd.snd.fst :: x.fst.snd.snd.snd.fst :: x.fst.snd.snd.snd.snd.fst :: x.fst.snd.snd.snd.snd.snd.fst :: x.fst.snd.snd.snd.snd.snd.snd.fst :: x.fst.snd.snd.snd.snd.snd.snd.snd.fst :: nilL Int) (Int.toNat x_1.snd) (0
  : Int))) (16 : Int)) (IntKind.wrap IntKind.i64 (x_1.snd + (1 : Int)))) ∧ Wr ((8 : Nat) - Int.toNat (IntKind.wrap IntKind.i64 (x_1.snd + (1 : Int))) < (8 : Nat) - Int.toNat x_1.snd) ∧ Wr (x_1.fst ++ dgS (IntKind.wrap
  IntKind.i64 (List.getD (x.fst.fst :: x.fst.snd.fst :: x.fst.snd.snd.fst :: x.fst.snd.snd.snd.fst :: x.fst.snd.snd.snd.snd.fst :: x.fst.snd.snd.snd.snd.snd.fst :: x.fst.snd.snd.snd.snd.snd.snd.fst ::
  x.fst.snd.snd.snd.snd.snd.snd.snd.fst :: nilL Int) (Int.toNat x_1.snd) (0 : Int))) (16 : Int) = x_1.fst ++ dgS (IntKind.wrap IntKind.i64 (List.getD (x.fst.fst :: x.fst.snd.fst :: x.fst.snd.snd.fst ::
  x.fst.snd.snd.snd.fst :: x.fst.snd.snd.snd.snd.fst :: x.fst.snd.snd.snd.snd.snd.fst :: x.fst.snd.snd.snd.snd.snd.snd.fst :: x.fst.snd.snd.snd.snd.snd.snd.snd.fst :: nilL Int) (Int.toNat x_1.snd) (0 : Int))) (16 : Int))
  ∧ Wr (IntKind.wrap IntKind.i64 (x_1.snd + (1 : Int)) = IntKind.wrap IntKind.i64 (x_1.snd + (1 : Int))) ∧ Wr (run1 x.fst = run1 x.fst) ∧ Wr (run2 x.fst = run2 x.fst) ∧ Wr (x.fst.fst = x.fst.fst) ∧ Wr (x.fst.snd.fst =
  x.fst.snd.fst) ∧ Wr (x.fst.snd.snd.fst = x.fst.snd.snd.fst) ∧ Wr (x.fst.snd.snd.snd.fst = x.fst.snd.snd.snd.fst) ∧ Wr (x.fst.snd.snd.snd.snd.fst = x.fst.snd.snd.snd.snd.fst) ∧ Wr (x.fst.snd.snd.snd.snd.snd.fst =
  x.fst.snd.snd.snd.snd.snd.fst) ∧ Wr (x.fst.snd.snd.snd.snd.snd.snd.fst = x.fst.snd.snd.snd.snd.snd.snd.fst) ∧ Wr (x.fst.snd.snd.snd.snd.snd.snd.snd.fst = x.fst.snd.snd.snd.snd.snd.snd.snd.fst)))) ((x_1.fst, ()) = (sixS
  x.fst, ()))) := by kernel_rfl
theorem v45_eq : vcFn g45 300 Tryd.f45 cText.T = ( ∀ (x : (Int × (Int × Int × Int × Int × Int × Int × Int × Int × Unit) × Int × Unit) × Unit), Wr (typedB (Ty.cons AdT Ty.unit) x = Bool.true ∧ Bool.true = Bool.true) → Wr (Bool.true = Bool.true) ∧ bcase (!Go.Ad.may1 x.fst)
  ((ByteArray.mk (List.toArray (nilL UInt8)), (20 : Int), ()) = (Go.Ad.text1 x.fst, Go.Ad.text2 x.fst, ())) (Wr ((Decidable.decide ((0 : Int) ≤ x.fst.snd.snd.fst) && Decidable.decide (x.fst.snd.snd.fst ≤ (65535 : Ty.El
  Go.Proofs.YtkimpfoimblhjaaDoor.Lb.I64)) && (Decidable.decide ((10 : Int) = (10 : Ty.El Go.Proofs.YtkimpfoimblhjaaDoor.Lb.I64)) || Decidable.decide ((10 : Int) = (16 : Ty.El Go.Proofs.YtkimpfoimblhjaaDoor.Lb.I64)))) =
  Bool.true) ∧ Wr (ByteArray.size (ByteArray.mk (List.toArray ((58 : UInt8) :: nilL UInt8))) + ByteArray.size (dgS x.fst.snd.snd.fst (10 : Int)) ≤ Go.maxLen) ∧ bcase (Decidable.decide (x.fst.fst = (6 : Int))) (Wr
  (Bool.true = Bool.true) ∧ Wr (ByteArray.size (ByteArray.mk (List.toArray ((91 : UInt8) :: nilL UInt8))) + ByteArray.size (sixS x.fst.snd.fst) ≤ Go.maxLen) ∧ Wr (ByteArray.size (ByteArray.mk (List.toArray ((91 : UInt8)
  :: nilL UInt8)) ++ sixS x.fst.snd.fst) + ByteArray.size (ByteArray.mk (List.toArray ((93 : UInt8) :: nilL UInt8))) ≤ Go.maxLen) ∧ Wr (ByteArray.size (ByteArray.mk (List.toArray ((91 : UInt8) :: nilL UInt8)) ++ sixS
  x.fst.snd.fst ++ ByteArray.mk (List.toArray ((93 : UInt8) :: nilL UInt8))) + ByteArray.size (ByteArray.mk (List.toArray ((58 : UInt8) :: nilL UInt8)) ++ dgS x.fst.snd.snd.fst (10 : Int)) ≤ Go.maxLen) ∧ (ByteArray.mk
  (List.toArray ((91 : UInt8) :: nilL UInt8)) ++ sixS x.fst.snd.fst ++ ByteArray.mk (List.toArray ((93 : UInt8) :: nilL UInt8)) ++ (ByteArray.mk (List.toArray ((58 : UInt8) :: nilL UInt8)) ++ dgS x.fst.snd.snd.fst (10 :
  Int)), (0 : Int), ()) = (Go.Ad.text1 x.fst, Go.Ad.text2 x.fst, ())) (Wr ((256 : Int) ≠ (0 : Int)) ∧ Wr ((Decidable.decide ((0 : Int) ≤ IntKind.wrap IntKind.i64 (Int.tdiv (IntKind.wrap IntKind.i64 x.fst.snd.fst.fst) (256
  : Int))) && Decidable.decide (IntKind.wrap IntKind.i64 (Int.tdiv (IntKind.wrap IntKind.i64 x.fst.snd.fst.fst) (256 : Int)) ≤ (65535 : Ty.El Go.Proofs.YtkimpfoimblhjaaDoor.Lb.I64)) && (Decidable.decide ((10 : Int) = (10
  : Ty.El Go.Proofs.YtkimpfoimblhjaaDoor.Lb.I64)) || Decidable.decide ((10 : Int) = (16 : Ty.El Go.Proofs.YtkimpfoimblhjaaDoor.Lb.I64)))) = Bool.true) ∧ Wr (ByteArray.size (dgS (IntKind.wrap IntKind.i64 (Int.tdiv
  (IntKind.wrap IntKind.i64 x.fst.snd.fst.fst) (256 : Int))) (10 : Int)) + ByteArray.size (ByteArray.mk (List.toArray ((46 : UInt8) :: nilL UInt8))) ≤ Go.maxLen) ∧ Wr ((256 : Int) ≠ (0 : Int)) ∧ Wr ((Decidable.decide ((0
  : Int) ≤ Int.tmod (IntKind.wrap IntKind.i64 x.fst.snd.fst.fst) (256 : Int)) && Decidable.decide (Int.tmod (IntKind.wrap IntKind.i64 x.fst.snd.fst.fst) (256 : Int) ≤ (65535 : Ty.El Go.Proofs.YtkimpfoimblhjaaDoor.Lb.I64))
  && (Decidable.decide ((10 : Int) = (10 : Ty.El Go.Proofs.YtkimpfoimblhjaaDoor.Lb.I64)) || Decidable.decide ((10 : Int) = (16 : Ty.El Go.Proofs.YtkimpfoimblhjaaDoor.Lb.I64)))) = Bool.true) ∧ Wr (ByteArray.size (dgS
  (IntKind.wrap IntKind.i64 (Int.tdiv (IntKind.wrap IntKind.i64 x.fst.snd.fst.fst) (256 : Int))) (10 : Int) ++ ByteArray.mk (List.toArray ((46 : UInt8) :: nilL UInt8))) + ByteArray.size (dgS (Int.tmod (IntKind.wrap
  IntKind.i64 x.fst.snd.fst.fst) (256 : Int)) (10 : Int)) ≤ Go.maxLen) ∧ Wr (ByteArray.size (dgS (IntKind.wrap IntKind.i64 (Int.tdiv (IntKind.wrap IntKind.i64 x.fst.snd.fst.fst) (256 : Int))) (10 : Int) ++ ByteArray.mk
  (List.toArray ((46 : UInt8) :: nilL UInt8)) ++ dgS (Int.tmod (IntKind.wrap IntKind.i64 x.fst.snd.fst.fst) (256 : Int)) (10 : Int)) + ByteArray.size (ByteArray.mk (List.toArray ((46 : UInt8) :: nilL UInt8))) ≤ Go.maxLen)
  ∧ Wr ((256 : Int) ≠ (0 : Int)) ∧ Wr ((Decidable.decide ((0 : Int) ≤ IntKind.wrap IntKind.i64 (Int.tdiv (IntKind.wrap IntKind.i64 x.fst.snd.fst.snd.fst) (256 : Int))) && Decidable.decide (IntKind.wrap IntKind.i64
  (Int.tdiv (IntKind.wrap IntKind.i64 x.fst.snd.fst.snd.fst) (256 : Int)) ≤ (65535 : Ty.El Go.Proofs.YtkimpfoimblhjaaDoor.Lb.I64)) && (Decidable.decide ((10 : Int) = (10 : Ty.El Go.Proofs.YtkimpfoimblhjaaDoor.Lb.I64)) ||
  Decidable.decide ((10 : Int) = (16 : Ty.El Go.Proofs.YtkimpfoimblhjaaDoor.Lb.I64)))) = Bool.true) ∧ Wr (ByteArray.size (dgS (IntKind.wrap IntKind.i64 (Int.tdiv (IntKind.wrap IntKind.i64 x.fst.snd.fst.fst) (256 : Int)))
  (10 : Int) ++ ByteArray.mk (List.toArray ((46 : UInt8) :: nilL UInt8)) ++ dgS (Int.tmod (IntKind.wrap IntKind.i64 x.fst.snd.fst.fst) (256 : Int)) (10 : Int) ++ ByteArray.mk (List.toArray ((46 : UInt8) :: nilL UInt8))) +
  ByteArray.size (dgS (IntKind.wrap IntKind.i64 (Int.tdiv (IntKind.wrap IntKind.i64 x.fst.snd.fst.snd.fst) (256 : Int))) (10 : Int)) ≤ Go.maxLen) ∧ Wr (ByteArray.size (dgS (IntKind.wrap IntKind.i64 (Int.tdiv (IntKind.wrap
  IntKind.i64 x.fst.snd.fst.fst) (256 : Int))) (10 : Int) ++ ByteArray.mk (List.toArray ((46 : UInt8) :: nilL UInt8)) ++ dgS (Int.tmod (IntKind.wrap IntKind.i64 x.fst.snd.fst.fst) (256 : Int)) (10 : Int) ++ ByteArray.mk
  (List.toArray ((46 : UInt8) :: nilL UInt8)) ++ dgS (IntKind.wrap IntKind.i64 (Int.tdiv (IntKind.wrap IntKind.i64 x.fst.snd.fst.snd.fst) (256 : Int))) (10 : Int)) + ByteArray.size (ByteArray.mk (List.toArray ((46 :
  UInt8) :: nilL UInt8))) ≤ Go.maxLen) ∧ Wr ((256 : Int) ≠ (0 : Int)) ∧ Wr ((Decidable.decide ((0 : Int) ≤ Int.tmod (IntKind.wrap IntKind.i64 x.fst.snd.fst.snd.fst) (256 : Int)) && Decidable.decide (Int.tmod (IntKind.wrap
  IntKind.i64 x.fst.snd.fst.snd.fst) (256 : Int) ≤ (65535 : Ty.El Go.Proofs.YtkimpfoimblhjaaDoor.Lb.I64)) && (Decidable.decide ((10 : Int) = (10 : Ty.El Go.Proofs.YtkimpfoimblhjaaDoor.Lb.I64)) || Decidable.decide ((10 :
  Int) = (16 : Ty.El Go.Proofs.YtkimpfoimblhjaaDoor.Lb.I64)))) = Bool.true) ∧ Wr (ByteArray.size (dgS (IntKind.wrap IntKind.i64 (Int.tdiv (IntKind.wrap IntKind.i64 x.fst.snd.fst.fst) (256 : Int))) (10 : Int) ++
  ByteArray.mk (List.toArray ((46 : UInt8) :: nilL UInt8)) ++ dgS (Int.tmod (IntKind.wrap IntKind.i64 x.fst.snd.fst.fst) (256 : Int)) (10 : Int) ++ ByteArray.mk (List.toArray ((46 : UInt8) :: nilL UInt8)) ++ dgS
  (IntKind.wrap IntKind.i64 (Int.tdiv (IntKind.wrap IntKind.i64 x.fst.snd.fst.snd.fst) (256 : Int))) (10 : Int) ++ ByteArray.mk (List.toArray ((46 : UInt8) :: nilL UInt8))) + ByteArray.size (dgS (Int.tmod (IntKind.wrap
  IntKind.i64 x.fst.snd.fst.snd.fst) (256 : Int)) (10 : Int)) ≤ Go.maxLen) ∧ Wr (ByteArray.size (dgS (IntKind.wrap IntKind.i64 (Int.tdiv (IntKind.wrap IntKind.i64 x.fst.snd.fst.fst) (256 : Int))) (10 : Int) ++
  ByteArray.mk (List.toArray ((46 : UInt8) :: nilL UInt8)) ++ dgS (Int.tmod (IntKind.wrap IntKind.i64 x.fst.snd.fst.fst) (256 : Int)) (10 : Int) ++ ByteArray.mk (List.toArray ((46 : UInt8) :: nilL UInt8)) ++ dgS
  (IntKind.wrap IntKind.i64 (Int.tdiv (IntKind.wrap IntKind.i64 x.fst.snd.fst.snd.fst) (256 : Int))) (10 : Int) ++ ByteArray.mk (List.toArray ((46 : UInt8) :: nilL UInt8)) ++ dgS (Int.tmod (IntKind.wrap IntKind.i64
  x.fst.snd.fst.snd.fst) (256 : Int)) (10 : Int)) + ByteArray.size (ByteArray.mk (List.toArray ((58 : UInt8) :: nilL UInt8)) ++ dgS x.fst.snd.snd.fst (10 : Int)) ≤ Go.maxLen) ∧ (dgS (IntKind.wrap IntKind.i64 (Int.tdiv
  (IntKind.wrap IntKind.i64 x.fst.snd.fst.fst) (256 : Int))) (10 : Int) ++ ByteArray.mk (List.toArray ((46 : UInt8) :: nilL UInt8)) ++ dgS (Int.tmod (IntKind.wrap IntKind.i64 x.fst.snd.fst.fst) (256 : Int)) (10 : Int) ++
  ByteArray.mk (List.toArray ((46 : UInt8) :: nilL UInt8)) ++ dgS (IntKind.wrap IntKind.i64 (Int.tdiv (IntKind.wrap IntKind.i64 x.fst.snd.fst.snd.fst) (256 : Int))) (10 : Int) ++ ByteArray.mk (List.toArray ((46 : UInt8)
  :: nilL UInt8)) ++ dgS (Int.tmod (IntKind.wrap IntKind.i64 x.fst.snd.fst.snd.fst) (256 : Int)) (10 : Int) ++ (ByteArray.mk (List.toArray ((58 : UInt8) :: nilL UInt8)) ++ dgS x.fst.snd.snd.fst (10 : Int)), (0 : Int), ())
  = (Go.Ad.text1 x.fst, Go.Ad.text2 x.fst, ())))) := by kernel_rfl
theorem v77_eq : vcFn g77 300 Tryd.f77 cNum = ( ∀ (x : ByteArray × Int × Unit), Wr (Go.Proofs.YtkimpfoimblhjaaDoor.Lb.szOk x.fst = Bool.true) → Wr ((!(Decidable.decide ((↑(ByteArray.size x.fst) : Int) < (1 : Int)) || Decidable.decide ((↑(ByteArray.size x.fst) : Int) >
  (5 : Int))) && Decidable.decide ((↑(ByteArray.size x.fst) : Int) > (1 : Int))) = Bool.true → (0 : Int) ≤ (0 : Int)) ∧ Wr ((!(Decidable.decide ((↑(ByteArray.size x.fst) : Int) < (1 : Int)) || Decidable.decide
  ((↑(ByteArray.size x.fst) : Int) > (5 : Int))) && Decidable.decide ((↑(ByteArray.size x.fst) : Int) > (1 : Int))) = Bool.true → (0 : Int) < (↑(ByteArray.size x.fst) : Int)) ∧ bcase (Decidable.decide ((↑(ByteArray.size
  x.fst) : Int) < (1 : Int)) || Decidable.decide ((↑(ByteArray.size x.fst) : Int) > (5 : Int)) || Decidable.decide ((↑(ByteArray.size x.fst) : Int) > (1 : Int)) && Decidable.decide (byteAt x.fst (Int.toNat (0 : Int)) =
  (48 : Int))) (((0 : Int), Bool.false, ()) = (Go.Ad.num1 x.fst x.snd.fst, Go.Ad.num2 x.fst x.snd.fst, ())) ((Wr (DecRI x.fst (0 : Int) (0 : Int)) ∧ Wr ((0 : Int) = (0 : Int)) ∧ Wr ((0 : Int) = (0 : Int)) ∧ Wr (x.fst =
  x.fst) ∧ Wr (x.snd.fst = x.snd.fst)) ∧ ∀ (x_1 : Int × Int), Wr (DecRI x.fst x_1.fst x_1.snd) → bcase (Decidable.decide (x_1.snd < (↑(ByteArray.size x.fst) : Int))) (Wr ((0 : Int) ≤ x_1.snd) ∧ Wr (x_1.snd <
  (↑(ByteArray.size x.fst) : Int)) ∧ Wr ((!Decidable.decide (byteAt x.fst (Int.toNat x_1.snd) < (48 : Int))) = Bool.true → (0 : Int) ≤ x_1.snd) ∧ Wr ((!Decidable.decide (byteAt x.fst (Int.toNat x_1.snd) < (48 : Int))) =
  Bool.true → x_1.snd < (↑(ByteArray.size x.fst) : Int)) ∧ bcase (Decidable.decide (byteAt x.fst (Int.toNat x_1.snd) < (48 : Int)) || Decidable.decide (byteAt x.fst (Int.toNat x_1.snd) > (57 : Int))) (((0 : Int),
  Bool.false, ()) = (Go.Ad.num1 x.fst x.snd.fst, Go.Ad.num2 x.fst x.snd.fst, ())) (Wr ((0 : Int) ≤ x_1.snd) ∧ Wr (x_1.snd < (↑(ByteArray.size x.fst) : Int)) ∧ Wr (DecRI x.fst (IntKind.wrap IntKind.i64 (IntKind.wrap
  IntKind.i64 (x_1.fst * (10 : Int)) + IntKind.wrap IntKind.i64 (IntKind.wrap IntKind.u8 (byteAt x.fst (Int.toNat x_1.snd) - (48 : Int))))) (IntKind.wrap IntKind.i64 (x_1.snd + (1 : Int)))) ∧ Wr (ByteArray.size x.fst -
  Int.toNat (IntKind.wrap IntKind.i64 (x_1.snd + (1 : Int))) < ByteArray.size x.fst - Int.toNat x_1.snd) ∧ Wr (IntKind.wrap IntKind.i64 (IntKind.wrap IntKind.i64 (x_1.fst * (10 : Int)) + IntKind.wrap IntKind.i64
  (IntKind.wrap IntKind.u8 (byteAt x.fst (Int.toNat x_1.snd) - (48 : Int)))) = IntKind.wrap IntKind.i64 (IntKind.wrap IntKind.i64 (x_1.fst * (10 : Int)) + IntKind.wrap IntKind.i64 (IntKind.wrap IntKind.u8 (byteAt x.fst
  (Int.toNat x_1.snd) - (48 : Int))))) ∧ Wr (IntKind.wrap IntKind.i64 (x_1.snd + (1 : Int)) = IntKind.wrap IntKind.i64 (x_1.snd + (1 : Int))) ∧ Wr (x.fst = x.fst) ∧ Wr (x.snd.fst = x.snd.fst))) ((x_1.fst, Decidable.decide
  (x_1.fst ≤ x.snd.fst), ()) = (Go.Ad.num1 x.fst x.snd.fst, Go.Ad.num2 x.fst x.snd.fst, ())))) := by kernel_rfl
theorem v122_eq : vcFn g122 300 Tryd.f122 cHexR = ( ∀ (x : ByteArray × Unit), Wr (Go.Proofs.YtkimpfoimblhjaaDoor.Lb.szOk x.fst = Bool.true) → bcase (Decidable.decide ((↑(ByteArray.size x.fst) : Int) < (1 : Int)) || Decidable.decide ((↑(ByteArray.size x.fst) : Int) > (4 :
  Int))) (((0 : Int), Bool.false, ()) = (hx1 x.fst, Go.Ad.grp2 x.fst, ())) ((Wr (HexRI x.fst (0 : Int) (0 : Int)) ∧ Wr ((0 : Int) = (0 : Int)) ∧ Wr ((0 : Int) = (0 : Int)) ∧ Wr (x.fst = x.fst)) ∧ ∀ (x_1 : Int × Int), Wr
  (HexRI x.fst x_1.fst x_1.snd) → bcase (Decidable.decide (x_1.snd < (↑(ByteArray.size x.fst) : Int))) (Wr ((0 : Int) ≤ x_1.snd) ∧ Wr (x_1.snd < (↑(ByteArray.size x.fst) : Int)) ∧ bcase (Decidable.decide (byteAt x.fst
  (Int.toNat x_1.snd) ≥ (48 : Int)) && Decidable.decide (byteAt x.fst (Int.toNat x_1.snd) ≤ (57 : Int))) (Wr (HexRI x.fst (IntKind.wrap IntKind.i64 (IntKind.wrap IntKind.i64 (x_1.fst * (16 : Int)) + IntKind.wrap
  IntKind.i64 (IntKind.wrap IntKind.u8 (byteAt x.fst (Int.toNat x_1.snd) - (48 : Int))))) (IntKind.wrap IntKind.i64 (x_1.snd + (1 : Int)))) ∧ Wr (ByteArray.size x.fst - Int.toNat (IntKind.wrap IntKind.i64 (x_1.snd + (1 :
  Int))) < ByteArray.size x.fst - Int.toNat x_1.snd) ∧ Wr (IntKind.wrap IntKind.i64 (IntKind.wrap IntKind.i64 (x_1.fst * (16 : Int)) + IntKind.wrap IntKind.i64 (IntKind.wrap IntKind.u8 (byteAt x.fst (Int.toNat x_1.snd) -
  (48 : Int)))) = IntKind.wrap IntKind.i64 (IntKind.wrap IntKind.i64 (x_1.fst * (16 : Int)) + IntKind.wrap IntKind.i64 (IntKind.wrap IntKind.u8 (byteAt x.fst (Int.toNat x_1.snd) - (48 : Int))))) ∧ Wr (IntKind.wrap
  IntKind.i64 (x_1.snd + (1 : Int)) = IntKind.wrap IntKind.i64 (x_1.snd + (1 : Int))) ∧ Wr (x.fst = x.fst)) (bcase (Decidable.decide (byteAt x.fst (Int.toNat x_1.snd) ≥ (97 : Int)) && Decidable.decide (byteAt x.fst
  (Int.toNat x_1.snd) ≤ (102 : Int))) (Wr (HexRI x.fst (IntKind.wrap IntKind.i64 (IntKind.wrap IntKind.i64 (IntKind.wrap IntKind.i64 (x_1.fst * (16 : Int)) + IntKind.wrap IntKind.i64 (IntKind.wrap IntKind.u8 (byteAt x.fst
  (Int.toNat x_1.snd) - (97 : Int)))) + (10 : Int))) (IntKind.wrap IntKind.i64 (x_1.snd + (1 : Int)))) ∧ Wr (ByteArray.size x.fst - Int.toNat (IntKind.wrap IntKind.i64 (x_1.snd + (1 : Int))) < ByteArray.size x.fst -
  Int.toNat x_1.snd) ∧ Wr (IntKind.wrap IntKind.i64 (IntKind.wrap IntKind.i64 (IntKind.wrap IntKind.i64 (x_1.fst * (16 : Int)) + IntKind.wrap IntKind.i64 (IntKind.wrap IntKind.u8 (byteAt x.fst (Int.toNat x_1.snd) - (97 :
  Int)))) + (10 : Int)) = IntKind.wrap IntKind.i64 (IntKind.wrap IntKind.i64 (IntKind.wrap IntKind.i64 (x_1.fst * (16 : Int)) + IntKind.wrap IntKind.i64 (IntKind.wrap IntKind.u8 (byteAt x.fst (Int.toNat x_1.snd) - (97 :
  Int)))) + (10 : Int))) ∧ Wr (IntKind.wrap IntKind.i64 (x_1.snd + (1 : Int)) = IntKind.wrap IntKind.i64 (x_1.snd + (1 : Int))) ∧ Wr (x.fst = x.fst)) (bcase (Decidable.decide (byteAt x.fst (Int.toNat x_1.snd) ≥ (65 :
  Int)) && Decidable.decide (byteAt x.fst (Int.toNat x_1.snd) ≤ (70 : Int))) (Wr (HexRI x.fst (IntKind.wrap IntKind.i64 (IntKind.wrap IntKind.i64 (IntKind.wrap IntKind.i64 (x_1.fst * (16 : Int)) + IntKind.wrap IntKind.i64
  (IntKind.wrap IntKind.u8 (byteAt x.fst (Int.toNat x_1.snd) - (65 : Int)))) + (10 : Int))) (IntKind.wrap IntKind.i64 (x_1.snd + (1 : Int)))) ∧ Wr (ByteArray.size x.fst - Int.toNat (IntKind.wrap IntKind.i64 (x_1.snd + (1
  : Int))) < ByteArray.size x.fst - Int.toNat x_1.snd) ∧ Wr (IntKind.wrap IntKind.i64 (IntKind.wrap IntKind.i64 (IntKind.wrap IntKind.i64 (x_1.fst * (16 : Int)) + IntKind.wrap IntKind.i64 (IntKind.wrap IntKind.u8 (byteAt
  x.fst (Int.toNat x_1.snd) - (65 : Int)))) + (10 : Int)) = IntKind.wrap IntKind.i64 (IntKind.wrap IntKind.i64 (IntKind.wrap IntKind.i64 (x_1.fst * (16 : Int)) + IntKind.wrap IntKind.i64 (IntKind.wrap IntKind.u8 (byteAt
  x.fst (Int.toNat x_1.snd) - (65 : Int)))) + (10 : Int))) ∧ Wr (IntKind.wrap IntKind.i64 (x_1.snd + (1 : Int)) = IntKind.wrap IntKind.i64 (x_1.snd + (1 : Int))) ∧ Wr (x.fst = x.fst)) (((0 : Int), Bool.false, ()) = (hx1
  x.fst, Go.Ad.grp2 x.fst, ()))))) ((IntKind.wrap IntKind.u16 x_1.fst, Bool.true, ()) = (hx1 x.fst, Go.Ad.grp2 x.fst, ())))) := by kernel_rfl
theorem v60_eq : vcFn g60 300 Tryd.f60 cCutR = ( ∀ (x : ByteArray × Int × Unit), Wr ((Go.Proofs.YtkimpfoimblhjaaDoor.Lb.szOk x.fst && Decidable.decide ((0 : Int) ≤ x.snd.fst) && Decidable.decide (x.snd.fst < (256 : Ty.El Go.Proofs.YtkimpfoimblhjaaDoor.Lb.U8))) =
  Bool.true) → (Wr (CutRI x.fst x.snd.fst (nilL ByteArray) (0 : Int) (0 : Int)) ∧ Wr ((0 : Int) = (0 : Int)) ∧ Wr ((0 : Int) = (0 : Int)) ∧ Wr (x.fst = x.fst) ∧ Wr (x.snd.fst = x.snd.fst) ∧ Wr (nilL ByteArray = nilL
  ByteArray)) ∧ ∀ (x_1 : List ByteArray × Int × Int), Wr (CutRI x.fst x.snd.fst x_1.fst x_1.snd.fst x_1.snd.snd) → bcase (Decidable.decide (x_1.snd.snd < (↑(ByteArray.size x.fst) : Int))) (Wr ((0 : Int) ≤ x_1.snd.snd) ∧
  Wr (x_1.snd.snd < (↑(ByteArray.size x.fst) : Int)) ∧ bcase (Decidable.decide (byteAt x.fst (Int.toNat x_1.snd.snd) = x.snd.fst)) (Wr ((0 : Int) ≤ x_1.snd.fst) ∧ Wr (x_1.snd.fst ≤ x_1.snd.snd) ∧ Wr (x_1.snd.snd ≤
  (↑(ByteArray.size x.fst) : Int)) ∧ Wr ((List.length x_1.fst + List.length (subS x.fst (Int.toNat x_1.snd.fst) (Int.toNat x_1.snd.snd) :: nilL ByteArray)) * (16 : Nat) ≤ (140737488355328 : Nat)) ∧ Wr (CutRI x.fst
  x.snd.fst (x_1.fst ++ subS x.fst (Int.toNat x_1.snd.fst) (Int.toNat x_1.snd.snd) :: nilL ByteArray) (IntKind.wrap IntKind.i64 (x_1.snd.snd + (1 : Int))) (IntKind.wrap IntKind.i64 (x_1.snd.snd + (1 : Int)))) ∧ Wr
  (ByteArray.size x.fst - Int.toNat (IntKind.wrap IntKind.i64 (x_1.snd.snd + (1 : Int))) < ByteArray.size x.fst - Int.toNat x_1.snd.snd) ∧ Wr (IntKind.wrap IntKind.i64 (x_1.snd.snd + (1 : Int)) = IntKind.wrap IntKind.i64
  (x_1.snd.snd + (1 : Int))) ∧ Wr (IntKind.wrap IntKind.i64 (x_1.snd.snd + (1 : Int)) = IntKind.wrap IntKind.i64 (x_1.snd.snd + (1 : Int))) ∧ Wr (x.fst = x.fst) ∧ Wr (x.snd.fst = x.snd.fst) ∧ Wr (x_1.fst ++ subS x.fst
  (Int.toNat x_1.snd.fst) (Int.toNat x_1.snd.snd) :: nilL ByteArray = x_1.fst ++ subS x.fst (Int.toNat x_1.snd.fst) (Int.toNat x_1.snd.snd) :: nilL ByteArray)) (Wr (CutRI x.fst x.snd.fst x_1.fst x_1.snd.fst (IntKind.wrap
  IntKind.i64 (x_1.snd.snd + (1 : Int)))) ∧ Wr (ByteArray.size x.fst - Int.toNat (IntKind.wrap IntKind.i64 (x_1.snd.snd + (1 : Int))) < ByteArray.size x.fst - Int.toNat x_1.snd.snd) ∧ Wr (x_1.snd.fst = x_1.snd.fst) ∧ Wr
  (IntKind.wrap IntKind.i64 (x_1.snd.snd + (1 : Int)) = IntKind.wrap IntKind.i64 (x_1.snd.snd + (1 : Int))) ∧ Wr (x.fst = x.fst) ∧ Wr (x.snd.fst = x.snd.fst) ∧ Wr (x_1.fst = x_1.fst))) (Wr ((0 : Int) ≤ x_1.snd.fst) ∧ Wr
  (x_1.snd.fst ≤ (↑(ByteArray.size x.fst) : Int)) ∧ Wr ((↑(ByteArray.size x.fst) : Int) ≤ (↑(ByteArray.size x.fst) : Int)) ∧ Wr ((List.length x_1.fst + List.length (subS x.fst (Int.toNat x_1.snd.fst) (Int.toNat
  (↑(ByteArray.size x.fst) : Int)) :: nilL ByteArray)) * (16 : Nat) ≤ (140737488355328 : Nat)) ∧ (x_1.fst ++ subS x.fst (Int.toNat x_1.snd.fst) (Int.toNat (↑(ByteArray.size x.fst) : Int)) :: nilL ByteArray, ()) = (cutC
  x.fst x.snd.fst, ()))) := by kernel_rfl
theorem v101_eq : vcFn g101 300 Tryd.f101 cSide = ( ∀ (x : ByteArray × Unit), Wr (Go.Proofs.YtkimpfoimblhjaaDoor.Lb.szOk x.fst = Bool.true) → bcase (Decidable.decide (x.fst = ByteArray.mk (List.toArray (nilL UInt8)))) ((nilL Int, Bool.true, ()) = (Go.Ad.side1 x.fst,
  Go.Ad.side2 x.fst, ())) (Wr ((Go.Proofs.YtkimpfoimblhjaaDoor.Lb.szOk x.fst && Decidable.decide ((0 : Int) ≤ (58 : Int)) && Decidable.decide ((58 : Int) < (256 : Ty.El Go.Proofs.YtkimpfoimblhjaaDoor.Lb.U8))) = Bool.true)
  ∧ (Wr (GoI Go.Ad.grpO (cutC x.fst (58 : Int)) (nilL Int) (0 : Int)) ∧ Wr ((0 : Int) = (0 : Int)) ∧ Wr (cutC x.fst (58 : Int) = cutC x.fst (58 : Int)) ∧ Wr (nilL Int = nilL Int)) ∧ ∀ (x_1 : List Int × Int), Wr (GoI
  Go.Ad.grpO (cutC x.fst (58 : Int)) x_1.fst x_1.snd) → bcase (Decidable.decide (x_1.snd < (↑(List.length (cutC x.fst (58 : Int))) : Int))) (Wr ((0 : Int) ≤ x_1.snd) ∧ Wr (x_1.snd < (↑(List.length (cutC x.fst (58 : Int)))
  : Int)) ∧ Wr (Bool.true = Bool.true) ∧ Wr (Go.Proofs.YtkimpfoimblhjaaDoor.Lb.szOk (List.getD (cutC x.fst (58 : Int)) (Int.toNat x_1.snd) (Ty.zero Ty.str)) = Bool.true) ∧ bcase (!Go.Ad.grp2 (List.getD (cutC x.fst (58 :
  Int)) (Int.toNat x_1.snd) (Ty.zero Ty.str))) ((nilL Int, Bool.false, ()) = (Go.Ad.side1 x.fst, Go.Ad.side2 x.fst, ())) (Wr ((List.length x_1.fst + List.length (hx1 (List.getD (cutC x.fst (58 : Int)) (Int.toNat x_1.snd)
  (Ty.zero Ty.str)) :: nilL Int)) * (2 : Nat) ≤ (140737488355328 : Nat)) ∧ Wr (GoI Go.Ad.grpO (cutC x.fst (58 : Int)) (x_1.fst ++ hx1 (List.getD (cutC x.fst (58 : Int)) (Int.toNat x_1.snd) (Ty.zero Ty.str)) :: nilL Int)
  (IntKind.wrap IntKind.i64 (x_1.snd + (1 : Int)))) ∧ Wr (List.length (cutC x.fst (58 : Int)) - Int.toNat (IntKind.wrap IntKind.i64 (x_1.snd + (1 : Int))) < List.length (cutC x.fst (58 : Int)) - Int.toNat x_1.snd) ∧ Wr
  (IntKind.wrap IntKind.i64 (x_1.snd + (1 : Int)) = IntKind.wrap IntKind.i64 (x_1.snd + (1 : Int))) ∧ Wr (cutC x.fst (58 : Int) = cutC x.fst (58 : Int)) ∧ Wr (x_1.fst ++ hx1 (List.getD (cutC x.fst (58 : Int)) (Int.toNat
  x_1.snd) (Ty.zero Ty.str)) :: nilL Int = x_1.fst ++ hx1 (List.getD (cutC x.fst (58 : Int)) (Int.toNat x_1.snd) (Ty.zero Ty.str)) :: nilL Int))) ((x_1.fst, Bool.true, ()) = (Go.Ad.side1 x.fst, Go.Ad.side2 x.fst, ())))) := by kernel_rfl
theorem v78_eq : vcFn g78 300 Tryd.f78 cSix = ( ∀ (x : ByteArray × Unit), Wr (Go.Proofs.YtkimpfoimblhjaaDoor.Lb.szOk x.fst = Bool.true) → (Wr (FindI x.fst (-1 : Int) (0 : Int)) ∧ Wr ((-1 : Int) = (-1 : Int)) ∧ Wr ((0 : Int) = (0 : Int)) ∧ Wr (x.fst = x.fst) ∧ Wr ((0 :
  Int) = (0 : Int)) ∧ Wr ((0 : Int) = (0 : Int)) ∧ Wr ((0 : Int) = (0 : Int)) ∧ Wr ((0 : Int) = (0 : Int)) ∧ Wr ((0 : Int) = (0 : Int)) ∧ Wr ((0 : Int) = (0 : Int)) ∧ Wr ((0 : Int) = (0 : Int)) ∧ Wr ((0 : Int) = (0 :
  Int)) ∧ Wr ((0 : Int) = (0 : Int)) ∧ Wr ((0 : Int) = (0 : Int)) ∧ Wr ((0 : Int) = (0 : Int)) ∧ Wr ((0 : Int) = (0 : Int)) ∧ Wr ((0 : Int) = (0 : Int)) ∧ Wr ((0 : Int) = (0 : Int)) ∧ Wr ((0 : Int) = (0 : Int)) ∧ Wr ((0 :
  Int) = (0 : Int))) ∧ ∀ (x_1 : Int × Int), Wr (FindI x.fst x_1.fst x_1.snd) → bcase (Decidable.decide (IntKind.wrap IntKind.i64 (x_1.snd + (1 : Int)) < (↑(ByteArray.size x.fst) : Int)) && Decidable.decide (x_1.fst < (0 :
  Int))) (Wr ((0 : Int) ≤ x_1.snd) ∧ Wr (x_1.snd < (↑(ByteArray.size x.fst) : Int)) ∧ Wr (Decidable.decide (byteAt x.fst (Int.toNat x_1.snd) = (58 : Int)) = Bool.true → (0 : Int) ≤ IntKind.wrap IntKind.i64 (x_1.snd + (1 :
  Int))) ∧ Wr (Decidable.decide (byteAt x.fst (Int.toNat x_1.snd) = (58 : Int)) = Bool.true → IntKind.wrap IntKind.i64 (x_1.snd + (1 : Int)) < (↑(ByteArray.size x.fst) : Int)) ∧ bcase (Decidable.decide (byteAt x.fst
  (Int.toNat x_1.snd) = (58 : Int)) && Decidable.decide (byteAt x.fst (Int.toNat (IntKind.wrap IntKind.i64 (x_1.snd + (1 : Int)))) = (58 : Int))) (Wr (FindI x.fst x_1.snd (IntKind.wrap IntKind.i64 (x_1.snd + (1 : Int))))
  ∧ Wr (ByteArray.size x.fst - Int.toNat (IntKind.wrap IntKind.i64 (x_1.snd + (1 : Int))) < ByteArray.size x.fst - Int.toNat x_1.snd) ∧ Wr (x_1.snd = x_1.snd) ∧ Wr (IntKind.wrap IntKind.i64 (x_1.snd + (1 : Int)) =
  IntKind.wrap IntKind.i64 (x_1.snd + (1 : Int))) ∧ Wr (x.fst = x.fst) ∧ Wr ((0 : Int) = (0 : Int)) ∧ Wr ((0 : Int) = (0 : Int)) ∧ Wr ((0 : Int) = (0 : Int)) ∧ Wr ((0 : Int) = (0 : Int)) ∧ Wr ((0 : Int) = (0 : Int)) ∧ Wr
  ((0 : Int) = (0 : Int)) ∧ Wr ((0 : Int) = (0 : Int)) ∧ Wr ((0 : Int) = (0 : Int)) ∧ Wr ((0 : Int) = (0 : Int)) ∧ Wr ((0 : Int) = (0 : Int)) ∧ Wr ((0 : Int) = (0 : Int)) ∧ Wr ((0 : Int) = (0 : Int)) ∧ Wr ((0 : Int) = (0
  : Int)) ∧ Wr ((0 : Int) = (0 : Int)) ∧ Wr ((0 : Int) = (0 : Int)) ∧ Wr ((0 : Int) = (0 : Int))) (Wr (FindI x.fst x_1.fst (IntKind.wrap IntKind.i64 (x_1.snd + (1 : Int)))) ∧ Wr (ByteArray.size x.fst - Int.toNat
  (IntKind.wrap IntKind.i64 (x_1.snd + (1 : Int))) < ByteArray.size x.fst - Int.toNat x_1.snd) ∧ Wr (x_1.fst = x_1.fst) ∧ Wr (IntKind.wrap IntKind.i64 (x_1.snd + (1 : Int)) = IntKind.wrap IntKind.i64 (x_1.snd + (1 :
  Int))) ∧ Wr (x.fst = x.fst) ∧ Wr ((0 : Int) = (0 : Int)) ∧ Wr ((0 : Int) = (0 : Int)) ∧ Wr ((0 : Int) = (0 : Int)) ∧ Wr ((0 : Int) = (0 : Int)) ∧ Wr ((0 : Int) = (0 : Int)) ∧ Wr ((0 : Int) = (0 : Int)) ∧ Wr ((0 : Int) =
  (0 : Int)) ∧ Wr ((0 : Int) = (0 : Int)) ∧ Wr ((0 : Int) = (0 : Int)) ∧ Wr ((0 : Int) = (0 : Int)) ∧ Wr ((0 : Int) = (0 : Int)) ∧ Wr ((0 : Int) = (0 : Int)) ∧ Wr ((0 : Int) = (0 : Int)) ∧ Wr ((0 : Int) = (0 : Int)) ∧ Wr
  ((0 : Int) = (0 : Int)) ∧ Wr ((0 : Int) = (0 : Int)))) (bcase (Decidable.decide (x_1.fst < (0 : Int))) (Wr (Go.Proofs.YtkimpfoimblhjaaDoor.Lb.szOk x.fst = Bool.true) ∧ bcase (!Go.Ad.side2 x.fst || !Decidable.decide
  ((↑(List.length (Go.Ad.side1 x.fst)) : Int) = (8 : Int))) ((((0 : Int), (0 : Int), (0 : Int), (0 : Int), (0 : Int), (0 : Int), (0 : Int), (0 : Int), ()), Bool.false, ()) = (Go.Ad.six1 x.fst, Go.Ad.six2 x.fst, ())) (Wr
  ((0 : Int) ≤ (0 : Int)) ∧ Wr ((0 : Int) ≤ (↑(8 : Nat) : Int)) ∧ Wr ((↑(8 : Nat) : Int) ≤ (↑(8 : Nat) : Int)) ∧ ((List.getD (cpL ((0 : Int) :: (0 : Int) :: (0 : Int) :: (0 : Int) :: (0 : Int) :: (0 : Int) :: (0 : Int) ::
  (0 : Int) :: nilL Int) (Int.toNat (0 : Int)) (Int.toNat (↑(8 : Nat) : Int) - Int.toNat (0 : Int)) (Go.Ad.side1 x.fst)) (0 : Nat) (0 : Int), List.getD (cpL ((0 : Int) :: (0 : Int) :: (0 : Int) :: (0 : Int) :: (0 : Int)
  :: (0 : Int) :: (0 : Int) :: (0 : Int) :: nilL Int) (Int.toNat (0 : Int)) (Int.toNat (↑(8 : Nat) : Int) - Int.toNat (0 : Int)) (Go.Ad.side1 x.fst)) (1 : Nat) (0 : Int), List.getD (cpL ((0 : Int) :: (0 : Int) :: (0 :
  Int) :: (0 : Int) :: (0 : Int) :: (0 : Int) :: (0 : Int) :: (0 : Int) :: nilL Int) (Int.toNat (0 : Int)) (Int.toNat (↑(8 : Nat) : Int) - Int.toNat (0 : Int)) (Go.Ad.side1 x.fst)) (2 : Nat) (0 : Int), List.getD (cpL ((0
  : Int) :: (0 : Int) :: (0 : Int) :: (0 : Int) :: (0 : Int) :: (0 : Int) :: (0 : Int) :: (0 : Int) :: nilL Int) (Int.toNat (0 : Int)) (Int.toNat (↑(8 : Nat) : Int) - Int.toNat (0 : Int)) (Go.Ad.side1 x.fst)) (3 : Nat) (0
  : Int), List.getD (cpL ((0 : Int) :: (0 : Int) :: (0 : Int) :: (0 : Int) :: (0 : Int) :: (0 : Int) :: (0 : Int) :: (0 : Int) :: nilL Int) (Int.toNat (0 : Int)) (Int.toNat (↑(8 : Nat) : Int) - Int.toNat (0 : Int))
  (Go.Ad.side1 x.fst)) (4 : Nat) (0 : Int), List.getD (cpL ((0 : Int) :: (0 : Int) :: (0 : Int) :: (0 : Int) :: (0 : Int) :: (0 : Int) :: (0 : Int) :: (0 : Int) :: nilL Int) (Int.toNat (0 : Int)) (Int.toNat (↑(8 : Nat) :
  Int) - Int.toNat (0 : Int)) (Go.Ad.side1 x.fst)) (5 : Nat) (0 : Int), List.getD (cpL ((0 : Int) :: (0 : Int) :: (0 : Int) :: (0 : Int) :: (0 : Int) :: (0 : Int) :: (0 : Int) :: (0 : Int) :: nilL Int) (Int.toNat (0 :
  Int)) (Int.toNat (↑(8 : Nat) : Int) - Int.toNat (0 : Int)) (Go.Ad.side1 x.fst)) (6 : Nat) (0 : Int), List.getD (cpL ((0 : Int) :: (0 : Int) :: (0 : Int) :: (0 : Int) :: (0 : Int) :: (0 : Int) :: (0 : Int) :: (0 : Int)
  :: nilL Int) (Int.toNat (0 : Int)) (Int.toNat (↑(8 : Nat) : Int) - Int.toNat (0 : Int)) (Go.Ad.side1 x.fst)) (7 : Nat) (0 : Int), ()), Bool.true, ()) = (Go.Ad.six1 x.fst, Go.Ad.six2 x.fst, ()))) (Wr ((0 : Int) ≤ (0 :
  Int)) ∧ Wr ((0 : Int) ≤ x_1.fst) ∧ Wr (x_1.fst ≤ (↑(ByteArray.size x.fst) : Int)) ∧ Wr (Go.Proofs.YtkimpfoimblhjaaDoor.Lb.szOk (subS x.fst (Int.toNat (0 : Int)) (Int.toNat x_1.fst)) = Bool.true) ∧ Wr ((0 : Int) ≤
  IntKind.wrap IntKind.i64 (x_1.fst + (2 : Int))) ∧ Wr (IntKind.wrap IntKind.i64 (x_1.fst + (2 : Int)) ≤ (↑(ByteArray.size x.fst) : Int)) ∧ Wr ((↑(ByteArray.size x.fst) : Int) ≤ (↑(ByteArray.size x.fst) : Int)) ∧ Wr
  (Go.Proofs.YtkimpfoimblhjaaDoor.Lb.szOk (subS x.fst (Int.toNat (IntKind.wrap IntKind.i64 (x_1.fst + (2 : Int)))) (Int.toNat (↑(ByteArray.size x.fst) : Int))) = Bool.true) ∧ bcase (!Go.Ad.side2 (subS x.fst (Int.toNat (0
  : Int)) (Int.toNat x_1.fst)) || !Go.Ad.side2 (subS x.fst (Int.toNat (IntKind.wrap IntKind.i64 (x_1.fst + (2 : Int)))) (Int.toNat (↑(ByteArray.size x.fst) : Int))) || Decidable.decide (IntKind.wrap IntKind.i64
  ((↑(List.length (Go.Ad.side1 (subS x.fst (Int.toNat (0 : Int)) (Int.toNat x_1.fst)))) : Int) + (↑(List.length (Go.Ad.side1 (subS x.fst (Int.toNat (IntKind.wrap IntKind.i64 (x_1.fst + (2 : Int)))) (Int.toNat
  (↑(ByteArray.size x.fst) : Int))))) : Int)) > (7 : Int))) ((((0 : Int), (0 : Int), (0 : Int), (0 : Int), (0 : Int), (0 : Int), (0 : Int), (0 : Int), ()), Bool.false, ()) = (Go.Ad.six1 x.fst, Go.Ad.six2 x.fst, ())) (Wr
  ((0 : Int) ≤ (0 : Int)) ∧ Wr ((0 : Int) ≤ (↑(8 : Nat) : Int)) ∧ Wr ((↑(8 : Nat) : Int) ≤ (↑(8 : Nat) : Int)) ∧ Wr ((0 : Int) ≤ IntKind.wrap IntKind.i64 ((8 : Int) - (↑(List.length (Go.Ad.side1 (subS x.fst (Int.toNat
  (IntKind.wrap IntKind.i64 (x_1.fst + (2 : Int)))) (Int.toNat (↑(ByteArray.size x.fst) : Int))))) : Int))) ∧ Wr (IntKind.wrap IntKind.i64 ((8 : Int) - (↑(List.length (Go.Ad.side1 (subS x.fst (Int.toNat (IntKind.wrap
  IntKind.i64 (x_1.fst + (2 : Int)))) (Int.toNat (↑(ByteArray.size x.fst) : Int))))) : Int)) ≤ (↑(8 : Nat) : Int)) ∧ Wr ((↑(8 : Nat) : Int) ≤ (↑(8 : Nat) : Int)) ∧ ((List.getD (cpL (List.getD (cpL ((0 : Int) :: (0 : Int)
  :: (0 : Int) :: (0 : Int) :: (0 : Int) :: (0 : Int) :: (0 : Int) :: (0 : Int) :: nilL Int) (Int.toNat (0 : Int)) (Int.toNat (↑(8 : Nat) : Int) - Int.toNat (0 : Int)) (Go.Ad.side1 (subS x.fst (Int.toNat (0 : Int))
  (Int.toNat x_1.fst)))) (0 : Nat) (0 : Int) :: List.getD (cpL ((0 : Int) :: (0 : Int) :: (0 : Int) :: (0 : Int) :: (0 : Int) :: (0 : Int) :: (0 : Int) :: (0 : Int) :: nilL Int) (Int.toNat (0 : Int)) (Int.toNat (↑(8 :
  Nat) : Int) - Int.toNat (0 : Int)) (Go.Ad.side1 (subS x.fst (Int.toNat (0 : Int)) (Int.toNat x_1.fst)))) (1 : Nat) (0 : Int) :: List.getD (cpL ((0 : Int) :: (0 : Int) :: (0 : Int) :: (0 : Int) :: (0 : Int) :: (0 : Int)
  :: (0 : Int) :: (0 : Int) :: nilL Int) (Int.toNat (0 : Int)) (Int.toNat (↑(8 : Nat) : Int) - Int.toNat (0 : Int)) (Go.Ad.side1 (subS x.fst (Int.toNat (0 : Int)) (Int.toNat x_1.fst)))) (2 : Nat) (0 : Int) :: List.getD
  (cpL ((0 : Int) :: (0 : Int) :: (0 : Int) :: (0 : Int) :: (0 : Int) :: (0 : Int) :: (0 : Int) :: (0 : Int) :: nilL Int) (Int.toNat (0 : Int)) (Int.toNat (↑(8 : Nat) : Int) - Int.toNat (0 : Int)) (Go.Ad.side1 (subS x.fst
  (Int.toNat (0 : Int)) (Int.toNat x_1.fst)))) (3 : Nat) (0 : Int) :: List.getD (cpL ((0 : Int) :: (0 : Int) :: (0 : Int) :: (0 : Int) :: (0 : Int) :: (0 : Int) :: (0 : Int) :: (0 : Int) :: nilL Int) (Int.toNat (0 : Int))
  (Int.toNat (↑(8 : Nat) : Int) - Int.toNat (0 : Int)) (Go.Ad.side1 (subS x.fst (Int.toNat (0 : Int)) (Int.toNat x_1.fst)))) (4 : Nat) (0 : Int) :: List.getD (cpL ((0 : Int) :: (0 : Int) :: (0 : Int) :: (0 : Int) :: (0 :
  Int) :: (0 : Int) :: (0 : Int) :: (0 : Int) :: nilL Int) (Int.toNat (0 : Int)) (Int.toNat (↑(8 : Nat) : Int) - Int.toNat (0 : Int)) (Go.Ad.side1 (subS x.fst (Int.toNat (0 : Int)) (Int.toNat x_1.fst)))) (5 : Nat) (0 :
  Int) :: List.getD (cpL ((0 : Int) :: (0 : Int) :: (0 : Int) :: (0 : Int) :: (0 : Int) :: (0 : Int) :: (0 : Int) :: (0 : Int) :: nilL Int) (Int.toNat (0 : Int)) (Int.toNat (↑(8 : Nat) : Int) - Int.toNat (0 : Int))
  (Go.Ad.side1 (subS x.fst (Int.toNat (0 : Int)) (Int.toNat x_1.fst)))) (6 : Nat) (0 : Int) :: List.getD (cpL ((0 : Int) :: (0 : Int) :: (0 : Int) :: (0 : Int) :: (0 : Int) :: (0 : Int) :: (0 : Int) :: (0 : Int) :: nilL
  Int) (Int.toNat (0 : Int)) (Int.toNat (↑(8 : Nat) : Int) - Int.toNat (0 : Int)) (Go.Ad.side1 (subS x.fst (Int.toNat (0 : Int)) (Int.toNat x_1.fst)))) (7 : Nat) (0 : Int) :: nilL Int) (Int.toNat (IntKind.wrap IntKind.i64
  ((8 : Int) - (↑(List.length (Go.Ad.side1 (subS x.fst (Int.toNat (IntKind.wrap IntKind.i64 (x_1.fst + (2 : Int)))) (Int.toNat (↑(ByteArray.size x.fst) : Int))))) : Int)))) (Int.toNat (↑(8 : Nat) : Int) - Int.toNat
  (IntKind.wrap IntKind.i64 ((8 : Int) - (↑(List.length (Go.Ad.side1 (subS x.fst (Int.toNat (IntKind.wrap IntKind.i64 (x_1.fst + (2 : Int)))) (Int.toNat (↑(ByteArray.size x.fst) : Int))))) : Int)))) (Go.Ad.side1 (subS
  x.fst (Int.toNat (IntKind.wrap IntKind.i64 (x_1.fst + (2 : Int)))) (Int.toNat (↑(ByteArray.size x.fst) : Int))))) (0 : Nat) (0 : Int), List.getD (cpL (List.getD (cpL ((0 : Int) :: (0 : Int) :: (0 : Int) :: (0 : Int) ::
  (0 : Int) :: (0 : Int) :: (0 : Int) :: (0 : Int) :: nilL Int) (Int.toNat (0 : Int)) (Int.toNat (↑(8 : Nat) : Int) - Int.toNat (0 : Int)) (Go.Ad.side1 (subS x.fst (Int.toNat (0 : Int)) (Int.toNat x_1.fst)))) (0 : Nat) (0
  : Int) :: List.getD (cpL ((0 : Int) :: (0 : Int) :: (0 : Int) :: (0 : Int) :: (0 : Int) :: (0 : Int) :: (0 : Int) :: (0 : Int) :: nilL Int) (Int.toNat (0 : Int)) (Int.toNat (↑(8 : Nat) : Int) - Int.toNat (0 : Int))
  (Go.Ad.side1 (subS x.fst (Int.toNat (0 : Int)) (Int.toNat x_1.fst)))) (1 : Nat) (0 : Int) :: List.getD (cpL ((0 : Int) :: (0 : Int) :: (0 : Int) :: (0 : Int) :: (0 : Int) :: (0 : Int) :: (0 : Int) :: (0 : Int) :: nilL
  Int) (Int.toNat (0 : Int)) (Int.toNat (↑(8 : Nat) : Int) - Int.toNat (0 : Int)) (Go.Ad.side1 (subS x.fst (Int.toNat (0 : Int)) (Int.toNat x_1.fst)))) (2 : Nat) (0 : Int) :: List.getD (cpL ((0 : Int) :: (0 : Int) :: (0 :
  Int) :: (0 : Int) :: (0 : Int) :: (0 : Int) :: (0 : Int) :: (0 : Int) :: nilL Int) (Int.toNat (0 : Int)) (Int.toNat (↑(8 : Nat) : Int) - Int.toNat (0 : Int)) (Go.Ad.side1 (subS x.fst (Int.toNat (0 : Int)) (Int.toNat
  x_1.fst)))) (3 : Nat) (0 : Int) :: List.getD (cpL ((0 : Int) :: (0 : Int) :: (0 : Int) :: (0 : Int) :: (0 : Int) :: (0 : Int) :: (0 : Int) :: (0 : Int) :: nilL Int) (Int.toNat (0 : Int)) (Int.toNat (↑(8 : Nat) : Int) -
  Int.toNat (0 : Int)) (Go.Ad.side1 (subS x.fst (Int.toNat (0 : Int)) (Int.toNat x_1.fst)))) (4 : Nat) (0 : Int) :: List.getD (cpL ((0 : Int) :: (0 : Int) :: (0 : Int) :: (0 : Int) :: (0 : Int) :: (0 : Int) :: (0 : Int)
  :: (0 : Int) :: nilL Int) (Int.toNat (0 : Int)) (Int.toNat (↑(8 : Nat) : Int) - Int.toNat (0 : Int)) (Go.Ad.side1 (subS x.fst (Int.toNat (0 : Int)) (Int.toNat x_1.fst)))) (5 : Nat) (0 : Int) :: List.getD (cpL ((0 : Int)
  :: (0 : Int) :: (0 : Int) :: (0 : Int) :: (0 : Int) :: (0 : Int) :: (0 : Int) :: (0 : Int) :: nilL Int) (Int.toNat (0 : Int)) (Int.toNat (↑(8 : Nat) : Int) - Int.toNat (0 : Int)) (Go.Ad.side1 (subS x.fst (Int.toNat (0 :
  Int)) (Int.toNat x_1.fst)))) (6 : Nat) (0 : Int) :: List.getD (cpL ((0 : Int) :: (0 : Int) :: (0 : Int) :: (0 : Int) :: (0 : Int) :: (0 : Int) :: (0 : Int) :: (0 : Int) :: nilL Int) (Int.toNat (0 : Int)) (Int.toNat (↑(8
  : Nat) : Int) - Int.toNat (0 : Int)) (Go.Ad.side1 (subS x.fst (Int.toNat (0 : Int)) (Int.toNat x_1.fst)))) (7 : Nat) (0 : Int) :: nilL Int) (Int.toNat (IntKind.wrap IntKind.i64 ((8 : Int) - (↑(List.length (Go.Ad.side1
  (subS x.fst (Int.toNat (IntKind.wrap IntKind.i64 (x_1.fst + (2 : Int)))) (Int.toNat (↑(ByteArray.size x.fst) : Int))))) : Int)))) (Int.toNat (↑(8 : Nat) : Int) - Int.toNat (IntKind.wrap IntKind.i64 ((8 : Int) -
  (↑(List.length (Go.Ad.side1 (subS x.fst (Int.toNat (IntKind.wrap IntKind.i64 (x_1.fst + (2 : Int)))) (Int.toNat (↑(ByteArray.size x.fst) : Int))))) : Int)))) (Go.Ad.side1 (subS x.fst (Int.toNat (IntKind.wrap IntKind.i64
  (x_1.fst + (2 : Int)))) (Int.toNat (↑(ByteArray.size x.fst) : Int))))) (1 : Nat) (0 : Int), List.getD (cpL (List.getD (cpL ((0 : Int) :: (0 : Int) :: (0 : Int) :: (0 : Int) :: (0 : Int) :: (0 : Int) :: (0 : Int) :: (0 :
  Int) :: nilL Int) (Int.toNat (0 : Int)) (Int.toNat (↑(8 : Nat) : Int) - Int.toNat (0 : Int)) (Go.Ad.side1 (subS x.fst (Int.toNat (0 : Int)) (Int.toNat x_1.fst)))) (0 : Nat) (0 : Int) :: List.getD (cpL ((0 : Int) :: (0 :
  Int) :: (0 : Int) :: (0 : Int) :: (0 : Int) :: (0 : Int) :: (0 : Int) :: (0 : Int) :: nilL Int) (Int.toNat (0 : Int)) (Int.toNat (↑(8 : Nat) : Int) - Int.toNat (0 : Int)) (Go.Ad.side1 (subS x.fst (Int.toNat (0 : Int))
  (Int.toNat x_1.fst)))) (1 : Nat) (0 : Int) :: List.getD (cpL ((0 : Int) :: (0 : Int) :: (0 : Int) :: (0 : Int) :: (0 : Int) :: (0 : Int) :: (0 : Int) :: (0 : Int) :: nilL Int) (Int.toNat (0 : Int)) (Int.toNat (↑(8 :
  Nat) : Int) - Int.toNat (0 : Int)) (Go.Ad.side1 (subS x.fst (Int.toNat (0 : Int)) (Int.toNat x_1.fst)))) (2 : Nat) (0 : Int) :: List.getD (cpL ((0 : Int) :: (0 : Int) :: (0 : Int) :: (0 : Int) :: (0 : Int) :: (0 : Int)
  :: (0 : Int) :: (0 : Int) :: nilL Int) (Int.toNat (0 : Int)) (Int.toNat (↑(8 : Nat) : Int) - Int.toNat (0 : Int)) (Go.Ad.side1 (subS x.fst (Int.toNat (0 : Int)) (Int.toNat x_1.fst)))) (3 : Nat) (0 : Int) :: List.getD
  (cpL ((0 : Int) :: (0 : Int) :: (0 : Int) :: (0 : Int) :: (0 : Int) :: (0 : Int) :: (0 : Int) :: (0 : Int) :: nilL Int) (Int.toNat (0 : Int)) (Int.toNat (↑(8 : Nat) : Int) - Int.toNat (0 : Int)) (Go.Ad.side1 (subS x.fst
  (Int.toNat (0 : Int)) (Int.toNat x_1.fst)))) (4 : Nat) (0 : Int) :: List.getD (cpL ((0 : Int) :: (0 : Int) :: (0 : Int) :: (0 : Int) :: (0 : Int) :: (0 : Int) :: (0 : Int) :: (0 : Int) :: nilL Int) (Int.toNat (0 : Int))
  (Int.toNat (↑(8 : Nat) : Int) - Int.toNat (0 : Int)) (Go.Ad.side1 (subS x.fst (Int.toNat (0 : Int)) (Int.toNat x_1.fst)))) (5 : Nat) (0 : Int) :: List.getD (cpL ((0 : Int) :: (0 : Int) :: (0 : Int) :: (0 : Int) :: (0 :
  Int) :: (0 : Int) :: (0 : Int) :: (0 : Int) :: nilL Int) (Int.toNat (0 : Int)) (Int.toNat (↑(8 : Nat) : Int) - Int.toNat (0 : Int)) (Go.Ad.side1 (subS x.fst (Int.toNat (0 : Int)) (Int.toNat x_1.fst)))) (6 : Nat) (0 :
  Int) :: List.getD (cpL ((0 : Int) :: (0 : Int) :: (0 : Int) :: (0 : Int) :: (0 : Int) :: (0 : Int) :: (0 : Int) :: (0 : Int) :: nilL Int) (Int.toNat (0 : Int)) (Int.toNat (↑(8 : Nat) : Int) - Int.toNat (0 : Int))
  (Go.Ad.side1 (subS x.fst (Int.toNat (0 : Int)) (Int.toNat x_1.fst)))) (7 : Nat) (0 : Int) :: nilL Int) (Int.toNat (IntKind.wrap IntKind.i64 ((8 : Int) - (↑(List.length (Go.Ad.side1 (subS x.fst (Int.toNat (IntKind.wrap
  IntKind.i64 (x_1.fst + (2 : Int)))) (Int.toNat (↑(ByteArray.size x.fst) : Int))))) : Int)))) (Int.toNat (↑(8 : Nat) : Int) - Int.toNat (IntKind.wrap IntKind.i64 ((8 : Int) - (↑(List.length (Go.Ad.side1 (subS x.fst
  (Int.toNat (IntKind.wrap IntKind.i64 (x_1.fst + (2 : Int)))) (Int.toNat (↑(ByteArray.size x.fst) : Int))))) : Int)))) (Go.Ad.side1 (subS x.fst (Int.toNat (IntKind.wrap IntKind.i64 (x_1.fst + (2 : Int)))) (Int.toNat
  (↑(ByteArray.size x.fst) : Int))))) (2 : Nat) (0 : Int), List.getD (cpL (List.getD (cpL ((0 : Int) :: (0 : Int) :: (0 : Int) :: (0 : Int) :: (0 : Int) :: (0 : Int) :: (0 : Int) :: (0 : Int) :: nilL Int) (Int.toNat (0 :
  Int)) (Int.toNat (↑(8 : Nat) : Int) - Int.toNat (0 : Int)) (Go.Ad.side1 (subS x.fst (Int.toNat (0 : Int)) (Int.toNat x_1.fst)))) (0 : Nat) (0 : Int) :: List.getD (cpL ((0 : Int) :: (0 : Int) :: (0 : Int) :: (0 : Int) ::
  (0 : Int) :: (0 : Int) :: (0 : Int) :: (0 : Int) :: nilL Int) (Int.toNat (0 : Int)) (Int.toNat (↑(8 : Nat) : Int) - Int.toNat (0 : Int)) (Go.Ad.side1 (subS x.fst (Int.toNat (0 : Int)) (Int.toNat x_1.fst)))) (1 : Nat) (0
  : Int) :: List.getD (cpL ((0 : Int) :: (0 : Int) :: (0 : Int) :: (0 : Int) :: (0 : Int) :: (0 : Int) :: (0 : Int) :: (0 : Int) :: nilL Int) (Int.toNat (0 : Int)) (Int.toNat (↑(8 : Nat) : Int) - Int.toNat (0 : Int))
  (Go.Ad.side1 (subS x.fst (Int.toNat (0 : Int)) (Int.toNat x_1.fst)))) (2 : Nat) (0 : Int) :: List.getD (cpL ((0 : Int) :: (0 : Int) :: (0 : Int) :: (0 : Int) :: (0 : Int) :: (0 : Int) :: (0 : Int) :: (0 : Int) :: nilL
  Int) (Int.toNat (0 : Int)) (Int.toNat (↑(8 : Nat) : Int) - Int.toNat (0 : Int)) (Go.Ad.side1 (subS x.fst (Int.toNat (0 : Int)) (Int.toNat x_1.fst)))) (3 : Nat) (0 : Int) :: List.getD (cpL ((0 : Int) :: (0 : Int) :: (0 :
  Int) :: (0 : Int) :: (0 : Int) :: (0 : Int) :: (0 : Int) :: (0 : Int) :: nilL Int) (Int.toNat (0 : Int)) (Int.toNat (↑(8 : Nat) : Int) - Int.toNat (0 : Int)) (Go.Ad.side1 (subS x.fst (Int.toNat (0 : Int)) (Int.toNat
  x_1.fst)))) (4 : Nat) (0 : Int) :: List.getD (cpL ((0 : Int) :: (0 : Int) :: (0 : Int) :: (0 : Int) :: (0 : Int) :: (0 : Int) :: (0 : Int) :: (0 : Int) :: nilL Int) (Int.toNat (0 : Int)) (Int.toNat (↑(8 : Nat) : Int) -
  Int.toNat (0 : Int)) (Go.Ad.side1 (subS x.fst (Int.toNat (0 : Int)) (Int.toNat x_1.fst)))) (5 : Nat) (0 : Int) :: List.getD (cpL ((0 : Int) :: (0 : Int) :: (0 : Int) :: (0 : Int) :: (0 : Int) :: (0 : Int) :: (0 : Int)
  :: (0 : Int) :: nilL Int) (Int.toNat (0 : Int)) (Int.toNat (↑(8 : Nat) : Int) - Int.toNat (0 : Int)) (Go.Ad.side1 (subS x.fst (Int.toNat (0 : Int)) (Int.toNat x_1.fst)))) (6 : Nat) (0 : Int) :: List.getD (cpL ((0 : Int)
  :: (0 : Int) :: (0 : Int) :: (0 : Int) :: (0 : Int) :: (0 : Int) :: (0 : Int) :: (0 : Int) :: nilL Int) (Int.toNat (0 : Int)) (Int.toNat (↑(8 : Nat) : Int) - Int.toNat (0 : Int)) (Go.Ad.side1 (subS x.fst (Int.toNat (0 :
  Int)) (Int.toNat x_1.fst)))) (7 : Nat) (0 : Int) :: nilL Int) (Int.toNat (IntKind.wrap IntKind.i64 ((8 : Int) - (↑(List.length (Go.Ad.side1 (subS x.fst (Int.toNat (IntKind.wrap IntKind.i64 (x_1.fst + (2 : Int))))
  (Int.toNat (↑(ByteArray.size x.fst) : Int))))) : Int)))) (Int.toNat (↑(8 : Nat) : Int) - Int.toNat (IntKind.wrap IntKind.i64 ((8 : Int) - (↑(List.length (Go.Ad.side1 (subS x.fst (Int.toNat (IntKind.wrap IntKind.i64
  (x_1.fst + (2 : Int)))) (Int.toNat (↑(ByteArray.size x.fst) : Int))))) : Int)))) (Go.Ad.side1 (subS x.fst (Int.toNat (IntKind.wrap IntKind.i64 (x_1.fst + (2 : Int)))) (Int.toNat (↑(ByteArray.size x.fst) : Int))))) (3 :
  Nat) (0 : Int), List.getD (cpL (List.getD (cpL ((0 : Int) :: (0 : Int) :: (0 : Int) :: (0 : Int) :: (0 : Int) :: (0 : Int) :: (0 : Int) :: (0 : Int) :: nilL Int) (Int.toNat (0 : Int)) (Int.toNat (↑(8 : Nat) : Int) -
  Int.toNat (0 : Int)) (Go.Ad.side1 (subS x.fst (Int.toNat (0 : Int)) (Int.toNat x_1.fst)))) (0 : Nat) (0 : Int) :: List.getD (cpL ((0 : Int) :: (0 : Int) :: (0 : Int) :: (0 : Int) :: (0 : Int) :: (0 : Int) :: (0 : Int)
  :: (0 : Int) :: nilL Int) (Int.toNat (0 : Int)) (Int.toNat (↑(8 : Nat) : Int) - Int.toNat (0 : Int)) (Go.Ad.side1 (subS x.fst (Int.toNat (0 : Int)) (Int.toNat x_1.fst)))) (1 : Nat) (0 : Int) :: List.getD (cpL ((0 : Int)
  :: (0 : Int) :: (0 : Int) :: (0 : Int) :: (0 : Int) :: (0 : Int) :: (0 : Int) :: (0 : Int) :: nilL Int) (Int.toNat (0 : Int)) (Int.toNat (↑(8 : Nat) : Int) - Int.toNat (0 : Int)) (Go.Ad.side1 (subS x.fst (Int.toNat (0 :
  Int)) (Int.toNat x_1.fst)))) (2 : Nat) (0 : Int) :: List.getD (cpL ((0 : Int) :: (0 : Int) :: (0 : Int) :: (0 : Int) :: (0 : Int) :: (0 : Int) :: (0 : Int) :: (0 : Int) :: nilL Int) (Int.toNat (0 : Int)) (Int.toNat (↑(8
  : Nat) : Int) - Int.toNat (0 : Int)) (Go.Ad.side1 (subS x.fst (Int.toNat (0 : Int)) (Int.toNat x_1.fst)))) (3 : Nat) (0 : Int) :: List.getD (cpL ((0 : Int) :: (0 : Int) :: (0 : Int) :: (0 : Int) :: (0 : Int) :: (0 :
  Int) :: (0 : Int) :: (0 : Int) :: nilL Int) (Int.toNat (0 : Int)) (Int.toNat (↑(8 : Nat) : Int) - Int.toNat (0 : Int)) (Go.Ad.side1 (subS x.fst (Int.toNat (0 : Int)) (Int.toNat x_1.fst)))) (4 : Nat) (0 : Int) ::
  List.getD (cpL ((0 : Int) :: (0 : Int) :: (0 : Int) :: (0 : Int) :: (0 : Int) :: (0 : Int) :: (0 : Int) :: (0 : Int) :: nilL Int) (Int.toNat (0 : Int)) (Int.toNat (↑(8 : Nat) : Int) - Int.toNat (0 : Int)) (Go.Ad.side1
  (subS x.fst (Int.toNat (0 : Int)) (Int.toNat x_1.fst)))) (5 : Nat) (0 : Int) :: List.getD (cpL ((0 : Int) :: (0 : Int) :: (0 : Int) :: (0 : Int) :: (0 : Int) :: (0 : Int) :: (0 : Int) :: (0 : Int) :: nilL Int)
  (Int.toNat (0 : Int)) (Int.toNat (↑(8 : Nat) : Int) - Int.toNat (0 : Int)) (Go.Ad.side1 (subS x.fst (Int.toNat (0 : Int)) (Int.toNat x_1.fst)))) (6 : Nat) (0 : Int) :: List.getD (cpL ((0 : Int) :: (0 : Int) :: (0 : Int)
  :: (0 : Int) :: (0 : Int) :: (0 : Int) :: (0 : Int) :: (0 : Int) :: nilL Int) (Int.toNat (0 : Int)) (Int.toNat (↑(8 : Nat) : Int) - Int.toNat (0 : Int)) (Go.Ad.side1 (subS x.fst (Int.toNat (0 : Int)) (Int.toNat
  x_1.fst)))) (7 : Nat) (0 : Int) :: nilL Int) (Int.toNat (IntKind.wrap IntKind.i64 ((8 : Int) - (↑(List.length (Go.Ad.side1 (subS x.fst (Int.toNat (IntKind.wrap IntKind.i64 (x_1.fst + (2 : Int)))) (Int.toNat
  (↑(ByteArray.size x.fst) : Int))))) : Int)))) (Int.toNat (↑(8 : Nat) : Int) - Int.toNat (IntKind.wrap IntKind.i64 ((8 : Int) - (↑(List.length (Go.Ad.side1 (subS x.fst (Int.toNat (IntKind.wrap IntKind.i64 (x_1.fst + (2 :
  Int)))) (Int.toNat (↑(ByteArray.size x.fst) : Int))))) : Int)))) (Go.Ad.side1 (subS x.fst (Int.toNat (IntKind.wrap IntKind.i64 (x_1.fst + (2 : Int)))) (Int.toNat (↑(ByteArray.size x.fst) : Int))))) (4 : Nat) (0 : Int),
  List.getD (cpL (List.getD (cpL ((0 : Int) :: (0 : Int) :: (0 : Int) :: (0 : Int) :: (0 : Int) :: (0 : Int) :: (0 : Int) :: (0 : Int) :: nilL Int) (Int.toNat (0 : Int)) (Int.toNat (↑(8 : Nat) : Int) - Int.toNat (0 :
  Int)) (Go.Ad.side1 (subS x.fst (Int.toNat (0 : Int)) (Int.toNat x_1.fst)))) (0 : Nat) (0 : Int) :: List.getD (cpL ((0 : Int) :: (0 : Int) :: (0 : Int) :: (0 : Int) :: (0 : Int) :: (0 : Int) :: (0 : Int) :: (0 : Int) ::
  nilL Int) (Int.toNat (0 : Int)) (Int.toNat (↑(8 : Nat) : Int) - Int.toNat (0 : Int)) (Go.Ad.side1 (subS x.fst (Int.toNat (0 : Int)) (Int.toNat x_1.fst)))) (1 : Nat) (0 : Int) :: List.getD (cpL ((0 : Int) :: (0 : Int) ::
  (0 : Int) :: (0 : Int) :: (0 : Int) :: (0 : Int) :: (0 : Int) :: (0 : Int) :: nilL Int) (Int.toNat (0 : Int)) (Int.toNat (↑(8 : Nat) : Int) - Int.toNat (0 : Int)) (Go.Ad.side1 (subS x.fst (Int.toNat (0 : Int))
  (Int.toNat x_1.fst)))) (2 : Nat) (0 : Int) :: List.getD (cpL ((0 : Int) :: (0 : Int) :: (0 : Int) :: (0 : Int) :: (0 : Int) :: (0 : Int) :: (0 : Int) :: (0 : Int) :: nilL Int) (Int.toNat (0 : Int)) (Int.toNat (↑(8 :
  Nat) : Int) - Int.toNat (0 : Int)) (Go.Ad.side1 (subS x.fst (Int.toNat (0 : Int)) (Int.toNat x_1.fst)))) (3 : Nat) (0 : Int) :: List.getD (cpL ((0 : Int) :: (0 : Int) :: (0 : Int) :: (0 : Int) :: (0 : Int) :: (0 : Int)
  :: (0 : Int) :: (0 : Int) :: nilL Int) (Int.toNat (0 : Int)) (Int.toNat (↑(8 : Nat) : Int) - Int.toNat (0 : Int)) (Go.Ad.side1 (subS x.fst (Int.toNat (0 : Int)) (Int.toNat x_1.fst)))) (4 : Nat) (0 : Int) :: List.getD
  (cpL ((0 : Int) :: (0 : Int) :: (0 : Int) :: (0 : Int) :: (0 : Int) :: (0 : Int) :: (0 : Int) :: (0 : Int) :: nilL Int) (Int.toNat (0 : Int)) (Int.toNat (↑(8 : Nat) : Int) - Int.toNat (0 : Int)) (Go.Ad.side1 (subS x.fst
  (Int.toNat (0 : Int)) (Int.toNat x_1.fst)))) (5 : Nat) (0 : Int) :: List.getD (cpL ((0 : Int) :: (0 : Int) :: (0 : Int) :: (0 : Int) :: (0 : Int) :: (0 : Int) :: (0 : Int) :: (0 : Int) :: nilL Int) (Int.toNat (0 : Int))
  (Int.toNat (↑(8 : Nat) : Int) - Int.toNat (0 : Int)) (Go.Ad.side1 (subS x.fst (Int.toNat (0 : Int)) (Int.toNat x_1.fst)))) (6 : Nat) (0 : Int) :: List.getD (cpL ((0 : Int) :: (0 : Int) :: (0 : Int) :: (0 : Int) :: (0 :
  Int) :: (0 : Int) :: (0 : Int) :: (0 : Int) :: nilL Int) (Int.toNat (0 : Int)) (Int.toNat (↑(8 : Nat) : Int) - Int.toNat (0 : Int)) (Go.Ad.side1 (subS x.fst (Int.toNat (0 : Int)) (Int.toNat x_1.fst)))) (7 : Nat) (0 :
  Int) :: nilL Int) (Int.toNat (IntKind.wrap IntKind.i64 ((8 : Int) - (↑(List.length (Go.Ad.side1 (subS x.fst (Int.toNat (IntKind.wrap IntKind.i64 (x_1.fst + (2 : Int)))) (Int.toNat (↑(ByteArray.size x.fst) : Int))))) :
  Int)))) (Int.toNat (↑(8 : Nat) : Int) - Int.toNat (IntKind.wrap IntKind.i64 ((8 : Int) - (↑(List.length (Go.Ad.side1 (subS x.fst (Int.toNat (IntKind.wrap IntKind.i64 (x_1.fst + (2 : Int)))) (Int.toNat (↑(ByteArray.size
  x.fst) : Int))))) : Int)))) (Go.Ad.side1 (subS x.fst (Int.toNat (IntKind.wrap IntKind.i64 (x_1.fst + (2 : Int)))) (Int.toNat (↑(ByteArray.size x.fst) : Int))))) (5 : Nat) (0 : Int), List.getD (cpL (List.getD (cpL ((0 :
  Int) :: (0 : Int) :: (0 : Int) :: (0 : Int) :: (0 : Int) :: (0 : Int) :: (0 : Int) :: (0 : Int) :: nilL Int) (Int.toNat (0 : Int)) (Int.toNat (↑(8 : Nat) : Int) - Int.toNat (0 : Int)) (Go.Ad.side1 (subS x.fst (Int.toNat
  (0 : Int)) (Int.toNat x_1.fst)))) (0 : Nat) (0 : Int) :: List.getD (cpL ((0 : Int) :: (0 : Int) :: (0 : Int) :: (0 : Int) :: (0 : Int) :: (0 : Int) :: (0 : Int) :: (0 : Int) :: nilL Int) (Int.toNat (0 : Int)) (Int.toNat
  (↑(8 : Nat) : Int) - Int.toNat (0 : Int)) (Go.Ad.side1 (subS x.fst (Int.toNat (0 : Int)) (Int.toNat x_1.fst)))) (1 : Nat) (0 : Int) :: List.getD (cpL ((0 : Int) :: (0 : Int) :: (0 : Int) :: (0 : Int) :: (0 : Int) :: (0
  : Int) :: (0 : Int) :: (0 : Int) :: nilL Int) (Int.toNat (0 : Int)) (Int.toNat (↑(8 : Nat) : Int) - Int.toNat (0 : Int)) (Go.Ad.side1 (subS x.fst (Int.toNat (0 : Int)) (Int.toNat x_1.fst)))) (2 : Nat) (0 : Int) ::
  List.getD (cpL ((0 : Int) :: (0 : Int) :: (0 : Int) :: (0 : Int) :: (0 : Int) :: (0 : Int) :: (0 : Int) :: (0 : Int) :: nilL Int) (Int.toNat (0 : Int)) (Int.toNat (↑(8 : Nat) : Int) - Int.toNat (0 : Int)) (Go.Ad.side1
  (subS x.fst (Int.toNat (0 : Int)) (Int.toNat x_1.fst)))) (3 : Nat) (0 : Int) :: List.getD (cpL ((0 : Int) :: (0 : Int) :: (0 : Int) :: (0 : Int) :: (0 : Int) :: (0 : Int) :: (0 : Int) :: (0 : Int) :: nilL Int)
  (Int.toNat (0 : Int)) (Int.toNat (↑(8 : Nat) : Int) - Int.toNat (0 : Int)) (Go.Ad.side1 (subS x.fst (Int.toNat (0 : Int)) (Int.toNat x_1.fst)))) (4 : Nat) (0 : Int) :: List.getD (cpL ((0 : Int) :: (0 : Int) :: (0 : Int)
  :: (0 : Int) :: (0 : Int) :: (0 : Int) :: (0 : Int) :: (0 : Int) :: nilL Int) (Int.toNat (0 : Int)) (Int.toNat (↑(8 : Nat) : Int) - Int.toNat (0 : Int)) (Go.Ad.side1 (subS x.fst (Int.toNat (0 : Int)) (Int.toNat
  x_1.fst)))) (5 : Nat) (0 : Int) :: List.getD (cpL ((0 : Int) :: (0 : Int) :: (0 : Int) :: (0 : Int) :: (0 : Int) :: (0 : Int) :: (0 : Int) :: (0 : Int) :: nilL Int) (Int.toNat (0 : Int)) (Int.toNat (↑(8 : Nat) : Int) -
  Int.toNat (0 : Int)) (Go.Ad.side1 (subS x.fst (Int.toNat (0 : Int)) (Int.toNat x_1.fst)))) (6 : Nat) (0 : Int) :: List.getD (cpL ((0 : Int) :: (0 : Int) :: (0 : Int) :: (0 : Int) :: (0 : Int) :: (0 : Int) :: (0 : Int)
  :: (0 : Int) :: nilL Int) (Int.toNat (0 : Int)) (Int.toNat (↑(8 : Nat) : Int) - Int.toNat (0 : Int)) (Go.Ad.side1 (subS x.fst (Int.toNat (0 : Int)) (Int.toNat x_1.fst)))) (7 : Nat) (0 : Int) :: nilL Int) (Int.toNat
  (IntKind.wrap IntKind.i64 ((8 : Int) - (↑(List.length (Go.Ad.side1 (subS x.fst (Int.toNat (IntKind.wrap IntKind.i64 (x_1.fst + (2 : Int)))) (Int.toNat (↑(ByteArray.size x.fst) : Int))))) : Int)))) (Int.toNat (↑(8 : Nat)
  : Int) - Int.toNat (IntKind.wrap IntKind.i64 ((8 : Int) - (↑(List.length (Go.Ad.side1 (subS x.fst (Int.toNat (IntKind.wrap IntKind.i64 (x_1.fst + (2 : Int)))) (Int.toNat (↑(ByteArray.size x.fst) : Int))))) : Int))))
  (Go.Ad.side1 (subS x.fst (Int.toNat (IntKind.wrap IntKind.i64 (x_1.fst + (2 : Int)))) (Int.toNat (↑(ByteArray.size x.fst) : Int))))) (6 : Nat) (0 : Int), List.getD (cpL (List.getD (cpL ((0 : Int) :: (0 : Int) :: (0 :
  Int) :: (0 : Int) :: (0 : Int) :: (0 : Int) :: (0 : Int) :: (0 : Int) :: nilL Int) (Int.toNat (0 : Int)) (Int.toNat (↑(8 : Nat) : Int) - Int.toNat (0 : Int)) (Go.Ad.side1 (subS x.fst (Int.toNat (0 : Int)) (Int.toNat
  x_1.fst)))) (0 : Nat) (0 : Int) :: List.getD (cpL ((0 : Int) :: (0 : Int) :: (0 : Int) :: (0 : Int) :: (0 : Int) :: (0 : Int) :: (0 : Int) :: (0 : Int) :: nilL Int) (Int.toNat (0 : Int)) (Int.toNat (↑(8 : Nat) : Int) -
  Int.toNat (0 : Int)) (Go.Ad.side1 (subS x.fst (Int.toNat (0 : Int)) (Int.toNat x_1.fst)))) (1 : Nat) (0 : Int) :: List.getD (cpL ((0 : Int) :: (0 : Int) :: (0 : Int) :: (0 : Int) :: (0 : Int) :: (0 : Int) :: (0 : Int)
  :: (0 : Int) :: nilL Int) (Int.toNat (0 : Int)) (Int.toNat (↑(8 : Nat) : Int) - Int.toNat (0 : Int)) (Go.Ad.side1 (subS x.fst (Int.toNat (0 : Int)) (Int.toNat x_1.fst)))) (2 : Nat) (0 : Int) :: List.getD (cpL ((0 : Int)
  :: (0 : Int) :: (0 : Int) :: (0 : Int) :: (0 : Int) :: (0 : Int) :: (0 : Int) :: (0 : Int) :: nilL Int) (Int.toNat (0 : Int)) (Int.toNat (↑(8 : Nat) : Int) - Int.toNat (0 : Int)) (Go.Ad.side1 (subS x.fst (Int.toNat (0 :
  Int)) (Int.toNat x_1.fst)))) (3 : Nat) (0 : Int) :: List.getD (cpL ((0 : Int) :: (0 : Int) :: (0 : Int) :: (0 : Int) :: (0 : Int) :: (0 : Int) :: (0 : Int) :: (0 : Int) :: nilL Int) (Int.toNat (0 : Int)) (Int.toNat (↑(8
  : Nat) : Int) - Int.toNat (0 : Int)) (Go.Ad.side1 (subS x.fst (Int.toNat (0 : Int)) (Int.toNat x_1.fst)))) (4 : Nat) (0 : Int) :: List.getD (cpL ((0 : Int) :: (0 : Int) :: (0 : Int) :: (0 : Int) :: (0 : Int) :: (0 :
  Int) :: (0 : Int) :: (0 : Int) :: nilL Int) (Int.toNat (0 : Int)) (Int.toNat (↑(8 : Nat) : Int) - Int.toNat (0 : Int)) (Go.Ad.side1 (subS x.fst (Int.toNat (0 : Int)) (Int.toNat x_1.fst)))) (5 : Nat) (0 : Int) ::
  List.getD (cpL ((0 : Int) :: (0 : Int) :: (0 : Int) :: (0 : Int) :: (0 : Int) :: (0 : Int) :: (0 : Int) :: (0 : Int) :: nilL Int) (Int.toNat (0 : Int)) (Int.toNat (↑(8 : Nat) : Int) - Int.toNat (0 : Int)) (Go.Ad.side1
  (subS x.fst (Int.toNat (0 : Int)) (Int.toNat x_1.fst)))) (6 : Nat) (0 : Int) :: List.getD (cpL ((0 : Int) :: (0 : Int) :: (0 : Int) :: (0 : Int) :: (0 : Int) :: (0 : Int) :: (0 : Int) :: (0 : Int) :: nilL Int)
  (Int.toNat (0 : Int)) (Int.toNat (↑(8 : Nat) : Int) - Int.toNat (0 : Int)) (Go.Ad.side1 (subS x.fst (Int.toNat (0 : Int)) (Int.toNat x_1.fst)))) (7 : Nat) (0 : Int) :: nilL Int) (Int.toNat (IntKind.wrap IntKind.i64 ((8
  : Int) - (↑(List.length (Go.Ad.side1 (subS x.fst (Int.toNat (IntKind.wrap IntKind.i64 (x_1.fst + (2 : Int)))) (Int.toNat (↑(ByteArray.size x.fst) : Int))))) : Int)))) (Int.toNat (↑(8 : Nat) : Int) - Int.toNat
  (IntKind.wrap IntKind.i64 ((8 : Int) - (↑(List.length (Go.Ad.side1 (subS x.fst (Int.toNat (IntKind.wrap IntKind.i64 (x_1.fst + (2 : Int)))) (Int.toNat (↑(ByteArray.size x.fst) : Int))))) : Int)))) (Go.Ad.side1 (subS
  x.fst (Int.toNat (IntKind.wrap IntKind.i64 (x_1.fst + (2 : Int)))) (Int.toNat (↑(ByteArray.size x.fst) : Int))))) (7 : Nat) (0 : Int), ()), Bool.true, ()) = (Go.Ad.six1 x.fst, Go.Ad.six2 x.fst, ()))))) := by kernel_rfl
theorem v46_eq : vcFn g46 300 Tryd.f46 cParse = ( ∀ (x : ByteArray × Unit), Wr (Go.Proofs.YtkimpfoimblhjaaDoor.Lb.szOk x.fst = Bool.true) → (Wr (Cl8I x.fst (-1 : Int) (0 : Int)) ∧ Wr ((-1 : Int) = (-1 : Int)) ∧ Wr ((0 : Int) = (0 : Int)) ∧ Wr (x.fst = x.fst) ∧ Wr ((0 :
  Int) = (0 : Int)) ∧ Wr ((0 : Int) = (0 : Int)) ∧ Wr ((0 : Int) = (0 : Int)) ∧ Wr ((0 : Int) = (0 : Int)) ∧ Wr ((0 : Int) = (0 : Int)) ∧ Wr ((0 : Int) = (0 : Int)) ∧ Wr ((0 : Int) = (0 : Int)) ∧ Wr ((0 : Int) = (0 :
  Int)) ∧ Wr ((0 : Int) = (0 : Int)) ∧ Wr ((0 : Int) = (0 : Int))) ∧ ∀ (x_1 : Int × Int), Wr (Cl8I x.fst x_1.fst x_1.snd) → bcase (Decidable.decide (x_1.snd < (↑(ByteArray.size x.fst) : Int))) (Wr ((0 : Int) ≤ x_1.snd) ∧
  Wr (x_1.snd < (↑(ByteArray.size x.fst) : Int)) ∧ bcase (Decidable.decide (byteAt x.fst (Int.toNat x_1.snd) = (58 : Int))) (Wr (Cl8I x.fst x_1.snd (IntKind.wrap IntKind.i64 (x_1.snd + (1 : Int)))) ∧ Wr (ByteArray.size
  x.fst - Int.toNat (IntKind.wrap IntKind.i64 (x_1.snd + (1 : Int))) < ByteArray.size x.fst - Int.toNat x_1.snd) ∧ Wr (x_1.snd = x_1.snd) ∧ Wr (IntKind.wrap IntKind.i64 (x_1.snd + (1 : Int)) = IntKind.wrap IntKind.i64
  (x_1.snd + (1 : Int))) ∧ Wr (x.fst = x.fst) ∧ Wr ((0 : Int) = (0 : Int)) ∧ Wr ((0 : Int) = (0 : Int)) ∧ Wr ((0 : Int) = (0 : Int)) ∧ Wr ((0 : Int) = (0 : Int)) ∧ Wr ((0 : Int) = (0 : Int)) ∧ Wr ((0 : Int) = (0 : Int)) ∧
  Wr ((0 : Int) = (0 : Int)) ∧ Wr ((0 : Int) = (0 : Int)) ∧ Wr ((0 : Int) = (0 : Int)) ∧ Wr ((0 : Int) = (0 : Int))) (Wr (Cl8I x.fst x_1.fst (IntKind.wrap IntKind.i64 (x_1.snd + (1 : Int)))) ∧ Wr (ByteArray.size x.fst -
  Int.toNat (IntKind.wrap IntKind.i64 (x_1.snd + (1 : Int))) < ByteArray.size x.fst - Int.toNat x_1.snd) ∧ Wr (x_1.fst = x_1.fst) ∧ Wr (IntKind.wrap IntKind.i64 (x_1.snd + (1 : Int)) = IntKind.wrap IntKind.i64 (x_1.snd +
  (1 : Int))) ∧ Wr (x.fst = x.fst) ∧ Wr ((0 : Int) = (0 : Int)) ∧ Wr ((0 : Int) = (0 : Int)) ∧ Wr ((0 : Int) = (0 : Int)) ∧ Wr ((0 : Int) = (0 : Int)) ∧ Wr ((0 : Int) = (0 : Int)) ∧ Wr ((0 : Int) = (0 : Int)) ∧ Wr ((0 :
  Int) = (0 : Int)) ∧ Wr ((0 : Int) = (0 : Int)) ∧ Wr ((0 : Int) = (0 : Int)) ∧ Wr ((0 : Int) = (0 : Int)))) (bcase (Decidable.decide (x_1.fst < (1 : Int))) ((((0 : Int), ((0 : Int), (0 : Int), (0 : Int), (0 : Int), (0 :
  Int), (0 : Int), (0 : Int), (0 : Int), ()), (0 : Int), ()), (20 : Int), ()) = (Go.Ad.parse1 x.fst, Go.Ad.parse2 x.fst, ())) (Wr ((0 : Int) ≤ IntKind.wrap IntKind.i64 (x_1.fst + (1 : Int))) ∧ Wr (IntKind.wrap IntKind.i64
  (x_1.fst + (1 : Int)) ≤ (↑(ByteArray.size x.fst) : Int)) ∧ Wr ((↑(ByteArray.size x.fst) : Int) ≤ (↑(ByteArray.size x.fst) : Int)) ∧ Wr (Go.Proofs.YtkimpfoimblhjaaDoor.Lb.szOk (subS x.fst (Int.toNat (IntKind.wrap
  IntKind.i64 (x_1.fst + (1 : Int)))) (Int.toNat (↑(ByteArray.size x.fst) : Int))) = Bool.true) ∧ bcase (!Go.Ad.num2 (subS x.fst (Int.toNat (IntKind.wrap IntKind.i64 (x_1.fst + (1 : Int)))) (Int.toNat (↑(ByteArray.size
  x.fst) : Int))) (65535 : Int) || Decidable.decide (Go.Ad.num1 (subS x.fst (Int.toNat (IntKind.wrap IntKind.i64 (x_1.fst + (1 : Int)))) (Int.toNat (↑(ByteArray.size x.fst) : Int))) (65535 : Int) = (0 : Int))) ((((0 :
  Int), ((0 : Int), (0 : Int), (0 : Int), (0 : Int), (0 : Int), (0 : Int), (0 : Int), (0 : Int), ()), (0 : Int), ()), (20 : Int), ()) = (Go.Ad.parse1 x.fst, Go.Ad.parse2 x.fst, ())) (Wr ((0 : Int) ≤ (0 : Int)) ∧ Wr ((0 :
  Int) < (↑(ByteArray.size x.fst) : Int)) ∧ bcase (Decidable.decide (byteAt x.fst (Int.toNat (0 : Int)) = (91 : Int))) (Wr ((!Decidable.decide (x_1.fst < (2 : Int))) = Bool.true → (0 : Int) ≤ IntKind.wrap IntKind.i64
  (x_1.fst - (1 : Int))) ∧ Wr ((!Decidable.decide (x_1.fst < (2 : Int))) = Bool.true → IntKind.wrap IntKind.i64 (x_1.fst - (1 : Int)) < (↑(ByteArray.size x.fst) : Int)) ∧ bcase (Decidable.decide (x_1.fst < (2 : Int)) ||
  !Decidable.decide (byteAt x.fst (Int.toNat (IntKind.wrap IntKind.i64 (x_1.fst - (1 : Int)))) = (93 : Int))) ((((0 : Int), ((0 : Int), (0 : Int), (0 : Int), (0 : Int), (0 : Int), (0 : Int), (0 : Int), (0 : Int), ()), (0
  : Int), ()), (20 : Int), ()) = (Go.Ad.parse1 x.fst, Go.Ad.parse2 x.fst, ())) (Wr ((0 : Int) ≤ (1 : Int)) ∧ Wr ((1 : Int) ≤ IntKind.wrap IntKind.i64 (x_1.fst - (1 : Int))) ∧ Wr (IntKind.wrap IntKind.i64 (x_1.fst - (1 :
  Int)) ≤ (↑(ByteArray.size x.fst) : Int)) ∧ Wr (Go.Proofs.YtkimpfoimblhjaaDoor.Lb.szOk (subS x.fst (Int.toNat (1 : Int)) (Int.toNat (IntKind.wrap IntKind.i64 (x_1.fst - (1 : Int))))) = Bool.true) ∧ bcase (!Go.Ad.six2
  (subS x.fst (Int.toNat (1 : Int)) (Int.toNat (IntKind.wrap IntKind.i64 (x_1.fst - (1 : Int)))))) ((((0 : Int), ((0 : Int), (0 : Int), (0 : Int), (0 : Int), (0 : Int), (0 : Int), (0 : Int), (0 : Int), ()), (0 : Int),
  ()), (20 : Int), ()) = (Go.Ad.parse1 x.fst, Go.Ad.parse2 x.fst, ())) ((((6 : Int), Go.Ad.six1 (subS x.fst (Int.toNat (1 : Int)) (Int.toNat (IntKind.wrap IntKind.i64 (x_1.fst - (1 : Int))))), Go.Ad.num1 (subS x.fst
  (Int.toNat (IntKind.wrap IntKind.i64 (x_1.fst + (1 : Int)))) (Int.toNat (↑(ByteArray.size x.fst) : Int))) (65535 : Int), ()), (0 : Int), ()) = (Go.Ad.parse1 x.fst, Go.Ad.parse2 x.fst, ())))) (Wr ((0 : Int) ≤ (0 : Int))
  ∧ Wr ((0 : Int) ≤ x_1.fst) ∧ Wr (x_1.fst ≤ (↑(ByteArray.size x.fst) : Int)) ∧ Wr ((Go.Proofs.YtkimpfoimblhjaaDoor.Lb.szOk (subS x.fst (Int.toNat (0 : Int)) (Int.toNat x_1.fst)) && Decidable.decide ((0 : Int) ≤ (46 :
  Int)) && Decidable.decide ((46 : Int) < (256 : Ty.El Go.Proofs.YtkimpfoimblhjaaDoor.Lb.U8))) = Bool.true) ∧ bcase (!Decidable.decide ((↑(List.length (cutC (subS x.fst (Int.toNat (0 : Int)) (Int.toNat x_1.fst)) (46 :
  Int))) : Int) = (4 : Int))) ((((0 : Int), ((0 : Int), (0 : Int), (0 : Int), (0 : Int), (0 : Int), (0 : Int), (0 : Int), (0 : Int), ()), (0 : Int), ()), (20 : Int), ()) = (Go.Ad.parse1 x.fst, Go.Ad.parse2 x.fst, ()))
  ((Wr (Four2I (cutC (subS x.fst (Int.toNat (0 : Int)) (Int.toNat x_1.fst)) (46 : Int)) (Go.Ad.num1 (subS x.fst (Int.toNat (IntKind.wrap IntKind.i64 (x_1.fst + (1 : Int)))) (Int.toNat (↑(ByteArray.size x.fst) : Int)))
  (65535 : Int)) ((4 : Int), ((0 : Int), (0 : Int), (0 : Int), (0 : Int), (0 : Int), (0 : Int), (0 : Int), (0 : Int), ()), Go.Ad.num1 (subS x.fst (Int.toNat (IntKind.wrap IntKind.i64 (x_1.fst + (1 : Int)))) (Int.toNat
  (↑(ByteArray.size x.fst) : Int))) (65535 : Int), ()) (0 : Int)) ∧ Wr ((0 : Int) = (0 : Int)) ∧ Wr (Go.Ad.num1 (subS x.fst (Int.toNat (IntKind.wrap IntKind.i64 (x_1.fst + (1 : Int)))) (Int.toNat (↑(ByteArray.size x.fst)
  : Int))) (65535 : Int) = Go.Ad.num1 (subS x.fst (Int.toNat (IntKind.wrap IntKind.i64 (x_1.fst + (1 : Int)))) (Int.toNat (↑(ByteArray.size x.fst) : Int))) (65535 : Int)) ∧ Wr (cutC (subS x.fst (Int.toNat (0 : Int))
  (Int.toNat x_1.fst)) (46 : Int) = cutC (subS x.fst (Int.toNat (0 : Int)) (Int.toNat x_1.fst)) (46 : Int)) ∧ Wr ((4 : Int) = (4 : Int)) ∧ Wr ((0 : Int) = (0 : Int)) ∧ Wr ((0 : Int) = (0 : Int)) ∧ Wr ((0 : Int) = (0 :
  Int)) ∧ Wr ((0 : Int) = (0 : Int)) ∧ Wr ((0 : Int) = (0 : Int)) ∧ Wr ((0 : Int) = (0 : Int)) ∧ Wr ((0 : Int) = (0 : Int)) ∧ Wr ((0 : Int) = (0 : Int)) ∧ Wr (Go.Ad.num1 (subS x.fst (Int.toNat (IntKind.wrap IntKind.i64
  (x_1.fst + (1 : Int)))) (Int.toNat (↑(ByteArray.size x.fst) : Int))) (65535 : Int) = Go.Ad.num1 (subS x.fst (Int.toNat (IntKind.wrap IntKind.i64 (x_1.fst + (1 : Int)))) (Int.toNat (↑(ByteArray.size x.fst) : Int)))
  (65535 : Int)) ∧ Wr ((0 : Int) = (0 : Int)) ∧ Wr ((0 : Int) = (0 : Int)) ∧ Wr ((0 : Int) = (0 : Int)) ∧ Wr ((0 : Int) = (0 : Int)) ∧ Wr ((0 : Int) = (0 : Int)) ∧ Wr ((0 : Int) = (0 : Int)) ∧ Wr ((0 : Int) = (0 : Int)) ∧
  Wr ((0 : Int) = (0 : Int)) ∧ Wr ((0 : Int) = (0 : Int)) ∧ Wr ((0 : Int) = (0 : Int))) ∧ ∀ (x_2 : (Int × (Int × Int × Int × Int × Int × Int × Int × Int × Unit) × Int × Unit) × Int), Wr (Four2I (cutC (subS x.fst
  (Int.toNat (0 : Int)) (Int.toNat x_1.fst)) (46 : Int)) (Go.Ad.num1 (subS x.fst (Int.toNat (IntKind.wrap IntKind.i64 (x_1.fst + (1 : Int)))) (Int.toNat (↑(ByteArray.size x.fst) : Int))) (65535 : Int)) x_2.fst x_2.snd) →
  bcase (Decidable.decide (x_2.snd < (4 : Int))) (Wr ((0 : Int) ≤ x_2.snd) ∧ Wr (x_2.snd < (↑(List.length (cutC (subS x.fst (Int.toNat (0 : Int)) (Int.toNat x_1.fst)) (46 : Int))) : Int)) ∧ Wr (Bool.true = Bool.true) ∧ Wr
  (Go.Proofs.YtkimpfoimblhjaaDoor.Lb.szOk (List.getD (cutC (subS x.fst (Int.toNat (0 : Int)) (Int.toNat x_1.fst)) (46 : Int)) (Int.toNat x_2.snd) (Ty.zero Ty.str)) = Bool.true) ∧ bcase (!Go.Ad.num2 (List.getD (cutC (subS
  x.fst (Int.toNat (0 : Int)) (Int.toNat x_1.fst)) (46 : Int)) (Int.toNat x_2.snd) (Ty.zero Ty.str)) (255 : Int)) ((((0 : Int), ((0 : Int), (0 : Int), (0 : Int), (0 : Int), (0 : Int), (0 : Int), (0 : Int), (0 : Int), ()),
  (0 : Int), ()), (20 : Int), ()) = (Go.Ad.parse1 x.fst, Go.Ad.parse2 x.fst, ())) (Wr ((2 : Int) ≠ (0 : Int)) ∧ Wr ((2 : Int) ≠ (0 : Int)) ∧ Wr ((0 : Int) ≤ IntKind.wrap IntKind.i64 (Int.tdiv x_2.snd (2 : Int))) ∧ Wr
  (IntKind.wrap IntKind.i64 (Int.tdiv x_2.snd (2 : Int)) < (↑(8 : Nat) : Int)) ∧ Wr ((0 : Int) ≤ IntKind.wrap IntKind.i64 (Int.tdiv x_2.snd (2 : Int))) ∧ Wr (IntKind.wrap IntKind.i64 (Int.tdiv x_2.snd (2 : Int)) < (↑(8 :
  Nat) : Int)) ∧ Wr (Four2I (cutC (subS x.fst (Int.toNat (0 : Int)) (Int.toNat x_1.fst)) (46 : Int)) (Go.Ad.num1 (subS x.fst (Int.toNat (IntKind.wrap IntKind.i64 (x_1.fst + (1 : Int)))) (Int.toNat (↑(ByteArray.size x.fst)
  : Int))) (65535 : Int)) (x_2.fst.fst, (List.getD (List.set (x_2.fst.snd.fst.fst :: x_2.fst.snd.fst.snd.fst :: x_2.fst.snd.fst.snd.snd.fst :: x_2.fst.snd.fst.snd.snd.snd.fst :: x_2.fst.snd.fst.snd.snd.snd.snd.fst ::
  x_2.fst.snd.fst.snd.snd.snd.snd.snd.fst :: x_2.fst.snd.fst.snd.snd.snd.snd.snd.snd.fst :: x_2.fst.snd.fst.snd.snd.snd.snd.snd.snd.snd.fst :: nilL Int) (Int.toNat (IntKind.wrap IntKind.i64 (Int.tdiv x_2.snd (2 : Int))))
  (IntKind.wrap IntKind.u16 (IntKind.wrap IntKind.u16 (List.getD (x_2.fst.snd.fst.fst :: x_2.fst.snd.fst.snd.fst :: x_2.fst.snd.fst.snd.snd.fst :: x_2.fst.snd.fst.snd.snd.snd.fst :: x_2.fst.snd.fst.snd.snd.snd.snd.fst ::
  x_2.fst.snd.fst.snd.snd.snd.snd.snd.fst :: x_2.fst.snd.fst.snd.snd.snd.snd.snd.snd.fst :: x_2.fst.snd.fst.snd.snd.snd.snd.snd.snd.snd.fst :: nilL Int) (Int.toNat (IntKind.wrap IntKind.i64 (Int.tdiv x_2.snd (2 : Int))))
  (0 : Int) * (256 : Int)) + IntKind.wrap IntKind.u16 (Go.Ad.num1 (List.getD (cutC (subS x.fst (Int.toNat (0 : Int)) (Int.toNat x_1.fst)) (46 : Int)) (Int.toNat x_2.snd) (Ty.zero Ty.str)) (255 : Int))))) (0 : Nat) (0 :
  Int), List.getD (List.set (x_2.fst.snd.fst.fst :: x_2.fst.snd.fst.snd.fst :: x_2.fst.snd.fst.snd.snd.fst :: x_2.fst.snd.fst.snd.snd.snd.fst :: x_2.fst.snd.fst.snd.snd.snd.snd.fst ::
  x_2.fst.snd.fst.snd.snd.snd.snd.snd.fst :: x_2.fst.snd.fst.snd.snd.snd.snd.snd.snd.fst :: x_2.fst.snd.fst.snd.snd.snd.snd.snd.snd.snd.fst :: nilL Int) (Int.toNat (IntKind.wrap IntKind.i64 (Int.tdiv x_2.snd (2 : Int))))
  (IntKind.wrap IntKind.u16 (IntKind.wrap IntKind.u16 (List.getD (x_2.fst.snd.fst.fst :: x_2.fst.snd.fst.snd.fst :: x_2.fst.snd.fst.snd.snd.fst :: x_2.fst.snd.fst.snd.snd.snd.fst :: x_2.fst.snd.fst.snd.snd.snd.snd.fst ::
  x_2.fst.snd.fst.snd.snd.snd.snd.snd.fst :: x_2.fst.snd.fst.snd.snd.snd.snd.snd.snd.fst :: x_2.fst.snd.fst.snd.snd.snd.snd.snd.snd.snd.fst :: nilL Int) (Int.toNat (IntKind.wrap IntKind.i64 (Int.tdiv x_2.snd (2 : Int))))
  (0 : Int) * (256 : Int)) + IntKind.wrap IntKind.u16 (Go.Ad.num1 (List.getD (cutC (subS x.fst (Int.toNat (0 : Int)) (Int.toNat x_1.fst)) (46 : Int)) (Int.toNat x_2.snd) (Ty.zero Ty.str)) (255 : Int))))) (1 : Nat) (0 :
  Int), List.getD (List.set (x_2.fst.snd.fst.fst :: x_2.fst.snd.fst.snd.fst :: x_2.fst.snd.fst.snd.snd.fst :: x_2.fst.snd.fst.snd.snd.snd.fst :: x_2.fst.snd.fst.snd.snd.snd.snd.fst ::
  x_2.fst.snd.fst.snd.snd.snd.snd.snd.fst :: x_2.fst.snd.fst.snd.snd.snd.snd.snd.snd.fst :: x_2.fst.snd.fst.snd.snd.snd.snd.snd.snd.snd.fst :: nilL Int) (Int.toNat (IntKind.wrap IntKind.i64 (Int.tdiv x_2.snd (2 : Int))))
  (IntKind.wrap IntKind.u16 (IntKind.wrap IntKind.u16 (List.getD (x_2.fst.snd.fst.fst :: x_2.fst.snd.fst.snd.fst :: x_2.fst.snd.fst.snd.snd.fst :: x_2.fst.snd.fst.snd.snd.snd.fst :: x_2.fst.snd.fst.snd.snd.snd.snd.fst ::
  x_2.fst.snd.fst.snd.snd.snd.snd.snd.fst :: x_2.fst.snd.fst.snd.snd.snd.snd.snd.snd.fst :: x_2.fst.snd.fst.snd.snd.snd.snd.snd.snd.snd.fst :: nilL Int) (Int.toNat (IntKind.wrap IntKind.i64 (Int.tdiv x_2.snd (2 : Int))))
  (0 : Int) * (256 : Int)) + IntKind.wrap IntKind.u16 (Go.Ad.num1 (List.getD (cutC (subS x.fst (Int.toNat (0 : Int)) (Int.toNat x_1.fst)) (46 : Int)) (Int.toNat x_2.snd) (Ty.zero Ty.str)) (255 : Int))))) (2 : Nat) (0 :
  Int), List.getD (List.set (x_2.fst.snd.fst.fst :: x_2.fst.snd.fst.snd.fst :: x_2.fst.snd.fst.snd.snd.fst :: x_2.fst.snd.fst.snd.snd.snd.fst :: x_2.fst.snd.fst.snd.snd.snd.snd.fst ::
  x_2.fst.snd.fst.snd.snd.snd.snd.snd.fst :: x_2.fst.snd.fst.snd.snd.snd.snd.snd.snd.fst :: x_2.fst.snd.fst.snd.snd.snd.snd.snd.snd.snd.fst :: nilL Int) (Int.toNat (IntKind.wrap IntKind.i64 (Int.tdiv x_2.snd (2 : Int))))
  (IntKind.wrap IntKind.u16 (IntKind.wrap IntKind.u16 (List.getD (x_2.fst.snd.fst.fst :: x_2.fst.snd.fst.snd.fst :: x_2.fst.snd.fst.snd.snd.fst :: x_2.fst.snd.fst.snd.snd.snd.fst :: x_2.fst.snd.fst.snd.snd.snd.snd.fst ::
  x_2.fst.snd.fst.snd.snd.snd.snd.snd.fst :: x_2.fst.snd.fst.snd.snd.snd.snd.snd.snd.fst :: x_2.fst.snd.fst.snd.snd.snd.snd.snd.snd.snd.fst :: nilL Int) (Int.toNat (IntKind.wrap IntKind.i64 (Int.tdiv x_2.snd (2 : Int))))
  (0 : Int) * (256 : Int)) + IntKind.wrap IntKind.u16 (Go.Ad.num1 (List.getD (cutC (subS x.fst (Int.toNat (0 : Int)) (Int.toNat x_1.fst)) (46 : Int)) (Int.toNat x_2.snd) (Ty.zero Ty.str)) (255 : Int))))) (3 : Nat) (0 :
  Int), List.getD (List.set (x_2.fst.snd.fst.fst :: x_2.fst.snd.fst.snd.fst :: x_2.fst.snd.fst.snd.snd.fst :: x_2.fst.snd.fst.snd.snd.snd.fst :: x_2.fst.snd.fst.snd.snd.snd.snd.fst ::
  x_2.fst.snd.fst.snd.snd.snd.snd.snd.fst :: x_2.fst.snd.fst.snd.snd.snd.snd.snd.snd.fst :: x_2.fst.snd.fst.snd.snd.snd.snd.snd.snd.snd.fst :: nilL Int) (Int.toNat (IntKind.wrap IntKind.i64 (Int.tdiv x_2.snd (2 : Int))))
  (IntKind.wrap IntKind.u16 (IntKind.wrap IntKind.u16 (List.getD (x_2.fst.snd.fst.fst :: x_2.fst.snd.fst.snd.fst :: x_2.fst.snd.fst.snd.snd.fst :: x_2.fst.snd.fst.snd.snd.snd.fst :: x_2.fst.snd.fst.snd.snd.snd.snd.fst ::
  x_2.fst.snd.fst.snd.snd.snd.snd.snd.fst :: x_2.fst.snd.fst.snd.snd.snd.snd.snd.snd.fst :: x_2.fst.snd.fst.snd.snd.snd.snd.snd.snd.snd.fst :: nilL Int) (Int.toNat (IntKind.wrap IntKind.i64 (Int.tdiv x_2.snd (2 : Int))))
  (0 : Int) * (256 : Int)) + IntKind.wrap IntKind.u16 (Go.Ad.num1 (List.getD (cutC (subS x.fst (Int.toNat (0 : Int)) (Int.toNat x_1.fst)) (46 : Int)) (Int.toNat x_2.snd) (Ty.zero Ty.str)) (255 : Int))))) (4 : Nat) (0 :
  Int), List.getD (List.set (x_2.fst.snd.fst.fst :: x_2.fst.snd.fst.snd.fst :: x_2.fst.snd.fst.snd.snd.fst :: x_2.fst.snd.fst.snd.snd.snd.fst :: x_2.fst.snd.fst.snd.snd.snd.snd.fst ::
  x_2.fst.snd.fst.snd.snd.snd.snd.snd.fst :: x_2.fst.snd.fst.snd.snd.snd.snd.snd.snd.fst :: x_2.fst.snd.fst.snd.snd.snd.snd.snd.snd.snd.fst :: nilL Int) (Int.toNat (IntKind.wrap IntKind.i64 (Int.tdiv x_2.snd (2 : Int))))
  (IntKind.wrap IntKind.u16 (IntKind.wrap IntKind.u16 (List.getD (x_2.fst.snd.fst.fst :: x_2.fst.snd.fst.snd.fst :: x_2.fst.snd.fst.snd.snd.fst :: x_2.fst.snd.fst.snd.snd.snd.fst :: x_2.fst.snd.fst.snd.snd.snd.snd.fst ::
  x_2.fst.snd.fst.snd.snd.snd.snd.snd.fst :: x_2.fst.snd.fst.snd.snd.snd.snd.snd.snd.fst :: x_2.fst.snd.fst.snd.snd.snd.snd.snd.snd.snd.fst :: nilL Int) (Int.toNat (IntKind.wrap IntKind.i64 (Int.tdiv x_2.snd (2 : Int))))
  (0 : Int) * (256 : Int)) + IntKind.wrap IntKind.u16 (Go.Ad.num1 (List.getD (cutC (subS x.fst (Int.toNat (0 : Int)) (Int.toNat x_1.fst)) (46 : Int)) (Int.toNat x_2.snd) (Ty.zero Ty.str)) (255 : Int))))) (5 : Nat) (0 :
  Int), List.getD (List.set (x_2.fst.snd.fst.fst :: x_2.fst.snd.fst.snd.fst :: x_2.fst.snd.fst.snd.snd.fst :: x_2.fst.snd.fst.snd.snd.snd.fst :: x_2.fst.snd.fst.snd.snd.snd.snd.fst ::
  x_2.fst.snd.fst.snd.snd.snd.snd.snd.fst :: x_2.fst.snd.fst.snd.snd.snd.snd.snd.snd.fst :: x_2.fst.snd.fst.snd.snd.snd.snd.snd.snd.snd.fst :: nilL Int) (Int.toNat (IntKind.wrap IntKind.i64 (Int.tdiv x_2.snd (2 : Int))))
  (IntKind.wrap IntKind.u16 (IntKind.wrap IntKind.u16 (List.getD (x_2.fst.snd.fst.fst :: x_2.fst.snd.fst.snd.fst :: x_2.fst.snd.fst.snd.snd.fst :: x_2.fst.snd.fst.snd.snd.snd.fst :: x_2.fst.snd.fst.snd.snd.snd.snd.fst ::
  x_2.fst.snd.fst.snd.snd.snd.snd.snd.fst :: x_2.fst.snd.fst.snd.snd.snd.snd.snd.snd.fst :: x_2.fst.snd.fst.snd.snd.snd.snd.snd.snd.snd.fst :: nilL Int) (Int.toNat (IntKind.wrap IntKind.i64 (Int.tdiv x_2.snd (2 : Int))))
  (0 : Int) * (256 : Int)) + IntKind.wrap IntKind.u16 (Go.Ad.num1 (List.getD (cutC (subS x.fst (Int.toNat (0 : Int)) (Int.toNat x_1.fst)) (46 : Int)) (Int.toNat x_2.snd) (Ty.zero Ty.str)) (255 : Int))))) (6 : Nat) (0 :
  Int), List.getD (List.set (x_2.fst.snd.fst.fst :: x_2.fst.snd.fst.snd.fst :: x_2.fst.snd.fst.snd.snd.fst :: x_2.fst.snd.fst.snd.snd.snd.fst :: x_2.fst.snd.fst.snd.snd.snd.snd.fst ::
  x_2.fst.snd.fst.snd.snd.snd.snd.snd.fst :: x_2.fst.snd.fst.snd.snd.snd.snd.snd.snd.fst :: x_2.fst.snd.fst.snd.snd.snd.snd.snd.snd.snd.fst :: nilL Int) (Int.toNat (IntKind.wrap IntKind.i64 (Int.tdiv x_2.snd (2 : Int))))
  (IntKind.wrap IntKind.u16 (IntKind.wrap IntKind.u16 (List.getD (x_2.fst.snd.fst.fst :: x_2.fst.snd.fst.snd.fst :: x_2.fst.snd.fst.snd.snd.fst :: x_2.fst.snd.fst.snd.snd.snd.fst :: x_2.fst.snd.fst.snd.snd.snd.snd.fst ::
  x_2.fst.snd.fst.snd.snd.snd.snd.snd.fst :: x_2.fst.snd.fst.snd.snd.snd.snd.snd.snd.fst :: x_2.fst.snd.fst.snd.snd.snd.snd.snd.snd.snd.fst :: nilL Int) (Int.toNat (IntKind.wrap IntKind.i64 (Int.tdiv x_2.snd (2 : Int))))
  (0 : Int) * (256 : Int)) + IntKind.wrap IntKind.u16 (Go.Ad.num1 (List.getD (cutC (subS x.fst (Int.toNat (0 : Int)) (Int.toNat x_1.fst)) (46 : Int)) (Int.toNat x_2.snd) (Ty.zero Ty.str)) (255 : Int))))) (7 : Nat) (0 :
  Int), ()), x_2.fst.snd.snd) (IntKind.wrap IntKind.i64 (x_2.snd + (1 : Int)))) ∧ Wr ((4 : Nat) - Int.toNat (IntKind.wrap IntKind.i64 (x_2.snd + (1 : Int))) < (4 : Nat) - Int.toNat x_2.snd) ∧ Wr (IntKind.wrap IntKind.i64
  (x_2.snd + (1 : Int)) = IntKind.wrap IntKind.i64 (x_2.snd + (1 : Int))) ∧ Wr (Go.Ad.num1 (subS x.fst (Int.toNat (IntKind.wrap IntKind.i64 (x_1.fst + (1 : Int)))) (Int.toNat (↑(ByteArray.size x.fst) : Int))) (65535 :
  Int) = Go.Ad.num1 (subS x.fst (Int.toNat (IntKind.wrap IntKind.i64 (x_1.fst + (1 : Int)))) (Int.toNat (↑(ByteArray.size x.fst) : Int))) (65535 : Int)) ∧ Wr (cutC (subS x.fst (Int.toNat (0 : Int)) (Int.toNat x_1.fst))
  (46 : Int) = cutC (subS x.fst (Int.toNat (0 : Int)) (Int.toNat x_1.fst)) (46 : Int)) ∧ Wr (x_2.fst.fst = x_2.fst.fst) ∧ Wr (List.getD (List.set (x_2.fst.snd.fst.fst :: x_2.fst.snd.fst.snd.fst ::
  x_2.fst.snd.fst.snd.snd.fst :: x_2.fst.snd.fst.snd.snd.snd.fst :: x_2.fst.snd.fst.snd.snd.snd.snd.fst :: x_2.fst.snd.fst.snd.snd.snd.snd.snd.fst :: x_2.fst.snd.fst.snd.snd.snd.snd.snd.snd.fst ::
  x_2.fst.snd.fst.snd.snd.snd.snd.snd.snd.snd.fst :: nilL Int) (Int.toNat (IntKind.wrap IntKind.i64 (Int.tdiv x_2.snd (2 : Int)))) (IntKind.wrap IntKind.u16 (IntKind.wrap IntKind.u16 (List.getD (x_2.fst.snd.fst.fst ::
  x_2.fst.snd.fst.snd.fst :: x_2.fst.snd.fst.snd.snd.fst :: x_2.fst.snd.fst.snd.snd.snd.fst :: x_2.fst.snd.fst.snd.snd.snd.snd.fst :: x_2.fst.snd.fst.snd.snd.snd.snd.snd.fst :: x_2.fst.snd.fst.snd.snd.snd.snd.snd.snd.fst
  :: x_2.fst.snd.fst.snd.snd.snd.snd.snd.snd.snd.fst :: nilL Int) (Int.toNat (IntKind.wrap IntKind.i64 (Int.tdiv x_2.snd (2 : Int)))) (0 : Int) * (256 : Int)) + IntKind.wrap IntKind.u16 (Go.Ad.num1 (List.getD (cutC (subS
  x.fst (Int.toNat (0 : Int)) (Int.toNat x_1.fst)) (46 : Int)) (Int.toNat x_2.snd) (Ty.zero Ty.str)) (255 : Int))))) (0 : Nat) (0 : Int) = List.getD (List.set (x_2.fst.snd.fst.fst :: x_2.fst.snd.fst.snd.fst ::
  x_2.fst.snd.fst.snd.snd.fst :: x_2.fst.snd.fst.snd.snd.snd.fst :: x_2.fst.snd.fst.snd.snd.snd.snd.fst :: x_2.fst.snd.fst.snd.snd.snd.snd.snd.fst :: x_2.fst.snd.fst.snd.snd.snd.snd.snd.snd.fst ::
  x_2.fst.snd.fst.snd.snd.snd.snd.snd.snd.snd.fst :: nilL Int) (Int.toNat (IntKind.wrap IntKind.i64 (Int.tdiv x_2.snd (2 : Int)))) (IntKind.wrap IntKind.u16 (IntKind.wrap IntKind.u16 (List.getD (x_2.fst.snd.fst.fst ::
  x_2.fst.snd.fst.snd.fst :: x_2.fst.snd.fst.snd.snd.fst :: x_2.fst.snd.fst.snd.snd.snd.fst :: x_2.fst.snd.fst.snd.snd.snd.snd.fst :: x_2.fst.snd.fst.snd.snd.snd.snd.snd.fst :: x_2.fst.snd.fst.snd.snd.snd.snd.snd.snd.fst
  :: x_2.fst.snd.fst.snd.snd.snd.snd.snd.snd.snd.fst :: nilL Int) (Int.toNat (IntKind.wrap IntKind.i64 (Int.tdiv x_2.snd (2 : Int)))) (0 : Int) * (256 : Int)) + IntKind.wrap IntKind.u16 (Go.Ad.num1 (List.getD (cutC (subS
  x.fst (Int.toNat (0 : Int)) (Int.toNat x_1.fst)) (46 : Int)) (Int.toNat x_2.snd) (Ty.zero Ty.str)) (255 : Int))))) (0 : Nat) (0 : Int)) ∧ Wr (List.getD (List.set (x_2.fst.snd.fst.fst :: x_2.fst.snd.fst.snd.fst ::
  x_2.fst.snd.fst.snd.snd.fst :: x_2.fst.snd.fst.snd.snd.snd.fst :: x_2.fst.snd.fst.snd.snd.snd.snd.fst :: x_2.fst.snd.fst.snd.snd.snd.snd.snd.fst :: x_2.fst.snd.fst.snd.snd.snd.snd.snd.snd.fst ::
  x_2.fst.snd.fst.snd.snd.snd.snd.snd.snd.snd.fst :: nilL Int) (Int.toNat (IntKind.wrap IntKind.i64 (Int.tdiv x_2.snd (2 : Int)))) (IntKind.wrap IntKind.u16 (IntKind.wrap IntKind.u16 (List.getD (x_2.fst.snd.fst.fst ::
  x_2.fst.snd.fst.snd.fst :: x_2.fst.snd.fst.snd.snd.fst :: x_2.fst.snd.fst.snd.snd.snd.fst :: x_2.fst.snd.fst.snd.snd.snd.snd.fst :: x_2.fst.snd.fst.snd.snd.snd.snd.snd.fst :: x_2.fst.snd.fst.snd.snd.snd.snd.snd.snd.fst
  :: x_2.fst.snd.fst.snd.snd.snd.snd.snd.snd.snd.fst :: nilL Int) (Int.toNat (IntKind.wrap IntKind.i64 (Int.tdiv x_2.snd (2 : Int)))) (0 : Int) * (256 : Int)) + IntKind.wrap IntKind.u16 (Go.Ad.num1 (List.getD (cutC (subS
  x.fst (Int.toNat (0 : Int)) (Int.toNat x_1.fst)) (46 : Int)) (Int.toNat x_2.snd) (Ty.zero Ty.str)) (255 : Int))))) (1 : Nat) (0 : Int) = List.getD (List.set (x_2.fst.snd.fst.fst :: x_2.fst.snd.fst.snd.fst ::
  x_2.fst.snd.fst.snd.snd.fst :: x_2.fst.snd.fst.snd.snd.snd.fst :: x_2.fst.snd.fst.snd.snd.snd.snd.fst :: x_2.fst.snd.fst.snd.snd.snd.snd.snd.fst :: x_2.fst.snd.fst.snd.snd.snd.snd.snd.snd.fst ::
  x_2.fst.snd.fst.snd.snd.snd.snd.snd.snd.snd.fst :: nilL Int) (Int.toNat (IntKind.wrap IntKind.i64 (Int.tdiv x_2.snd (2 : Int)))) (IntKind.wrap IntKind.u16 (IntKind.wrap IntKind.u16 (List.getD (x_2.fst.snd.fst.fst ::
  x_2.fst.snd.fst.snd.fst :: x_2.fst.snd.fst.snd.snd.fst :: x_2.fst.snd.fst.snd.snd.snd.fst :: x_2.fst.snd.fst.snd.snd.snd.snd.fst :: x_2.fst.snd.fst.snd.snd.snd.snd.snd.fst :: x_2.fst.snd.fst.snd.snd.snd.snd.snd.snd.fst
  :: x_2.fst.snd.fst.snd.snd.snd.snd.snd.snd.snd.fst :: nilL Int) (Int.toNat (IntKind.wrap IntKind.i64 (Int.tdiv x_2.snd (2 : Int)))) (0 : Int) * (256 : Int)) + IntKind.wrap IntKind.u16 (Go.Ad.num1 (List.getD (cutC (subS
  x.fst (Int.toNat (0 : Int)) (Int.toNat x_1.fst)) (46 : Int)) (Int.toNat x_2.snd) (Ty.zero Ty.str)) (255 : Int))))) (1 : Nat) (0 : Int)) ∧ Wr (List.getD (List.set (x_2.fst.snd.fst.fst :: x_2.fst.snd.fst.snd.fst ::
  x_2.fst.snd.fst.snd.snd.fst :: x_2.fst.snd.fst.snd.snd.snd.fst :: x_2.fst.snd.fst.snd.snd.snd.snd.fst :: x_2.fst.snd.fst.snd.snd.snd.snd.snd.fst :: x_2.fst.snd.fst.snd.snd.snd.snd.snd.snd.fst ::
  x_2.fst.snd.fst.snd.snd.snd.snd.snd.snd.snd.fst :: nilL Int) (Int.toNat (IntKind.wrap IntKind.i64 (Int.tdiv x_2.snd (2 : Int)))) (IntKind.wrap IntKind.u16 (IntKind.wrap IntKind.u16 (List.getD (x_2.fst.snd.fst.fst ::
  x_2.fst.snd.fst.snd.fst :: x_2.fst.snd.fst.snd.snd.fst :: x_2.fst.snd.fst.snd.snd.snd.fst :: x_2.fst.snd.fst.snd.snd.snd.snd.fst :: x_2.fst.snd.fst.snd.snd.snd.snd.snd.fst :: x_2.fst.snd.fst.snd.snd.snd.snd.snd.snd.fst
  :: x_2.fst.snd.fst.snd.snd.snd.snd.snd.snd.snd.fst :: nilL Int) (Int.toNat (IntKind.wrap IntKind.i64 (Int.tdiv x_2.snd (2 : Int)))) (0 : Int) * (256 : Int)) + IntKind.wrap IntKind.u16 (Go.Ad.num1 (List.getD (cutC (subS
  x.fst (Int.toNat (0 : Int)) (Int.toNat x_1.fst)) (46 : Int)) (Int.toNat x_2.snd) (Ty.zero Ty.str)) (255 : Int))))) (2 : Nat) (0 : Int) = List.getD (List.set (x_2.fst.snd.fst.fst :: x_2.fst.snd.fst.snd.fst ::
  x_2.fst.snd.fst.snd.snd.fst :: x_2.fst.snd.fst.snd.snd.snd.fst :: x_2.fst.snd.fst.snd.snd.snd.snd.fst :: x_2.fst.snd.fst.snd.snd.snd.snd.snd.fst :: x_2.fst.snd.fst.snd.snd.snd.snd.snd.snd.fst ::
  x_2.fst.snd.fst.snd.snd.snd.snd.snd.snd.snd.fst :: nilL Int) (Int.toNat (IntKind.wrap IntKind.i64 (Int.tdiv x_2.snd (2 : Int)))) (IntKind.wrap IntKind.u16 (IntKind.wrap IntKind.u16 (List.getD (x_2.fst.snd.fst.fst ::
  x_2.fst.snd.fst.snd.fst :: x_2.fst.snd.fst.snd.snd.fst :: x_2.fst.snd.fst.snd.snd.snd.fst :: x_2.fst.snd.fst.snd.snd.snd.snd.fst :: x_2.fst.snd.fst.snd.snd.snd.snd.snd.fst :: x_2.fst.snd.fst.snd.snd.snd.snd.snd.snd.fst
  :: x_2.fst.snd.fst.snd.snd.snd.snd.snd.snd.snd.fst :: nilL Int) (Int.toNat (IntKind.wrap IntKind.i64 (Int.tdiv x_2.snd (2 : Int)))) (0 : Int) * (256 : Int)) + IntKind.wrap IntKind.u16 (Go.Ad.num1 (List.getD (cutC (subS
  x.fst (Int.toNat (0 : Int)) (Int.toNat x_1.fst)) (46 : Int)) (Int.toNat x_2.snd) (Ty.zero Ty.str)) (255 : Int))))) (2 : Nat) (0 : Int)) ∧ Wr (List.getD (List.set (x_2.fst.snd.fst.fst :: x_2.fst.snd.fst.snd.fst ::
  x_2.fst.snd.fst.snd.snd.fst :: x_2.fst.snd.fst.snd.snd.snd.fst :: x_2.fst.snd.fst.snd.snd.snd.snd.fst :: x_2.fst.snd.fst.snd.snd.snd.snd.snd.fst :: x_2.fst.snd.fst.snd.snd.snd.snd.snd.snd.fst ::
  x_2.fst.snd.fst.snd.snd.snd.snd.snd.snd.snd.fst :: nilL Int) (Int.toNat (IntKind.wrap IntKind.i64 (Int.tdiv x_2.snd (2 : Int)))) (IntKind.wrap IntKind.u16 (IntKind.wrap IntKind.u16 (List.getD (x_2.fst.snd.fst.fst ::
  x_2.fst.snd.fst.snd.fst :: x_2.fst.snd.fst.snd.snd.fst :: x_2.fst.snd.fst.snd.snd.snd.fst :: x_2.fst.snd.fst.snd.snd.snd.snd.fst :: x_2.fst.snd.fst.snd.snd.snd.snd.snd.fst :: x_2.fst.snd.fst.snd.snd.snd.snd.snd.snd.fst
  :: x_2.fst.snd.fst.snd.snd.snd.snd.snd.snd.snd.fst :: nilL Int) (Int.toNat (IntKind.wrap IntKind.i64 (Int.tdiv x_2.snd (2 : Int)))) (0 : Int) * (256 : Int)) + IntKind.wrap IntKind.u16 (Go.Ad.num1 (List.getD (cutC (subS
  x.fst (Int.toNat (0 : Int)) (Int.toNat x_1.fst)) (46 : Int)) (Int.toNat x_2.snd) (Ty.zero Ty.str)) (255 : Int))))) (3 : Nat) (0 : Int) = List.getD (List.set (x_2.fst.snd.fst.fst :: x_2.fst.snd.fst.snd.fst ::
  x_2.fst.snd.fst.snd.snd.fst :: x_2.fst.snd.fst.snd.snd.snd.fst :: x_2.fst.snd.fst.snd.snd.snd.snd.fst :: x_2.fst.snd.fst.snd.snd.snd.snd.snd.fst :: x_2.fst.snd.fst.snd.snd.snd.snd.snd.snd.fst ::
  x_2.fst.snd.fst.snd.snd.snd.snd.snd.snd.snd.fst :: nilL Int) (Int.toNat (IntKind.wrap IntKind.i64 (Int.tdiv x_2.snd (2 : Int)))) (IntKind.wrap IntKind.u16 (IntKind.wrap IntKind.u16 (List.getD (x_2.fst.snd.fst.fst ::
  x_2.fst.snd.fst.snd.fst :: x_2.fst.snd.fst.snd.snd.fst :: x_2.fst.snd.fst.snd.snd.snd.fst :: x_2.fst.snd.fst.snd.snd.snd.snd.fst :: x_2.fst.snd.fst.snd.snd.snd.snd.snd.fst :: x_2.fst.snd.fst.snd.snd.snd.snd.snd.snd.fst
  :: x_2.fst.snd.fst.snd.snd.snd.snd.snd.snd.snd.fst :: nilL Int) (Int.toNat (IntKind.wrap IntKind.i64 (Int.tdiv x_2.snd (2 : Int)))) (0 : Int) * (256 : Int)) + IntKind.wrap IntKind.u16 (Go.Ad.num1 (List.getD (cutC (subS
  x.fst (Int.toNat (0 : Int)) (Int.toNat x_1.fst)) (46 : Int)) (Int.toNat x_2.snd) (Ty.zero Ty.str)) (255 : Int))))) (3 : Nat) (0 : Int)) ∧ Wr (List.getD (List.set (x_2.fst.snd.fst.fst :: x_2.fst.snd.fst.snd.fst ::
  x_2.fst.snd.fst.snd.snd.fst :: x_2.fst.snd.fst.snd.snd.snd.fst :: x_2.fst.snd.fst.snd.snd.snd.snd.fst :: x_2.fst.snd.fst.snd.snd.snd.snd.snd.fst :: x_2.fst.snd.fst.snd.snd.snd.snd.snd.snd.fst ::
  x_2.fst.snd.fst.snd.snd.snd.snd.snd.snd.snd.fst :: nilL Int) (Int.toNat (IntKind.wrap IntKind.i64 (Int.tdiv x_2.snd (2 : Int)))) (IntKind.wrap IntKind.u16 (IntKind.wrap IntKind.u16 (List.getD (x_2.fst.snd.fst.fst ::
  x_2.fst.snd.fst.snd.fst :: x_2.fst.snd.fst.snd.snd.fst :: x_2.fst.snd.fst.snd.snd.snd.fst :: x_2.fst.snd.fst.snd.snd.snd.snd.fst :: x_2.fst.snd.fst.snd.snd.snd.snd.snd.fst :: x_2.fst.snd.fst.snd.snd.snd.snd.snd.snd.fst
  :: x_2.fst.snd.fst.snd.snd.snd.snd.snd.snd.snd.fst :: nilL Int) (Int.toNat (IntKind.wrap IntKind.i64 (Int.tdiv x_2.snd (2 : Int)))) (0 : Int) * (256 : Int)) + IntKind.wrap IntKind.u16 (Go.Ad.num1 (List.getD (cutC (subS
  x.fst (Int.toNat (0 : Int)) (Int.toNat x_1.fst)) (46 : Int)) (Int.toNat x_2.snd) (Ty.zero Ty.str)) (255 : Int))))) (4 : Nat) (0 : Int) = List.getD (List.set (x_2.fst.snd.fst.fst :: x_2.fst.snd.fst.snd.fst ::
  x_2.fst.snd.fst.snd.snd.fst :: x_2.fst.snd.fst.snd.snd.snd.fst :: x_2.fst.snd.fst.snd.snd.snd.snd.fst :: x_2.fst.snd.fst.snd.snd.snd.snd.snd.fst :: x_2.fst.snd.fst.snd.snd.snd.snd.snd.snd.fst ::
  x_2.fst.snd.fst.snd.snd.snd.snd.snd.snd.snd.fst :: nilL Int) (Int.toNat (IntKind.wrap IntKind.i64 (Int.tdiv x_2.snd (2 : Int)))) (IntKind.wrap IntKind.u16 (IntKind.wrap IntKind.u16 (List.getD (x_2.fst.snd.fst.fst ::
  x_2.fst.snd.fst.snd.fst :: x_2.fst.snd.fst.snd.snd.fst :: x_2.fst.snd.fst.snd.snd.snd.fst :: x_2.fst.snd.fst.snd.snd.snd.snd.fst :: x_2.fst.snd.fst.snd.snd.snd.snd.snd.fst :: x_2.fst.snd.fst.snd.snd.snd.snd.snd.snd.fst
  :: x_2.fst.snd.fst.snd.snd.snd.snd.snd.snd.snd.fst :: nilL Int) (Int.toNat (IntKind.wrap IntKind.i64 (Int.tdiv x_2.snd (2 : Int)))) (0 : Int) * (256 : Int)) + IntKind.wrap IntKind.u16 (Go.Ad.num1 (List.getD (cutC (subS
  x.fst (Int.toNat (0 : Int)) (Int.toNat x_1.fst)) (46 : Int)) (Int.toNat x_2.snd) (Ty.zero Ty.str)) (255 : Int))))) (4 : Nat) (0 : Int)) ∧ Wr (List.getD (List.set (x_2.fst.snd.fst.fst :: x_2.fst.snd.fst.snd.fst ::
  x_2.fst.snd.fst.snd.snd.fst :: x_2.fst.snd.fst.snd.snd.snd.fst :: x_2.fst.snd.fst.snd.snd.snd.snd.fst :: x_2.fst.snd.fst.snd.snd.snd.snd.snd.fst :: x_2.fst.snd.fst.snd.snd.snd.snd.snd.snd.fst ::
  x_2.fst.snd.fst.snd.snd.snd.snd.snd.snd.snd.fst :: nilL Int) (Int.toNat (IntKind.wrap IntKind.i64 (Int.tdiv x_2.snd (2 : Int)))) (IntKind.wrap IntKind.u16 (IntKind.wrap IntKind.u16 (List.getD (x_2.fst.snd.fst.fst ::
  x_2.fst.snd.fst.snd.fst :: x_2.fst.snd.fst.snd.snd.fst :: x_2.fst.snd.fst.snd.snd.snd.fst :: x_2.fst.snd.fst.snd.snd.snd.snd.fst :: x_2.fst.snd.fst.snd.snd.snd.snd.snd.fst :: x_2.fst.snd.fst.snd.snd.snd.snd.snd.snd.fst
  :: x_2.fst.snd.fst.snd.snd.snd.snd.snd.snd.snd.fst :: nilL Int) (Int.toNat (IntKind.wrap IntKind.i64 (Int.tdiv x_2.snd (2 : Int)))) (0 : Int) * (256 : Int)) + IntKind.wrap IntKind.u16 (Go.Ad.num1 (List.getD (cutC (subS
  x.fst (Int.toNat (0 : Int)) (Int.toNat x_1.fst)) (46 : Int)) (Int.toNat x_2.snd) (Ty.zero Ty.str)) (255 : Int))))) (5 : Nat) (0 : Int) = List.getD (List.set (x_2.fst.snd.fst.fst :: x_2.fst.snd.fst.snd.fst ::
  x_2.fst.snd.fst.snd.snd.fst :: x_2.fst.snd.fst.snd.snd.snd.fst :: x_2.fst.snd.fst.snd.snd.snd.snd.fst :: x_2.fst.snd.fst.snd.snd.snd.snd.snd.fst :: x_2.fst.snd.fst.snd.snd.snd.snd.snd.snd.fst ::
  x_2.fst.snd.fst.snd.snd.snd.snd.snd.snd.snd.fst :: nilL Int) (Int.toNat (IntKind.wrap IntKind.i64 (Int.tdiv x_2.snd (2 : Int)))) (IntKind.wrap IntKind.u16 (IntKind.wrap IntKind.u16 (List.getD (x_2.fst.snd.fst.fst ::
  x_2.fst.snd.fst.snd.fst :: x_2.fst.snd.fst.snd.snd.fst :: x_2.fst.snd.fst.snd.snd.snd.fst :: x_2.fst.snd.fst.snd.snd.snd.snd.fst :: x_2.fst.snd.fst.snd.snd.snd.snd.snd.fst :: x_2.fst.snd.fst.snd.snd.snd.snd.snd.snd.fst
  :: x_2.fst.snd.fst.snd.snd.snd.snd.snd.snd.snd.fst :: nilL Int) (Int.toNat (IntKind.wrap IntKind.i64 (Int.tdiv x_2.snd (2 : Int)))) (0 : Int) * (256 : Int)) + IntKind.wrap IntKind.u16 (Go.Ad.num1 (List.getD (cutC (subS
  x.fst (Int.toNat (0 : Int)) (Int.toNat x_1.fst)) (46 : Int)) (Int.toNat x_2.snd) (Ty.zero Ty.str)) (255 : Int))))) (5 : Nat) (0 : Int)) ∧ Wr (List.getD (List.set (x_2.fst.snd.fst.fst :: x_2.fst.snd.fst.snd.fst ::
  x_2.fst.snd.fst.snd.snd.fst :: x_2.fst.snd.fst.snd.snd.snd.fst :: x_2.fst.snd.fst.snd.snd.snd.snd.fst :: x_2.fst.snd.fst.snd.snd.snd.snd.snd.fst :: x_2.fst.snd.fst.snd.snd.snd.snd.snd.snd.fst ::
  x_2.fst.snd.fst.snd.snd.snd.snd.snd.snd.snd.fst :: nilL Int) (Int.toNat (IntKind.wrap IntKind.i64 (Int.tdiv x_2.snd (2 : Int)))) (IntKind.wrap IntKind.u16 (IntKind.wrap IntKind.u16 (List.getD (x_2.fst.snd.fst.fst ::
  x_2.fst.snd.fst.snd.fst :: x_2.fst.snd.fst.snd.snd.fst :: x_2.fst.snd.fst.snd.snd.snd.fst :: x_2.fst.snd.fst.snd.snd.snd.snd.fst :: x_2.fst.snd.fst.snd.snd.snd.snd.snd.fst :: x_2.fst.snd.fst.snd.snd.snd.snd.snd.snd.fst
  :: x_2.fst.snd.fst.snd.snd.snd.snd.snd.snd.snd.fst :: nilL Int) (Int.toNat (IntKind.wrap IntKind.i64 (Int.tdiv x_2.snd (2 : Int)))) (0 : Int) * (256 : Int)) + IntKind.wrap IntKind.u16 (Go.Ad.num1 (List.getD (cutC (subS
  x.fst (Int.toNat (0 : Int)) (Int.toNat x_1.fst)) (46 : Int)) (Int.toNat x_2.snd) (Ty.zero Ty.str)) (255 : Int))))) (6 : Nat) (0 : Int) = List.getD (List.set (x_2.fst.snd.fst.fst :: x_2.fst.snd.fst.snd.fst ::
  x_2.fst.snd.fst.snd.snd.fst :: x_2.fst.snd.fst.snd.snd.snd.fst :: x_2.fst.snd.fst.snd.snd.snd.snd.fst :: x_2.fst.snd.fst.snd.snd.snd.snd.snd.fst :: x_2.fst.snd.fst.snd.snd.snd.snd.snd.snd.fst ::
  x_2.fst.snd.fst.snd.snd.snd.snd.snd.snd.snd.fst :: nilL Int) (Int.toNat (IntKind.wrap IntKind.i64 (Int.tdiv x_2.snd (2 : Int)))) (IntKind.wrap IntKind.u16 (IntKind.wrap IntKind.u16 (List.getD (x_2.fst.snd.fst.fst ::
  x_2.fst.snd.fst.snd.fst :: x_2.fst.snd.fst.snd.snd.fst :: x_2.fst.snd.fst.snd.snd.snd.fst :: x_2.fst.snd.fst.snd.snd.snd.snd.fst :: x_2.fst.snd.fst.snd.snd.snd.snd.snd.fst :: x_2.fst.snd.fst.snd.snd.snd.snd.snd.snd.fst
  :: x_2.fst.snd.fst.snd.snd.snd.snd.snd.snd.snd.fst :: nilL Int) (Int.toNat (IntKind.wrap IntKind.i64 (Int.tdiv x_2.snd (2 : Int)))) (0 : Int) * (256 : Int)) + IntKind.wrap IntKind.u16 (Go.Ad.num1 (List.getD (cutC (subS
  x.fst (Int.toNat (0 : Int)) (Int.toNat x_1.fst)) (46 : Int)) (Int.toNat x_2.snd) (Ty.zero Ty.str)) (255 : Int))))) (6 : Nat) (0 : Int)) ∧ Wr (List.getD (List.set (x_2.fst.snd.fst.fst :: x_2.fst.snd.fst.snd.fst ::
  x_2.fst.snd.fst.snd.snd.fst :: x_2.fst.snd.fst.snd.snd.snd.fst :: x_2.fst.snd.fst.snd.snd.snd.snd.fst :: x_2.fst.snd.fst.snd.snd.snd.snd.snd.fst :: x_2.fst.snd.fst.snd.snd.snd.snd.snd.snd.fst ::
  x_2.fst.snd.fst.snd.snd.snd.snd.snd.snd.snd.fst :: nilL Int) (Int.toNat (IntKind.wrap IntKind.i64 (Int.tdiv x_2.snd (2 : Int)))) (IntKind.wrap IntKind.u16 (IntKind.wrap IntKind.u16 (List.getD (x_2.fst.snd.fst.fst ::
  x_2.fst.snd.fst.snd.fst :: x_2.fst.snd.fst.snd.snd.fst :: x_2.fst.snd.fst.snd.snd.snd.fst :: x_2.fst.snd.fst.snd.snd.snd.snd.fst :: x_2.fst.snd.fst.snd.snd.snd.snd.snd.fst :: x_2.fst.snd.fst.snd.snd.snd.snd.snd.snd.fst
  :: x_2.fst.snd.fst.snd.snd.snd.snd.snd.snd.snd.fst :: nilL Int) (Int.toNat (IntKind.wrap IntKind.i64 (Int.tdiv x_2.snd (2 : Int)))) (0 : Int) * (256 : Int)) + IntKind.wrap IntKind.u16 (Go.Ad.num1 (List.getD (cutC (subS
  x.fst (Int.toNat (0 : Int)) (Int.toNat x_1.fst)) (46 : Int)) (Int.toNat x_2.snd) (Ty.zero Ty.str)) (255 : Int))))) (7 : Nat) (0 : Int) = List.getD (List.set (x_2.fst.snd.fst.fst :: x_2.fst.snd.fst.snd.fst ::
  x_2.fst.snd.fst.snd.snd.fst :: x_2.fst.snd.fst.snd.snd.snd.fst :: x_2.fst.snd.fst.snd.snd.snd.snd.fst :: x_2.fst.snd.fst.snd.snd.snd.snd.snd.fst :: x_2.fst.snd.fst.snd.snd.snd.snd.snd.snd.fst ::
  x_2.fst.snd.fst.snd.snd.snd.snd.snd.snd.snd.fst :: nilL Int) (Int.toNat (IntKind.wrap IntKind.i64 (Int.tdiv x_2.snd (2 : Int)))) (IntKind.wrap IntKind.u16 (IntKind.wrap IntKind.u16 (List.getD (x_2.fst.snd.fst.fst ::
  x_2.fst.snd.fst.snd.fst :: x_2.fst.snd.fst.snd.snd.fst :: x_2.fst.snd.fst.snd.snd.snd.fst :: x_2.fst.snd.fst.snd.snd.snd.snd.fst :: x_2.fst.snd.fst.snd.snd.snd.snd.snd.fst :: x_2.fst.snd.fst.snd.snd.snd.snd.snd.snd.fst
  :: x_2.fst.snd.fst.snd.snd.snd.snd.snd.snd.snd.fst :: nilL Int) (Int.toNat (IntKind.wrap IntKind.i64 (Int.tdiv x_2.snd (2 : Int)))) (0 : Int) * (256 : Int)) + IntKind.wrap IntKind.u16 (Go.Ad.num1 (List.getD (cutC (subS
  x.fst (Int.toNat (0 : Int)) (Int.toNat x_1.fst)) (46 : Int)) (Int.toNat x_2.snd) (Ty.zero Ty.str)) (255 : Int))))) (7 : Nat) (0 : Int)) ∧ Wr (x_2.fst.snd.snd.fst = x_2.fst.snd.snd.fst) ∧ Wr ((0 : Int) = (0 : Int)) ∧ Wr
  ((0 : Int) = (0 : Int)) ∧ Wr ((0 : Int) = (0 : Int)) ∧ Wr ((0 : Int) = (0 : Int)) ∧ Wr ((0 : Int) = (0 : Int)) ∧ Wr ((0 : Int) = (0 : Int)) ∧ Wr ((0 : Int) = (0 : Int)) ∧ Wr ((0 : Int) = (0 : Int)) ∧ Wr ((0 : Int) = (0
  : Int)) ∧ Wr ((0 : Int) = (0 : Int)))) ((x_2.fst, (0 : Int), ()) = (Go.Ad.parse1 x.fst, Go.Ad.parse2 x.fst, ())))))))) := by kernel_rfl
theorem v22_eq : vcFn g22 300 Tryd.f22 cRow = ( ∀ (x : List (Int × (Int × Int × Int × Int × Int × Int × Int × Int × Unit) × Int × Unit) × Unit), Wr (lenA x.fst = Bool.true) → Wr ((!Decidable.decide ((↑(List.length x.fst) : Int) > (16 : Int))) = Bool.true → lenA x.fst
  = Bool.true) ∧ bcase (Decidable.decide ((↑(List.length x.fst) : Int) > (16 : Int)) || !Go.Ad.mayA x.fst) ((ByteArray.mk (List.toArray (nilL UInt8)), (20 : Int), ()) = (Go.Ad.row1 x.fst, Go.Ad.row2 x.fst, ())) ((Wr
  (RowRI x.fst (ByteArray.mk (List.toArray (nilL UInt8))) (0 : Int)) ∧ Wr (ByteArray.mk (List.toArray (nilL UInt8)) = ByteArray.mk (List.toArray (nilL UInt8))) ∧ Wr ((0 : Int) = (0 : Int)) ∧ Wr (x.fst = x.fst)) ∧ ∀ (x_1 :
  ByteArray × Int), Wr (RowRI x.fst x_1.fst x_1.snd) → bcase (Decidable.decide (x_1.snd < (↑(List.length x.fst) : Int))) (Wr ((0 : Int) ≤ x_1.snd) ∧ Wr (x_1.snd < (↑(List.length x.fst) : Int)) ∧ Wr (Bool.true = Bool.true)
  ∧ Wr (Bool.true = Bool.true) ∧ bcase (Decidable.decide (x_1.snd > (0 : Int))) (Wr (ByteArray.size x_1.fst + ByteArray.size (ByteArray.mk (List.toArray ((32 : UInt8) :: nilL UInt8))) ≤ Go.maxLen) ∧ Wr (ByteArray.size
  (x_1.fst ++ ByteArray.mk (List.toArray ((32 : UInt8) :: nilL UInt8))) + ByteArray.size (Go.Ad.text1 (List.getD x.fst (Int.toNat x_1.snd) (Ty.zero AdT))) ≤ Go.maxLen) ∧ Wr (RowRI x.fst (x_1.fst ++ ByteArray.mk
  (List.toArray ((32 : UInt8) :: nilL UInt8)) ++ Go.Ad.text1 (List.getD x.fst (Int.toNat x_1.snd) (Ty.zero AdT))) (IntKind.wrap IntKind.i64 (x_1.snd + (1 : Int)))) ∧ Wr (List.length x.fst - Int.toNat (IntKind.wrap
  IntKind.i64 (x_1.snd + (1 : Int))) < List.length x.fst - Int.toNat x_1.snd) ∧ Wr (x_1.fst ++ ByteArray.mk (List.toArray ((32 : UInt8) :: nilL UInt8)) ++ Go.Ad.text1 (List.getD x.fst (Int.toNat x_1.snd) (Ty.zero AdT)) =
  x_1.fst ++ ByteArray.mk (List.toArray ((32 : UInt8) :: nilL UInt8)) ++ Go.Ad.text1 (List.getD x.fst (Int.toNat x_1.snd) (Ty.zero AdT))) ∧ Wr (IntKind.wrap IntKind.i64 (x_1.snd + (1 : Int)) = IntKind.wrap IntKind.i64
  (x_1.snd + (1 : Int))) ∧ Wr (x.fst = x.fst)) (Wr (ByteArray.size x_1.fst + ByteArray.size (Go.Ad.text1 (List.getD x.fst (Int.toNat x_1.snd) (Ty.zero AdT))) ≤ Go.maxLen) ∧ Wr (RowRI x.fst (x_1.fst ++ Go.Ad.text1
  (List.getD x.fst (Int.toNat x_1.snd) (Ty.zero AdT))) (IntKind.wrap IntKind.i64 (x_1.snd + (1 : Int)))) ∧ Wr (List.length x.fst - Int.toNat (IntKind.wrap IntKind.i64 (x_1.snd + (1 : Int))) < List.length x.fst - Int.toNat
  x_1.snd) ∧ Wr (x_1.fst ++ Go.Ad.text1 (List.getD x.fst (Int.toNat x_1.snd) (Ty.zero AdT)) = x_1.fst ++ Go.Ad.text1 (List.getD x.fst (Int.toNat x_1.snd) (Ty.zero AdT))) ∧ Wr (IntKind.wrap IntKind.i64 (x_1.snd + (1 :
  Int)) = IntKind.wrap IntKind.i64 (x_1.snd + (1 : Int))) ∧ Wr (x.fst = x.fst))) ((x_1.fst, (0 : Int), ()) = (Go.Ad.row1 x.fst, Go.Ad.row2 x.fst, ())))) := by kernel_rfl
theorem v24_eq : vcFn g24 300 Tryd.f24 cRead = ( ∀ (x : ByteArray × Unit), Wr (Go.Proofs.YtkimpfoimblhjaaDoor.Lb.szOk x.fst = Bool.true) → bcase (Decidable.decide (x.fst = ByteArray.mk (List.toArray (nilL UInt8)))) ((nilL (Int × (Int × Int × Int × Int × Int × Int × Int
  × Int × Unit) × Int × Unit), (0 : Int), ()) = (Go.Ad.read1 x.fst, Go.Ad.read2 x.fst, ())) (Wr ((Go.Proofs.YtkimpfoimblhjaaDoor.Lb.szOk x.fst && Decidable.decide ((0 : Int) ≤ (32 : Int)) && Decidable.decide ((32 : Int) <
  (256 : Ty.El Go.Proofs.YtkimpfoimblhjaaDoor.Lb.U8))) = Bool.true) ∧ bcase (Decidable.decide ((↑(List.length (cutC x.fst (32 : Int))) : Int) > (16 : Int))) ((nilL (Int × (Int × Int × Int × Int × Int × Int × Int × Int ×
  Unit) × Int × Unit), (20 : Int), ()) = (Go.Ad.read1 x.fst, Go.Ad.read2 x.fst, ())) ((Wr (GoI Go.Ad.parseO (cutC x.fst (32 : Int)) (nilL (Int × (Int × Int × Int × Int × Int × Int × Int × Int × Unit) × Int × Unit)) (0 :
  Int)) ∧ Wr ((0 : Int) = (0 : Int)) ∧ Wr (cutC x.fst (32 : Int) = cutC x.fst (32 : Int)) ∧ Wr (nilL (Int × (Int × Int × Int × Int × Int × Int × Int × Int × Unit) × Int × Unit) = nilL (Int × (Int × Int × Int × Int × Int ×
  Int × Int × Int × Unit) × Int × Unit))) ∧ ∀ (x_1 : List (Int × (Int × Int × Int × Int × Int × Int × Int × Int × Unit) × Int × Unit) × Int), Wr (GoI Go.Ad.parseO (cutC x.fst (32 : Int)) x_1.fst x_1.snd) → bcase
  (Decidable.decide (x_1.snd < (↑(List.length (cutC x.fst (32 : Int))) : Int))) (Wr ((0 : Int) ≤ x_1.snd) ∧ Wr (x_1.snd < (↑(List.length (cutC x.fst (32 : Int))) : Int)) ∧ Wr (Bool.true = Bool.true) ∧ Wr
  (Go.Proofs.YtkimpfoimblhjaaDoor.Lb.szOk (List.getD (cutC x.fst (32 : Int)) (Int.toNat x_1.snd) (Ty.zero Ty.str)) = Bool.true) ∧ bcase (!Decidable.decide (Go.Ad.parse2 (List.getD (cutC x.fst (32 : Int)) (Int.toNat
  x_1.snd) (Ty.zero Ty.str)) = (0 : Int))) ((nilL (Int × (Int × Int × Int × Int × Int × Int × Int × Int × Unit) × Int × Unit), Go.Ad.parse2 (List.getD (cutC x.fst (32 : Int)) (Int.toNat x_1.snd) (Ty.zero Ty.str)), ()) =
  (Go.Ad.read1 x.fst, Go.Ad.read2 x.fst, ())) (Wr ((List.length x_1.fst + List.length (Go.Ad.parse1 (List.getD (cutC x.fst (32 : Int)) (Int.toNat x_1.snd) (Ty.zero Ty.str)) :: nilL (Int × (Int × Int × Int × Int × Int ×
  Int × Int × Int × Unit) × Int × Unit))) * (32 : Nat) ≤ (140737488355328 : Nat)) ∧ Wr (GoI Go.Ad.parseO (cutC x.fst (32 : Int)) (x_1.fst ++ Go.Ad.parse1 (List.getD (cutC x.fst (32 : Int)) (Int.toNat x_1.snd) (Ty.zero
  Ty.str)) :: nilL (Int × (Int × Int × Int × Int × Int × Int × Int × Int × Unit) × Int × Unit)) (IntKind.wrap IntKind.i64 (x_1.snd + (1 : Int)))) ∧ Wr (List.length (cutC x.fst (32 : Int)) - Int.toNat (IntKind.wrap
  IntKind.i64 (x_1.snd + (1 : Int))) < List.length (cutC x.fst (32 : Int)) - Int.toNat x_1.snd) ∧ Wr (IntKind.wrap IntKind.i64 (x_1.snd + (1 : Int)) = IntKind.wrap IntKind.i64 (x_1.snd + (1 : Int))) ∧ Wr (cutC x.fst (32 :
  Int) = cutC x.fst (32 : Int)) ∧ Wr (x_1.fst ++ Go.Ad.parse1 (List.getD (cutC x.fst (32 : Int)) (Int.toNat x_1.snd) (Ty.zero Ty.str)) :: nilL (Int × (Int × Int × Int × Int × Int × Int × Int × Int × Unit) × Int × Unit) =
  x_1.fst ++ Go.Ad.parse1 (List.getD (cutC x.fst (32 : Int)) (Int.toNat x_1.snd) (Ty.zero Ty.str)) :: nilL (Int × (Int × Int × Int × Int × Int × Int × Int × Int × Unit) × Int × Unit)))) ((x_1.fst, (0 : Int), ()) =
  (Go.Ad.read1 x.fst, Go.Ad.read2 x.fst, ()))))) := by kernel_rfl
theorem v5_eq : vcFn g5 300 Tryd.f5 ((cLw aRows)) = ( ∀ (x : List (Int × (Int × Int × Int × Int × Int × Int × Int × Int × Unit) × Int × Unit) × ByteArray × Unit), Wr True → Wr ((!Decidable.decide ((↑(ByteArray.size x.snd.fst) : Int) > (2000 : Int))) = Bool.true → Bool.true
  = Bool.true) ∧ bcase (Decidable.decide ((↑(ByteArray.size x.snd.fst) : Int) > (2000 : Int)) || Decidable.decide ((60 : Nat) < List.length x.fst)) (Wr True ∧ (Bool.true, ()) = (Bool.true, ())) (Wr (lenA x.fst =
  Bool.true) ∧ Wr (lenA x.fst = Bool.true) ∧ Wr (Go.Proofs.YtkimpfoimblhjaaDoor.Lb.szOk x.snd.fst = Bool.true) ∧ Wr (Go.Proofs.YtkimpfoimblhjaaDoor.Lb.szOk x.snd.fst = Bool.true) ∧ Wr ((Decidable.decide (Go.Ad.row1 x.fst
  = Go.Ad.row1 x.fst) && Decidable.decide (Go.Ad.row2 x.fst = Go.Ad.row2 x.fst)) = Bool.true → lenA (Go.Ad.read1 x.snd.fst) = Bool.true) ∧ Wr ((Decidable.decide (Go.Ad.row1 x.fst = Go.Ad.row1 x.fst) && Decidable.decide
  (Go.Ad.row2 x.fst = Go.Ad.row2 x.fst) && sameLs (Go.Ad.read1 x.snd.fst) (Go.Ad.read1 x.snd.fst) && Decidable.decide (Go.Ad.read2 x.snd.fst = Go.Ad.read2 x.snd.fst)) = Bool.true → True) ∧ (Decidable.decide (Go.Ad.row1
  x.fst = Go.Ad.row1 x.fst) && Decidable.decide (Go.Ad.row2 x.fst = Go.Ad.row2 x.fst) && sameLs (Go.Ad.read1 x.snd.fst) (Go.Ad.read1 x.snd.fst) && Decidable.decide (Go.Ad.read2 x.snd.fst = Go.Ad.read2 x.snd.fst) &&
  Bool.true, ()) = (Bool.true, ()))) := by kernel_rfl
end Go.Proofs.YtkimpfoimblhjaaDoor.Ad
set_option linter.all false
namespace Go.Proofs.YtkimpfoimblhjaaDoor.Ad
open Go Go.Eng Go.Lb Go.Ad Lb
set_option maxRecDepth 100000
set_option maxHeartbeats 2000000
theorem may2_fin {a : Ad} {i : Int} (hp : ¬ a.2.2.1 < 1 ∧ ¬ a.2.2.1 > 65535) (hf : a.1 = 4 ∨ a.1 = 6) (h : May2I a i) (hi : ¬ i < 8 ∨ ¬ a.1 = 4) : may1 a = true := by
  rw [may1_iff]
  refine ⟨⟨by omega, by omega⟩, ?_⟩
  rcases hf with h4 | h6
  · refine .inr ⟨h4, fun x hx => ?_⟩
    obtain ⟨k, hk, e⟩ := List.mem_iff_getElem.1 hx
    rw [List.getElem_drop] at e
    rw [List.length_drop, len_gl] at hk
    have i1 := h.i1
    have i8 : i = 8 := by omega
    have := h.z h4 (2 + k) (by omega) (by omega)
    rw [List.getD_eq_getElem?_getD, List.getElem?_eq_getElem (by rw [len_gl]; omega)] at this
    rw [← e]
    exact this
  · exact .inl h6
theorem v74 : Vc g74 300 Tryd.f74 cMay1 := by
  constructor
  rw [v74_eq]
  intro x _
  generalize x.fst = a
  have hg : (a.2.1.1 :: a.2.1.2.1 :: a.2.1.2.2.1 :: a.2.1.2.2.2.1 :: a.2.1.2.2.2.2.1 :: a.2.1.2.2.2.2.2.1 :: a.2.1.2.2.2.2.2.2.1 :: a.2.1.2.2.2.2.2.2.2.1 :: nilL Int) = gl a.2.1 := rfl
  rw [hg]
  refine (bcase_iff _ _ _).2 ⟨fun h => ?_, fun h => ?_⟩
  · have : may1 a = false := by
      cases hm : may1 a with
      | false => rfl
      | true =>
        exfalso
        have hm := (may1_iff a).1 hm
        simp only [Bool.or_eq_true, Bool.and_eq_true, Bool.not_eq_true', decide_eq_true_eq, decide_eq_false_iff_not] at h
        rcases h with (h | h) | h
        · omega
        · omega
        · rcases hm.2 with h6 | h4
          · exact h.2 h6
          · exact h.1 h4.1
    rw [this]
  · simp only [Bool.or_eq_false_iff, Bool.and_eq_false_iff, Bool.not_eq_false', decide_eq_true_eq, decide_eq_false_iff_not] at h
    obtain ⟨hp, hf⟩ := h
    refine ⟨⟨⟨⟨by omega, by omega, fun _ k h1 h2 => by omega⟩⟩, by repeat' (first | exact ⟨rfl⟩ | apply And.intro)⟩, fun y hy => (bcase_iff _ _ _).2 ⟨fun h => ?_, fun h => ?_⟩⟩
    · have hy := hy.out
      simp only [Bool.and_eq_true, decide_eq_true_eq] at h
      obtain ⟨h8, h4⟩ := h
      have y0 := hy.i0
      refine ⟨⟨by omega⟩, ⟨by omega⟩, (bcase_iff _ _ _).2 ⟨fun h => ?_, fun h => ?_⟩⟩
      · have h : ¬ (gl a.2.1).getD y.toNat 0 = 0 := by simpa using h
        have : may1 a = false := by
          cases hm : may1 a with
          | false => rfl
          | true =>
            exfalso
            have hm := ((may1_iff a).1 hm).2
            rcases hm with h6 | ⟨_, hz⟩
            · omega
            · apply h
              apply hz
              have hl : y.toNat < (gl a.2.1).length := by rw [len_gl]; omega
              rw [List.getD_eq_getElem?_getD, List.getElem?_eq_getElem hl]
              refine List.mem_iff_getElem.2 ⟨y.toNat - 2, by rw [List.length_drop, len_gl]; omega, ?_⟩
              rw [List.getElem_drop]
              simp only [Option.getD_some]
              congr 1
              omega
        rw [this]
      · have h : (gl a.2.1).getD y.toNat 0 = 0 := by simpa using h
        rw [w64 (by omega) (by omega)]
        refine ⟨⟨⟨by omega, by omega, fun h4 k k1 k2 => ?_⟩⟩, ⟨by omega⟩, by repeat' (first | exact ⟨rfl⟩ | apply And.intro)⟩
        rcases Int.lt_or_le (k : Int) y with c | c
        · exact hy.z h4 k k1 c
        · have : k = y.toNat := by omega
          rw [this]; exact h
    · rw [may2_fin hp hf hy.out (by
        simp only [Bool.and_eq_false_iff, decide_eq_false_iff_not] at h
        exact h)]
theorem v47 : Vc g47 300 Tryd.f47 cMay := by
  constructor
  rw [v47_eq]
  intro x hl
  generalize x.fst = l at *
  have hl := (lenA_iff l).1 hl.out
  refine ⟨⟨⟨⟨by omega, by omega, rfl⟩⟩, by repeat' (first | exact ⟨rfl⟩ | apply And.intro)⟩, fun y hy => (bcase_iff _ _ _).2 ⟨fun h => ?_, fun h => ?_⟩⟩
  · have hy := hy.out
    have h := of_decide_eq_true h
    have y0 := hy.i0
    refine ⟨⟨y0⟩, ⟨h⟩, ⟨rfl⟩, ⟨rfl⟩, (bcase_iff _ _ _).2 ⟨fun hm => ?_, fun hm => ?_⟩⟩
    · have : mayA l = false := by
        cases hx : mayA l with
        | false => rfl
        | true =>
          have h1 : may1 (l.getD y.toNat (Ty.zero AdT)) = true := List.all_eq_true.1 hx _ (getD_mem (z := Ty.zero AdT) y0 h)
          have h2 : may1 (l.getD y.toNat (Ty.zero AdT)) = false := by
            rw [Bool.not_eq_true'] at hm
            exact hm
          exact absurd (h1.symm.trans h2) (by decide)
      rw [this]
    · have hm : may1 (l.getD y.toNat (Ty.zero AdT)) = true := by simpa using hm
      rw [step y0 (by omega) h]
      refine ⟨⟨⟨by omega, by omega, ?_⟩⟩, ⟨wcut y0 h⟩, by repeat' (first | exact ⟨rfl⟩ | apply And.intro)⟩
      rw [take_succ l y (Ty.zero AdT) y0 h, List.all_append, hy.a]
      simpa using hm
  · have := hy.out.a
    rw [take_all hy.out.i1 (of_decide_eq_false h)] at this
    rw [show mayA l = true from this]
/-! digits -/
theorem hexF_fuel : ∀ (f m : Nat), 1 ≤ f → m < 16 ^ f → hexF (f + 1) m = hexF f m
  | f + 1, m, _, h => by
    rcases Nat.lt_or_ge m 16 with c | c
    · rw [hexF_small c, hexF_small c]
    · rw [hexF_big c, hexF_big (k := f) c]
      cases f with
      | zero => simp at h; omega
      | succ f => rw [hexF_fuel (f + 1) (m / 16) (by omega) (by rw [Nat.pow_succ] at h; omega)]
theorem digF_big {k n : Nat} (h : 10 ≤ n) : digF (k + 1) n = digF k (n / 10) ++ [UInt8.ofNat (48 + n % 10)] := by
  rw [digF, show decide (n < 10) = false from decide_eq_false (by omega), cond_false]
theorem digF_small {k n : Nat} (h : n < 10) : digF (k + 1) n = [UInt8.ofNat (48 + n)] := by
  rw [digF, show decide (n < 10) = true from decide_eq_true h, cond_true]
theorem digF_fuel : ∀ (f m : Nat), 1 ≤ f → m < 10 ^ f → digF (f + 1) m = digF f m
  | f + 1, m, _, h => by
    rcases Nat.lt_or_ge m 10 with c | c
    · rw [digF_small c, digF_small c]
    · rw [digF_big c, digF_big (k := f) c]
      cases f with
      | zero => simp at h; omega
      | succ f => rw [digF_fuel (f + 1) (m / 10) (by omega) (by rw [Nat.pow_succ] at h; omega)]
theorem hexD_lo {n : Nat} (h : n < 10) : hexD n = UInt8.ofNat (48 + n) := by
  unfold hexD
  rw [decide_eq_true h]
  rfl
theorem dgL_step {b n : Int} (hb : b = 10 ∨ b = 16) (h0 : 0 < n) (h1 : n ≤ 65535) :
    (n / b = 0 ∧ dgL b n = [hexD (n % b).toNat]) ∨ (0 < n / b ∧ dgL b n = dgL b (n / b) ++ [hexD (n % b).toNat]) := by
  obtain ⟨m, rfl⟩ : ∃ m : Nat, n = m := ⟨n.toNat, by omega⟩
  rcases hb with rfl | rfl
  · have e : ∀ k : Int, dgL 10 k = digF 5 k.toNat := fun _ => rfl
    have e1 : ((m : Int) / 10).toNat = m / 10 := by omega
    have e2 : ((m : Int) % 10).toNat = m % 10 := by omega
    rw [e, e, e1, e2, hexD_lo (by omega), Int.toNat_natCast]
    rcases Nat.lt_or_ge m 10 with c | c
    · refine .inl ⟨by omega, ?_⟩
      rw [digF_small c, show m % 10 = m from Nat.mod_eq_of_lt c]
    · refine .inr ⟨by omega, ?_⟩
      rw [digF_big c, digF_fuel 4 (m / 10) (by omega) (by show m / 10 < 10000; omega)]
  · have e : ∀ k : Int, dgL 16 k = hexF 4 k.toNat := fun _ => rfl
    have e1 : ((m : Int) / 16).toNat = m / 16 := by omega
    have e2 : ((m : Int) % 16).toNat = m % 16 := by omega
    rw [e, e, e1, e2, Int.toNat_natCast]
    rcases Nat.lt_or_ge m 16 with c | c
    · refine .inl ⟨by omega, ?_⟩
      rw [hexF_small c, show m % 16 = m from Nat.mod_eq_of_lt c]
    · refine .inr ⟨by omega, ?_⟩
      rw [hexF_big c, hexF_fuel 3 (m / 16) (by omega) (by show m / 16 < 4096; omega)]
def LOWS : ByteArray := ByteArray.mk (List.toArray ((48 : UInt8) :: (49 : UInt8) :: (50 : UInt8) :: (51 : UInt8) :: (52 : UInt8) :: (53 : UInt8) :: (54 : UInt8) :: (55 : UInt8) :: (56 : UInt8) :: (57 : UInt8) :: (97 : UInt8) :: (98 : UInt8) :: (99 : UInt8) :: (100 : UInt8) :: (101 : UInt8) :: (102 : UInt8) :: nilL UInt8))
theorem lows_all : ((List.range 16).all fun d => decide (subS LOWS d (d + 1) = ofL [hexD d])) = true := by decide +kernel
theorem lows_at {d : Int} (h0 : 0 ≤ d) (h : d < 16) : subS LOWS d.toNat (d + 1).toNat = ofL [hexD d.toNat] := by
  rw [show (d + 1).toNat = d.toNat + 1 by omega]
  exact of_decide_eq_true (List.all_eq_true.1 lows_all d.toNat (List.mem_range.2 (by omega)))
theorem dgL_len (b n : Int) : (dgL b n).length ≤ 5 := by
  unfold dgL
  cases decide (b = 16) with
  | true => have := hexF_len 4 n.toNat; rw [cond_true]; exact Nat.le_succ_of_le this
  | false => exact digF_len 5 n.toNat
theorem dgR_sz {b m n : Int} {s : ByteArray} (h : DgRI b m n s) : s.size ≤ 5 := by
  have hm := dgL_len b m
  rcases h.e with ⟨_, e⟩ | ⟨_, e⟩
  · rw [e, ofL_size]; exact hm
  · rw [← e, List.length_append, ← size_bytesL] at hm; omega
theorem v75 : Vc g75 300 Tryd.f75 cDigs := by
  constructor
  rw [v75_eq]
  rw [show (ByteArray.mk (List.toArray ((48 : UInt8) :: (49 : UInt8) :: (50 : UInt8) :: (51 : UInt8) :: (52 : UInt8) :: (53 : UInt8) :: (54 : UInt8) :: (55 : UInt8) :: (56 : UInt8) :: (57 : UInt8) :: (97 : UInt8) :: (98 : UInt8) :: (99 : UInt8) :: (100 : UInt8) :: (101 : UInt8) :: (102 : UInt8) :: nilL UInt8)) : ByteArray) = LOWS from rfl]
  intro x hx
  have hx := hx.out
  generalize x.fst = n at *
  generalize x.snd.fst = b at *
  have hx : ((0 : Int) ≤ n ∧ n ≤ 65535) ∧ (b = 10 ∨ b = 16) := by
    rw [Bool.and_eq_true, Bool.and_eq_true, Bool.or_eq_true, decide_eq_true_eq, decide_eq_true_eq, decide_eq_true_eq, decide_eq_true_eq] at hx
    exact hx
  obtain ⟨⟨n0, n1⟩, hb⟩ := hx
  have mx : maxLen = 9223372036854775807 := rfl
  have ls : LOWS.size = 16 := rfl
  refine (bcase_iff _ _ _).2 ⟨fun h => ?_, fun h => ?_⟩
  · have h : n = 0 := of_decide_eq_true h
    subst h
    rcases hb with rfl | rfl <;> rfl
  · have h : ¬ n = 0 := of_decide_eq_false h
    refine ⟨⟨⟨⟨n0, n1, .inr ⟨by omega, List.append_nil _⟩⟩⟩, by repeat' (first | exact ⟨rfl⟩ | apply And.intro)⟩, fun y hy => (bcase_iff _ _ _).2 ⟨fun h => ?_, fun h => ?_⟩⟩
    · have hy := hy.out
      have hs := dgR_sz hy
      obtain ⟨y0, y1, e⟩ := hy
      have h : y.1 > 0 := of_decide_eq_true h
      rcases e with ⟨e, _⟩ | ⟨_, e⟩
      · omega
      have hst := dgL_step hb h y1
      have t1 : Int.tmod y.1 b = y.1 % b := Int.tmod_eq_emod_of_nonneg y0
      have t2 : Int.tdiv y.1 b = y.1 / b := Int.tdiv_eq_ediv_of_nonneg y0
      have m0 : 0 ≤ y.1 % b ∧ y.1 % b < 16 ∧ 0 ≤ y.1 / b ∧ y.1 / b < y.1 := by rcases hb with rfl | rfl <;> omega
      obtain ⟨m0, m1, m2, m3⟩ := m0
      have b0 : b ≠ 0 := by omega
      rw [t1, t2, w64 (n := y.1 % b + 1) (by omega) (by omega), w64 (n := y.1 / b) (by omega) (by omega), lows_at m0 m1]
      refine ⟨⟨b0⟩, ⟨b0⟩, ⟨m0⟩, ⟨by omega⟩, ⟨by rw [ls]; omega⟩, ⟨by rw [ofL_size, mx]; show 1 + _ ≤ _; omega⟩, ⟨b0⟩, ⟨⟨by omega, by omega, ?_⟩⟩, ⟨by omega⟩, by repeat' (first | exact ⟨rfl⟩ | apply And.intro)⟩
      rcases hst with ⟨q, hst⟩ | ⟨q, hst⟩
      · refine .inl ⟨q, ?_⟩
        rw [← e, hst]
        apply bytesL_inj
        rw [bytesL_ofL]
        simp [bytesL, ofL]
      · refine .inr ⟨q, ?_⟩
        rw [← e, hst]
        simp [bytesL, ofL]
    · have h : ¬ y.1 > 0 := of_decide_eq_false h
      obtain ⟨y0, y1, e⟩ := hy.out
      rcases e with ⟨_, e⟩ | ⟨e, _⟩
      · rw [e]; rfl
      · omega
/-! the longest run -/
def pat (l : List Int) : List Int := l.map fun x => bif decide (x = 0) then 0 else 1
theorem pat_zero (x : Int) : decide ((bif decide (x = 0) then (0 : Int) else 1) = 0) = decide (x = 0) := by
  by_cases h : x = 0 <;> simp [h]
theorem long_pat : ∀ (l : List Int) (i n a m : Int), longGo i n a m (pat l) = longGo i n a m l
  | [], _, _, _, _ => rfl
  | x :: r, i, n, a, m => by
    show longGo i n a m ((bif decide (x = 0) then 0 else 1) :: pat r) = _
    rw [longGo, longGo, pat_zero, long_pat r, long_pat r, long_pat r]
theorem zc_pat : ∀ (l : List Int), zc (pat l) = zc l
  | [] => rfl
  | x :: r => by
    show zc ((bif decide (x = 0) then 0 else 1) :: pat r) = _
    rw [zc, zc, pat_zero, zc_pat r]
theorem runG_pat (l : List Int) : ∀ i, runG (pat l) i = runG l i
  | 0 => rfl
  | i + 1 => by
    have : (pat l).drop i = pat (l.drop i) := List.map_drop.symm
    rw [runG, runG, runG_pat l i, this, zc_pat]
def rr (p : Int × Int) : Int × Int := bif decide (p.2 = 0) then (-1, 1) else p
def b8 (b : Bool) : Int := bif b then 0 else 1
theorem run_all : ∀ a b c d e f g h : Bool, runG [b8 a, b8 b, b8 c, b8 d, b8 e, b8 f, b8 g, b8 h] 8 = rr (longL [b8 a, b8 b, b8 c, b8 d, b8 e, b8 f, b8 g, b8 h]) := by decide +kernel
theorem run_eq (g : G8) : runG (gl g) 8 = (run1 g, run2 g) := by
  have h : runG (gl g) 8 = rr (longL (gl g)) := by
    rw [← runG_pat]
    unfold longL
    rw [← long_pat]
    exact run_all (decide (g.1 = 0)) (decide (g.2.1 = 0)) (decide (g.2.2.1 = 0)) (decide (g.2.2.2.1 = 0)) (decide (g.2.2.2.2.1 = 0)) (decide (g.2.2.2.2.2.1 = 0)) (decide (g.2.2.2.2.2.2.1 = 0)) (decide (g.2.2.2.2.2.2.2.1 = 0))
  rw [h]
  unfold run1 run2 rr long1 long2
  cases decide ((longL (gl g)).2 = 0) <;> rfl
theorem zc_step {l : List Int} {k : Int} (h0 : 0 ≤ k) (h : k < l.length) : zc (l.drop k.toNat) = if l.getD k.toNat 0 = 0 then zc (l.drop (k + 1).toNat) + 1 else 0 := by
  rw [drop_cons l k 0 h0 h, zc]
  by_cases hz : l.getD k.toNat 0 = 0
  · rw [decide_eq_true hz, cond_true, if_pos hz]
  · rw [decide_eq_false hz, cond_false, if_neg hz]
theorem v100 : Vc g100 300 Tryd.f100 cRun := by
  constructor
  rw [v100_eq]
  intro x _
  generalize x.fst = g
  have hg : (g.1 :: g.2.1 :: g.2.2.1 :: g.2.2.2.1 :: g.2.2.2.2.1 :: g.2.2.2.2.2.1 :: g.2.2.2.2.2.2.1 :: g.2.2.2.2.2.2.2.1 :: nilL Int) = gl g := rfl
  have hl := len_gl g
  rw [hg]
  refine ⟨⟨⟨⟨by omega, by omega, rfl⟩⟩, by repeat' (first | exact ⟨rfl⟩ | apply And.intro)⟩, fun y hy => (bcase_iff _ _ _).2 ⟨fun h => ?_, fun h => ?_⟩⟩
  · obtain ⟨i0, i1, e⟩ := hy.out
    have h : y.2.2 < 8 := of_decide_eq_true h
    have en : (y.2.2 + 1).toNat = y.2.2.toNat + 1 := by omega
    refine ⟨⟨⟨⟨by omega, by omega, by simp⟩⟩, by repeat' (first | exact ⟨rfl⟩ | apply And.intro)⟩, fun z hz => ?_⟩
    obtain ⟨n0, n1, ez⟩ := hz.out
    have w1 : IntKind.wrap .i64 (y.2.2 + z) = y.2.2 + z := w64 (by omega) (by omega)
    rw [w1]
    refine ⟨⟨fun _ => by omega⟩, ⟨fun h => of_decide_eq_true h⟩, (bcase_iff _ _ _).2 ⟨fun hb => ?_, fun hb => ?_⟩⟩
    · rw [Bool.and_eq_true, decide_eq_true_eq, decide_eq_true_eq] at hb
      rw [w64 (by omega) (by omega)]
      refine ⟨⟨⟨by omega, by omega, ?_⟩⟩, ⟨by omega⟩, by repeat' (first | exact ⟨rfl⟩ | apply And.intro)⟩
      rw [ez, zc_step (k := y.2.2 + z) (by omega) (by omega), if_pos hb.2, Int.add_assoc]
      omega
    · rw [Bool.and_eq_false_iff, decide_eq_false_iff_not, decide_eq_false_iff_not] at hb
      have hz0 : zc ((gl g).drop (y.2.2 + z).toNat) = 0 := by
        by_cases h8 : y.2.2 + z < 8
        · rw [zc_step (k := y.2.2 + z) (by omega) (by omega), if_neg (by rcases hb with hb | hb; exact absurd h8 hb; exact hb)]
        · rw [List.drop_eq_nil_iff.2 (by omega)]
          rfl
      have hzc : ((zc ((gl g).drop y.2.2.toNat) : Nat) : Int) = z := by rw [ez, hz0]; omega
      have ha : y.1 = (runG (gl g) y.2.2.toNat).1 := congrArg Prod.fst e
      have hm : y.2.1 = (runG (gl g) y.2.2.toNat).2 := congrArg Prod.snd e
      have hmu : 8 - (IntKind.wrap .i64 (y.2.2 + 1)).toNat < 8 - y.2.2.toNat := by rw [w64 (by omega) (by omega)]; omega
      have w2 : IntKind.wrap .i64 (y.2.2 + 1) = y.2.2 + 1 := w64 (by omega) (by omega)
      refine (bcase_iff _ _ _).2 ⟨fun hb => ⟨⟨?_⟩, ⟨hmu⟩, by repeat' (first | exact ⟨rfl⟩ | apply And.intro)⟩, fun hb => ⟨⟨?_⟩, ⟨hmu⟩, by repeat' (first | exact ⟨rfl⟩ | apply And.intro)⟩⟩
      · rw [w2]
        refine ⟨by omega, by omega, ?_⟩
        rw [en, runG, hzc, ← hm, hb, cond_true]
        congr 1
        omega
      · rw [w2]
        refine ⟨by omega, by omega, ?_⟩
        rw [en, runG, hzc, ← hm, hb, cond_false]
        exact e
  · obtain ⟨i0, i1, e⟩ := hy.out
    have h : ¬ y.2.2 < 8 := of_decide_eq_false h
    have e8 : y.2.2.toNat = 8 := by omega
    rw [e8, run_eq] at e
    have ha : y.1 = run1 g := congrArg Prod.fst e
    have hm : y.2.1 = run2 g := congrArg Prod.snd e
    rw [ha, hm]
end Go.Proofs.YtkimpfoimblhjaaDoor.Ad
set_option linter.all false
namespace Go.Proofs.YtkimpfoimblhjaaDoor.Ad
open Go Go.Eng Go.Lb Go.Ad Lb
set_option maxRecDepth 100000
set_option maxHeartbeats 2000000
theorem hexesL_snoc {l : List Int} (x : Int) (h : l ≠ []) : hexesL (l ++ [x]) = hexesL l ++ ([58] ++ hexL x.toNat) := by
  unfold hexesL
  rw [List.map_append, List.map_cons, List.map_nil, join_snoc _ _ _ (by simpa using h)]
theorem hexesL_one (x : Int) : hexesL [x] = hexL x.toNat := Go.Lib.join_one _ _
theorem hexL_last {x : Int} (h : inR x) : ∃ b, (hexL x.toNat).getLast? = some b ∧ b ≠ 58 := by
  obtain ⟨_, h1, _, h2⟩ := grpL_hex (n := x.toNat) (by have := h.1; have := h.2; omega)
  cases hl : (hexL x.toNat).getLast? with
  | none => rw [List.getLast?_eq_none_iff] at hl; rw [hl] at h1; simp at h1
  | some b =>
    refine ⟨b, rfl, fun e => ?_⟩
    have := h2 b (List.mem_of_getLast? hl)
    rw [e] at this
    exact absurd this (by decide)
theorem hexesL_last {m : List Int} (h : m ≠ []) (hr : ∀ x ∈ m, inR x) : ∃ b, (hexesL m).getLast? = some b ∧ b ≠ 58 := by
  obtain ⟨r, x, rfl⟩ : ∃ r x, m = r ++ [x] := ⟨m.dropLast, m.getLast h, (List.dropLast_concat_getLast h).symm⟩
  obtain ⟨b, hb, hn⟩ := hexL_last (hr x (by simp))
  refine ⟨b, ?_, hn⟩
  by_cases hr : r = []
  · subst hr
    rw [List.nil_append, hexesL_one]
    exact hb
  · rw [hexesL_snoc x hr, List.getLast?_append, List.getLast?_append, hb]; rfl
def endC (t : List UInt8) : Bool := match t.getLast? with
  | none => false
  | some b => decide (b ≠ 58)
theorem endC_eq (t : List UInt8) (ht : t.length ≤ 1000) : (!decide (ofL t = ofL []) && !decide (byteAt (ofL t) (IntKind.wrap .i64 ((((ofL t).size : Nat) : Int) - 1)).toNat = 58)) = endC t := by
  unfold endC
  cases hl : t.getLast? with
  | none =>
    rw [List.getLast?_eq_none_iff] at hl
    subst hl
    rw [decide_eq_true (rfl : ofL [] = ofL [])]
    rfl
  | some b =>
    have hne : t ≠ [] := by intro e; rw [e] at hl; cases hl
    have h1 : 1 ≤ t.length := by cases t with | nil => exact absurd rfl hne | cons _ _ => simp
    have n0 : ¬ ofL t = ofL [] := fun e => hne (by have := congrArg bytesL e; rwa [bytesL_ofL, bytesL_ofL] at this)
    have w : IntKind.wrap .i64 ((((ofL t).size : Nat) : Int) - 1) = (t.length : Int) - 1 := by rw [ofL_size, w64 (by omega) (by omega)]
    rw [w, decide_eq_false n0, byteAt_eq, bytesL_ofL, show ((t.length : Int) - 1).toNat = t.length - 1 from by omega]
    rw [List.getLast?_eq_getElem?] at hl
    rw [List.getD_eq_getElem?_getD, hl, Option.getD_some, Bool.not_false, Bool.true_and]
    show (!decide ((b.toNat : Int) = 58)) = decide (b ≠ 58)
    by_cases hb : b = 58
    · subst hb; rfl
    · rw [decide_eq_true (show b ≠ 58 from hb), decide_eq_false (fun e => hb (UInt8.toNat_inj.1 (by show b.toNat = 58; omega)))]; rfl
theorem tail_step {pre : List UInt8} {m : List Int} (n : Int) (hp : pre = [] ∨ pre.getLast? = some 58) (hr : ∀ x ∈ m, inR x) :
    pre ++ hexesL (m ++ [n]) = (bif endC (pre ++ hexesL m) then pre ++ hexesL m ++ [58] else pre ++ hexesL m) ++ hexL n.toNat := by
  by_cases hm : m = []
  · subst hm
    have e : endC (pre ++ hexesL []) = false := by
      rw [show hexesL [] = [] from rfl, List.append_nil]
      unfold endC
      rcases hp with rfl | hp
      · rfl
      · rw [hp]; rfl
    rw [e, cond_false, show hexesL [] = [] from rfl, List.append_nil, List.nil_append, hexesL_one]
  · obtain ⟨b, hb, hn⟩ := hexesL_last hm hr
    have e : endC (pre ++ hexesL m) = true := by
      unfold endC
      rw [List.getLast?_append, hb]
      exact decide_eq_true hn
    rw [e, cond_true, hexesL_snoc n hm]
    simp
theorem long_facts {g : G8} (h : ¬ long2 g = 0) : 2 ≤ long2 g ∧ 0 ≤ long1 g ∧ long1 g + long2 g ≤ 8 := by
  have hl := longL_ok (gl g)
  rcases hl with h' | ⟨h1, h2, h3, _⟩
  · exact absurd h' h
  · exact ⟨h1, h2, h3⟩
theorem sixP_lo {g : G8} {i : Int} (h : long2 g = 0 ∨ i ≤ long1 g) : sixP g i = hexesL ((gl g).take i.toNat) := by
  unfold sixP
  rw [show (decide (long2 g = 0) || decide (i ≤ long1 g)) = true by simpa using h, cond_true]
theorem sixP_hi {g : G8} {i : Int} (h0 : ¬ long2 g = 0) (h : ¬ i ≤ long1 g) : sixP g i = hexesL ((gl g).take (long1 g).toNat) ++ [58, 58] ++ hexesL (((gl g).take i.toNat).drop (long1 g + long2 g).toNat) := by
  unfold sixP
  rw [decide_eq_false h0, decide_eq_false h]
  rfl
theorem sixP_len (g : G8) (i : Int) : (sixP g i).length ≤ 100 := by
  have h1 := hexesL_len (l := (gl g).take i.toNat) (by rw [List.length_take, len_gl]; omega)
  have h2 := hexesL_len (l := (gl g).take (long1 g).toNat) (by rw [List.length_take, len_gl]; omega)
  have h3 := hexesL_len (l := ((gl g).take i.toNat).drop (long1 g + long2 g).toNat) (by rw [List.length_drop, List.length_take, len_gl]; omega)
  unfold sixP
  cases (decide (long2 g = 0) || decide (i ≤ long1 g)) with
  | true => rw [cond_true]; omega
  | false => rw [cond_false, List.length_append, List.length_append]; show _ + 2 + _ ≤ _; omega
theorem six_run {g : G8} {s : ByteArray} {i : Int} (h : SixRI g s i) (hi : i < 8) (hr : i = run1 g) : ¬ long2 g = 0 ∧ i = long1 g ∧ run2 g = long2 g ∧ SixRI g (s ++ ofL [58, 58]) (i + run2 g) := by
  have i0 := h.i0
  have h0 : ¬ long2 g = 0 := by
    intro h0
    unfold run1 at hr
    rw [decide_eq_true h0, cond_true] at hr
    omega
  have h1 : i = long1 g := by unfold run1 at hr; rw [decide_eq_false h0, cond_false] at hr; exact hr
  have h2 : run2 g = long2 g := by unfold run2; rw [decide_eq_false h0, cond_false]
  obtain ⟨f1, f2, f3⟩ := long_facts h0
  refine ⟨h0, h1, h2, ⟨by omega, by omega, .inr (.inr (by omega)), ?_⟩⟩
  rw [h.e, ofL_app, sixP_lo (.inr (by omega)), sixP_hi h0 (by omega), h2, ← h1]
  congr 1
  have : ((gl g).take (i + long2 g).toNat).drop (i + long2 g).toNat = [] := by
    rw [List.drop_eq_nil_iff, List.length_take]; omega
  rw [this]
  simp [hexesL, Go.Lib.join_nil]
theorem six_on {g : G8} {s : ByteArray} {i : Int} (h : SixRI g s i) (hi : i < 8) (hr : ¬ i = run1 g) (hR : ∀ x ∈ gl g, inR x) :
    ∃ t, s = ofL t ∧ t.length ≤ 100 ∧ SixRI g (ofL ((bif endC t then t ++ [58] else t) ++ hexL ((gl g).getD i.toNat 0).toNat)) (i + 1) := by
  obtain ⟨i0, i1, ho, e⟩ := h
  refine ⟨sixP g i, e, sixP_len g i, ?_⟩
  have ht := take_succ (gl g) i 0 i0 (by rw [len_gl]; omega)
  have hRt : ∀ x ∈ (gl g).take i.toNat, inR x := fun x hx => hR x (List.mem_of_mem_take hx)
  by_cases h0 : long2 g = 0
  · refine ⟨by omega, by omega, .inl h0, ?_⟩
    rw [sixP_lo (.inl h0), sixP_lo (.inl h0), ht]
    have := tail_step (pre := []) ((gl g).getD i.toNat 0) (.inl rfl) hRt
    simp only [List.nil_append] at this
    rw [this]
  · have hr1 : ¬ i = long1 g := by
      intro e1
      apply hr
      unfold run1
      rw [decide_eq_false h0, cond_false]
      exact e1
    obtain ⟨f1, f2, f3⟩ := long_facts h0
    rcases ho with ho | ho | ho
    · exact absurd ho h0
    · refine ⟨by omega, by omega, .inr (.inl (by omega)), ?_⟩
      rw [sixP_lo (.inr ho), sixP_lo (.inr (by omega)), ht]
      have := tail_step (pre := []) ((gl g).getD i.toNat 0) (.inl rfl) hRt
      simp only [List.nil_append] at this
      rw [this]
    · refine ⟨by omega, by omega, .inr (.inr (by omega)), ?_⟩
      rw [sixP_hi h0 (by omega), sixP_hi h0 (by omega), ht]
      have hd : ((gl g).take i.toNat ++ [(gl g).getD i.toNat 0]).drop (long1 g + long2 g).toNat = ((gl g).take i.toNat).drop (long1 g + long2 g).toNat ++ [(gl g).getD i.toNat 0] := by
        rw [List.drop_append_of_le_length]
        rw [List.length_take, len_gl]
        omega
      rw [hd, tail_step (pre := hexesL ((gl g).take (long1 g).toNat) ++ [58, 58]) ((gl g).getD i.toNat 0) (.inr (by rw [List.getLast?_append]; rfl)) (fun x hx => hRt x (List.mem_of_mem_drop hx))]
theorem six_end {g : G8} {s : ByteArray} {i : Int} (h : SixRI g s i) (hi : ¬ i < 8) : s = sixS g := by
  obtain ⟨i0, i1, ho, e⟩ := h
  have e8 : i = 8 := by omega
  subst e8
  have ht : (gl g).take (8 : Int).toNat = gl g := List.take_of_length_le (Nat.le_of_eq (len_gl g))
  rw [e]
  unfold sixS inL
  by_cases h0 : long2 g = 0
  · rw [sixP_lo (.inl h0), decide_eq_true h0, cond_true, ht]
  · obtain ⟨f1, f2, f3⟩ := long_facts h0
    rw [sixP_hi h0 (by omega), decide_eq_false h0, cond_false, ht]
theorem v76 : Vc g76 300 Tryd.f76 cSixS.T := by
  constructor
  rw [v76_eq]
  rw [show (ByteArray.mk (List.toArray ((58 : UInt8) :: nilL UInt8)) : ByteArray) = ofL [58] from rfl, show (ByteArray.mk (List.toArray ((58 : UInt8) :: (58 : UInt8) :: nilL UInt8)) : ByteArray) = ofL [58, 58] from rfl, show (ByteArray.mk (List.toArray (nilL UInt8)) : ByteArray) = ofL [] from rfl]
  intro x hx
  have hR : ∀ z ∈ gl x.1, inR z := by
    have h1 : (typedB G8T x.1 && true) = true := hx.out.1
    have h2 : typedB AdT (0, x.1, 0, ()) = true := by
      have : (typedB G8T x.1 && true) = true := h1
      show (decide (IntKind.wrap .i8 0 = 0) && (typedB G8T x.1 && (decide (IntKind.wrap .i64 0 = 0) && true))) = true
      rw [Bool.and_true] at this
      rw [this]
      decide
    exact (typed_R h2).g
  clear hx
  generalize x.fst = g at *
  have hg : (g.1 :: g.2.1 :: g.2.2.1 :: g.2.2.2.1 :: g.2.2.2.2.1 :: g.2.2.2.2.2.1 :: g.2.2.2.2.2.2.1 :: g.2.2.2.2.2.2.2.1 :: nilL Int) = gl g := rfl
  rw [hg]
  have mx : maxLen = 9223372036854775807 := rfl
  have s1 : (ofL [58]).size = 1 := ofL_size _
  have s2 : (ofL [58, 58]).size = 2 := ofL_size _
  refine ⟨⟨rfl⟩, ⟨⟨⟨by omega, by omega, ?_, ?_⟩⟩, by repeat' (first | exact ⟨rfl⟩ | apply And.intro)⟩, fun y hy => (bcase_iff _ _ _).2 ⟨fun h => ?_, fun h => ?_⟩⟩
  · by_cases h0 : long2 g = 0
    · exact .inl h0
    · exact .inr (.inl (long_facts h0).2.1)
  · have : long2 g = 0 ∨ (0 : Int) ≤ long1 g := by
      by_cases h0 : long2 g = 0
      · exact .inl h0
      · exact .inr (long_facts h0).2.1
    rw [sixP_lo this]
    rfl
  · have hy := hy.out
    have h : y.2 < 8 := of_decide_eq_true h
    have y0 := hy.i0
    have hsz : y.1.size ≤ 100 := by rw [hy.e, ofL_size]; exact sixP_len g y.2
    refine (bcase_iff _ _ _).2 ⟨fun hr => ?_, fun hr => ?_⟩
    · have hr : y.2 = run1 g := of_decide_eq_true hr
      obtain ⟨q0, q1, q2, q3⟩ := six_run hy h hr
      obtain ⟨f1, f2, f3⟩ := long_facts q0
      have e1 : IntKind.wrap .i64 (y.2 + run2 g) = y.2 + run2 g := w64 (by omega) (by omega)
      have e2 : IntKind.wrap .i64 (y.2 + run2 g - 1) = y.2 + run2 g - 1 := w64 (by omega) (by omega)
      have e3 : IntKind.wrap .i64 (y.2 + run2 g - 1 + 1) = y.2 + run2 g := by rw [w64 (by omega) (by omega)]; omega
      rw [e1, e2, e3]
      exact ⟨⟨by rw [s2, mx]; omega⟩, ⟨q3⟩, ⟨by omega⟩, by repeat' (first | exact ⟨rfl⟩ | apply And.intro)⟩
    · have hr : ¬ y.2 = run1 g := of_decide_eq_false hr
      obtain ⟨t, ht, htl, hst⟩ := six_on hy h hr hR
      have hn : inR ((gl g).getD y.2.toNat 0) := hR _ (getD_mem y0 (by rw [len_gl]; omega))
      have wn : IntKind.wrap .i64 ((gl g).getD y.2.toNat 0) = (gl g).getD y.2.toNat 0 := w64 hn.1 (by have := hn.2; omega)
      have w1 : IntKind.wrap .i64 (y.2 + 1) = y.2 + 1 := w64 (by omega) (by omega)
      have hd : dgS ((gl g).getD y.2.toNat 0) 16 = ofL (hexL ((gl g).getD y.2.toNat 0).toNat) := rfl
      have hdl : (dgS ((gl g).getD y.2.toNat 0) 16).size ≤ 5 := by unfold dgS; rw [ofL_size]; exact dgL_len _ _
      have hpre : (decide ((0 : Int) ≤ (gl g).getD y.2.toNat 0) && decide ((gl g).getD y.2.toNat 0 ≤ (65535 : Int)) && (decide ((16 : Int) = (10 : Int)) || decide ((16 : Int) = (16 : Int)))) = true := by
        have := hn.1; have := hn.2
        rw [decide_eq_true (show (0 : Int) ≤ (gl g).getD y.2.toNat 0 by omega), decide_eq_true (show (gl g).getD y.2.toNat 0 ≤ 65535 by omega)]
        rfl
      have hc := endC_eq t (by omega)
      rw [← ht] at hc
      rw [wn, w1, hc]
      have hwz : y.1 = ofL [] ∨ 1 ≤ y.1.size := by
        rw [ht, ofL_size]
        cases t with
        | nil => exact .inl rfl
        | cons _ _ => exact .inr (by simp)
      have hwz' : (!decide (y.1 = ofL [])) = true → 1 ≤ y.1.size := by
        intro h
        rcases hwz with e | e
        · rw [decide_eq_true e] at h; cases h
        · exact e
      have wsz : (!decide (y.1 = ofL [])) = true → IntKind.wrap .i64 ((y.1.size : Int) - 1) = (y.1.size : Int) - 1 := fun h => by
        have := hwz' h
        exact w64 (by omega) (by omega)
      refine ⟨⟨fun h => by have := hwz' h; rw [wsz h]; omega⟩, ⟨fun h => by have := hwz' h; rw [wsz h]; omega⟩, (bcase_iff _ _ _).2 ⟨fun he => ?_, fun he => ?_⟩⟩
      · rw [he, cond_true, ← ofL_app, ← ofL_app, ← ht, ← hd] at hst
        exact ⟨⟨by rw [s1, mx]; omega⟩, ⟨y0⟩, ⟨by omega⟩, ⟨hpre⟩, ⟨by rw [ByteArray.size_append, s1, mx]; omega⟩, ⟨hst⟩, ⟨by omega⟩, by repeat' (first | exact ⟨rfl⟩ | apply And.intro)⟩
      · rw [he, cond_false, ← ofL_app, ← ht, ← hd] at hst
        exact ⟨⟨y0⟩, ⟨by omega⟩, ⟨hpre⟩, ⟨by rw [mx]; omega⟩, ⟨hst⟩, ⟨by omega⟩, by repeat' (first | exact ⟨rfl⟩ | apply And.intro)⟩
  · rw [six_end hy.out (of_decide_eq_false h)]
end Go.Proofs.YtkimpfoimblhjaaDoor.Ad
set_option linter.all false
namespace Go.Proofs.YtkimpfoimblhjaaDoor.Ad
open Go Go.Eng Go.Lb Go.Ad Lb
set_option maxRecDepth 100000
set_option maxHeartbeats 2000000
theorem byte_parts {n : Int} (h : inR n) : IntKind.wrap .i64 (Int.tdiv (IntKind.wrap .i64 n) 256) = ((n.toNat / 256 : Nat) : Int) ∧ Int.tmod (IntKind.wrap .i64 n) 256 = ((n.toNat % 256 : Nat) : Int) := by
  have h0 := h.1
  have h1 := h.2
  rw [w64 (n := n) h0 (by omega), Int.tdiv_eq_ediv_of_nonneg h0, Int.tmod_eq_emod_of_nonneg h0, w64 (by omega) (by omega)]
  omega
theorem dg_pre {n : Int} (h0 : 0 ≤ n) (h1 : n ≤ 65535) : (decide ((0 : Int) ≤ n) && decide (n ≤ (65535 : Int)) && (decide ((10 : Int) = (10 : Int)) || decide ((10 : Int) = (16 : Int)))) = true := by
  rw [decide_eq_true h0, decide_eq_true h1]
  rfl
theorem v45 : Vc g45 300 Tryd.f45 cText.T := by
  constructor
  rw [v45_eq]
  rw [show (ByteArray.mk (List.toArray ((58 : UInt8) :: nilL UInt8)) : ByteArray) = ofL [58] from rfl, show (ByteArray.mk (List.toArray ((91 : UInt8) :: nilL UInt8)) : ByteArray) = ofL [91] from rfl, show (ByteArray.mk (List.toArray ((93 : UInt8) :: nilL UInt8)) : ByteArray) = ofL [93] from rfl, show (ByteArray.mk (List.toArray ((46 : UInt8) :: nilL UInt8)) : ByteArray) = ofL [46] from rfl]
  intro x hx
  have hr : AdR x.1 := by
    have h1 : (typedB AdT x.1 && true) = true := hx.out.1
    rw [Bool.and_true] at h1
    exact typed_R h1
  clear hx
  generalize x.fst = a at *
  have i0 : inR a.2.1.1 := hr.g _ (by simp [gl])
  have i1 : inR a.2.1.2.1 := hr.g _ (by simp [gl])
  have mx : maxLen = 9223372036854775807 := rfl
  have s1 : ∀ b : UInt8, (ofL [b]).size = 1 := fun b => ofL_size [b]
  have hd : ∀ n, (dgS n 10).size ≤ 5 := fun n => by unfold dgS; rw [ofL_size]; exact dgL_len _ _
  refine ⟨⟨rfl⟩, (bcase_iff _ _ _).2 ⟨fun h => text_no' (by simpa using h), fun h => ?_⟩⟩
  have hm : may1 a = true := by simpa using h
  have hm' := (may1_iff a).1 hm
  have hport : dgS a.2.2.1 10 = ofL (digL a.2.2.1.toNat) := rfl
  have hpp := hd a.2.2.1
  have six40 : (sixS a.2.1).size ≤ 100 := by
    unfold sixS
    rw [ofL_size]
    have := six_end (g := a.2.1) (s := ofL (sixP a.2.1 8)) (i := 8) ⟨by omega, by omega, by
      by_cases h0 : long2 a.2.1 = 0
      · exact .inl h0
      · exact .inr (.inr (long_facts h0).2.2), rfl⟩ (by omega)
    have h2 := sixP_len a.2.1 8
    rw [← ofL_size, this] at h2
    unfold sixS at h2
    rwa [ofL_size] at h2
  refine ⟨⟨dg_pre (by omega) (by omega)⟩, ⟨by rw [s1, mx]; omega⟩, (bcase_iff _ _ _).2 ⟨fun h6 => ?_, fun h6 => ?_⟩⟩
  · have k6 : a.1 = 6 := of_decide_eq_true h6
    refine ⟨⟨rfl⟩, ⟨by rw [s1, mx]; omega⟩, ⟨by simp only [ByteArray.size_append, s1, mx]; omega⟩, ⟨by simp only [ByteArray.size_append, s1, mx]; omega⟩, text_yes hm ?_⟩
    rw [hport, show sixS a.2.1 = ofL (inL a.2.1) from rfl, ofL_app, ofL_app, ofL_app, ofL_app]
    unfold text0 hostL
    rw [decide_eq_false (show ¬ a.1 = 4 by omega), cond_false]
    rfl
  · have k4 : a.1 = 4 := by
      have : ¬ a.1 = 6 := of_decide_eq_false h6
      rcases hm'.2 with h | h
      · exact absurd h this
      · exact h.1
    obtain ⟨p1, p2⟩ := byte_parts i0
    obtain ⟨p3, p4⟩ := byte_parts i1
    unfold inR at i0 i1
    rw [p1, p2, p3, p4]
    have d1 := hd ((a.2.1.1.toNat / 256 : Nat) : Int)
    have d2 := hd ((a.2.1.1.toNat % 256 : Nat) : Int)
    have d3 := hd ((a.2.1.2.1.toNat / 256 : Nat) : Int)
    have d4 := hd ((a.2.1.2.1.toNat % 256 : Nat) : Int)
    have fin : dgS ((a.2.1.1.toNat / 256 : Nat) : Int) 10 ++ ofL [46] ++ dgS ((a.2.1.1.toNat % 256 : Nat) : Int) 10 ++ ofL [46] ++ dgS ((a.2.1.2.1.toNat / 256 : Nat) : Int) 10 ++ ofL [46] ++ dgS ((a.2.1.2.1.toNat % 256 : Nat) : Int) 10 ++ (ofL [58] ++ dgS a.2.2.1 10) = ofL (text0 a) := by
      have e : ∀ n : Nat, dgS (n : Int) 10 = ofL (digL n) := fun n => rfl
      rw [hport, e, e, e, e, ofL_app, ofL_app, ofL_app, ofL_app, ofL_app, ofL_app, ofL_app, ofL_app]
      unfold text0 hostL
      rw [decide_eq_true k4, cond_true]
      unfold fourL
      rw [join_cc, join_cc, join_cc, Go.Lib.join_one]
      simp
    have hq := text_yes hm fin
    generalize dgS ((a.2.1.1.toNat / 256 : Nat) : Int) 10 = A at *
    generalize dgS ((a.2.1.1.toNat % 256 : Nat) : Int) 10 = B at *
    generalize dgS ((a.2.1.2.1.toNat / 256 : Nat) : Int) 10 = C at *
    generalize dgS ((a.2.1.2.1.toNat % 256 : Nat) : Int) 10 = D at *
    generalize dgS a.2.2.1 10 = E at *
    repeat' (first | exact hq | with_reducible apply And.intro | exact ⟨dg_pre (by omega) (by omega)⟩ | exact ⟨by decide⟩ | exact ⟨by simp only [ByteArray.size_append, s1, mx]; omega⟩)
end Go.Proofs.YtkimpfoimblhjaaDoor.Ad
set_option linter.all false
namespace Go.Proofs.YtkimpfoimblhjaaDoor.Ad
open Go Go.Eng Go.Lb Go.Ad Lb
set_option maxRecDepth 100000
set_option maxHeartbeats 2000000
theorem ofL_bytesL (s : ByteArray) : ofL (bytesL s) = s := bytesL_inj (bytesL_ofL _)
theorem size0 {s : ByteArray} (h : s.size < 1) : s = ofL [] := by
  apply bytesL_inj
  rw [bytesL_ofL]
  exact List.eq_nil_of_length_eq_zero (by rw [← size_bytesL]; omega)
theorem num_no {s : ByteArray} {m : Int} (h : numOk (bytesL s) = false) : ((0 : Int), false, ()) = (num1 s m, num2 s m, ()) := by
  unfold num1 num2
  rw [h]
  rfl
theorem num_yes {s : ByteArray} {m n : Int} (h : numOk (bytesL s) = true) (hn : n = ((numL 0 (bytesL s) : Nat) : Int)) : (n, decide (n ≤ m), ()) = (num1 s m, num2 s m, ()) := by
  unfold num1 num2
  rw [h, hn]
  rfl
theorem take1 {s : ByteArray} {i : Int} (i0 : 0 ≤ i) (hi : i < s.size) : (bytesL s).take (i + 1).toNat = (bytesL s).take i.toNat ++ [(bytesL s).getD i.toNat 0] := by
  rw [show (i + 1).toNat = i.toNat + 1 from by omega, take_next (by omega)]
theorem drop1 {s : ByteArray} {i : Int} (i0 : 0 ≤ i) (hi : i < s.size) : (bytesL s).drop i.toNat = (bytesL s).getD i.toNat 0 :: (bytesL s).drop (i + 1).toNat :=
  drop_cons _ i 0 i0 (by rw [← size_bytesL]; exact hi)
theorem wu8 {n : Int} (h0 : 0 ≤ n) (h1 : n < 256) : IntKind.wrap .u8 n = n := by
  simp [IntKind.wrap, IntKind.signed, IntKind.bits]; omega
theorem dec_on {s : ByteArray} {n i : Int} (h : DecRI s n i) (hs : s.size ≤ 5) (hi : i < s.size) (h1 : ¬ byteAt s i.toNat < 48) (h2 : ¬ byteAt s i.toNat > 57) :
    DecRI s (IntKind.wrap .i64 (IntKind.wrap .i64 (n * 10) + IntKind.wrap .i64 (IntKind.wrap .u8 (byteAt s i.toNat - 48)))) (IntKind.wrap .i64 (i + 1)) := by
  obtain ⟨i0, i1, n0, n1, d, e⟩ := h
  rw [byteAt_eq] at *
  generalize hb : (bytesL s).getD i.toNat 0 = b at *
  have hb8 := b.toNat_lt
  have hp := pw_le (p := i.toNat) (by omega)
  rw [w64 (n := i + 1) (by omega) (by omega), wu8 (by omega) (by omega), w64 (n := n * 10) (by omega) (by omega), w64 (n := (b.toNat : Int) - 48) (by omega) (by omega), w64 (by omega) (by omega)]
  have ht := take1 i0 hi
  rw [hb] at ht
  refine ⟨by omega, by omega, by omega, ?_, ?_, ?_⟩
  · rw [show (i + 1).toNat = i.toNat + 1 from by omega, Int.pow_succ]; omega
  · rw [ht, List.all_append, d, Bool.true_and, List.all_cons, (isDigit_iff b).2 (by omega)]; rfl
  · rw [ht, numL_snoc, e]; omega
theorem v77 : Vc g77 300 Tryd.f77 cNum := by
  constructor
  rw [v77_eq]
  intro x hs
  generalize x.fst = s at *
  generalize x.snd.fst = m at *
  have hs := (szOk_iff s).1 hs.out
  have hz := size_bytesL s
  have e0 : Int.toNat 0 = 0 := rfl
  refine ⟨⟨fun _ => by omega⟩, ⟨fun h => ?_⟩, (bcase_iff _ _ _).2 ⟨fun h => num_no ?_, fun h => ?_⟩⟩
  · simp only [Bool.and_eq_true, decide_eq_true_eq] at h; omega
  · simp only [Bool.or_eq_true, Bool.and_eq_true, decide_eq_true_eq] at h
    apply num_bad
    rcases h with (h | h) | h
    · exact .inl (.inl (size0 (by omega)))
    · exact .inl (.inr h)
    · refine .inr ⟨h.2, fun e => ?_⟩
      rw [e, ofL_size] at h
      exact absurd h.1 (by decide)
  · simp only [Bool.or_eq_false_iff, Bool.and_eq_false_iff, decide_eq_false_iff_not] at h
    obtain ⟨⟨h1, h5⟩, h48⟩ := h
    have hgood : numOk (bytesL s) = (bytesL s).all isDigit := by
      apply num_good
      refine ⟨⟨fun e => by rw [e, ofL_size] at h1; exact h1 (by decide), h5⟩, ?_⟩
      by_cases hb : byteAt s 0 = 48
      · right
        rcases h48 with h | h
        · have h11 : (bytesL s).length = 1 := by omega
          apply bytesL_inj
          rw [bytesL_ofL]
          rw [byteAt_eq] at hb
          match hl : bytesL s, h11 with
          | [b], _ =>
            rw [hl] at hb
            have hb : ((b.toNat : Nat) : Int) = 48 := hb
            rw [UInt8.toNat_inj.1 (show b.toNat = (48 : UInt8).toNat by show b.toNat = 48; omega)]
        · exact absurd hb h
      · exact .inl hb
    refine ⟨⟨⟨⟨by omega, by omega, by omega, by decide, rfl, rfl⟩⟩, by repeat' (first | exact ⟨rfl⟩ | apply And.intro)⟩, fun y hy => (bcase_iff _ _ _).2 ⟨fun h => ?_, fun h => ?_⟩⟩
    · have hy := hy.out
      have y0 := hy.i0
      have h : y.2 < s.size := of_decide_eq_true h
      refine ⟨⟨y0⟩, ⟨h⟩, ⟨fun _ => y0⟩, ⟨fun _ => h⟩, (bcase_iff _ _ _).2 ⟨fun hb => num_no ?_, fun hb => ?_⟩⟩
      · rw [hgood]
        cases ha : (bytesL s).all isDigit with
        | false => rfl
        | true =>
          have := List.all_eq_true.1 ha _ (getD_mem (z := 0) y0 (by omega))
          rw [isDigit_iff] at this
          rw [Bool.or_eq_true, decide_eq_true_eq, decide_eq_true_eq, byteAt_eq] at hb
          omega
      · simp only [Bool.or_eq_false_iff, decide_eq_false_iff_not] at hb
        refine ⟨⟨y0⟩, ⟨h⟩, ⟨dec_on hy (by omega) h hb.1 hb.2⟩, ⟨by rw [w64 (by omega) (by omega)]; omega⟩, by repeat' (first | exact ⟨rfl⟩ | apply And.intro)⟩
    · have h : ¬ y.2 < s.size := of_decide_eq_false h
      obtain ⟨i0, i1, n0, n1, d, e⟩ := hy.out
      rw [List.take_of_length_le (by omega)] at d e
      exact num_yes (hgood.trans d) e
/-! a group -/
theorem hgrp_no {s : ByteArray} (h : grp2 s = false) : ((0 : Int), false, ()) = (hx1 s, grp2 s, ()) := by
  unfold hx1
  rw [h]
  rfl
theorem hex_on {s : ByteArray} {n i : Int} {d : Nat} (h : HexRI s n i) (hs : s.size ≤ 4) (hi : i < s.size) (hd : hexV ((bytesL s).getD i.toNat 0) = some d) : HexRI s (n * 16 + d) (i + 1) := by
  obtain ⟨i0, i1, n0, n1, e⟩ := h
  have hlt := hexV_lt hd
  have hpow : (16 : Int) ^ (i.toNat + 1) ≤ 65536 := by
    have : ∀ q : Fin 5, (16 : Int) ^ q.val ≤ 65536 := by decide
    exact this ⟨i.toNat + 1, by omega⟩
  rw [Int.pow_succ] at hpow
  refine ⟨by omega, by omega, by omega, ?_, ?_⟩
  · rw [show (i + 1).toNat = i.toNat + 1 from by omega, Int.pow_succ]; omega
  · rw [drop1 i0 hi, grp_cons _ hd (by omega)] at e
    rw [← e]
    congr 1
    omega
theorem hex_bad {s : ByteArray} {n i : Int} (h : HexRI s n i) (hi : i < s.size) (hd : hexV ((bytesL s).getD i.toNat 0) = none) : grp2 s = false := by
  obtain ⟨i0, i1, n0, n1, e⟩ := h
  rw [drop1 i0 hi, grpL, hd] at e
  unfold grp2
  rw [← e]
  rfl
theorem hexV_1 {b : UInt8} (h : 48 ≤ b.toNat ∧ b.toNat ≤ 57) : hexV b = some (b.toNat - 48) := by
  unfold hexV
  rw [decide_eq_true h.1, decide_eq_true h.2]; rfl
theorem hexV_2 {b : UInt8} (h : 97 ≤ b.toNat ∧ b.toNat ≤ 102) : hexV b = some (b.toNat - 87) := by
  unfold hexV
  rw [decide_eq_false (show ¬ b.toNat ≤ 57 by omega), Bool.and_false, cond_false, decide_eq_true h.1, decide_eq_true h.2]; rfl
theorem hexV_3 {b : UInt8} (h : 65 ≤ b.toNat ∧ b.toNat ≤ 70) : hexV b = some (b.toNat - 55) := by
  unfold hexV
  rw [decide_eq_false (show ¬ b.toNat ≤ 57 by omega), Bool.and_false, cond_false, decide_eq_false (show ¬ 97 ≤ b.toNat by omega), Bool.false_and, cond_false, decide_eq_true h.1, decide_eq_true h.2]; rfl
theorem hexW_0 {b : UInt8} (h1 : ¬ (48 ≤ b.toNat ∧ b.toNat ≤ 57)) (h2 : ¬ (97 ≤ b.toNat ∧ b.toNat ≤ 102)) (h3 : ¬ (65 ≤ b.toNat ∧ b.toNat ≤ 70)) : hexV b = none := by
  unfold hexV
  have e : ∀ p q : Nat, ∀ n : Nat, ¬ (p ≤ n ∧ n ≤ q) → (decide (p ≤ n) && decide (n ≤ q)) = false := by
    intro p q n h
    cases hx : (decide (p ≤ n) && decide (n ≤ q)) with
    | false => rfl
    | true => rw [Bool.and_eq_true, decide_eq_true_eq, decide_eq_true_eq] at hx; exact absurd hx h
  rw [e _ _ _ h1, e _ _ _ h2, e _ _ _ h3]
  rfl
theorem hex_n {s : ByteArray} {n i : Int} (h : HexRI s n i) (hs : s.size ≤ 4) : 0 ≤ n ∧ n < 65536 := by
  obtain ⟨i0, i1, n0, n1, e⟩ := h
  have : ∀ q : Fin 5, (16 : Int) ^ q.val ≤ 65536 := by decide
  have := this ⟨i.toNat, by omega⟩
  simp only at this
  omega
theorem v122 : Vc g122 300 Tryd.f122 cHexR := by
  constructor
  rw [v122_eq]
  intro x hs
  generalize x.fst = s at *
  have hs := (szOk_iff s).1 hs.out
  have hz := size_bytesL s
  refine (bcase_iff _ _ _).2 ⟨fun h => hgrp_no ?_, fun h => ?_⟩
  · simp only [Bool.or_eq_true, decide_eq_true_eq] at h
    unfold grp2
    rcases h with h | h
    · rw [decide_eq_false (show ¬ 1 ≤ (bytesL s).length by omega), Bool.and_false, Bool.false_and]
    · rw [decide_eq_false (show ¬ (bytesL s).length ≤ 4 by omega), Bool.and_false]
  · simp only [Bool.or_eq_false_iff, decide_eq_false_iff_not] at h
    refine ⟨⟨⟨⟨by omega, by omega, by omega, by decide, rfl⟩⟩, by repeat' (first | exact ⟨rfl⟩ | apply And.intro)⟩, fun y hy => (bcase_iff _ _ _).2 ⟨fun hi => ?_, fun hi => ?_⟩⟩
    · have hy := hy.out
      have y0 := hy.i0
      have hi : y.2 < s.size := of_decide_eq_true hi
      have hn := hex_n hy (by omega)
      have hmu : s.size - (IntKind.wrap .i64 (y.2 + 1)).toNat < s.size - y.2.toNat := by rw [w64 (by omega) (by omega)]; omega
      have on := fun d => hex_on (d := d) hy (by omega) hi
      have bad := hex_bad hy hi
      rw [byteAt_eq]
      generalize (bytesL s).getD y.2.toNat 0 = b at *
      have hb8 := b.toNat_lt
      have w1 : IntKind.wrap .i64 (y.2 + 1) = y.2 + 1 := w64 (by omega) (by omega)
      have w2 : IntKind.wrap .i64 (y.1 * 16) = y.1 * 16 := w64 (by omega) (by omega)
      refine ⟨⟨y0⟩, ⟨hi⟩, (bcase_iff _ _ _).2 ⟨fun c1 => ?_, fun c1 => (bcase_iff _ _ _).2 ⟨fun c2 => ?_, fun c2 => (bcase_iff _ _ _).2 ⟨fun c3 => ?_, fun c3 => hgrp_no (bad ?_)⟩⟩⟩⟩
      · simp only [Bool.and_eq_true, decide_eq_true_eq] at c1
        refine ⟨⟨?_⟩, ⟨hmu⟩, by repeat' (first | exact ⟨rfl⟩ | apply And.intro)⟩
        have := on _ (hexV_1 (b := b) (by omega))
        rw [w1, w2, wu8 (by omega) (by omega), w64 (n := (b.toNat : Int) - 48) (by omega) (by omega), w64 (by omega) (by omega), show (b.toNat : Int) - 48 = ((b.toNat - 48 : Nat) : Int) from by omega]
        exact this
      · simp only [Bool.and_eq_true, decide_eq_true_eq] at c2
        refine ⟨⟨?_⟩, ⟨hmu⟩, by repeat' (first | exact ⟨rfl⟩ | apply And.intro)⟩
        have := on _ (hexV_2 (b := b) (by omega))
        rw [w1, w2, wu8 (by omega) (by omega), w64 (n := (b.toNat : Int) - 97) (by omega) (by omega), w64 (n := y.1 * 16 + ((b.toNat : Int) - 97)) (by omega) (by omega), w64 (by omega) (by omega), show y.1 * 16 + ((b.toNat : Int) - 97) + 10 = y.1 * 16 + ((b.toNat - 87 : Nat) : Int) from by omega]
        exact this
      · simp only [Bool.and_eq_true, decide_eq_true_eq] at c3
        refine ⟨⟨?_⟩, ⟨hmu⟩, by repeat' (first | exact ⟨rfl⟩ | apply And.intro)⟩
        have := on _ (hexV_3 (b := b) (by omega))
        rw [w1, w2, wu8 (by omega) (by omega), w64 (n := (b.toNat : Int) - 65) (by omega) (by omega), w64 (n := y.1 * 16 + ((b.toNat : Int) - 65)) (by omega) (by omega), w64 (by omega) (by omega), show y.1 * 16 + ((b.toNat : Int) - 65) + 10 = y.1 * 16 + ((b.toNat - 55 : Nat) : Int) from by omega]
        exact this
      · simp only [Bool.and_eq_false_iff, decide_eq_false_iff_not] at c1 c2 c3
        exact hexW_0 (by omega) (by omega) (by omega)
    · have hi : ¬ y.2 < s.size := of_decide_eq_false hi
      have hn := hex_n hy.out (by omega)
      obtain ⟨i0, i1, n0, n1, e⟩ := hy.out
      rw [List.drop_of_length_le (by omega), grpL] at e
      have g2 : grp2 s = true := by
        unfold grp2
        rw [← e, decide_eq_true (show 1 ≤ (bytesL s).length by omega), decide_eq_true (show (bytesL s).length ≤ 4 by omega)]
        rfl
      unfold hx1
      rw [g2, cond_true, wu16 hn.1 hn.2]
      unfold grp1
      rw [← e, Option.getD_some, Int.toNat_of_nonneg n0]
end Go.Proofs.YtkimpfoimblhjaaDoor.Ad
set_option linter.all false
namespace Go.Proofs.YtkimpfoimblhjaaDoor.Ad
open Go Go.Eng Go.Lb Go.Ad Lb
set_option maxRecDepth 100000
set_option maxHeartbeats 2000000
theorem cut_on {s : ByteArray} {c : Int} {out : List ByteArray} {f i : Int} (h : CutRI s c out f i) (hs : s.size ≤ 4000000000) (c0 : 0 ≤ c) (c1 : c < 256) (hi : i < s.size) :
    (byteAt s i.toNat = c → CutRI s c (out ++ [subS s f.toNat i.toNat]) (i + 1) (i + 1)) ∧ (¬ byteAt s i.toNat = c → CutRI s c out f (i + 1)) := by
  obtain ⟨f0, f1, i1, hn, ln, e⟩ := h
  have hz := size_bytesL s
  have i0 : 0 ≤ i := by omega
  have ht := take1 i0 hi
  have hd := drop1 i0 hi
  have hcb : byteAt s i.toNat = c ↔ (bytesL s).getD i.toNat 0 = UInt8.ofNat c.toNat := by
    rw [byteAt_eq]
    constructor
    · intro h; apply UInt8.toNat_inj.1; rw [UInt8.toNat_ofNat']; omega
    · intro h; rw [h, UInt8.toNat_ofNat']; omega
  rw [hcb]
  have hfd : (bytesL s).drop f.toNat = ((bytesL s).take i.toNat).drop f.toNat ++ (bytesL s).drop i.toNat := by
    have e1 : bytesL s = (bytesL s).take i.toNat ++ (bytesL s).drop i.toNat := (List.take_append_drop _ _).symm
    have e2 : ((bytesL s).take i.toNat ++ (bytesL s).drop i.toNat).drop f.toNat = ((bytesL s).take i.toNat).drop f.toNat ++ (bytesL s).drop i.toNat := by
      rw [List.drop_append_of_le_length]
      rw [List.length_take]
      omega
    rw [← e1] at e2
    exact e2
  constructor
  · intro hb
    refine ⟨by omega, by omega, by omega, ?_, by rw [List.length_append]; show ((out.length + 1 : Nat) : Int) ≤ _; omega, ?_⟩
    · rw [List.drop_of_length_le (by rw [List.length_take]; omega)]
      simp
    · rw [List.map_append, List.map_cons, List.map_nil, bytesL_sub, ← e, hfd, hd, hb, splitC_app _ hn, List.append_assoc]
      rfl
  · intro hb
    refine ⟨f0, by omega, by omega, ?_, by omega, e⟩
    rw [ht, List.drop_append_of_le_length (by rw [List.length_take]; omega), List.mem_append, not_or]
    exact ⟨hn, by simpa using fun h => hb h.symm⟩
theorem cutC_eq (s : ByteArray) (c : Int) : cutC s c = (splitC (UInt8.ofNat c.toNat) (bytesL s)).map ofL := by
  unfold cutC splitS
  rw [bytesL_ofL]
  rfl
theorem v60 : Vc g60 300 Tryd.f60 cCutR := by
  constructor
  rw [v60_eq]
  intro x hx
  generalize x.fst = s at *
  generalize x.snd.fst = c at *
  have hx : (szOk s = true ∧ (0 : Int) ≤ c) ∧ c < 256 := by
    have := hx.out
    rw [Bool.and_eq_true, Bool.and_eq_true, decide_eq_true_eq, decide_eq_true_eq] at this
    exact this
  obtain ⟨⟨hs, c0⟩, c1⟩ := hx
  have hs := (szOk_iff s).1 hs
  have hz := size_bytesL s
  refine ⟨⟨⟨⟨by omega, by omega, by omega, by simp, by simp [nilL], by simp [nilL]⟩⟩, by repeat' (first | exact ⟨rfl⟩ | apply And.intro)⟩, fun y hy => (bcase_iff _ _ _).2 ⟨fun h => ?_, fun h => ?_⟩⟩
  · have hy := hy.out
    have f0 := hy.f0
    have f1 := hy.f1
    have ln := hy.ln
    have h : y.2.2 < s.size := of_decide_eq_true h
    have hon := cut_on hy hs c0 c1 h
    have w1 : IntKind.wrap .i64 (y.2.2 + 1) = y.2.2 + 1 := w64 (by omega) (by omega)
    have e1 : ∀ b : ByteArray, (b :: nilL ByteArray).length = 1 := fun _ => rfl
    rw [w1]
    refine ⟨⟨by omega⟩, ⟨h⟩, (bcase_iff _ _ _).2 ⟨fun hb => ?_, fun hb => ?_⟩⟩
    · exact ⟨⟨f0⟩, ⟨f1⟩, ⟨by omega⟩, ⟨by rw [e1]; omega⟩, ⟨hon.1 (of_decide_eq_true hb)⟩, ⟨by omega⟩, by repeat' (first | exact ⟨rfl⟩ | apply And.intro)⟩
    · exact ⟨⟨hon.2 (of_decide_eq_false hb)⟩, ⟨by omega⟩, by repeat' (first | exact ⟨rfl⟩ | apply And.intro)⟩
  · have h : ¬ y.2.2 < s.size := of_decide_eq_false h
    obtain ⟨f0, f1, i1, hn, ln, e⟩ := hy.out
    have e1 : ∀ b : ByteArray, (b :: nilL ByteArray).length = 1 := fun _ => rfl
    refine ⟨⟨f0⟩, ⟨by omega⟩, ⟨by omega⟩, ⟨by rw [e1]; omega⟩, ?_⟩
    rw [List.take_of_length_le (by omega)] at hn
    rw [splitC_none hn] at e
    have : cutC s c = y.1 ++ [subS s y.2.1.toNat (Int.toNat (s.size : Int))] := by
      rw [cutC_eq, ← e, List.map_append, List.map_map, Int.toNat_natCast, sub_drop]
      congr 1
      exact (List.map_congr_left (fun b _ => ofL_bytesL b)).trans (List.map_id _)
    rw [this]
theorem v101 : Vc g101 300 Tryd.f101 cSide := by
  constructor
  rw [v101_eq]
  rw [show (ByteArray.mk (List.toArray (nilL UInt8)) : ByteArray) = ofL [] from rfl]
  intro x hs
  generalize x.fst = s at *
  have hs := hs.out
  have un : sideO s = bif decide ((bytesL s).length = 0) then some [] else goO grpO (splitS s (ofL [58])) := rfl
  have hn := splitS_n (d := ofL [58]) hs
  have hz := fun p => splitS_sz (p := p) (d := ofL [58]) hs
  have fin : ∀ (o : Option (List Int)) (a : List Int) (b : Bool), sideO s = o → a = o.getD [] → b = o.isSome → (a, b, ()) = (side1 s, side2 s, ()) := by
    intro o a b h1 h2 h3
    unfold side1 side2
    rw [h1, h2, h3]
  rw [show cutC s 58 = splitS s (ofL [58]) from rfl]
  refine (bcase_iff _ _ _).2 ⟨fun h => ?_, fun h => ?_⟩
  · rw [(empty_iff s).1 (of_decide_eq_true h)] at un
    exact fin _ _ _ un rfl rfl
  · have h : decide ((bytesL s).length = 0) = false := by
      cases hx : decide ((bytesL s).length = 0) with
      | false => rfl
      | true => exact absurd ((empty_iff s).2 hx) (of_decide_eq_false h)
    rw [h, cond_false] at un
    have hs58 : (szOk s && decide ((0 : Int) ≤ 58) && decide ((58 : Int) < 256)) = true := by rw [hs]; rfl
    generalize splitS s (ofL [58]) = l at un hn hz ⊢
    refine ⟨⟨hs58⟩, ⟨⟨GoI.zero _ _⟩, by repeat' (first | exact ⟨rfl⟩ | apply And.intro)⟩, fun y hy => (bcase_iff _ _ _).2 ⟨fun hlt => ?_, fun hlt => ?_⟩⟩
    · have hi := hy.out
      have hlt : y.2 < l.length := of_decide_eq_true hlt
      have hm := getD_mem (z := Ty.zero .str) hi.i0 hlt
      refine ⟨⟨hi.i0⟩, ⟨hlt⟩, ?_⟩
      (repeat with_reducible refine ⟨⟨rfl⟩, ?_⟩)
      refine ⟨⟨hz _ hm⟩, (bcase_iff _ _ _).2 ⟨fun hp => ?_, fun hp => ?_⟩⟩
      · have hp : grp2 (l.getD y.2.toNat (Ty.zero .str)) = false := by rw [Bool.not_eq_true'] at hp; exact hp
        rw [hi.no hlt (grp_O.2 hp)] at un
        exact fin _ _ _ un rfl rfl
      · have hp : grp2 (l.getD y.2.toNat (Ty.zero .str)) = true := by rw [Bool.not_eq_false'] at hp; exact hp
        have hon := hi.on (z := Ty.zero .str) (by omega) hlt (grp_O.1 hp)
        have e1 : hx1 (l.getD y.2.toNat (Ty.zero .str)) = grp1 (l.getD y.2.toNat (Ty.zero .str)) := by unfold hx1; rw [hp]; rfl
        have e2 : ∀ n : Int, (n :: nilL Int).length = 1 := fun _ => rfl
        have hlen := hi.len
        have i1 := hi.i1
        rw [e1, e2]
        exact ⟨⟨by omega⟩, ⟨hon.1⟩, ⟨hon.2⟩, by repeat' (first | exact ⟨rfl⟩ | apply And.intro)⟩
    · rw [hy.out.fin (of_decide_eq_false hlt)] at un
      exact fin _ _ _ un rfl rfl
theorem rowR_on {l : List Ad} {s : ByteArray} {i : Int} {z : Ad} (h : RowRI l s i) (hl : l.length ≤ 16) (hm : mayA l = true) (hi : i < l.length) :
    (i > 0 → RowRI l (s ++ ofL [32] ++ text1 (l.getD i.toNat z)) (IntKind.wrap .i64 (i + 1))) ∧ (¬ i > 0 → RowRI l (s ++ text1 (l.getD i.toNat z)) (IntKind.wrap .i64 (i + 1))) := by
  obtain ⟨i0, i1, e⟩ := h
  rw [w64 (by omega) (by omega)]
  have hm1 : may1 (l.getD i.toNat z) = true := List.all_eq_true.1 hm _ (getD_mem i0 hi)
  have ht := take_succ l i z i0 hi
  rw [text1_may hm1]
  constructor
  · intro hp
    refine ⟨by omega, by omega, ?_⟩
    rw [ht, List.map_append, List.map_cons, List.map_nil, join_snoc _ _ _ (by
      intro h0
      have := congrArg List.length h0
      rw [List.length_map, List.length_take, List.length_nil] at this
      omega), e, ofL_app, ofL_app]
    simp
  · intro hp
    have : i = 0 := by omega
    subst this
    refine ⟨by omega, by omega, ?_⟩
    rw [ht, e, ofL_app]
    show ofL (Go.Lib.join [] [32] ++ _) = ofL (Go.Lib.join [text0 _] [32])
    rw [Go.Lib.join_nil, Go.Lib.join_one, List.nil_append]
theorem rowR_sz {l : List Ad} {s : ByteArray} {i : Int} (h : RowRI l s i) (hl : l.length ≤ 16) : s.size ≤ 4000 := by
  rw [h.e, ofL_size]
  have := join_le (n := 200) (d := [32]) (ps := (l.take i.toNat).map text0) (by
    intro p hp
    obtain ⟨a, _, rfl⟩ := List.mem_map.1 hp
    exact text0_len a)
  rw [List.length_map, List.length_take] at this
  have h2 : (200 + [(32 : UInt8)].length) * min i.toNat l.length ≤ 201 * 16 := Nat.mul_le_mul (Nat.le_refl _) (by omega)
  omega
theorem v22 : Vc g22 300 Tryd.f22 cRow := by
  constructor
  rw [v22_eq]
  rw [show (ByteArray.mk (List.toArray ((32 : UInt8) :: nilL UInt8)) : ByteArray) = ofL [32] from rfl, show (ByteArray.mk (List.toArray (nilL UInt8)) : ByteArray) = ofL [] from rfl]
  intro x hl
  generalize x.fst = l at *
  have hA := hl.out
  have hl := (lenA_iff l).1 hA
  have mx : maxLen = 9223372036854775807 := rfl
  have s1 : (ofL [32]).size = 1 := ofL_size _
  have no : Go.Ad.rowOk l = false → (ofL [], (20 : Int), ()) = (row1 l, row2 l, ()) := by
    intro h
    unfold row1 row2
    rw [h]
    rfl
  refine ⟨⟨fun _ => hA⟩, (bcase_iff _ _ _).2 ⟨fun h => no ?_, fun h => ?_⟩⟩
  · unfold Go.Ad.rowOk
    simp only [Bool.or_eq_true, Bool.not_eq_true', decide_eq_true_eq] at h
    rcases h with h | h
    · rw [decide_eq_false (show ¬ List.length l ≤ 16 by omega), Bool.false_and]
    · rw [h, Bool.and_false]
  · simp only [Bool.or_eq_false_iff, Bool.not_eq_false', decide_eq_false_iff_not] at h
    obtain ⟨h16, hm⟩ := h
    have h16 : l.length ≤ 16 := by omega
    refine ⟨⟨⟨⟨by omega, by omega, rfl⟩⟩, by repeat' (first | exact ⟨rfl⟩ | apply And.intro)⟩, fun y hy => (bcase_iff _ _ _).2 ⟨fun h => ?_, fun h => ?_⟩⟩
    · have hy := hy.out
      have y0 := hy.i0
      have h : y.2 < l.length := of_decide_eq_true h
      have hon := rowR_on (z := Ty.zero AdT) hy h16 hm h
      have hsz := rowR_sz hy h16
      have htl := text1_len (l.getD y.2.toNat (Ty.zero AdT))
      have hmu : l.length - (IntKind.wrap .i64 (y.2 + 1)).toNat < l.length - y.2.toNat := by
        rw [step y0 (by omega) h]
        exact wcut y0 h
      refine ⟨⟨y0⟩, ⟨h⟩, ?_⟩
      (repeat with_reducible refine ⟨⟨rfl⟩, ?_⟩)
      refine (bcase_iff _ _ _).2 ⟨fun hp => ?_, fun hp => ?_⟩
      · exact ⟨⟨by rw [s1, mx]; omega⟩, ⟨by rw [ByteArray.size_append, s1, mx]; omega⟩, ⟨hon.1 (of_decide_eq_true hp)⟩, ⟨hmu⟩, by repeat' (first | exact ⟨rfl⟩ | apply And.intro)⟩
      · exact ⟨⟨by rw [mx]; omega⟩, ⟨hon.2 (of_decide_eq_false hp)⟩, ⟨hmu⟩, by repeat' (first | exact ⟨rfl⟩ | apply And.intro)⟩
    · have e := hy.out.e
      rw [take_all hy.out.i1 (of_decide_eq_false h)] at e
      have ok : Go.Ad.rowOk l = true := by
        unfold Go.Ad.rowOk
        rw [decide_eq_true (show List.length l ≤ 16 from h16), hm]
        rfl
      unfold row1 row2
      rw [ok, e]
      rfl
theorem v24 : Vc g24 300 Tryd.f24 cRead := by
  constructor
  rw [v24_eq]
  rw [show (ByteArray.mk (List.toArray (nilL UInt8)) : ByteArray) = ofL [] from rfl]
  intro x hs
  generalize x.fst = s at *
  have hs := hs.out
  have un : readO s = bif decide ((bytesL s).length = 0) then some [] else bif decide ((splitS s (ofL [32])).length ≤ 16) then goO parseO (splitS s (ofL [32])) else none := rfl
  have hz := fun p => splitS_sz (p := p) (d := ofL [32]) hs
  have fin : ∀ (o : Option (List Ad)) (a : List Ad) (b : Int), readO s = o → a = o.getD [] → b = (bif o.isSome then 0 else 20) → (a, b, ()) = (read1 s, read2 s, ()) := by
    intro o a b h1 h2 h3
    unfold read1 read2
    rw [h1, h2, h3]
  rw [show cutC s 32 = splitS s (ofL [32]) from rfl]
  refine (bcase_iff _ _ _).2 ⟨fun h => ?_, fun h => ?_⟩
  · rw [(empty_iff s).1 (of_decide_eq_true h)] at un
    exact fin _ _ _ un rfl rfl
  · have h : decide ((bytesL s).length = 0) = false := by
      cases hx : decide ((bytesL s).length = 0) with
      | false => rfl
      | true => exact absurd ((empty_iff s).2 hx) (of_decide_eq_false h)
    rw [h, cond_false] at un
    have hs32 : (szOk s && decide ((0 : Int) ≤ 32) && decide ((32 : Int) < 256)) = true := by rw [hs]; rfl
    generalize splitS s (ofL [32]) = l at un hz ⊢
    refine ⟨⟨hs32⟩, (bcase_iff _ _ _).2 ⟨fun h16 => ?_, fun h16 => ?_⟩⟩
    · have h16 := of_decide_eq_true h16
      rw [decide_eq_false (show ¬ l.length ≤ 16 by omega), cond_false] at un
      exact fin _ _ _ un rfl rfl
    · have h16 : ¬ (l.length : Int) > 16 := of_decide_eq_false h16
      rw [decide_eq_true (show l.length ≤ 16 by omega), cond_true] at un
      refine ⟨⟨⟨GoI.zero _ _⟩, by repeat' (first | exact ⟨rfl⟩ | apply And.intro)⟩, fun y hy => (bcase_iff _ _ _).2 ⟨fun hlt => ?_, fun hlt => ?_⟩⟩
      · have hi := hy.out
        have hlt : y.2 < l.length := of_decide_eq_true hlt
        have hm := getD_mem (z := Ty.zero .str) hi.i0 hlt
        refine ⟨⟨hi.i0⟩, ⟨hlt⟩, ?_⟩
        (repeat with_reducible refine ⟨⟨rfl⟩, ?_⟩)
        refine ⟨⟨hz _ hm⟩, (bcase_iff _ _ _).2 ⟨fun hp => ?_, fun hp => ?_⟩⟩
        · have hp : ¬ parse2 (l.getD y.2.toNat (Ty.zero .str)) = 0 := by rw [Bool.not_eq_true'] at hp; exact of_decide_eq_false hp
          have hp := parse2_no hp
          rw [hi.no hlt hp.1] at un
          exact fin _ _ _ un rfl hp.2
        · have hp : parse2 (l.getD y.2.toNat (Ty.zero .str)) = 0 := by rw [Bool.not_eq_false'] at hp; exact of_decide_eq_true hp
          have hon := hi.on (z := Ty.zero .str) (by omega) hlt ((parse2_iff _).1 hp)
          have e2 : ∀ n : Ad, (n :: nilL Ad).length = 1 := fun _ => rfl
          have hlen := hi.len
          have i1 := hi.i1
          rw [e2]
          exact ⟨⟨by omega⟩, ⟨hon.1⟩, ⟨hon.2⟩, by repeat' (first | exact ⟨rfl⟩ | apply And.intro)⟩
      · rw [hy.out.fin (of_decide_eq_false hlt)] at un
        exact fin _ _ _ un rfl rfl
theorem read1_len (s : ByteArray) : lenA (read1 s) = true := by
  rw [lenA_iff]
  unfold read1 readO
  cases decide ((bytesL s).length = 0) with
  | true => exact Nat.zero_le _
  | false =>
    rw [cond_false]
    cases h : decide ((splitS s (ofL [32])).length ≤ 16) with
    | false => exact Nat.zero_le _
    | true =>
      rw [cond_true]
      cases hg : goO parseO (splitS s (ofL [32])) with
      | none => exact Nat.zero_le _
      | some l =>
        rw [Option.getD_some, goO_len hg]
        have := of_decide_eq_true h
        omega
theorem v5 : Vc g5 300 Tryd.f5 (cLw aRows) := by
  constructor
  rw [v5_eq]
  intro x _
  generalize x.fst = l
  generalize x.snd.fst = s
  refine ⟨⟨fun _ => rfl⟩, (bcase_iff _ _ _).2 ⟨fun h => ⟨⟨trivial⟩, rfl⟩, fun h => ?_⟩⟩
  rw [Bool.or_eq_false_iff, decide_eq_false_iff_not, decide_eq_false_iff_not] at h
  have hs : szOk s = true := (szOk_iff s).2 (by omega)
  have hl : lenA l = true := (lenA_iff l).2 (by omega)
  refine ⟨⟨hl⟩, ⟨hl⟩, ⟨hs⟩, ⟨hs⟩, ⟨fun _ => read1_len s⟩, ⟨fun _ => trivial⟩, ?_⟩
  rw [decide_eq_true (rfl : row1 l = row1 l), decide_eq_true (rfl : row2 l = row2 l), show sameLs (read1 s) (read1 s) = true from decide_eq_true rfl, decide_eq_true (rfl : read2 s = read2 s)]
  rfl
end Go.Proofs.YtkimpfoimblhjaaDoor.Ad
set_option linter.all false
namespace Go.Proofs.YtkimpfoimblhjaaDoor.Ad
open Go Go.Eng Go.Lb Go.Ad Lb
set_option maxRecDepth 100000
set_option maxHeartbeats 4000000
theorem occ_iff (l : List UInt8) (j : Nat) : Go.Lib.occAt l [58, 58] j = true ↔ l.getD j 0 = 58 ∧ l.getD (j + 1) 0 = 58 := by
  have e0 : l.getD j 0 = (l.drop j).getD 0 0 := by rw [List.getD_eq_getElem?_getD, List.getD_eq_getElem?_getD, List.getElem?_drop]; rfl
  have e1 : l.getD (j + 1) 0 = (l.drop j).getD 1 0 := by rw [List.getD_eq_getElem?_getD, List.getD_eq_getElem?_getD, List.getElem?_drop]
  rw [e0, e1]
  unfold Go.Lib.occAt
  match l.drop j with
  | [] => decide
  | [a] =>
    simp [List.isPrefixOf]
  | a :: b :: r =>
    simp [List.isPrefixOf]
    exact ⟨fun h => ⟨h.1.symm, h.2.symm⟩, fun h => ⟨h.1.symm, h.2.symm⟩⟩
theorem getD_out {l : List UInt8} {j : Nat} (h : l.length ≤ j) : l.getD j 0 = 0 := by
  rw [List.getD_eq_getElem?_getD, List.getElem?_eq_none h]; rfl
theorem find_none {s : ByteArray} {a i : Int} (h : FindI s a i) (ha : a < 0) (hi : ¬ i + 1 < s.size) : Go.Lib.cut (bytesL s) [58, 58] = (bytesL s, [], false) := by
  have hz := size_bytesL s
  have hx : Go.Lib.index (bytesL s) [58, 58] = -1 := by
    apply Go.Lib.index_none
    intro j hj
    cases ho : Go.Lib.occAt (bytesL s) [58, 58] j with
    | false => rfl
    | true =>
      exfalso
      have ho := (occ_iff _ _).1 ho
      rcases h.e with ⟨_, h⟩ | ⟨h, _⟩
      · by_cases hj : (j : Int) < i
        · exact h j hj ho
        · have := ho.2
          rw [getD_out (by omega)] at this
          exact absurd this (by decide)
      · omega
  unfold Go.Lib.cut
  rw [hx]
  rfl
theorem find_some {s : ByteArray} {a i : Int} (h : FindI s a i) (ha : ¬ a < 0) : a + 1 < s.size ∧ Go.Lib.cut (bytesL s) [58, 58] = ((bytesL s).take a.toNat, (bytesL s).drop (a.toNat + 2), true) := by
  have hz := size_bytesL s
  rcases h.e with ⟨h, _⟩ | ⟨h0, h1, h2, h3, h4⟩
  · omega
  · refine ⟨h1, ?_⟩
    have hx : Go.Lib.index (bytesL s) [58, 58] = (a.toNat : Int) := by
      apply Go.Lib.index_first (by omega) ((occ_iff _ _).2 ⟨h2, h3⟩)
      intro j hj
      cases ho : Go.Lib.occAt (bytesL s) [58, 58] j with
      | false => rfl
      | true => exact absurd ((occ_iff _ _).1 ho) (h4 j (by omega))
    unfold Go.Lib.cut
    rw [hx, if_pos (by omega), Int.toNat_natCast]
    rfl
theorem find_on {s : ByteArray} {a i : Int} (h : FindI s a i) (hi : i + 1 < s.size) (ha : a < 0) : (byteAt s i.toNat = 58 ∧ byteAt s (i + 1).toNat = 58 → FindI s i (i + 1)) ∧ (¬ (byteAt s i.toNat = 58 ∧ byteAt s (i + 1).toNat = 58) → FindI s a (i + 1)) := by
  obtain ⟨i0, i1, e⟩ := h
  have hn : a = -1 ∧ ∀ j : Nat, (j : Int) < i → ¬ ((bytesL s).getD j 0 = 58 ∧ (bytesL s).getD (j + 1) 0 = 58) := by
    rcases e with e | e
    · exact e
    · omega
  have e1 : (i + 1).toNat = i.toNat + 1 := by omega
  have hb : (byteAt s i.toNat = 58 ∧ byteAt s (i + 1).toNat = 58) ↔ ((bytesL s).getD i.toNat 0 = 58 ∧ (bytesL s).getD (i.toNat + 1) 0 = 58) := by
    rw [byteAt_eq, byteAt_eq, e1]
    constructor
    · intro h
      exact ⟨UInt8.toNat_inj.1 (by show _ = 58; omega), UInt8.toNat_inj.1 (by show _ = 58; omega)⟩
    · intro h
      rw [h.1, h.2]
      exact ⟨rfl, rfl⟩
  rw [hb]
  constructor
  · intro h
    exact ⟨by omega, by omega, .inr ⟨i0, by omega, h.1, h.2, hn.2⟩⟩
  · intro h
    refine ⟨by omega, by omega, .inl ⟨hn.1, fun j hj => ?_⟩⟩
    by_cases hji : (j : Int) < i
    · exact hn.2 j hji
    · have : j = i.toNat := by omega
      rw [this]
      exact h
theorem v78 : Vc g78 300 Tryd.f78 cSix := by
  constructor
  rw [v78_eq]
  intro x hs
  generalize x.fst = s at *
  have hs1 := hs.out
  have hs := (szOk_iff s).1 hs1
  have hz := size_bytesL s
  have hf := six_eq s
  have e8 : ((8 : Nat) : Int) = 8 := rfl
  refine ⟨⟨⟨by omega, by omega, .inl ⟨rfl, fun j hj => by omega⟩⟩, by repeat' (first | exact ⟨rfl⟩ | apply And.intro)⟩, fun y hy => (bcase_iff _ _ _).2 ⟨fun h => ?_, fun h => (bcase_iff _ _ _).2 ⟨fun ha => ?_, fun ha => ?_⟩⟩⟩
  · have hy := hy.out
    have y0 := hy.i0
    have y1 := hy.i1
    have w1 : IntKind.wrap .i64 (y.2 + 1) = y.2 + 1 := w64 (by omega) (by omega)
    rw [w1, Bool.and_eq_true, decide_eq_true_eq, decide_eq_true_eq] at h
    have hon := find_on hy h.1 h.2
    rw [w1]
    refine ⟨⟨y0⟩, ⟨by omega⟩, ⟨fun _ => by omega⟩, ⟨fun _ => by omega⟩, (bcase_iff _ _ _).2 ⟨fun hb => ?_, fun hb => ?_⟩⟩
    · rw [Bool.and_eq_true, decide_eq_true_eq, decide_eq_true_eq] at hb
      exact ⟨⟨hon.1 hb⟩, ⟨by omega⟩, by repeat' (first | exact ⟨rfl⟩ | apply And.intro)⟩
    · rw [Bool.and_eq_false_iff, decide_eq_false_iff_not, decide_eq_false_iff_not] at hb
      exact ⟨⟨hon.2 (fun hx => by rcases hb with hb | hb; exact hb hx.1; exact hb hx.2)⟩, ⟨by omega⟩, by repeat' (first | exact ⟨rfl⟩ | apply And.intro)⟩
  · have hy := hy.out
    have y0 := hy.i0
    have y1 := hy.i1
    have ha := of_decide_eq_true ha
    have w1 : IntKind.wrap .i64 (y.2 + 1) = y.2 + 1 := w64 (by omega) (by omega)
    have hend : ¬ y.2 + 1 < s.size := by
      rw [w1, Bool.and_eq_false_iff, decide_eq_false_iff_not, decide_eq_false_iff_not] at h
      rcases h with h | h
      · exact h
      · exact absurd ha h
    have hc := find_none hy ha hend
    have c1 : cut1 s (ofL [58, 58]) = s := by unfold cut1; rw [bytesL_ofL, hc]; exact ofL_bytesL s
    have c2 : cut2 s (ofL [58, 58]) = ofL [] := by unfold cut2; rw [bytesL_ofL, hc]
    have c3 : cutOk s (ofL [58, 58]) = false := by unfold cutOk; rw [bytesL_ofL, hc]
    rw [c1, c2, c3, show side2 (ofL []) = true from rfl, Bool.and_true, cond_false] at hf
    refine ⟨⟨hs1⟩, (bcase_iff _ _ _).2 ⟨fun hb => six_no ?_, fun hb => ?_⟩⟩
    · simp only [Bool.or_eq_true, Bool.not_eq_true', decide_eq_false_iff_not] at hb
      rw [hf]
      rcases hb with hb | hb
      · rw [hb]; rfl
      · rw [decide_eq_false (show ¬ (side1 s).length = 8 by omega)]
        cases side2 s <;> rfl
    · simp only [Bool.or_eq_false_iff, Bool.not_eq_false', decide_eq_true_eq] at hb
      have h8 : (side1 s).length = 8 := by omega
      rw [hb.1, cond_true, decide_eq_true h8, cond_true] at hf
      refine ⟨⟨by omega⟩, ⟨by omega⟩, ⟨by omega⟩, six_yes hf ?_⟩
      have hcp := cp1 (l := side1 s) (by omega)
      rw [h8, Nat.sub_self, List.replicate_zero, List.append_nil] at hcp
      conv => rhs; rw [← hcp]
      rfl
  · have hy := hy.out
    have ha := of_decide_eq_false ha
    obtain ⟨a1, hc⟩ := find_some hy ha
    have w2 : IntKind.wrap .i64 (y.1 + 2) = ((y.1.toNat + 2 : Nat) : Int) := by rw [w64 (by omega) (by omega)]; omega
    have c1 : cut1 s (ofL [58, 58]) = subS s (Int.toNat 0) y.1.toNat := by unfold cut1; rw [bytesL_ofL, hc]; exact (sub_take s _).symm
    have c2 : cut2 s (ofL [58, 58]) = subS s (IntKind.wrap .i64 (y.1 + 2)).toNat (Int.toNat (s.size : Int)) := by unfold cut2; rw [bytesL_ofL, hc]; exact (sub_at w2 rfl).symm
    have c3 : cutOk s (ofL [58, 58]) = true := by unfold cutOk; rw [bytesL_ofL, hc]
    have hle := cut_le s
    rw [c1, c2] at hle
    rw [c1, c2, c3] at hf
    generalize subS s (Int.toNat 0) y.1.toNat = A at *
    generalize subS s (IntKind.wrap .i64 (y.1 + 2)).toNat (Int.toNat (s.size : Int)) = B at *
    have za := (szOk_iff A).2 (by omega)
    have zb := (szOk_iff B).2 (by omega)
    have l1 := side_len za
    have l2 := side_len zb
    have w : IntKind.wrap .i64 (((side1 A).length : Int) + (side1 B).length) = ((side1 A).length : Int) + (side1 B).length := w64 (by omega) (by omega)
    refine ⟨⟨by omega⟩, ⟨by omega⟩, ⟨by omega⟩, ⟨za⟩, ⟨by rw [w2]; omega⟩, ⟨by rw [w2]; omega⟩, ⟨by omega⟩, ⟨zb⟩, (bcase_iff _ _ _).2 ⟨fun hb => six_no ?_, fun hb => ?_⟩⟩
    · rw [w] at hb
      simp only [Bool.or_eq_true, Bool.not_eq_true', decide_eq_true_eq] at hb
      rw [hf]
      rcases hb with (hb | hb) | hb
      · rw [hb]; rfl
      · rw [hb, Bool.and_false]; rfl
      · rw [decide_eq_false (show ¬ (side1 A).length + (side1 B).length ≤ 7 by omega)]
        cases (side2 A && side2 B) <;> rfl
    · rw [w] at hb
      simp only [Bool.or_eq_false_iff, Bool.not_eq_false', decide_eq_false_iff_not] at hb
      obtain ⟨⟨b1, b2⟩, b3⟩ := hb
      have h7 : (side1 A).length + (side1 B).length ≤ 7 := by omega
      rw [b1, b2, decide_eq_true h7] at hf
      have w8 : IntKind.wrap .i64 (8 - ((side1 B).length : Int)) = 8 - ((side1 B).length : Int) := w64 (by omega) (by omega)
      have hcp := six_cp (w := IntKind.wrap .i64 (8 - ((side1 B).length : Int))) (show (side1 A).length + (side1 B).length ≤ 8 by omega) w8
      refine ⟨⟨by omega⟩, ⟨by omega⟩, ⟨by omega⟩, ⟨by rw [w8]; omega⟩, ⟨by rw [w8]; omega⟩, ⟨by omega⟩, six_yes hf ?_⟩
      rw [← hcp]
      rfl
end Go.Proofs.YtkimpfoimblhjaaDoor.Ad
set_option linter.all false
namespace Go.Proofs.YtkimpfoimblhjaaDoor.Ad
open Go Go.Eng Go.Lb Go.Ad Lb
set_option maxRecDepth 100000
set_option maxHeartbeats 4000000
theorem col_on2 {t : ByteArray} {a i : Int} (h : Cl8I t a i) (ht : t.size ≤ 4000000000) (hi : i < t.size) :
    (byteAt t i.toNat = 58 → Cl8I t i (IntKind.wrap .i64 (i + 1))) ∧ (¬ byteAt t i.toNat = 58 → Cl8I t a (IntKind.wrap .i64 (i + 1))) := by
  obtain ⟨i0, i1, e⟩ := h
  have hz := size_bytesL t
  have e1 : (i + 1).toNat = i.toNat + 1 := by omega
  have hs : lastI ((bytesL t).take (i + 1).toNat) = if (bytesL t).getD i.toNat 0 = 58 then i else lastI ((bytesL t).take i.toNat) := by
    unfold lastI
    rw [e1, take_next (by omega), lastN_snoc]
    by_cases hb : (bytesL t).getD i.toNat 0 = 58
    · rw [if_pos hb, if_pos hb, List.length_take]
      show ((min i.toNat (bytesL t).length : Nat) : Int) = i
      omega
    · rw [if_neg hb, if_neg hb]
  rw [w64 (by omega) (by omega)]
  constructor
  · intro hb
    refine ⟨by omega, by omega, ?_⟩
    rw [byteAt_eq] at hb
    rw [hs, if_pos (UInt8.toNat_inj.1 (by show _ = 58; omega))]
  · intro hb
    refine ⟨by omega, by omega, ?_⟩
    rw [hs, if_neg (fun h => hb (by rw [byteAt_eq, h]; rfl))]
    exact e
theorem mul8 {n d : Int} (n0 : 0 ≤ n) (n1 : n ≤ 255) (d0 : 0 ≤ d) (d1 : d ≤ 255) : IntKind.wrap .u16 (IntKind.wrap .u16 (n * 256) + IntKind.wrap .u16 d) = n * 256 + d := by
  rw [wu16 (n := n * 256) (by omega) (by omega), wu16 (n := d) (by omega) (by omega), wu16 (by omega) (by omega)]
abbrev four9 (g : G8) (i : Int) (n : Int) : G8 := lg ((gl g).set (IntKind.wrap .i64 (Int.tdiv i 2)).toNat (IntKind.wrap .u16 (IntKind.wrap .u16 ((gl g).getD (IntKind.wrap .i64 (Int.tdiv i 2)).toNat 0 * 256) + IntKind.wrap .u16 n)))
theorem four_on2 {ps : List ByteArray} {g : G8} {i : Int} {z : ByteArray} (h : FourI ps g i) (hi : i < ps.length) (hn : num2 (ps.getD i.toNat z) 255 = true) : FourI ps (four9 g i (num1 (ps.getD i.toNat z) 255)) (IntKind.wrap .i64 (i + 1)) := by
  obtain ⟨i0, i1, l, ns, e, rfl⟩ := h
  have hg : GoI (numO 255) ps ns i := ⟨i0, by omega, e⟩
  have hno := (numO_cases _ _).1 hn
  obtain ⟨hon, _⟩ := hg.on (z := z) (by omega) hi hno
  have len := hg.len
  have R : ∀ n ∈ ns, 0 ≤ n ∧ n ≤ 255 := goO_mem (fun a b => numO_R) e
  have Rn := numO_R hno
  refine ⟨hon.i0, by have := hon.i1; omega, l, ns ++ [num1 (ps.getD i.toNat z) 255], hon.a, ?_⟩
  generalize num1 (ps.getD i.toNat z) 255 = n at *
  have hc : i = 0 ∨ i = 1 ∨ i = 2 ∨ i = 3 := by omega
  rcases hc with rfl | rfl | rfl | rfl
  · match ns, len with
    | [], _ =>
      have e1 := mul8 (n := 0) (by omega) (by omega) Rn.1 Rn.2
      rw [Int.zero_mul, Int.zero_add] at e1
      show lg [IntKind.wrap .u16 (IntKind.wrap .u16 (0 * 256) + IntKind.wrap .u16 n), 0, 0, 0, 0, 0, 0, 0] = lg [n]
      rw [Int.zero_mul, e1]
      rfl
  · match ns, len with
    | [a], _ =>
      have Ra := R a (by simp)
      have e1 := mul8 Ra.1 Ra.2 Rn.1 Rn.2
      show lg [IntKind.wrap .u16 (IntKind.wrap .u16 (a * 256) + IntKind.wrap .u16 n), 0, 0, 0, 0, 0, 0, 0] = lg [a * 256 + n]
      rw [e1]
      rfl
  · match ns, len with
    | [a, b], _ =>
      have e1 := mul8 (n := 0) (by omega) (by omega) Rn.1 Rn.2
      rw [Int.zero_mul, Int.zero_add] at e1
      show lg [a * 256 + b, IntKind.wrap .u16 (IntKind.wrap .u16 (0 * 256) + IntKind.wrap .u16 n), 0, 0, 0, 0, 0, 0] = lg [a * 256 + b, n]
      rw [Int.zero_mul, e1]
      rfl
  · match ns, len with
    | [a, b, c], _ =>
      have Ra := R c (by simp)
      have e1 := mul8 Ra.1 Ra.2 Rn.1 Rn.2
      show lg [a * 256 + b, IntKind.wrap .u16 (IntKind.wrap .u16 (c * 256) + IntKind.wrap .u16 n), 0, 0, 0, 0, 0, 0] = lg [a * 256 + b, c * 256 + n]
      rw [e1]
      rfl
theorem parse_low {s : ByteArray} {a i : Int} (h : Cl8I s a i) (hi : ¬ i < s.size) (ha : a < 1) : parseO s = none := by
  have hz := size_bytesL s
  obtain ⟨i0, i1, e⟩ := h
  rw [List.take_of_length_le (by omega)] at e
  unfold lastI at e
  unfold parseO
  cases hk : lastN 58 (bytesL s) with
  | none => rfl
  | some k =>
    rw [hk] at e
    show (bif decide (k < 1) then none else _) = _
    rw [decide_eq_true (show k < 1 by have : a = (k : Int) := e; omega), cond_true]
theorem last_at {s : ByteArray} {a i : Int} (h : Cl8I s a i) (hi : ¬ i < s.size) (ha : ¬ a < 1) : lastN 58 (bytesL s) = some a.toNat ∧ a < s.size := by
  have hz := size_bytesL s
  obtain ⟨i0, i1, e⟩ := h
  rw [List.take_of_length_le (by omega)] at e
  unfold lastI at e
  cases hk : lastN 58 (bytesL s) with
  | none => rw [hk] at e; have : a = -1 := e; omega
  | some k =>
    rw [hk] at e
    have e : a = (k : Int) := e
    have := lastN_lt hk
    rw [e, Int.toNat_natCast]
    exact ⟨rfl, by omega⟩
theorem head_take {s : ByteArray} {k : Nat} (hk : 1 ≤ k) : byteAt s (Int.toNat 0) = 91 ↔ ((bytesL s).take k).head? = some 91 := by
  have : byteAt s (Int.toNat 0) = byteAt (ofL ((bytesL s).take k)) (Int.toNat 0) := by
    rw [byteAt_eq, byteAt_eq, bytesL_ofL, List.getD_eq_getElem?_getD, List.getD_eq_getElem?_getD, List.getElem?_take_of_lt (show Int.toNat 0 < k from hk)]
  rw [this]
  exact head91
theorem last_take {s : ByteArray} {k : Nat} (hk : 1 ≤ k) (hl : k ≤ s.size) : byteAt s ((k : Int) - 1).toNat = 93 ↔ ((bytesL s).take k).getLast? = some 93 := by
  have hz := size_bytesL s
  have hlen : ((bytesL s).take k).length = k := by rw [List.length_take]; omega
  have : byteAt s ((k : Int) - 1).toNat = byteAt (ofL ((bytesL s).take k)) ((k : Int) - 1).toNat := by
    rw [byteAt_eq, byteAt_eq, bytesL_ofL, List.getD_eq_getElem?_getD, List.getD_eq_getElem?_getD, List.getElem?_take_of_lt (by omega)]
  rw [this]
  exact last93 (by omega) (by omega)
theorem mid_take {s : ByteArray} {k : Nat} (hk : 2 ≤ k) (hl : k ≤ s.size) : subS s (Int.toNat 1) ((k : Int) - 1).toNat = ofL (((bytesL s).take k).drop 1).dropLast := by
  have hz := size_bytesL s
  rw [sub_ofL, List.dropLast_eq_take, List.length_drop, List.length_take, ← List.drop_take, List.take_take]
  congr 3
  · omega
theorem v46 : Vc g46 300 Tryd.f46 cParse := by
  constructor
  rw [v46_eq]
  intro x hs
  generalize x.fst = s at *
  have hs1 := hs.out
  have hs := (szOk_iff s).1 hs1
  have hz := size_bytesL s
  have e8 : ((8 : Nat) : Int) = 8 := rfl
  refine ⟨⟨⟨by omega, by omega, rfl⟩, by repeat' (first | exact ⟨rfl⟩ | apply And.intro)⟩, fun y hy => (bcase_iff _ _ _).2 ⟨fun hi => ?_, fun hi => (bcase_iff _ _ _).2 ⟨fun h1 => parse_none (parse_low hy.out (of_decide_eq_false hi) (of_decide_eq_true h1)), fun h1 => ?_⟩⟩⟩
  · have hy := hy.out
    have hi : y.2 < s.size := of_decide_eq_true hi
    have i0 := hy.i0
    have hon := col_on2 hy hs hi
    have hmu : s.size - (IntKind.wrap .i64 (y.2 + 1)).toNat < s.size - y.2.toNat := by
      rw [step i0 (by omega) hi]
      exact wcut i0 hi
    exact ⟨⟨i0⟩, ⟨hi⟩, (bcase_iff _ _ _).2 ⟨fun hb => ⟨⟨hon.1 (of_decide_eq_true hb)⟩, ⟨hmu⟩, by repeat' (first | exact ⟨rfl⟩ | apply And.intro)⟩, fun hb => ⟨⟨hon.2 (of_decide_eq_false hb)⟩, ⟨hmu⟩, by repeat' (first | exact ⟨rfl⟩ | apply And.intro)⟩⟩⟩
  · have h1 := of_decide_eq_false h1
    obtain ⟨hk, hlt⟩ := last_at hy.out (of_decide_eq_false hi) h1
    obtain ⟨k, hk0⟩ : ∃ k : Nat, y.1 = k := ⟨y.1.toNat, by omega⟩
    rw [hk0] at hk hlt h1 ⊢
    rw [Int.toNat_natCast] at hk
    have k1 : 1 ≤ k := by omega
    have wz : IntKind.wrap .i64 ((k : Int) + 1) = ((k + 1 : Nat) : Int) := by rw [w64 (by omega) (by omega)]; omega
    have wm : IntKind.wrap .i64 ((k : Int) - 1) = (k : Int) - 1 := w64 (by omega) (by omega)
    have hH : ((bytesL s).take k).length = k := by rw [List.length_take]; omega
    have bad := fun b => parse_none (parse_bad hk k1 b)
    have good := fun (f : Int) (l : List Int) a b c => parse_some (parse_good (f := f) (l := l) hk k1 a b c)
    have szP : (ofL ((bytesL s).drop (k + 1))).size ≤ 4000000000 := by rw [ofL_size, List.length_drop]; omega
    have szH : (ofL ((bytesL s).take k)).size ≤ 4000000000 := by rw [ofL_size]; omega
    have hhd := head_take (s := s) k1
    rw [sub_at wz rfl, sub_to (b := (k : Int)) rfl, wz, wm]
    have hP := hk0
    generalize ofL ((bytesL s).drop (k + 1)) = P at *
    refine ⟨⟨by omega⟩, ⟨by omega⟩, ⟨by omega⟩, ⟨(szOk_iff P).2 szP⟩, (bcase_iff _ _ _).2 ⟨fun hb => bad ?_, fun hb => ?_⟩⟩
    · rw [Bool.or_eq_true, Bool.not_eq_true', decide_eq_true_eq] at hb
      rcases hb with hb | hb
      · exact .inl hb
      · exact .inr (.inr hb)
    · rw [Bool.or_eq_false_iff, Bool.not_eq_false', decide_eq_false_iff_not] at hb
      obtain ⟨n2, n0⟩ := hb
      refine ⟨⟨by omega⟩, ⟨by omega⟩, (bcase_iff _ _ _).2 ⟨fun h91 => ?_, fun h91 => ?_⟩⟩
      · have h91 := hhd.1 (of_decide_eq_true h91)
        have hlast := last_take (s := s) k1 (by omega)
        refine ⟨⟨fun _ => by omega⟩, ⟨fun _ => by omega⟩, (bcase_iff _ _ _).2 ⟨fun hb => bad (.inr (.inl (host0 h91 ?_))), fun hb => ?_⟩⟩
        · rw [Bool.or_eq_true, Bool.not_eq_true', decide_eq_true_eq, decide_eq_false_iff_not] at hb
          rcases hb with hb | hb
          · exact .inl (by omega)
          · exact .inr (fun e => hb (hlast.2 e))
        · rw [Bool.or_eq_false_iff, Bool.not_eq_false', decide_eq_true_eq, decide_eq_false_iff_not] at hb
          have hm := mid_take (s := s) (k := k) (by omega) (by omega)
          have hh := host6 h91 (by omega) (hlast.1 hb.2)
          have dH : (ofL (((bytesL s).take k).drop 1).dropLast).size ≤ 4000000000 := by rw [ofL_size, List.length_dropLast, List.length_drop]; omega
          rw [hm]
          refine ⟨⟨by omega⟩, ⟨by omega⟩, ⟨by omega⟩, ⟨(szOk_iff _).2 dH⟩, (bcase_iff _ _ _).2 ⟨fun hb => bad (.inr (.inl ?_)), fun hb => ?_⟩⟩
          · rw [Bool.not_eq_true'] at hb
            rw [hh, (six_cases _).2 hb]
            rfl
          · rw [Bool.not_eq_false'] at hb
            exact good 6 _ n2 (by rw [hh, (six_cases _).1 hb]) n0
      · have h91 : ¬ ((bytesL s).take k).head? = some 91 := fun e => of_decide_eq_false h91 (hhd.2 e)
        have hh := host4 h91
        generalize (bytesL s).take k = H at *
        have hC : cutC (ofL H) 46 = splitS (ofL H) (ofL [46]) := rfl
        have zz := (szOk_iff _).2 szH
        have hz46 : (szOk (ofL H) && decide ((0 : Int) ≤ 46) && decide ((46 : Int) < 256)) = true := by rw [zz]; rfl
        have hfour : fourO (ofL H) = none → _ := fun h => bad (.inr (.inl (by rw [hh, h]; rfl)))
        rw [hC]
        refine ⟨⟨by omega⟩, ⟨by omega⟩, ⟨by omega⟩, ⟨hz46⟩, (bcase_iff _ _ _).2 ⟨fun h4 => hfour ?_, fun h4 => ?_⟩⟩
        · rw [Bool.not_eq_true', decide_eq_false_iff_not] at h4
          unfold fourO
          rw [decide_eq_false (show ¬ (splitS (ofL H) (ofL [46])).length = 4 by omega)]
          rfl
        · rw [Bool.not_eq_false', decide_eq_true_eq] at h4
          refine ⟨⟨⟨⟨⟨by omega, by omega, by omega, [], rfl, rfl⟩, rfl, rfl⟩⟩, by repeat' (first | exact ⟨rfl⟩ | apply And.intro)⟩, fun z hz' => (bcase_iff _ _ _).2 ⟨fun h => ?_, fun h => ?_⟩⟩
          · obtain ⟨hf, hfam, hport⟩ := hz'.out
            have i0 := hf.i0
            have h : z.2 < 4 := of_decide_eq_true h
            have hi' : z.2 < (splitS (ofL H) (ofL [46])).length := by omega
            have w : IntKind.wrap .i64 (Int.tdiv z.2 2) = Int.tdiv z.2 2 ∧ 0 ≤ Int.tdiv z.2 2 ∧ Int.tdiv z.2 2 < 8 := by
              rw [Int.tdiv_eq_ediv_of_nonneg i0]
              exact ⟨w64 (by omega) (by omega), by omega, by omega⟩
            have szp := splitS_sz zz (getD_mem (z := Ty.zero .str) i0 hi')
            refine ⟨⟨i0⟩, ⟨hi'⟩, ?_⟩
            (repeat with_reducible refine ⟨⟨rfl⟩, ?_⟩)
            refine ⟨⟨szp⟩, (bcase_iff _ _ _).2 ⟨fun hn => hfour ?_, fun hn => ?_⟩⟩
            · rw [Bool.not_eq_true'] at hn
              unfold fourO
              rw [goO_none (getD_mem (z := Ty.zero .str) i0 hi') ((numO_cases _ _).2 hn)]
              cases decide ((splitS (ofL H) (ofL [46])).length = 4) <;> rfl
            · rw [Bool.not_eq_false'] at hn
              refine ⟨⟨by decide⟩, ⟨by decide⟩, ⟨by rw [w.1]; exact w.2.1⟩, ⟨by rw [w.1, e8]; exact w.2.2⟩, ⟨by rw [w.1]; exact w.2.1⟩, ⟨by rw [w.1, e8]; exact w.2.2⟩, ⟨⟨four_on2 hf hi' hn, hfam, hport⟩⟩, ⟨?_⟩, by repeat' (first | exact ⟨rfl⟩ | apply And.intro)⟩
              rw [w64 (by omega) (by omega)]
              omega
          · obtain ⟨hf, hfam, hport⟩ := hz'.out
            have h : ¬ z.2 < 4 := of_decide_eq_false h
            have hfin := four_fin hf (by omega)
            have q1 : z.1.2.1 = four1 (ofL H) := congrArg Prod.fst hfin
            have q2 : true = four2 (ofL H) := congrArg (fun p => p.2.1) hfin
            have hg := good 4 _ n2 (by rw [hh, (four_cases _).1 q2.symm]) n0
            rw [← hg]
            have ez : z.1 = (z.1.1, z.1.2.1, z.1.2.2.1, ()) := rfl
            rw [ez, hfam, hport, q1]
            rfl
end Go.Proofs.YtkimpfoimblhjaaDoor.Ad
namespace Go.Proofs.YtkimpfoimblhjaaDoor.Ad
open Go Go.Eng Go.Lb Go.Ad Lb
set_option maxRecDepth 100000
theorem val74 : Valid Tryd.prog GA 74 cMay1 := mkValid gas Tb.mix Tb.tab_ok Tb.eqs_ok g74 rfl allV_nil allI_nil Tryd.func74 (by kernel_rfl) v74
theorem val47 : Valid Tryd.prog GA 47 cMay := mkValid gas Tb.mix Tb.tab_ok Tb.eqs_ok g47 rfl (allV_cons val74 allV_nil) allI_nil Tryd.func47 (by kernel_rfl) v47
theorem val75 : Valid Tryd.prog GA 75 cDigs := mkValid gas Tb.mix Tb.tab_ok Tb.eqs_ok g75 rfl allV_nil allI_nil Tryd.func75 (by kernel_rfl) v75
theorem val100 : Valid Tryd.prog GA 100 cRun := mkValid gas Tb.mix Tb.tab_ok Tb.eqs_ok g100 rfl allV_nil allI_nil Tryd.func100 (by kernel_rfl) v100
theorem val76 : Valid Tryd.prog GA 76 cSixS := Valid.T (mkValid gas Tb.mix Tb.tab_ok Tb.eqs_ok g76 rfl (allV_cons val75 (allV_cons val100 allV_nil)) allI_nil Tryd.func76 (by kernel_rfl) v76)
theorem val45 : Valid Tryd.prog GA 45 cText := Valid.T (mkValid gas Tb.mix Tb.tab_ok Tb.eqs_ok g45 rfl (allV_cons val74 (allV_cons val75 (allV_cons val76 allV_nil))) allI_nil Tryd.func45 (by kernel_rfl) v45)
theorem val77 : Valid Tryd.prog GA 77 cNum := mkValid gas Tb.mix Tb.tab_ok Tb.eqs_ok g77 rfl allV_nil allI_nil Tryd.func77 (by kernel_rfl) v77
theorem val122 : Valid Tryd.prog GA 122 cHexR := mkValid gas Tb.mix Tb.tab_ok Tb.eqs_ok g122 rfl allV_nil allI_nil Tryd.func122 (by kernel_rfl) v122
theorem val60 : Valid Tryd.prog GA 60 cCutR := mkValid gas Tb.mix Tb.tab_ok Tb.eqs_ok g60 rfl allV_nil allI_nil Tryd.func60 (by kernel_rfl) v60
theorem val101 : Valid Tryd.prog GA 101 cSide := mkValid gas Tb.mix Tb.tab_ok Tb.eqs_ok g101 rfl (allV_cons val60 (allV_cons val122 allV_nil)) allI_nil Tryd.func101 (by kernel_rfl) v101
theorem val78 : Valid Tryd.prog GA 78 cSix := mkValid gas Tb.mix Tb.tab_ok Tb.eqs_ok g78 rfl (allV_cons val101 allV_nil) allI_nil Tryd.func78 (by kernel_rfl) v78
theorem val46 : Valid Tryd.prog GA 46 cParse := mkValid gas Tb.mix Tb.tab_ok Tb.eqs_ok g46 rfl (allV_cons val60 (allV_cons val77 (allV_cons val78 allV_nil))) allI_nil Tryd.func46 (by kernel_rfl) v46
theorem val22 : Valid Tryd.prog GA 22 cRow := mkValid gas Tb.mix Tb.tab_ok Tb.eqs_ok g22 rfl (allV_cons val45 (allV_cons val47 allV_nil)) allI_nil Tryd.func22 (by kernel_rfl) v22
theorem val24 : Valid Tryd.prog GA 24 cRead := mkValid gas Tb.mix Tb.tab_ok Tb.eqs_ok g24 rfl (allV_cons val46 (allV_cons val60 allV_nil)) allI_nil Tryd.func24 (by kernel_rfl) v24
theorem val5 : Valid Tryd.prog GA 5 ((cLw aRows)) := mkValid gas Tb.mix Tb.tab_ok Tb.eqs_ok g5 rfl (allV_cons val16 (allV_cons val19 (allV_cons val21 (allV_cons val22 (allV_cons val23 (allV_cons val24 (allV_cons val25 allV_nil))))))) allI_nil Tryd.func5 (by kernel_rfl) v5
end Go.Proofs.YtkimpfoimblhjaaDoor.Ad

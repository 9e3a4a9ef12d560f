/-
  A text of mine, of several parts: AdVc, AdP1, AdP2, AdP3, AdP4, AdP5, AdP6.
-/
import Derived.Test.YtkimpfoimblhjaaDoorAta
import Derived.Test.YtkimpfoimblhjaaDoorAtb
import Derived.Test.YtkimpfoimblhjaaDoorAtc
import Derived.Test.YtkimpfoimblhjaaDoorAtd
set_option linter.all false
namespace Go.Proofs.YtkimpfoimblhjaaDoor.Ad
open Go Go.Eng Go.Lb Go.Ad Lb
set_option maxRecDepth 100000
theorem v15_eq : vcFn g15 300 Tryd.f15 cMay = (  ∀ (x : List (Int × (Int × Int × Int × Int × Int × Int × Int × Int × Unit) × Int × Unit) × Unit), Wr (lenA x.1 = true) → (Wr (MayI x.1 (0 : Int)) ∧ Wr ((0 : Int) = (0 : Int)) ∧ Wr (x.1 = x.1) ∧ Wr (x.1 = x.1) ∧ Wr
  ((↑(List.length x.1) : Int) = (↑(List.length x.1) : Int))) ∧ ∀ (x_1 : Int), Wr (MayI x.1 x_1) → bcase (decide (x_1 < (↑(List.length x.1) : Int))) (Wr ((0 : Int) ≤ x_1) ∧ Wr (x_1 < (↑(List.length x.1) : Int)) ∧ Wr (true
  = true) ∧ bcase (decide ((List.getD x.1 (Int.toNat x_1) (Ty.zero AdT)).2.2.1 < (1 : Int)) || decide ((List.getD x.1 (Int.toNat x_1) (Ty.zero AdT)).2.2.1 > (65535 : Int)) || !decide ((List.getD x.1 (Int.toNat x_1)
  (Ty.zero AdT)).1 = (6 : Int)) && (!decide ((List.getD x.1 (Int.toNat x_1) (Ty.zero AdT)).1 = (4 : Int)) || !Ty.eqb (Ty.cons (Ty.int IntKind.i8) (Ty.cons (Ty.arr (8 : Nat) (Ty.int IntKind.u16)) (Ty.cons (Ty.int
  IntKind.i64) Ty.unit))) (List.getD x.1 (Int.toNat x_1) (Ty.zero AdT)) ((List.getD x.1 (Int.toNat x_1) (Ty.zero AdT)).1, ((List.getD x.1 (Int.toNat x_1) (Ty.zero AdT)).2.1.1, (List.getD x.1 (Int.toNat x_1) (Ty.zero
  AdT)).2.1.2.1, (0 : Int), (0 : Int), (0 : Int), (0 : Int), (0 : Int), (0 : Int), ()), (List.getD x.1 (Int.toNat x_1) (Ty.zero AdT)).2.2))) ((false, ()) = (Go.Ad.mayA x.1, ())) (Wr (MayI x.1 (IntKind.wrap IntKind.i64
  (x_1 + (1 : Int)))) ∧ Wr (List.length x.1 - Int.toNat (IntKind.wrap IntKind.i64 (x_1 + (1 : Int))) < List.length x.1 - Int.toNat x_1) ∧ Wr (IntKind.wrap IntKind.i64 (x_1 + (1 : Int)) = IntKind.wrap IntKind.i64 (x_1 + (1
  : Int))) ∧ Wr (x.1 = x.1) ∧ Wr (x.1 = x.1) ∧ Wr ((↑(List.length x.1) : Int) = (↑(List.length x.1) : Int)))) ((true, ()) = (Go.Ad.mayA x.1, ()))) := by kernel_rfl
theorem v53_eq : vcFn g53 300 Tryd.f53 cLong = (  ∀ (x : (Int × Int × Int × Int × Int × Int × Int × Int × Unit) × Unit), Wr (true = true) → (Wr (LongI x.1 (0 : Int) (0 : Int) (0 : Int) (0 : Int)) ∧ Wr (x.1 = x.1) ∧ Wr ((0 : Int) = (0 : Int)) ∧ Wr ((0 : Int) = (0 :
  Int)) ∧ Wr ((0 : Int) = (0 : Int)) ∧ Wr ((0 : Int) = (0 : Int))) ∧ ∀ (x_1 : Int × Int × Int × Int), Wr (LongI x.1 x_1.1 x_1.2.1 x_1.2.2.1 x_1.2.2.2) → bcase (decide (x_1.1 < (8 : Int))) (Wr ((0 : Int) ≤ x_1.1) ∧ Wr
  (x_1.1 < (↑(8 : Nat) : Int)) ∧ bcase (!decide (List.getD (x.1.1 :: x.1.2.1 :: x.1.2.2.1 :: x.1.2.2.2.1 :: x.1.2.2.2.2.1 :: x.1.2.2.2.2.2.1 :: x.1.2.2.2.2.2.2.1 :: x.1.2.2.2.2.2.2.2.1 :: nilL Int) (Int.toNat x_1.1) (0 :
  Int) = (0 : Int))) (bcase (decide ((0 : Int) > Max.max x_1.2.2.2 (1 : Int))) (Wr (LongI x.1 (IntKind.wrap IntKind.i64 (x_1.1 + (1 : Int))) (0 : Int) (IntKind.wrap IntKind.i64 (IntKind.wrap IntKind.i64 (x_1.1 + (1 :
  Int)) - (0 : Int))) (0 : Int)) ∧ Wr ((8 : Nat) - Int.toNat (IntKind.wrap IntKind.i64 (x_1.1 + (1 : Int))) < (8 : Nat) - Int.toNat x_1.1) ∧ Wr (x.1 = x.1) ∧ Wr (IntKind.wrap IntKind.i64 (x_1.1 + (1 : Int)) = IntKind.wrap
  IntKind.i64 (x_1.1 + (1 : Int))) ∧ Wr ((0 : Int) = (0 : Int)) ∧ Wr (IntKind.wrap IntKind.i64 (IntKind.wrap IntKind.i64 (x_1.1 + (1 : Int)) - (0 : Int)) = IntKind.wrap IntKind.i64 (IntKind.wrap IntKind.i64 (x_1.1 + (1 :
  Int)) - (0 : Int))) ∧ Wr ((0 : Int) = (0 : Int))) (Wr (LongI x.1 (IntKind.wrap IntKind.i64 (x_1.1 + (1 : Int))) (0 : Int) x_1.2.2.1 x_1.2.2.2) ∧ Wr ((8 : Nat) - Int.toNat (IntKind.wrap IntKind.i64 (x_1.1 + (1 : Int))) <
  (8 : Nat) - Int.toNat x_1.1) ∧ Wr (x.1 = x.1) ∧ Wr (IntKind.wrap IntKind.i64 (x_1.1 + (1 : Int)) = IntKind.wrap IntKind.i64 (x_1.1 + (1 : Int))) ∧ Wr ((0 : Int) = (0 : Int)) ∧ Wr (x_1.2.2.1 = x_1.2.2.1) ∧ Wr (x_1.2.2.2
  = x_1.2.2.2))) (bcase (decide (IntKind.wrap IntKind.i64 (x_1.2.1 + (1 : Int)) > Max.max x_1.2.2.2 (1 : Int))) (Wr (LongI x.1 (IntKind.wrap IntKind.i64 (x_1.1 + (1 : Int))) (IntKind.wrap IntKind.i64 (x_1.2.1 + (1 :
  Int))) (IntKind.wrap IntKind.i64 (IntKind.wrap IntKind.i64 (x_1.1 + (1 : Int)) - IntKind.wrap IntKind.i64 (x_1.2.1 + (1 : Int)))) (IntKind.wrap IntKind.i64 (x_1.2.1 + (1 : Int)))) ∧ Wr ((8 : Nat) - Int.toNat
  (IntKind.wrap IntKind.i64 (x_1.1 + (1 : Int))) < (8 : Nat) - Int.toNat x_1.1) ∧ Wr (x.1 = x.1) ∧ Wr (IntKind.wrap IntKind.i64 (x_1.1 + (1 : Int)) = IntKind.wrap IntKind.i64 (x_1.1 + (1 : Int))) ∧ Wr (IntKind.wrap
  IntKind.i64 (x_1.2.1 + (1 : Int)) = IntKind.wrap IntKind.i64 (x_1.2.1 + (1 : Int))) ∧ Wr (IntKind.wrap IntKind.i64 (IntKind.wrap IntKind.i64 (x_1.1 + (1 : Int)) - IntKind.wrap IntKind.i64 (x_1.2.1 + (1 : Int))) =
  IntKind.wrap IntKind.i64 (IntKind.wrap IntKind.i64 (x_1.1 + (1 : Int)) - IntKind.wrap IntKind.i64 (x_1.2.1 + (1 : Int)))) ∧ Wr (IntKind.wrap IntKind.i64 (x_1.2.1 + (1 : Int)) = IntKind.wrap IntKind.i64 (x_1.2.1 + (1 :
  Int)))) (Wr (LongI x.1 (IntKind.wrap IntKind.i64 (x_1.1 + (1 : Int))) (IntKind.wrap IntKind.i64 (x_1.2.1 + (1 : Int))) x_1.2.2.1 x_1.2.2.2) ∧ Wr ((8 : Nat) - Int.toNat (IntKind.wrap IntKind.i64 (x_1.1 + (1 : Int))) < (8
  : Nat) - Int.toNat x_1.1) ∧ Wr (x.1 = x.1) ∧ Wr (IntKind.wrap IntKind.i64 (x_1.1 + (1 : Int)) = IntKind.wrap IntKind.i64 (x_1.1 + (1 : Int))) ∧ Wr (IntKind.wrap IntKind.i64 (x_1.2.1 + (1 : Int)) = IntKind.wrap
  IntKind.i64 (x_1.2.1 + (1 : Int))) ∧ Wr (x_1.2.2.1 = x_1.2.2.1) ∧ Wr (x_1.2.2.2 = x_1.2.2.2)))) ((x_1.2.2.1, x_1.2.2.2, ()) = (Go.Ad.long1 x.1, Go.Ad.long2 x.1, ()))) := by kernel_rfl
theorem v54_eq : vcFn g54 300 Tryd.f54 cHexes.T = (  ∀ (x : List Int × Unit), Wr (typedB (Ty.cons (Ty.sl U16) Ty.unit) x = true ∧ decide (List.length x.1 ≤ (8 : Nat)) = true) → (Wr (MapI Go.Ad.hexS x.1 (nilL ByteArray) (0 : Int)) ∧ Wr ((0 : Int) = (0 : Int)) ∧ Wr (x.1 =
  x.1) ∧ Wr (x.1 = x.1) ∧ Wr ((↑(List.length x.1) : Int) = (↑(List.length x.1) : Int)) ∧ Wr (nilL ByteArray = nilL ByteArray)) ∧ ∀ (x_1 : List ByteArray × Int), Wr (MapI Go.Ad.hexS x.1 x_1.1 x_1.2) → bcase (decide (x_1.2
  < (↑(List.length x.1) : Int))) (Wr ((0 : Int) ≤ x_1.2) ∧ Wr (x_1.2 < (↑(List.length x.1) : Int)) ∧ Wr (true = true) ∧ bcase (decide (IntKind.wrap IntKind.i64 (List.getD x.1 (Int.toNat x_1.2) (0 : Int)) < (0 : Int))) (Wr
  ((decide ((0 : Int) ≤ IntKind.wrap IntKind.u64 (16 : Int)) && decide (IntKind.wrap IntKind.u64 (16 : Int) < (18446744073709551616 : Int))) = true) ∧ (Wr (BitsI (IntKind.wrap IntKind.u64 ((0 : Int) - IntKind.wrap
  IntKind.u64 (IntKind.wrap IntKind.i64 (List.getD x.1 (Int.toNat x_1.2) (0 : Int))))) (IntKind.wrap IntKind.u64 ((0 : Int) - IntKind.wrap IntKind.u64 (IntKind.wrap IntKind.i64 (List.getD x.1 (Int.toNat x_1.2) (0 :
  Int))))) (65 : Int) (List.replicate (65 : Nat) (0 : Int))) ∧ Wr (IntKind.wrap IntKind.u64 ((0 : Int) - IntKind.wrap IntKind.u64 (IntKind.wrap IntKind.i64 (List.getD x.1 (Int.toNat x_1.2) (0 : Int)))) = IntKind.wrap
  IntKind.u64 ((0 : Int) - IntKind.wrap IntKind.u64 (IntKind.wrap IntKind.i64 (List.getD x.1 (Int.toNat x_1.2) (0 : Int))))) ∧ Wr ((65 : Int) = (65 : Int)) ∧ Wr ((0 : Nat) < List.length (List.replicate (65 : Nat) (0 :
  Int))) ∧ Wr ((16 : Int) = (16 : Int)) ∧ Wr (decide (IntKind.wrap IntKind.i64 (List.getD x.1 (Int.toNat x_1.2) (0 : Int)) < (0 : Int)) = decide (IntKind.wrap IntKind.i64 (List.getD x.1 (Int.toNat x_1.2) (0 : Int)) < (0 :
  Int))) ∧ Wr (false = false) ∧ Wr (ByteArray.mk (List.toArray (nilL UInt8)) = ByteArray.mk (List.toArray (nilL UInt8))) ∧ Wr (IntKind.wrap IntKind.u64 (ctzZ (IntKind.wrap IntKind.u64 (16 : Int))) = IntKind.wrap
  IntKind.u64 (ctzZ (IntKind.wrap IntKind.u64 (16 : Int)))) ∧ Wr (IntKind.wrap IntKind.u64 (16 : Int) = IntKind.wrap IntKind.u64 (16 : Int)) ∧ Wr (IntKind.wrap IntKind.u64 (IntKind.wrap IntKind.u64 (16 : Int) - (1 : Int))
  = IntKind.wrap IntKind.u64 (IntKind.wrap IntKind.u64 (16 : Int) - (1 : Int))) ∧ Wr (List.replicate (65 : Nat) (0 : Int) = List.replicate (65 : Nat) (0 : Int)) ∧ Wr (x_1.1 = x_1.1)) ∧ ∀ (x_2 : Int × Int × List Int), Wr
  (BitsI (IntKind.wrap IntKind.u64 ((0 : Int) - IntKind.wrap IntKind.u64 (IntKind.wrap IntKind.i64 (List.getD x.1 (Int.toNat x_1.2) (0 : Int))))) x_2.1 x_2.2.1 x_2.2.2) → bcase (decide (x_2.1 ≥ IntKind.wrap IntKind.u64
  (16 : Int))) (Wr ((0 : Int) ≤ andI IntKind.u64 x_2.1 (IntKind.wrap IntKind.u64 (IntKind.wrap IntKind.u64 (16 : Int) - (1 : Int)))) ∧ Wr (andI IntKind.u64 x_2.1 (IntKind.wrap IntKind.u64 (IntKind.wrap IntKind.u64 (16 :
  Int) - (1 : Int))) < (↑(ByteArray.size (ByteArray.mk (List.toArray ((48 : UInt8) :: (49 : UInt8) :: (50 : UInt8) :: (51 : UInt8) :: (52 : UInt8) :: (53 : UInt8) :: (54 : UInt8) :: (55 : UInt8) :: (56 : UInt8) :: (57 :
  UInt8) :: (97 : UInt8) :: (98 : UInt8) :: (99 : UInt8) :: (100 : UInt8) :: (101 : UInt8) :: (102 : UInt8) :: (103 : UInt8) :: (104 : UInt8) :: (105 : UInt8) :: (106 : UInt8) :: (107 : UInt8) :: (108 : UInt8) :: (109 :
  UInt8) :: (110 : UInt8) :: (111 : UInt8) :: (112 : UInt8) :: (113 : UInt8) :: (114 : UInt8) :: (115 : UInt8) :: (116 : UInt8) :: (117 : UInt8) :: (118 : UInt8) :: (119 : UInt8) :: (120 : UInt8) :: (121 : UInt8) :: (122
  : UInt8) :: nilL UInt8)))) : Int)) ∧ Wr (List.length x_2.2.2 = (65 : Nat)) ∧ Wr ((0 : Int) ≤ IntKind.wrap IntKind.i64 (x_2.2.1 - (1 : Int))) ∧ Wr (IntKind.wrap IntKind.i64 (x_2.2.1 - (1 : Int)) < (↑(65 : Nat) : Int)) ∧
  Wr ((0 : Int) ≤ IntKind.wrap IntKind.u64 (ctzZ (IntKind.wrap IntKind.u64 (16 : Int)))) ∧ Wr (BitsI (IntKind.wrap IntKind.u64 ((0 : Int) - IntKind.wrap IntKind.u64 (IntKind.wrap IntKind.i64 (List.getD x.1 (Int.toNat
  x_1.2) (0 : Int))))) (Int.fdiv x_2.1 ((2 : Int) ^ Min.min (Int.toNat (IntKind.wrap IntKind.u64 (ctzZ (IntKind.wrap IntKind.u64 (16 : Int))))) (IntKind.bits IntKind.u64))) (IntKind.wrap IntKind.i64 (x_2.2.1 - (1 : Int)))
  (List.set x_2.2.2 (Int.toNat (IntKind.wrap IntKind.i64 (x_2.2.1 - (1 : Int)))) (byteAt (ByteArray.mk (List.toArray ((48 : UInt8) :: (49 : UInt8) :: (50 : UInt8) :: (51 : UInt8) :: (52 : UInt8) :: (53 : UInt8) :: (54 :
  UInt8) :: (55 : UInt8) :: (56 : UInt8) :: (57 : UInt8) :: (97 : UInt8) :: (98 : UInt8) :: (99 : UInt8) :: (100 : UInt8) :: (101 : UInt8) :: (102 : UInt8) :: (103 : UInt8) :: (104 : UInt8) :: (105 : UInt8) :: (106 :
  UInt8) :: (107 : UInt8) :: (108 : UInt8) :: (109 : UInt8) :: (110 : UInt8) :: (111 : UInt8) :: (112 : UInt8) :: (113 : UInt8) :: (114 : UInt8) :: (115 : UInt8) :: (116 : UInt8) :: (117 : UInt8) :: (118 : UInt8) :: (119
  : UInt8) :: (120 : UInt8) :: (121 : UInt8) :: (122 : UInt8) :: nilL UInt8))) (Int.toNat (andI IntKind.u64 x_2.1 (IntKind.wrap IntKind.u64 (IntKind.wrap IntKind.u64 (16 : Int) - (1 : Int)))))))) ∧ Wr (Int.toNat
  (IntKind.wrap IntKind.i64 (x_2.2.1 - (1 : Int))) < Int.toNat x_2.2.1) ∧ Wr (Int.fdiv x_2.1 ((2 : Int) ^ Min.min (Int.toNat (IntKind.wrap IntKind.u64 (ctzZ (IntKind.wrap IntKind.u64 (16 : Int))))) (IntKind.bits
  IntKind.u64)) = Int.fdiv x_2.1 ((2 : Int) ^ Min.min (Int.toNat (IntKind.wrap IntKind.u64 (ctzZ (IntKind.wrap IntKind.u64 (16 : Int))))) (IntKind.bits IntKind.u64))) ∧ Wr (IntKind.wrap IntKind.i64 (x_2.2.1 - (1 : Int)) =
  IntKind.wrap IntKind.i64 (x_2.2.1 - (1 : Int))) ∧ Wr ((0 : Nat) < List.length (List.set x_2.2.2 (Int.toNat (IntKind.wrap IntKind.i64 (x_2.2.1 - (1 : Int)))) (byteAt (ByteArray.mk (List.toArray ((48 : UInt8) :: (49 :
  UInt8) :: (50 : UInt8) :: (51 : UInt8) :: (52 : UInt8) :: (53 : UInt8) :: (54 : UInt8) :: (55 : UInt8) :: (56 : UInt8) :: (57 : UInt8) :: (97 : UInt8) :: (98 : UInt8) :: (99 : UInt8) :: (100 : UInt8) :: (101 : UInt8) ::
  (102 : UInt8) :: (103 : UInt8) :: (104 : UInt8) :: (105 : UInt8) :: (106 : UInt8) :: (107 : UInt8) :: (108 : UInt8) :: (109 : UInt8) :: (110 : UInt8) :: (111 : UInt8) :: (112 : UInt8) :: (113 : UInt8) :: (114 : UInt8)
  :: (115 : UInt8) :: (116 : UInt8) :: (117 : UInt8) :: (118 : UInt8) :: (119 : UInt8) :: (120 : UInt8) :: (121 : UInt8) :: (122 : UInt8) :: nilL UInt8))) (Int.toNat (andI IntKind.u64 x_2.1 (IntKind.wrap IntKind.u64
  (IntKind.wrap IntKind.u64 (16 : Int) - (1 : Int)))))))) ∧ Wr ((16 : Int) = (16 : Int)) ∧ Wr (decide (IntKind.wrap IntKind.i64 (List.getD x.1 (Int.toNat x_1.2) (0 : Int)) < (0 : Int)) = decide (IntKind.wrap IntKind.i64
  (List.getD x.1 (Int.toNat x_1.2) (0 : Int)) < (0 : Int))) ∧ Wr (false = false) ∧ Wr (ByteArray.mk (List.toArray (nilL UInt8)) = ByteArray.mk (List.toArray (nilL UInt8))) ∧ Wr (IntKind.wrap IntKind.u64 (ctzZ
  (IntKind.wrap IntKind.u64 (16 : Int))) = IntKind.wrap IntKind.u64 (ctzZ (IntKind.wrap IntKind.u64 (16 : Int)))) ∧ Wr (IntKind.wrap IntKind.u64 (16 : Int) = IntKind.wrap IntKind.u64 (16 : Int)) ∧ Wr (IntKind.wrap
  IntKind.u64 (IntKind.wrap IntKind.u64 (16 : Int) - (1 : Int)) = IntKind.wrap IntKind.u64 (IntKind.wrap IntKind.u64 (16 : Int) - (1 : Int))) ∧ Wr (List.set x_2.2.2 (Int.toNat (IntKind.wrap IntKind.i64 (x_2.2.1 - (1 :
  Int)))) (byteAt (ByteArray.mk (List.toArray ((48 : UInt8) :: (49 : UInt8) :: (50 : UInt8) :: (51 : UInt8) :: (52 : UInt8) :: (53 : UInt8) :: (54 : UInt8) :: (55 : UInt8) :: (56 : UInt8) :: (57 : UInt8) :: (97 : UInt8)
  :: (98 : UInt8) :: (99 : UInt8) :: (100 : UInt8) :: (101 : UInt8) :: (102 : UInt8) :: (103 : UInt8) :: (104 : UInt8) :: (105 : UInt8) :: (106 : UInt8) :: (107 : UInt8) :: (108 : UInt8) :: (109 : UInt8) :: (110 : UInt8)
  :: (111 : UInt8) :: (112 : UInt8) :: (113 : UInt8) :: (114 : UInt8) :: (115 : UInt8) :: (116 : UInt8) :: (117 : UInt8) :: (118 : UInt8) :: (119 : UInt8) :: (120 : UInt8) :: (121 : UInt8) :: (122 : UInt8) :: nilL
  UInt8))) (Int.toNat (andI IntKind.u64 x_2.1 (IntKind.wrap IntKind.u64 (IntKind.wrap IntKind.u64 (16 : Int) - (1 : Int)))))) = List.set x_2.2.2 (Int.toNat (IntKind.wrap IntKind.i64 (x_2.2.1 - (1 : Int)))) (byteAt
  (ByteArray.mk (List.toArray ((48 : UInt8) :: (49 : UInt8) :: (50 : UInt8) :: (51 : UInt8) :: (52 : UInt8) :: (53 : UInt8) :: (54 : UInt8) :: (55 : UInt8) :: (56 : UInt8) :: (57 : UInt8) :: (97 : UInt8) :: (98 : UInt8)
  :: (99 : UInt8) :: (100 : UInt8) :: (101 : UInt8) :: (102 : UInt8) :: (103 : UInt8) :: (104 : UInt8) :: (105 : UInt8) :: (106 : UInt8) :: (107 : UInt8) :: (108 : UInt8) :: (109 : UInt8) :: (110 : UInt8) :: (111 : UInt8)
  :: (112 : UInt8) :: (113 : UInt8) :: (114 : UInt8) :: (115 : UInt8) :: (116 : UInt8) :: (117 : UInt8) :: (118 : UInt8) :: (119 : UInt8) :: (120 : UInt8) :: (121 : UInt8) :: (122 : UInt8) :: nilL UInt8))) (Int.toNat
  (andI IntKind.u64 x_2.1 (IntKind.wrap IntKind.u64 (IntKind.wrap IntKind.u64 (16 : Int) - (1 : Int))))))) ∧ Wr (x_1.1 = x_1.1)) (Wr ((0 : Int) ≤ x_2.1) ∧ Wr (x_2.1 < (↑(ByteArray.size (ByteArray.mk (List.toArray ((48 :
  UInt8) :: (49 : UInt8) :: (50 : UInt8) :: (51 : UInt8) :: (52 : UInt8) :: (53 : UInt8) :: (54 : UInt8) :: (55 : UInt8) :: (56 : UInt8) :: (57 : UInt8) :: (97 : UInt8) :: (98 : UInt8) :: (99 : UInt8) :: (100 : UInt8) ::
  (101 : UInt8) :: (102 : UInt8) :: (103 : UInt8) :: (104 : UInt8) :: (105 : UInt8) :: (106 : UInt8) :: (107 : UInt8) :: (108 : UInt8) :: (109 : UInt8) :: (110 : UInt8) :: (111 : UInt8) :: (112 : UInt8) :: (113 : UInt8)
  :: (114 : UInt8) :: (115 : UInt8) :: (116 : UInt8) :: (117 : UInt8) :: (118 : UInt8) :: (119 : UInt8) :: (120 : UInt8) :: (121 : UInt8) :: (122 : UInt8) :: nilL UInt8)))) : Int)) ∧ Wr (List.length x_2.2.2 = (65 : Nat))
  ∧ Wr ((0 : Int) ≤ IntKind.wrap IntKind.i64 (x_2.2.1 - (1 : Int))) ∧ Wr (IntKind.wrap IntKind.i64 (x_2.2.1 - (1 : Int)) < (↑(65 : Nat) : Int)) ∧ bcase (decide (IntKind.wrap IntKind.i64 (List.getD x.1 (Int.toNat x_1.2) (0
  : Int)) < (0 : Int))) (Wr (List.length (List.set x_2.2.2 (Int.toNat (IntKind.wrap IntKind.i64 (x_2.2.1 - (1 : Int)))) (byteAt (ByteArray.mk (List.toArray ((48 : UInt8) :: (49 : UInt8) :: (50 : UInt8) :: (51 : UInt8) ::
  (52 : UInt8) :: (53 : UInt8) :: (54 : UInt8) :: (55 : UInt8) :: (56 : UInt8) :: (57 : UInt8) :: (97 : UInt8) :: (98 : UInt8) :: (99 : UInt8) :: (100 : UInt8) :: (101 : UInt8) :: (102 : UInt8) :: (103 : UInt8) :: (104 :
  UInt8) :: (105 : UInt8) :: (106 : UInt8) :: (107 : UInt8) :: (108 : UInt8) :: (109 : UInt8) :: (110 : UInt8) :: (111 : UInt8) :: (112 : UInt8) :: (113 : UInt8) :: (114 : UInt8) :: (115 : UInt8) :: (116 : UInt8) :: (117
  : UInt8) :: (118 : UInt8) :: (119 : UInt8) :: (120 : UInt8) :: (121 : UInt8) :: (122 : UInt8) :: nilL UInt8))) (Int.toNat x_2.1))) = (65 : Nat)) ∧ Wr ((0 : Int) ≤ IntKind.wrap IntKind.i64 (IntKind.wrap IntKind.i64
  (x_2.2.1 - (1 : Int)) - (1 : Int))) ∧ Wr (IntKind.wrap IntKind.i64 (IntKind.wrap IntKind.i64 (x_2.2.1 - (1 : Int)) - (1 : Int)) < (↑(65 : Nat) : Int)) ∧ Wr ((0 : Int) ≤ IntKind.wrap IntKind.i64 (IntKind.wrap IntKind.i64
  (x_2.2.1 - (1 : Int)) - (1 : Int))) ∧ Wr (IntKind.wrap IntKind.i64 (IntKind.wrap IntKind.i64 (x_2.2.1 - (1 : Int)) - (1 : Int)) ≤ (↑(65 : Nat) : Int)) ∧ Wr ((↑(65 : Nat) : Int) ≤ (↑(65 : Nat) : Int)) ∧ Wr (List.length
  (List.set (List.set x_2.2.2 (Int.toNat (IntKind.wrap IntKind.i64 (x_2.2.1 - (1 : Int)))) (byteAt (ByteArray.mk (List.toArray ((48 : UInt8) :: (49 : UInt8) :: (50 : UInt8) :: (51 : UInt8) :: (52 : UInt8) :: (53 : UInt8)
  :: (54 : UInt8) :: (55 : UInt8) :: (56 : UInt8) :: (57 : UInt8) :: (97 : UInt8) :: (98 : UInt8) :: (99 : UInt8) :: (100 : UInt8) :: (101 : UInt8) :: (102 : UInt8) :: (103 : UInt8) :: (104 : UInt8) :: (105 : UInt8) ::
  (106 : UInt8) :: (107 : UInt8) :: (108 : UInt8) :: (109 : UInt8) :: (110 : UInt8) :: (111 : UInt8) :: (112 : UInt8) :: (113 : UInt8) :: (114 : UInt8) :: (115 : UInt8) :: (116 : UInt8) :: (117 : UInt8) :: (118 : UInt8)
  :: (119 : UInt8) :: (120 : UInt8) :: (121 : UInt8) :: (122 : UInt8) :: nilL UInt8))) (Int.toNat x_2.1))) (Int.toNat (IntKind.wrap IntKind.i64 (IntKind.wrap IntKind.i64 (x_2.2.1 - (1 : Int)) - (1 : Int)))) (45 : Int)) =
  (65 : Nat)) ∧ Wr (List.length (List.drop (Int.toNat (IntKind.wrap IntKind.i64 (IntKind.wrap IntKind.i64 (x_2.2.1 - (1 : Int)) - (1 : Int)))) (List.take (Int.toNat (↑(65 : Nat) : Int)) (List.set (List.set x_2.2.2
  (Int.toNat (IntKind.wrap IntKind.i64 (x_2.2.1 - (1 : Int)))) (byteAt (ByteArray.mk (List.toArray ((48 : UInt8) :: (49 : UInt8) :: (50 : UInt8) :: (51 : UInt8) :: (52 : UInt8) :: (53 : UInt8) :: (54 : UInt8) :: (55 :
  UInt8) :: (56 : UInt8) :: (57 : UInt8) :: (97 : UInt8) :: (98 : UInt8) :: (99 : UInt8) :: (100 : UInt8) :: (101 : UInt8) :: (102 : UInt8) :: (103 : UInt8) :: (104 : UInt8) :: (105 : UInt8) :: (106 : UInt8) :: (107 :
  UInt8) :: (108 : UInt8) :: (109 : UInt8) :: (110 : UInt8) :: (111 : UInt8) :: (112 : UInt8) :: (113 : UInt8) :: (114 : UInt8) :: (115 : UInt8) :: (116 : UInt8) :: (117 : UInt8) :: (118 : UInt8) :: (119 : UInt8) :: (120
  : UInt8) :: (121 : UInt8) :: (122 : UInt8) :: nilL UInt8))) (Int.toNat x_2.1))) (Int.toNat (IntKind.wrap IntKind.i64 (IntKind.wrap IntKind.i64 (x_2.2.1 - (1 : Int)) - (1 : Int)))) (45 : Int)))) ≤ Go.maxLen) ∧ Wr
  ((List.length x_1.1 + List.length (strI (List.drop (Int.toNat (IntKind.wrap IntKind.i64 (IntKind.wrap IntKind.i64 (x_2.2.1 - (1 : Int)) - (1 : Int)))) (List.take (Int.toNat (↑(65 : Nat) : Int)) (List.set (List.set
  x_2.2.2 (Int.toNat (IntKind.wrap IntKind.i64 (x_2.2.1 - (1 : Int)))) (byteAt (ByteArray.mk (List.toArray ((48 : UInt8) :: (49 : UInt8) :: (50 : UInt8) :: (51 : UInt8) :: (52 : UInt8) :: (53 : UInt8) :: (54 : UInt8) ::
  (55 : UInt8) :: (56 : UInt8) :: (57 : UInt8) :: (97 : UInt8) :: (98 : UInt8) :: (99 : UInt8) :: (100 : UInt8) :: (101 : UInt8) :: (102 : UInt8) :: (103 : UInt8) :: (104 : UInt8) :: (105 : UInt8) :: (106 : UInt8) :: (107
  : UInt8) :: (108 : UInt8) :: (109 : UInt8) :: (110 : UInt8) :: (111 : UInt8) :: (112 : UInt8) :: (113 : UInt8) :: (114 : UInt8) :: (115 : UInt8) :: (116 : UInt8) :: (117 : UInt8) :: (118 : UInt8) :: (119 : UInt8) ::
  (120 : UInt8) :: (121 : UInt8) :: (122 : UInt8) :: nilL UInt8))) (Int.toNat x_2.1))) (Int.toNat (IntKind.wrap IntKind.i64 (IntKind.wrap IntKind.i64 (x_2.2.1 - (1 : Int)) - (1 : Int)))) (45 : Int)))) :: nilL ByteArray))
  * (16 : Nat) ≤ (140737488355328 : Nat)) ∧ Wr (MapI Go.Ad.hexS x.1 (x_1.1 ++ strI (List.drop (Int.toNat (IntKind.wrap IntKind.i64 (IntKind.wrap IntKind.i64 (x_2.2.1 - (1 : Int)) - (1 : Int)))) (List.take (Int.toNat (↑(65
  : Nat) : Int)) (List.set (List.set x_2.2.2 (Int.toNat (IntKind.wrap IntKind.i64 (x_2.2.1 - (1 : Int)))) (byteAt (ByteArray.mk (List.toArray ((48 : UInt8) :: (49 : UInt8) :: (50 : UInt8) :: (51 : UInt8) :: (52 : UInt8)
  :: (53 : UInt8) :: (54 : UInt8) :: (55 : UInt8) :: (56 : UInt8) :: (57 : UInt8) :: (97 : UInt8) :: (98 : UInt8) :: (99 : UInt8) :: (100 : UInt8) :: (101 : UInt8) :: (102 : UInt8) :: (103 : UInt8) :: (104 : UInt8) ::
  (105 : UInt8) :: (106 : UInt8) :: (107 : UInt8) :: (108 : UInt8) :: (109 : UInt8) :: (110 : UInt8) :: (111 : UInt8) :: (112 : UInt8) :: (113 : UInt8) :: (114 : UInt8) :: (115 : UInt8) :: (116 : UInt8) :: (117 : UInt8)
  :: (118 : UInt8) :: (119 : UInt8) :: (120 : UInt8) :: (121 : UInt8) :: (122 : UInt8) :: nilL UInt8))) (Int.toNat x_2.1))) (Int.toNat (IntKind.wrap IntKind.i64 (IntKind.wrap IntKind.i64 (x_2.2.1 - (1 : Int)) - (1 :
  Int)))) (45 : Int)))) :: nilL ByteArray) (IntKind.wrap IntKind.i64 (x_1.2 + (1 : Int)))) ∧ Wr (List.length x.1 - Int.toNat (IntKind.wrap IntKind.i64 (x_1.2 + (1 : Int))) < List.length x.1 - Int.toNat x_1.2) ∧ Wr
  (IntKind.wrap IntKind.i64 (x_1.2 + (1 : Int)) = IntKind.wrap IntKind.i64 (x_1.2 + (1 : Int))) ∧ Wr (x.1 = x.1) ∧ Wr (x.1 = x.1) ∧ Wr ((↑(List.length x.1) : Int) = (↑(List.length x.1) : Int)) ∧ Wr (x_1.1 ++ strI
  (List.drop (Int.toNat (IntKind.wrap IntKind.i64 (IntKind.wrap IntKind.i64 (x_2.2.1 - (1 : Int)) - (1 : Int)))) (List.take (Int.toNat (↑(65 : Nat) : Int)) (List.set (List.set x_2.2.2 (Int.toNat (IntKind.wrap IntKind.i64
  (x_2.2.1 - (1 : Int)))) (byteAt (ByteArray.mk (List.toArray ((48 : UInt8) :: (49 : UInt8) :: (50 : UInt8) :: (51 : UInt8) :: (52 : UInt8) :: (53 : UInt8) :: (54 : UInt8) :: (55 : UInt8) :: (56 : UInt8) :: (57 : UInt8)
  :: (97 : UInt8) :: (98 : UInt8) :: (99 : UInt8) :: (100 : UInt8) :: (101 : UInt8) :: (102 : UInt8) :: (103 : UInt8) :: (104 : UInt8) :: (105 : UInt8) :: (106 : UInt8) :: (107 : UInt8) :: (108 : UInt8) :: (109 : UInt8)
  :: (110 : UInt8) :: (111 : UInt8) :: (112 : UInt8) :: (113 : UInt8) :: (114 : UInt8) :: (115 : UInt8) :: (116 : UInt8) :: (117 : UInt8) :: (118 : UInt8) :: (119 : UInt8) :: (120 : UInt8) :: (121 : UInt8) :: (122 :
  UInt8) :: nilL UInt8))) (Int.toNat x_2.1))) (Int.toNat (IntKind.wrap IntKind.i64 (IntKind.wrap IntKind.i64 (x_2.2.1 - (1 : Int)) - (1 : Int)))) (45 : Int)))) :: nilL ByteArray = x_1.1 ++ strI (List.drop (Int.toNat
  (IntKind.wrap IntKind.i64 (IntKind.wrap IntKind.i64 (x_2.2.1 - (1 : Int)) - (1 : Int)))) (List.take (Int.toNat (↑(65 : Nat) : Int)) (List.set (List.set x_2.2.2 (Int.toNat (IntKind.wrap IntKind.i64 (x_2.2.1 - (1 :
  Int)))) (byteAt (ByteArray.mk (List.toArray ((48 : UInt8) :: (49 : UInt8) :: (50 : UInt8) :: (51 : UInt8) :: (52 : UInt8) :: (53 : UInt8) :: (54 : UInt8) :: (55 : UInt8) :: (56 : UInt8) :: (57 : UInt8) :: (97 : UInt8)
  :: (98 : UInt8) :: (99 : UInt8) :: (100 : UInt8) :: (101 : UInt8) :: (102 : UInt8) :: (103 : UInt8) :: (104 : UInt8) :: (105 : UInt8) :: (106 : UInt8) :: (107 : UInt8) :: (108 : UInt8) :: (109 : UInt8) :: (110 : UInt8)
  :: (111 : UInt8) :: (112 : UInt8) :: (113 : UInt8) :: (114 : UInt8) :: (115 : UInt8) :: (116 : UInt8) :: (117 : UInt8) :: (118 : UInt8) :: (119 : UInt8) :: (120 : UInt8) :: (121 : UInt8) :: (122 : UInt8) :: nilL
  UInt8))) (Int.toNat x_2.1))) (Int.toNat (IntKind.wrap IntKind.i64 (IntKind.wrap IntKind.i64 (x_2.2.1 - (1 : Int)) - (1 : Int)))) (45 : Int)))) :: nilL ByteArray)) (Wr ((0 : Int) ≤ IntKind.wrap IntKind.i64 (x_2.2.1 - (1
  : Int))) ∧ Wr (IntKind.wrap IntKind.i64 (x_2.2.1 - (1 : Int)) ≤ (↑(65 : Nat) : Int)) ∧ Wr ((↑(65 : Nat) : Int) ≤ (↑(65 : Nat) : Int)) ∧ Wr (List.length (List.set x_2.2.2 (Int.toNat (IntKind.wrap IntKind.i64 (x_2.2.1 -
  (1 : Int)))) (byteAt (ByteArray.mk (List.toArray ((48 : UInt8) :: (49 : UInt8) :: (50 : UInt8) :: (51 : UInt8) :: (52 : UInt8) :: (53 : UInt8) :: (54 : UInt8) :: (55 : UInt8) :: (56 : UInt8) :: (57 : UInt8) :: (97 :
  UInt8) :: (98 : UInt8) :: (99 : UInt8) :: (100 : UInt8) :: (101 : UInt8) :: (102 : UInt8) :: (103 : UInt8) :: (104 : UInt8) :: (105 : UInt8) :: (106 : UInt8) :: (107 : UInt8) :: (108 : UInt8) :: (109 : UInt8) :: (110 :
  UInt8) :: (111 : UInt8) :: (112 : UInt8) :: (113 : UInt8) :: (114 : UInt8) :: (115 : UInt8) :: (116 : UInt8) :: (117 : UInt8) :: (118 : UInt8) :: (119 : UInt8) :: (120 : UInt8) :: (121 : UInt8) :: (122 : UInt8) :: nilL
  UInt8))) (Int.toNat x_2.1))) = (65 : Nat)) ∧ Wr (List.length (List.drop (Int.toNat (IntKind.wrap IntKind.i64 (x_2.2.1 - (1 : Int)))) (List.take (Int.toNat (↑(65 : Nat) : Int)) (List.set x_2.2.2 (Int.toNat (IntKind.wrap
  IntKind.i64 (x_2.2.1 - (1 : Int)))) (byteAt (ByteArray.mk (List.toArray ((48 : UInt8) :: (49 : UInt8) :: (50 : UInt8) :: (51 : UInt8) :: (52 : UInt8) :: (53 : UInt8) :: (54 : UInt8) :: (55 : UInt8) :: (56 : UInt8) ::
  (57 : UInt8) :: (97 : UInt8) :: (98 : UInt8) :: (99 : UInt8) :: (100 : UInt8) :: (101 : UInt8) :: (102 : UInt8) :: (103 : UInt8) :: (104 : UInt8) :: (105 : UInt8) :: (106 : UInt8) :: (107 : UInt8) :: (108 : UInt8) ::
  (109 : UInt8) :: (110 : UInt8) :: (111 : UInt8) :: (112 : UInt8) :: (113 : UInt8) :: (114 : UInt8) :: (115 : UInt8) :: (116 : UInt8) :: (117 : UInt8) :: (118 : UInt8) :: (119 : UInt8) :: (120 : UInt8) :: (121 : UInt8)
  :: (122 : UInt8) :: nilL UInt8))) (Int.toNat x_2.1))))) ≤ Go.maxLen) ∧ Wr ((List.length x_1.1 + List.length (strI (List.drop (Int.toNat (IntKind.wrap IntKind.i64 (x_2.2.1 - (1 : Int)))) (List.take (Int.toNat (↑(65 :
  Nat) : Int)) (List.set x_2.2.2 (Int.toNat (IntKind.wrap IntKind.i64 (x_2.2.1 - (1 : Int)))) (byteAt (ByteArray.mk (List.toArray ((48 : UInt8) :: (49 : UInt8) :: (50 : UInt8) :: (51 : UInt8) :: (52 : UInt8) :: (53 :
  UInt8) :: (54 : UInt8) :: (55 : UInt8) :: (56 : UInt8) :: (57 : UInt8) :: (97 : UInt8) :: (98 : UInt8) :: (99 : UInt8) :: (100 : UInt8) :: (101 : UInt8) :: (102 : UInt8) :: (103 : UInt8) :: (104 : UInt8) :: (105 :
  UInt8) :: (106 : UInt8) :: (107 : UInt8) :: (108 : UInt8) :: (109 : UInt8) :: (110 : UInt8) :: (111 : UInt8) :: (112 : UInt8) :: (113 : UInt8) :: (114 : UInt8) :: (115 : UInt8) :: (116 : UInt8) :: (117 : UInt8) :: (118
  : UInt8) :: (119 : UInt8) :: (120 : UInt8) :: (121 : UInt8) :: (122 : UInt8) :: nilL UInt8))) (Int.toNat x_2.1))))) :: nilL ByteArray)) * (16 : Nat) ≤ (140737488355328 : Nat)) ∧ Wr (MapI Go.Ad.hexS x.1 (x_1.1 ++ strI
  (List.drop (Int.toNat (IntKind.wrap IntKind.i64 (x_2.2.1 - (1 : Int)))) (List.take (Int.toNat (↑(65 : Nat) : Int)) (List.set x_2.2.2 (Int.toNat (IntKind.wrap IntKind.i64 (x_2.2.1 - (1 : Int)))) (byteAt (ByteArray.mk
  (List.toArray ((48 : UInt8) :: (49 : UInt8) :: (50 : UInt8) :: (51 : UInt8) :: (52 : UInt8) :: (53 : UInt8) :: (54 : UInt8) :: (55 : UInt8) :: (56 : UInt8) :: (57 : UInt8) :: (97 : UInt8) :: (98 : UInt8) :: (99 : UInt8)
  :: (100 : UInt8) :: (101 : UInt8) :: (102 : UInt8) :: (103 : UInt8) :: (104 : UInt8) :: (105 : UInt8) :: (106 : UInt8) :: (107 : UInt8) :: (108 : UInt8) :: (109 : UInt8) :: (110 : UInt8) :: (111 : UInt8) :: (112 :
  UInt8) :: (113 : UInt8) :: (114 : UInt8) :: (115 : UInt8) :: (116 : UInt8) :: (117 : UInt8) :: (118 : UInt8) :: (119 : UInt8) :: (120 : UInt8) :: (121 : UInt8) :: (122 : UInt8) :: nilL UInt8))) (Int.toNat x_2.1))))) ::
  nilL ByteArray) (IntKind.wrap IntKind.i64 (x_1.2 + (1 : Int)))) ∧ Wr (List.length x.1 - Int.toNat (IntKind.wrap IntKind.i64 (x_1.2 + (1 : Int))) < List.length x.1 - Int.toNat x_1.2) ∧ Wr (IntKind.wrap IntKind.i64 (x_1.2
  + (1 : Int)) = IntKind.wrap IntKind.i64 (x_1.2 + (1 : Int))) ∧ Wr (x.1 = x.1) ∧ Wr (x.1 = x.1) ∧ Wr ((↑(List.length x.1) : Int) = (↑(List.length x.1) : Int)) ∧ Wr (x_1.1 ++ strI (List.drop (Int.toNat (IntKind.wrap
  IntKind.i64 (x_2.2.1 - (1 : Int)))) (List.take (Int.toNat (↑(65 : Nat) : Int)) (List.set x_2.2.2 (Int.toNat (IntKind.wrap IntKind.i64 (x_2.2.1 - (1 : Int)))) (byteAt (ByteArray.mk (List.toArray ((48 : UInt8) :: (49 :
  UInt8) :: (50 : UInt8) :: (51 : UInt8) :: (52 : UInt8) :: (53 : UInt8) :: (54 : UInt8) :: (55 : UInt8) :: (56 : UInt8) :: (57 : UInt8) :: (97 : UInt8) :: (98 : UInt8) :: (99 : UInt8) :: (100 : UInt8) :: (101 : UInt8) ::
  (102 : UInt8) :: (103 : UInt8) :: (104 : UInt8) :: (105 : UInt8) :: (106 : UInt8) :: (107 : UInt8) :: (108 : UInt8) :: (109 : UInt8) :: (110 : UInt8) :: (111 : UInt8) :: (112 : UInt8) :: (113 : UInt8) :: (114 : UInt8)
  :: (115 : UInt8) :: (116 : UInt8) :: (117 : UInt8) :: (118 : UInt8) :: (119 : UInt8) :: (120 : UInt8) :: (121 : UInt8) :: (122 : UInt8) :: nilL UInt8))) (Int.toNat x_2.1))))) :: nilL ByteArray = x_1.1 ++ strI (List.drop
  (Int.toNat (IntKind.wrap IntKind.i64 (x_2.2.1 - (1 : Int)))) (List.take (Int.toNat (↑(65 : Nat) : Int)) (List.set x_2.2.2 (Int.toNat (IntKind.wrap IntKind.i64 (x_2.2.1 - (1 : Int)))) (byteAt (ByteArray.mk (List.toArray
  ((48 : UInt8) :: (49 : UInt8) :: (50 : UInt8) :: (51 : UInt8) :: (52 : UInt8) :: (53 : UInt8) :: (54 : UInt8) :: (55 : UInt8) :: (56 : UInt8) :: (57 : UInt8) :: (97 : UInt8) :: (98 : UInt8) :: (99 : UInt8) :: (100 :
  UInt8) :: (101 : UInt8) :: (102 : UInt8) :: (103 : UInt8) :: (104 : UInt8) :: (105 : UInt8) :: (106 : UInt8) :: (107 : UInt8) :: (108 : UInt8) :: (109 : UInt8) :: (110 : UInt8) :: (111 : UInt8) :: (112 : UInt8) :: (113
  : UInt8) :: (114 : UInt8) :: (115 : UInt8) :: (116 : UInt8) :: (117 : UInt8) :: (118 : UInt8) :: (119 : UInt8) :: (120 : UInt8) :: (121 : UInt8) :: (122 : UInt8) :: nilL UInt8))) (Int.toNat x_2.1))))) :: nilL
  ByteArray)))) (Wr ((decide ((0 : Int) ≤ IntKind.wrap IntKind.u64 (16 : Int)) && decide (IntKind.wrap IntKind.u64 (16 : Int) < (18446744073709551616 : Int))) = true) ∧ (Wr (BitsI (IntKind.wrap IntKind.u64 (IntKind.wrap
  IntKind.i64 (List.getD x.1 (Int.toNat x_1.2) (0 : Int)))) (IntKind.wrap IntKind.u64 (IntKind.wrap IntKind.i64 (List.getD x.1 (Int.toNat x_1.2) (0 : Int)))) (65 : Int) (List.replicate (65 : Nat) (0 : Int))) ∧ Wr
  (IntKind.wrap IntKind.u64 (IntKind.wrap IntKind.i64 (List.getD x.1 (Int.toNat x_1.2) (0 : Int))) = IntKind.wrap IntKind.u64 (IntKind.wrap IntKind.i64 (List.getD x.1 (Int.toNat x_1.2) (0 : Int)))) ∧ Wr ((65 : Int) = (65
  : Int)) ∧ Wr ((0 : Nat) < List.length (List.replicate (65 : Nat) (0 : Int))) ∧ Wr ((16 : Int) = (16 : Int)) ∧ Wr (decide (IntKind.wrap IntKind.i64 (List.getD x.1 (Int.toNat x_1.2) (0 : Int)) < (0 : Int)) = decide
  (IntKind.wrap IntKind.i64 (List.getD x.1 (Int.toNat x_1.2) (0 : Int)) < (0 : Int))) ∧ Wr (false = false) ∧ Wr (ByteArray.mk (List.toArray (nilL UInt8)) = ByteArray.mk (List.toArray (nilL UInt8))) ∧ Wr (IntKind.wrap
  IntKind.u64 (ctzZ (IntKind.wrap IntKind.u64 (16 : Int))) = IntKind.wrap IntKind.u64 (ctzZ (IntKind.wrap IntKind.u64 (16 : Int)))) ∧ Wr (IntKind.wrap IntKind.u64 (16 : Int) = IntKind.wrap IntKind.u64 (16 : Int)) ∧ Wr
  (IntKind.wrap IntKind.u64 (IntKind.wrap IntKind.u64 (16 : Int) - (1 : Int)) = IntKind.wrap IntKind.u64 (IntKind.wrap IntKind.u64 (16 : Int) - (1 : Int))) ∧ Wr (List.replicate (65 : Nat) (0 : Int) = List.replicate (65 :
  Nat) (0 : Int)) ∧ Wr (x_1.1 = x_1.1)) ∧ ∀ (x_2 : Int × Int × List Int), Wr (BitsI (IntKind.wrap IntKind.u64 (IntKind.wrap IntKind.i64 (List.getD x.1 (Int.toNat x_1.2) (0 : Int)))) x_2.1 x_2.2.1 x_2.2.2) → bcase (decide
  (x_2.1 ≥ IntKind.wrap IntKind.u64 (16 : Int))) (Wr ((0 : Int) ≤ andI IntKind.u64 x_2.1 (IntKind.wrap IntKind.u64 (IntKind.wrap IntKind.u64 (16 : Int) - (1 : Int)))) ∧ Wr (andI IntKind.u64 x_2.1 (IntKind.wrap IntKind.u64
  (IntKind.wrap IntKind.u64 (16 : Int) - (1 : Int))) < (↑(ByteArray.size (ByteArray.mk (List.toArray ((48 : UInt8) :: (49 : UInt8) :: (50 : UInt8) :: (51 : UInt8) :: (52 : UInt8) :: (53 : UInt8) :: (54 : UInt8) :: (55 :
  UInt8) :: (56 : UInt8) :: (57 : UInt8) :: (97 : UInt8) :: (98 : UInt8) :: (99 : UInt8) :: (100 : UInt8) :: (101 : UInt8) :: (102 : UInt8) :: (103 : UInt8) :: (104 : UInt8) :: (105 : UInt8) :: (106 : UInt8) :: (107 :
  UInt8) :: (108 : UInt8) :: (109 : UInt8) :: (110 : UInt8) :: (111 : UInt8) :: (112 : UInt8) :: (113 : UInt8) :: (114 : UInt8) :: (115 : UInt8) :: (116 : UInt8) :: (117 : UInt8) :: (118 : UInt8) :: (119 : UInt8) :: (120
  : UInt8) :: (121 : UInt8) :: (122 : UInt8) :: nilL UInt8)))) : Int)) ∧ Wr (List.length x_2.2.2 = (65 : Nat)) ∧ Wr ((0 : Int) ≤ IntKind.wrap IntKind.i64 (x_2.2.1 - (1 : Int))) ∧ Wr (IntKind.wrap IntKind.i64 (x_2.2.1 - (1
  : Int)) < (↑(65 : Nat) : Int)) ∧ Wr ((0 : Int) ≤ IntKind.wrap IntKind.u64 (ctzZ (IntKind.wrap IntKind.u64 (16 : Int)))) ∧ Wr (BitsI (IntKind.wrap IntKind.u64 (IntKind.wrap IntKind.i64 (List.getD x.1 (Int.toNat x_1.2) (0
  : Int)))) (Int.fdiv x_2.1 ((2 : Int) ^ Min.min (Int.toNat (IntKind.wrap IntKind.u64 (ctzZ (IntKind.wrap IntKind.u64 (16 : Int))))) (IntKind.bits IntKind.u64))) (IntKind.wrap IntKind.i64 (x_2.2.1 - (1 : Int))) (List.set
  x_2.2.2 (Int.toNat (IntKind.wrap IntKind.i64 (x_2.2.1 - (1 : Int)))) (byteAt (ByteArray.mk (List.toArray ((48 : UInt8) :: (49 : UInt8) :: (50 : UInt8) :: (51 : UInt8) :: (52 : UInt8) :: (53 : UInt8) :: (54 : UInt8) ::
  (55 : UInt8) :: (56 : UInt8) :: (57 : UInt8) :: (97 : UInt8) :: (98 : UInt8) :: (99 : UInt8) :: (100 : UInt8) :: (101 : UInt8) :: (102 : UInt8) :: (103 : UInt8) :: (104 : UInt8) :: (105 : UInt8) :: (106 : UInt8) :: (107
  : UInt8) :: (108 : UInt8) :: (109 : UInt8) :: (110 : UInt8) :: (111 : UInt8) :: (112 : UInt8) :: (113 : UInt8) :: (114 : UInt8) :: (115 : UInt8) :: (116 : UInt8) :: (117 : UInt8) :: (118 : UInt8) :: (119 : UInt8) ::
  (120 : UInt8) :: (121 : UInt8) :: (122 : UInt8) :: nilL UInt8))) (Int.toNat (andI IntKind.u64 x_2.1 (IntKind.wrap IntKind.u64 (IntKind.wrap IntKind.u64 (16 : Int) - (1 : Int)))))))) ∧ Wr (Int.toNat (IntKind.wrap
  IntKind.i64 (x_2.2.1 - (1 : Int))) < Int.toNat x_2.2.1) ∧ Wr (Int.fdiv x_2.1 ((2 : Int) ^ Min.min (Int.toNat (IntKind.wrap IntKind.u64 (ctzZ (IntKind.wrap IntKind.u64 (16 : Int))))) (IntKind.bits IntKind.u64)) =
  Int.fdiv x_2.1 ((2 : Int) ^ Min.min (Int.toNat (IntKind.wrap IntKind.u64 (ctzZ (IntKind.wrap IntKind.u64 (16 : Int))))) (IntKind.bits IntKind.u64))) ∧ Wr (IntKind.wrap IntKind.i64 (x_2.2.1 - (1 : Int)) = IntKind.wrap
  IntKind.i64 (x_2.2.1 - (1 : Int))) ∧ Wr ((0 : Nat) < List.length (List.set x_2.2.2 (Int.toNat (IntKind.wrap IntKind.i64 (x_2.2.1 - (1 : Int)))) (byteAt (ByteArray.mk (List.toArray ((48 : UInt8) :: (49 : UInt8) :: (50 :
  UInt8) :: (51 : UInt8) :: (52 : UInt8) :: (53 : UInt8) :: (54 : UInt8) :: (55 : UInt8) :: (56 : UInt8) :: (57 : UInt8) :: (97 : UInt8) :: (98 : UInt8) :: (99 : UInt8) :: (100 : UInt8) :: (101 : UInt8) :: (102 : UInt8)
  :: (103 : UInt8) :: (104 : UInt8) :: (105 : UInt8) :: (106 : UInt8) :: (107 : UInt8) :: (108 : UInt8) :: (109 : UInt8) :: (110 : UInt8) :: (111 : UInt8) :: (112 : UInt8) :: (113 : UInt8) :: (114 : UInt8) :: (115 :
  UInt8) :: (116 : UInt8) :: (117 : UInt8) :: (118 : UInt8) :: (119 : UInt8) :: (120 : UInt8) :: (121 : UInt8) :: (122 : UInt8) :: nilL UInt8))) (Int.toNat (andI IntKind.u64 x_2.1 (IntKind.wrap IntKind.u64 (IntKind.wrap
  IntKind.u64 (16 : Int) - (1 : Int)))))))) ∧ Wr ((16 : Int) = (16 : Int)) ∧ Wr (decide (IntKind.wrap IntKind.i64 (List.getD x.1 (Int.toNat x_1.2) (0 : Int)) < (0 : Int)) = decide (IntKind.wrap IntKind.i64 (List.getD x.1
  (Int.toNat x_1.2) (0 : Int)) < (0 : Int))) ∧ Wr (false = false) ∧ Wr (ByteArray.mk (List.toArray (nilL UInt8)) = ByteArray.mk (List.toArray (nilL UInt8))) ∧ Wr (IntKind.wrap IntKind.u64 (ctzZ (IntKind.wrap IntKind.u64
  (16 : Int))) = IntKind.wrap IntKind.u64 (ctzZ (IntKind.wrap IntKind.u64 (16 : Int)))) ∧ Wr (IntKind.wrap IntKind.u64 (16 : Int) = IntKind.wrap IntKind.u64 (16 : Int)) ∧ Wr (IntKind.wrap IntKind.u64 (IntKind.wrap
  IntKind.u64 (16 : Int) - (1 : Int)) = IntKind.wrap IntKind.u64 (IntKind.wrap IntKind.u64 (16 : Int) - (1 : Int))) ∧ Wr (List.set x_2.2.2 (Int.toNat (IntKind.wrap IntKind.i64 (x_2.2.1 - (1 : Int)))) (byteAt (ByteArray.mk
  (List.toArray ((48 : UInt8) :: (49 : UInt8) :: (50 : UInt8) :: (51 : UInt8) :: (52 : UInt8) :: (53 : UInt8) :: (54 : UInt8) :: (55 : UInt8) :: (56 : UInt8) :: (57 : UInt8) :: (97 : UInt8) :: (98 : UInt8) :: (99 : UInt8)
  :: (100 : UInt8) :: (101 : UInt8) :: (102 : UInt8) :: (103 : UInt8) :: (104 : UInt8) :: (105 : UInt8) :: (106 : UInt8) :: (107 : UInt8) :: (108 : UInt8) :: (109 : UInt8) :: (110 : UInt8) :: (111 : UInt8) :: (112 :
  UInt8) :: (113 : UInt8) :: (114 : UInt8) :: (115 : UInt8) :: (116 : UInt8) :: (117 : UInt8) :: (118 : UInt8) :: (119 : UInt8) :: (120 : UInt8) :: (121 : UInt8) :: (122 : UInt8) :: nilL UInt8))) (Int.toNat (andI
  IntKind.u64 x_2.1 (IntKind.wrap IntKind.u64 (IntKind.wrap IntKind.u64 (16 : Int) - (1 : Int)))))) = List.set x_2.2.2 (Int.toNat (IntKind.wrap IntKind.i64 (x_2.2.1 - (1 : Int)))) (byteAt (ByteArray.mk (List.toArray ((48
  : UInt8) :: (49 : UInt8) :: (50 : UInt8) :: (51 : UInt8) :: (52 : UInt8) :: (53 : UInt8) :: (54 : UInt8) :: (55 : UInt8) :: (56 : UInt8) :: (57 : UInt8) :: (97 : UInt8) :: (98 : UInt8) :: (99 : UInt8) :: (100 : UInt8)
  :: (101 : UInt8) :: (102 : UInt8) :: (103 : UInt8) :: (104 : UInt8) :: (105 : UInt8) :: (106 : UInt8) :: (107 : UInt8) :: (108 : UInt8) :: (109 : UInt8) :: (110 : UInt8) :: (111 : UInt8) :: (112 : UInt8) :: (113 :
  UInt8) :: (114 : UInt8) :: (115 : UInt8) :: (116 : UInt8) :: (117 : UInt8) :: (118 : UInt8) :: (119 : UInt8) :: (120 : UInt8) :: (121 : UInt8) :: (122 : UInt8) :: nilL UInt8))) (Int.toNat (andI IntKind.u64 x_2.1
  (IntKind.wrap IntKind.u64 (IntKind.wrap IntKind.u64 (16 : Int) - (1 : Int))))))) ∧ Wr (x_1.1 = x_1.1)) (Wr ((0 : Int) ≤ x_2.1) ∧ Wr (x_2.1 < (↑(ByteArray.size (ByteArray.mk (List.toArray ((48 : UInt8) :: (49 : UInt8) ::
  (50 : UInt8) :: (51 : UInt8) :: (52 : UInt8) :: (53 : UInt8) :: (54 : UInt8) :: (55 : UInt8) :: (56 : UInt8) :: (57 : UInt8) :: (97 : UInt8) :: (98 : UInt8) :: (99 : UInt8) :: (100 : UInt8) :: (101 : UInt8) :: (102 :
  UInt8) :: (103 : UInt8) :: (104 : UInt8) :: (105 : UInt8) :: (106 : UInt8) :: (107 : UInt8) :: (108 : UInt8) :: (109 : UInt8) :: (110 : UInt8) :: (111 : UInt8) :: (112 : UInt8) :: (113 : UInt8) :: (114 : UInt8) :: (115
  : UInt8) :: (116 : UInt8) :: (117 : UInt8) :: (118 : UInt8) :: (119 : UInt8) :: (120 : UInt8) :: (121 : UInt8) :: (122 : UInt8) :: nilL UInt8)))) : Int)) ∧ Wr (List.length x_2.2.2 = (65 : Nat)) ∧ Wr ((0 : Int) ≤
  IntKind.wrap IntKind.i64 (x_2.2.1 - (1 : Int))) ∧ Wr (IntKind.wrap IntKind.i64 (x_2.2.1 - (1 : Int)) < (↑(65 : Nat) : Int)) ∧ bcase (decide (IntKind.wrap IntKind.i64 (List.getD x.1 (Int.toNat x_1.2) (0 : Int)) < (0 :
  Int))) (Wr (List.length (List.set x_2.2.2 (Int.toNat (IntKind.wrap IntKind.i64 (x_2.2.1 - (1 : Int)))) (byteAt (ByteArray.mk (List.toArray ((48 : UInt8) :: (49 : UInt8) :: (50 : UInt8) :: (51 : UInt8) :: (52 : UInt8) ::
  (53 : UInt8) :: (54 : UInt8) :: (55 : UInt8) :: (56 : UInt8) :: (57 : UInt8) :: (97 : UInt8) :: (98 : UInt8) :: (99 : UInt8) :: (100 : UInt8) :: (101 : UInt8) :: (102 : UInt8) :: (103 : UInt8) :: (104 : UInt8) :: (105 :
  UInt8) :: (106 : UInt8) :: (107 : UInt8) :: (108 : UInt8) :: (109 : UInt8) :: (110 : UInt8) :: (111 : UInt8) :: (112 : UInt8) :: (113 : UInt8) :: (114 : UInt8) :: (115 : UInt8) :: (116 : UInt8) :: (117 : UInt8) :: (118
  : UInt8) :: (119 : UInt8) :: (120 : UInt8) :: (121 : UInt8) :: (122 : UInt8) :: nilL UInt8))) (Int.toNat x_2.1))) = (65 : Nat)) ∧ Wr ((0 : Int) ≤ IntKind.wrap IntKind.i64 (IntKind.wrap IntKind.i64 (x_2.2.1 - (1 : Int))
  - (1 : Int))) ∧ Wr (IntKind.wrap IntKind.i64 (IntKind.wrap IntKind.i64 (x_2.2.1 - (1 : Int)) - (1 : Int)) < (↑(65 : Nat) : Int)) ∧ Wr ((0 : Int) ≤ IntKind.wrap IntKind.i64 (IntKind.wrap IntKind.i64 (x_2.2.1 - (1 : Int))
  - (1 : Int))) ∧ Wr (IntKind.wrap IntKind.i64 (IntKind.wrap IntKind.i64 (x_2.2.1 - (1 : Int)) - (1 : Int)) ≤ (↑(65 : Nat) : Int)) ∧ Wr ((↑(65 : Nat) : Int) ≤ (↑(65 : Nat) : Int)) ∧ Wr (List.length (List.set (List.set
  x_2.2.2 (Int.toNat (IntKind.wrap IntKind.i64 (x_2.2.1 - (1 : Int)))) (byteAt (ByteArray.mk (List.toArray ((48 : UInt8) :: (49 : UInt8) :: (50 : UInt8) :: (51 : UInt8) :: (52 : UInt8) :: (53 : UInt8) :: (54 : UInt8) ::
  (55 : UInt8) :: (56 : UInt8) :: (57 : UInt8) :: (97 : UInt8) :: (98 : UInt8) :: (99 : UInt8) :: (100 : UInt8) :: (101 : UInt8) :: (102 : UInt8) :: (103 : UInt8) :: (104 : UInt8) :: (105 : UInt8) :: (106 : UInt8) :: (107
  : UInt8) :: (108 : UInt8) :: (109 : UInt8) :: (110 : UInt8) :: (111 : UInt8) :: (112 : UInt8) :: (113 : UInt8) :: (114 : UInt8) :: (115 : UInt8) :: (116 : UInt8) :: (117 : UInt8) :: (118 : UInt8) :: (119 : UInt8) ::
  (120 : UInt8) :: (121 : UInt8) :: (122 : UInt8) :: nilL UInt8))) (Int.toNat x_2.1))) (Int.toNat (IntKind.wrap IntKind.i64 (IntKind.wrap IntKind.i64 (x_2.2.1 - (1 : Int)) - (1 : Int)))) (45 : Int)) = (65 : Nat)) ∧ Wr
  (List.length (List.drop (Int.toNat (IntKind.wrap IntKind.i64 (IntKind.wrap IntKind.i64 (x_2.2.1 - (1 : Int)) - (1 : Int)))) (List.take (Int.toNat (↑(65 : Nat) : Int)) (List.set (List.set x_2.2.2 (Int.toNat (IntKind.wrap
  IntKind.i64 (x_2.2.1 - (1 : Int)))) (byteAt (ByteArray.mk (List.toArray ((48 : UInt8) :: (49 : UInt8) :: (50 : UInt8) :: (51 : UInt8) :: (52 : UInt8) :: (53 : UInt8) :: (54 : UInt8) :: (55 : UInt8) :: (56 : UInt8) ::
  (57 : UInt8) :: (97 : UInt8) :: (98 : UInt8) :: (99 : UInt8) :: (100 : UInt8) :: (101 : UInt8) :: (102 : UInt8) :: (103 : UInt8) :: (104 : UInt8) :: (105 : UInt8) :: (106 : UInt8) :: (107 : UInt8) :: (108 : UInt8) ::
  (109 : UInt8) :: (110 : UInt8) :: (111 : UInt8) :: (112 : UInt8) :: (113 : UInt8) :: (114 : UInt8) :: (115 : UInt8) :: (116 : UInt8) :: (117 : UInt8) :: (118 : UInt8) :: (119 : UInt8) :: (120 : UInt8) :: (121 : UInt8)
  :: (122 : UInt8) :: nilL UInt8))) (Int.toNat x_2.1))) (Int.toNat (IntKind.wrap IntKind.i64 (IntKind.wrap IntKind.i64 (x_2.2.1 - (1 : Int)) - (1 : Int)))) (45 : Int)))) ≤ Go.maxLen) ∧ Wr ((List.length x_1.1 + List.length
  (strI (List.drop (Int.toNat (IntKind.wrap IntKind.i64 (IntKind.wrap IntKind.i64 (x_2.2.1 - (1 : Int)) - (1 : Int)))) (List.take (Int.toNat (↑(65 : Nat) : Int)) (List.set (List.set x_2.2.2 (Int.toNat (IntKind.wrap
  IntKind.i64 (x_2.2.1 - (1 : Int)))) (byteAt (ByteArray.mk (List.toArray ((48 : UInt8) :: (49 : UInt8) :: (50 : UInt8) :: (51 : UInt8) :: (52 : UInt8) :: (53 : UInt8) :: (54 : UInt8) :: (55 : UInt8) :: (56 : UInt8) ::
  (57 : UInt8) :: (97 : UInt8) :: (98 : UInt8) :: (99 : UInt8) :: (100 : UInt8) :: (101 : UInt8) :: (102 : UInt8) :: (103 : UInt8) :: (104 : UInt8) :: (105 : UInt8) :: (106 : UInt8) :: (107 : UInt8) :: (108 : UInt8) ::
  (109 : UInt8) :: (110 : UInt8) :: (111 : UInt8) :: (112 : UInt8) :: (113 : UInt8) :: (114 : UInt8) :: (115 : UInt8) :: (116 : UInt8) :: (117 : UInt8) :: (118 : UInt8) :: (119 : UInt8) :: (120 : UInt8) :: (121 : UInt8)
  :: (122 : UInt8) :: nilL UInt8))) (Int.toNat x_2.1))) (Int.toNat (IntKind.wrap IntKind.i64 (IntKind.wrap IntKind.i64 (x_2.2.1 - (1 : Int)) - (1 : Int)))) (45 : Int)))) :: nilL ByteArray)) * (16 : Nat) ≤ (140737488355328
  : Nat)) ∧ Wr (MapI Go.Ad.hexS x.1 (x_1.1 ++ strI (List.drop (Int.toNat (IntKind.wrap IntKind.i64 (IntKind.wrap IntKind.i64 (x_2.2.1 - (1 : Int)) - (1 : Int)))) (List.take (Int.toNat (↑(65 : Nat) : Int)) (List.set
  (List.set x_2.2.2 (Int.toNat (IntKind.wrap IntKind.i64 (x_2.2.1 - (1 : Int)))) (byteAt (ByteArray.mk (List.toArray ((48 : UInt8) :: (49 : UInt8) :: (50 : UInt8) :: (51 : UInt8) :: (52 : UInt8) :: (53 : UInt8) :: (54 :
  UInt8) :: (55 : UInt8) :: (56 : UInt8) :: (57 : UInt8) :: (97 : UInt8) :: (98 : UInt8) :: (99 : UInt8) :: (100 : UInt8) :: (101 : UInt8) :: (102 : UInt8) :: (103 : UInt8) :: (104 : UInt8) :: (105 : UInt8) :: (106 :
  UInt8) :: (107 : UInt8) :: (108 : UInt8) :: (109 : UInt8) :: (110 : UInt8) :: (111 : UInt8) :: (112 : UInt8) :: (113 : UInt8) :: (114 : UInt8) :: (115 : UInt8) :: (116 : UInt8) :: (117 : UInt8) :: (118 : UInt8) :: (119
  : UInt8) :: (120 : UInt8) :: (121 : UInt8) :: (122 : UInt8) :: nilL UInt8))) (Int.toNat x_2.1))) (Int.toNat (IntKind.wrap IntKind.i64 (IntKind.wrap IntKind.i64 (x_2.2.1 - (1 : Int)) - (1 : Int)))) (45 : Int)))) :: nilL
  ByteArray) (IntKind.wrap IntKind.i64 (x_1.2 + (1 : Int)))) ∧ Wr (List.length x.1 - Int.toNat (IntKind.wrap IntKind.i64 (x_1.2 + (1 : Int))) < List.length x.1 - Int.toNat x_1.2) ∧ Wr (IntKind.wrap IntKind.i64 (x_1.2 + (1
  : Int)) = IntKind.wrap IntKind.i64 (x_1.2 + (1 : Int))) ∧ Wr (x.1 = x.1) ∧ Wr (x.1 = x.1) ∧ Wr ((↑(List.length x.1) : Int) = (↑(List.length x.1) : Int)) ∧ Wr (x_1.1 ++ strI (List.drop (Int.toNat (IntKind.wrap
  IntKind.i64 (IntKind.wrap IntKind.i64 (x_2.2.1 - (1 : Int)) - (1 : Int)))) (List.take (Int.toNat (↑(65 : Nat) : Int)) (List.set (List.set x_2.2.2 (Int.toNat (IntKind.wrap IntKind.i64 (x_2.2.1 - (1 : Int)))) (byteAt
  (ByteArray.mk (List.toArray ((48 : UInt8) :: (49 : UInt8) :: (50 : UInt8) :: (51 : UInt8) :: (52 : UInt8) :: (53 : UInt8) :: (54 : UInt8) :: (55 : UInt8) :: (56 : UInt8) :: (57 : UInt8) :: (97 : UInt8) :: (98 : UInt8)
  :: (99 : UInt8) :: (100 : UInt8) :: (101 : UInt8) :: (102 : UInt8) :: (103 : UInt8) :: (104 : UInt8) :: (105 : UInt8) :: (106 : UInt8) :: (107 : UInt8) :: (108 : UInt8) :: (109 : UInt8) :: (110 : UInt8) :: (111 : UInt8)
  :: (112 : UInt8) :: (113 : UInt8) :: (114 : UInt8) :: (115 : UInt8) :: (116 : UInt8) :: (117 : UInt8) :: (118 : UInt8) :: (119 : UInt8) :: (120 : UInt8) :: (121 : UInt8) :: (122 : UInt8) :: nilL UInt8))) (Int.toNat
  x_2.1))) (Int.toNat (IntKind.wrap IntKind.i64 (IntKind.wrap IntKind.i64 (x_2.2.1 - (1 : Int)) - (1 : Int)))) (45 : Int)))) :: nilL ByteArray = x_1.1 ++ strI (List.drop (Int.toNat (IntKind.wrap IntKind.i64 (IntKind.wrap
  IntKind.i64 (x_2.2.1 - (1 : Int)) - (1 : Int)))) (List.take (Int.toNat (↑(65 : Nat) : Int)) (List.set (List.set x_2.2.2 (Int.toNat (IntKind.wrap IntKind.i64 (x_2.2.1 - (1 : Int)))) (byteAt (ByteArray.mk (List.toArray
  ((48 : UInt8) :: (49 : UInt8) :: (50 : UInt8) :: (51 : UInt8) :: (52 : UInt8) :: (53 : UInt8) :: (54 : UInt8) :: (55 : UInt8) :: (56 : UInt8) :: (57 : UInt8) :: (97 : UInt8) :: (98 : UInt8) :: (99 : UInt8) :: (100 :
  UInt8) :: (101 : UInt8) :: (102 : UInt8) :: (103 : UInt8) :: (104 : UInt8) :: (105 : UInt8) :: (106 : UInt8) :: (107 : UInt8) :: (108 : UInt8) :: (109 : UInt8) :: (110 : UInt8) :: (111 : UInt8) :: (112 : UInt8) :: (113
  : UInt8) :: (114 : UInt8) :: (115 : UInt8) :: (116 : UInt8) :: (117 : UInt8) :: (118 : UInt8) :: (119 : UInt8) :: (120 : UInt8) :: (121 : UInt8) :: (122 : UInt8) :: nilL UInt8))) (Int.toNat x_2.1))) (Int.toNat
  (IntKind.wrap IntKind.i64 (IntKind.wrap IntKind.i64 (x_2.2.1 - (1 : Int)) - (1 : Int)))) (45 : Int)))) :: nilL ByteArray)) (Wr ((0 : Int) ≤ IntKind.wrap IntKind.i64 (x_2.2.1 - (1 : Int))) ∧ Wr (IntKind.wrap IntKind.i64
  (x_2.2.1 - (1 : Int)) ≤ (↑(65 : Nat) : Int)) ∧ Wr ((↑(65 : Nat) : Int) ≤ (↑(65 : Nat) : Int)) ∧ Wr (List.length (List.set x_2.2.2 (Int.toNat (IntKind.wrap IntKind.i64 (x_2.2.1 - (1 : Int)))) (byteAt (ByteArray.mk
  (List.toArray ((48 : UInt8) :: (49 : UInt8) :: (50 : UInt8) :: (51 : UInt8) :: (52 : UInt8) :: (53 : UInt8) :: (54 : UInt8) :: (55 : UInt8) :: (56 : UInt8) :: (57 : UInt8) :: (97 : UInt8) :: (98 : UInt8) :: (99 : UInt8)
  :: (100 : UInt8) :: (101 : UInt8) :: (102 : UInt8) :: (103 : UInt8) :: (104 : UInt8) :: (105 : UInt8) :: (106 : UInt8) :: (107 : UInt8) :: (108 : UInt8) :: (109 : UInt8) :: (110 : UInt8) :: (111 : UInt8) :: (112 :
  UInt8) :: (113 : UInt8) :: (114 : UInt8) :: (115 : UInt8) :: (116 : UInt8) :: (117 : UInt8) :: (118 : UInt8) :: (119 : UInt8) :: (120 : UInt8) :: (121 : UInt8) :: (122 : UInt8) :: nilL UInt8))) (Int.toNat x_2.1))) = (65
  : Nat)) ∧ Wr (List.length (List.drop (Int.toNat (IntKind.wrap IntKind.i64 (x_2.2.1 - (1 : Int)))) (List.take (Int.toNat (↑(65 : Nat) : Int)) (List.set x_2.2.2 (Int.toNat (IntKind.wrap IntKind.i64 (x_2.2.1 - (1 : Int))))
  (byteAt (ByteArray.mk (List.toArray ((48 : UInt8) :: (49 : UInt8) :: (50 : UInt8) :: (51 : UInt8) :: (52 : UInt8) :: (53 : UInt8) :: (54 : UInt8) :: (55 : UInt8) :: (56 : UInt8) :: (57 : UInt8) :: (97 : UInt8) :: (98 :
  UInt8) :: (99 : UInt8) :: (100 : UInt8) :: (101 : UInt8) :: (102 : UInt8) :: (103 : UInt8) :: (104 : UInt8) :: (105 : UInt8) :: (106 : UInt8) :: (107 : UInt8) :: (108 : UInt8) :: (109 : UInt8) :: (110 : UInt8) :: (111 :
  UInt8) :: (112 : UInt8) :: (113 : UInt8) :: (114 : UInt8) :: (115 : UInt8) :: (116 : UInt8) :: (117 : UInt8) :: (118 : UInt8) :: (119 : UInt8) :: (120 : UInt8) :: (121 : UInt8) :: (122 : UInt8) :: nilL UInt8)))
  (Int.toNat x_2.1))))) ≤ Go.maxLen) ∧ Wr ((List.length x_1.1 + List.length (strI (List.drop (Int.toNat (IntKind.wrap IntKind.i64 (x_2.2.1 - (1 : Int)))) (List.take (Int.toNat (↑(65 : Nat) : Int)) (List.set x_2.2.2
  (Int.toNat (IntKind.wrap IntKind.i64 (x_2.2.1 - (1 : Int)))) (byteAt (ByteArray.mk (List.toArray ((48 : UInt8) :: (49 : UInt8) :: (50 : UInt8) :: (51 : UInt8) :: (52 : UInt8) :: (53 : UInt8) :: (54 : UInt8) :: (55 :
  UInt8) :: (56 : UInt8) :: (57 : UInt8) :: (97 : UInt8) :: (98 : UInt8) :: (99 : UInt8) :: (100 : UInt8) :: (101 : UInt8) :: (102 : UInt8) :: (103 : UInt8) :: (104 : UInt8) :: (105 : UInt8) :: (106 : UInt8) :: (107 :
  UInt8) :: (108 : UInt8) :: (109 : UInt8) :: (110 : UInt8) :: (111 : UInt8) :: (112 : UInt8) :: (113 : UInt8) :: (114 : UInt8) :: (115 : UInt8) :: (116 : UInt8) :: (117 : UInt8) :: (118 : UInt8) :: (119 : UInt8) :: (120
  : UInt8) :: (121 : UInt8) :: (122 : UInt8) :: nilL UInt8))) (Int.toNat x_2.1))))) :: nilL ByteArray)) * (16 : Nat) ≤ (140737488355328 : Nat)) ∧ Wr (MapI Go.Ad.hexS x.1 (x_1.1 ++ strI (List.drop (Int.toNat (IntKind.wrap
  IntKind.i64 (x_2.2.1 - (1 : Int)))) (List.take (Int.toNat (↑(65 : Nat) : Int)) (List.set x_2.2.2 (Int.toNat (IntKind.wrap IntKind.i64 (x_2.2.1 - (1 : Int)))) (byteAt (ByteArray.mk (List.toArray ((48 : UInt8) :: (49 :
  UInt8) :: (50 : UInt8) :: (51 : UInt8) :: (52 : UInt8) :: (53 : UInt8) :: (54 : UInt8) :: (55 : UInt8) :: (56 : UInt8) :: (57 : UInt8) :: (97 : UInt8) :: (98 : UInt8) :: (99 : UInt8) :: (100 : UInt8) :: (101 : UInt8) ::
  (102 : UInt8) :: (103 : UInt8) :: (104 : UInt8) :: (105 : UInt8) :: (106 : UInt8) :: (107 : UInt8) :: (108 : UInt8) :: (109 : UInt8) :: (110 : UInt8) :: (111 : UInt8) :: (112 : UInt8) :: (113 : UInt8) :: (114 : UInt8)
  :: (115 : UInt8) :: (116 : UInt8) :: (117 : UInt8) :: (118 : UInt8) :: (119 : UInt8) :: (120 : UInt8) :: (121 : UInt8) :: (122 : UInt8) :: nilL UInt8))) (Int.toNat x_2.1))))) :: nilL ByteArray) (IntKind.wrap IntKind.i64
  (x_1.2 + (1 : Int)))) ∧ Wr (List.length x.1 - Int.toNat (IntKind.wrap IntKind.i64 (x_1.2 + (1 : Int))) < List.length x.1 - Int.toNat x_1.2) ∧ Wr (IntKind.wrap IntKind.i64 (x_1.2 + (1 : Int)) = IntKind.wrap IntKind.i64
  (x_1.2 + (1 : Int))) ∧ Wr (x.1 = x.1) ∧ Wr (x.1 = x.1) ∧ Wr ((↑(List.length x.1) : Int) = (↑(List.length x.1) : Int)) ∧ Wr (x_1.1 ++ strI (List.drop (Int.toNat (IntKind.wrap IntKind.i64 (x_2.2.1 - (1 : Int))))
  (List.take (Int.toNat (↑(65 : Nat) : Int)) (List.set x_2.2.2 (Int.toNat (IntKind.wrap IntKind.i64 (x_2.2.1 - (1 : Int)))) (byteAt (ByteArray.mk (List.toArray ((48 : UInt8) :: (49 : UInt8) :: (50 : UInt8) :: (51 : UInt8)
  :: (52 : UInt8) :: (53 : UInt8) :: (54 : UInt8) :: (55 : UInt8) :: (56 : UInt8) :: (57 : UInt8) :: (97 : UInt8) :: (98 : UInt8) :: (99 : UInt8) :: (100 : UInt8) :: (101 : UInt8) :: (102 : UInt8) :: (103 : UInt8) :: (104
  : UInt8) :: (105 : UInt8) :: (106 : UInt8) :: (107 : UInt8) :: (108 : UInt8) :: (109 : UInt8) :: (110 : UInt8) :: (111 : UInt8) :: (112 : UInt8) :: (113 : UInt8) :: (114 : UInt8) :: (115 : UInt8) :: (116 : UInt8) ::
  (117 : UInt8) :: (118 : UInt8) :: (119 : UInt8) :: (120 : UInt8) :: (121 : UInt8) :: (122 : UInt8) :: nilL UInt8))) (Int.toNat x_2.1))))) :: nilL ByteArray = x_1.1 ++ strI (List.drop (Int.toNat (IntKind.wrap IntKind.i64
  (x_2.2.1 - (1 : Int)))) (List.take (Int.toNat (↑(65 : Nat) : Int)) (List.set x_2.2.2 (Int.toNat (IntKind.wrap IntKind.i64 (x_2.2.1 - (1 : Int)))) (byteAt (ByteArray.mk (List.toArray ((48 : UInt8) :: (49 : UInt8) :: (50
  : UInt8) :: (51 : UInt8) :: (52 : UInt8) :: (53 : UInt8) :: (54 : UInt8) :: (55 : UInt8) :: (56 : UInt8) :: (57 : UInt8) :: (97 : UInt8) :: (98 : UInt8) :: (99 : UInt8) :: (100 : UInt8) :: (101 : UInt8) :: (102 : UInt8)
  :: (103 : UInt8) :: (104 : UInt8) :: (105 : UInt8) :: (106 : UInt8) :: (107 : UInt8) :: (108 : UInt8) :: (109 : UInt8) :: (110 : UInt8) :: (111 : UInt8) :: (112 : UInt8) :: (113 : UInt8) :: (114 : UInt8) :: (115 :
  UInt8) :: (116 : UInt8) :: (117 : UInt8) :: (118 : UInt8) :: (119 : UInt8) :: (120 : UInt8) :: (121 : UInt8) :: (122 : UInt8) :: nilL UInt8))) (Int.toNat x_2.1))))) :: nilL ByteArray))))) (Wr ((decide (List.length x_1.1
  ≤ (100000 : Nat)) && decide (List.length (joinL x_1.1 (ByteArray.mk (List.toArray ((58 : UInt8) :: nilL UInt8)))) ≤ (4000000000 : Nat))) = true) ∧ (joinS x_1.1 (ByteArray.mk (List.toArray ((58 : UInt8) :: nilL UInt8))),
  ()) = (Go.Ad.hexes x.1, ()))) := by kernel_rfl
theorem v17_eq : vcFn g17 300 Tryd.f17 cText.T = (  ∀ (x : (Int × (Int × Int × Int × Int × Int × Int × Int × Int × Unit) × Int × Unit) × Unit), Wr (typedB (Ty.cons AdT Ty.unit) x = true ∧ true = true) → Wr (lenA (x.1 :: nilL (Int × (Int × Int × Int × Int × Int × Int ×
  Int × Int × Unit) × Int × Unit)) = true) ∧ bcase (!Go.Ad.mayA (x.1 :: nilL (Int × (Int × Int × Int × Int × Int × Int × Int × Int × Unit) × Int × Unit))) ((ByteArray.mk (List.toArray (nilL UInt8)), (20 : Int), ()) =
  (Go.Ad.text1 x.1, Go.Ad.text2 x.1, ())) (Wr ((decide ((0 : Int) ≤ x.1.2.2.1) && decide (x.1.2.2.1 ≤ (65535 : Int))) = true) ∧ Wr (ByteArray.size (ByteArray.mk (List.toArray ((58 : UInt8) :: nilL UInt8))) +
  ByteArray.size (Go.Lb.digS x.1.2.2.1) ≤ Go.maxLen) ∧ bcase (decide (x.1.1 = (4 : Int))) (Wr ((0 : Int) ≤ (0 : Int)) ∧ Wr ((0 : Int) ≤ (2 : Int)) ∧ Wr ((2 : Int) ≤ (↑(8 : Nat) : Int)) ∧ Wr ((0 : Int) ≤ (0 : Int)) ∧ Wr
  ((0 : Int) < (↑(Int.toNat (2 : Int) - Int.toNat (0 : Int)) : Int)) ∧ Wr ((0 : Int) ≤ (8 : Int)) ∧ Wr ((decide ((0 : Int) ≤ IntKind.wrap IntKind.i64 (Int.fdiv (List.getD (x.1.2.1.1 :: x.1.2.1.2.1 :: x.1.2.1.2.2.1 ::
  x.1.2.1.2.2.2.1 :: x.1.2.1.2.2.2.2.1 :: x.1.2.1.2.2.2.2.2.1 :: x.1.2.1.2.2.2.2.2.2.1 :: x.1.2.1.2.2.2.2.2.2.2.1 :: nilL Int) (Int.toNat (0 : Int) + Int.toNat (0 : Int)) (0 : Int)) ((2 : Int) ^ Min.min (Int.toNat (8 :
  Int)) (IntKind.bits IntKind.u16)))) && decide (IntKind.wrap IntKind.i64 (Int.fdiv (List.getD (x.1.2.1.1 :: x.1.2.1.2.1 :: x.1.2.1.2.2.1 :: x.1.2.1.2.2.2.1 :: x.1.2.1.2.2.2.2.1 :: x.1.2.1.2.2.2.2.2.1 ::
  x.1.2.1.2.2.2.2.2.2.1 :: x.1.2.1.2.2.2.2.2.2.2.1 :: nilL Int) (Int.toNat (0 : Int) + Int.toNat (0 : Int)) (0 : Int)) ((2 : Int) ^ Min.min (Int.toNat (8 : Int)) (IntKind.bits IntKind.u16))) ≤ (65535 : Int))) = true) ∧ Wr
  ((decide ((0 : Int) ≤ IntKind.wrap IntKind.i64 (andI IntKind.u16 (List.getD (x.1.2.1.1 :: x.1.2.1.2.1 :: x.1.2.1.2.2.1 :: x.1.2.1.2.2.2.1 :: x.1.2.1.2.2.2.2.1 :: x.1.2.1.2.2.2.2.2.1 :: x.1.2.1.2.2.2.2.2.2.1 ::
  x.1.2.1.2.2.2.2.2.2.2.1 :: nilL Int) (Int.toNat (0 : Int) + Int.toNat (0 : Int)) (0 : Int)) (255 : Int))) && decide (IntKind.wrap IntKind.i64 (andI IntKind.u16 (List.getD (x.1.2.1.1 :: x.1.2.1.2.1 :: x.1.2.1.2.2.1 ::
  x.1.2.1.2.2.2.1 :: x.1.2.1.2.2.2.2.1 :: x.1.2.1.2.2.2.2.2.1 :: x.1.2.1.2.2.2.2.2.2.1 :: x.1.2.1.2.2.2.2.2.2.2.1 :: nilL Int) (Int.toNat (0 : Int) + Int.toNat (0 : Int)) (0 : Int)) (255 : Int)) ≤ (65535 : Int))) = true)
  ∧ Wr (List.length (Go.Lb.digS (IntKind.wrap IntKind.i64 (Int.fdiv (List.getD (x.1.2.1.1 :: x.1.2.1.2.1 :: x.1.2.1.2.2.1 :: x.1.2.1.2.2.2.1 :: x.1.2.1.2.2.2.2.1 :: x.1.2.1.2.2.2.2.2.1 :: x.1.2.1.2.2.2.2.2.2.1 ::
  x.1.2.1.2.2.2.2.2.2.2.1 :: nilL Int) (Int.toNat (0 : Int) + Int.toNat (0 : Int)) (0 : Int)) ((2 : Int) ^ Min.min (Int.toNat (8 : Int)) (IntKind.bits IntKind.u16)))) :: Go.Lb.digS (IntKind.wrap IntKind.i64 (andI
  IntKind.u16 (List.getD (x.1.2.1.1 :: x.1.2.1.2.1 :: x.1.2.1.2.2.1 :: x.1.2.1.2.2.2.1 :: x.1.2.1.2.2.2.2.1 :: x.1.2.1.2.2.2.2.2.1 :: x.1.2.1.2.2.2.2.2.2.1 :: x.1.2.1.2.2.2.2.2.2.2.1 :: nilL Int) (Int.toNat (0 : Int) +
  Int.toNat (0 : Int)) (0 : Int)) (255 : Int))) :: nilL ByteArray) * (16 : Nat) ≤ (140737488355328 : Nat)) ∧ Wr ((0 : Int) ≤ IntKind.wrap IntKind.i64 ((0 : Int) + (1 : Int))) ∧ Wr (IntKind.wrap IntKind.i64 ((0 : Int) + (1
  : Int)) < (↑(Int.toNat (2 : Int) - Int.toNat (0 : Int)) : Int)) ∧ Wr ((0 : Int) ≤ (8 : Int)) ∧ Wr ((decide ((0 : Int) ≤ IntKind.wrap IntKind.i64 (Int.fdiv (List.getD (x.1.2.1.1 :: x.1.2.1.2.1 :: x.1.2.1.2.2.1 ::
  x.1.2.1.2.2.2.1 :: x.1.2.1.2.2.2.2.1 :: x.1.2.1.2.2.2.2.2.1 :: x.1.2.1.2.2.2.2.2.2.1 :: x.1.2.1.2.2.2.2.2.2.2.1 :: nilL Int) (Int.toNat (0 : Int) + Int.toNat (IntKind.wrap IntKind.i64 ((0 : Int) + (1 : Int)))) (0 :
  Int)) ((2 : Int) ^ Min.min (Int.toNat (8 : Int)) (IntKind.bits IntKind.u16)))) && decide (IntKind.wrap IntKind.i64 (Int.fdiv (List.getD (x.1.2.1.1 :: x.1.2.1.2.1 :: x.1.2.1.2.2.1 :: x.1.2.1.2.2.2.1 :: x.1.2.1.2.2.2.2.1
  :: x.1.2.1.2.2.2.2.2.1 :: x.1.2.1.2.2.2.2.2.2.1 :: x.1.2.1.2.2.2.2.2.2.2.1 :: nilL Int) (Int.toNat (0 : Int) + Int.toNat (IntKind.wrap IntKind.i64 ((0 : Int) + (1 : Int)))) (0 : Int)) ((2 : Int) ^ Min.min (Int.toNat (8
  : Int)) (IntKind.bits IntKind.u16))) ≤ (65535 : Int))) = true) ∧ Wr ((decide ((0 : Int) ≤ IntKind.wrap IntKind.i64 (andI IntKind.u16 (List.getD (x.1.2.1.1 :: x.1.2.1.2.1 :: x.1.2.1.2.2.1 :: x.1.2.1.2.2.2.1 ::
  x.1.2.1.2.2.2.2.1 :: x.1.2.1.2.2.2.2.2.1 :: x.1.2.1.2.2.2.2.2.2.1 :: x.1.2.1.2.2.2.2.2.2.2.1 :: nilL Int) (Int.toNat (0 : Int) + Int.toNat (IntKind.wrap IntKind.i64 ((0 : Int) + (1 : Int)))) (0 : Int)) (255 : Int))) &&
  decide (IntKind.wrap IntKind.i64 (andI IntKind.u16 (List.getD (x.1.2.1.1 :: x.1.2.1.2.1 :: x.1.2.1.2.2.1 :: x.1.2.1.2.2.2.1 :: x.1.2.1.2.2.2.2.1 :: x.1.2.1.2.2.2.2.2.1 :: x.1.2.1.2.2.2.2.2.2.1 :: x.1.2.1.2.2.2.2.2.2.2.1
  :: nilL Int) (Int.toNat (0 : Int) + Int.toNat (IntKind.wrap IntKind.i64 ((0 : Int) + (1 : Int)))) (0 : Int)) (255 : Int)) ≤ (65535 : Int))) = true) ∧ Wr ((List.length (Go.Lb.digS (IntKind.wrap IntKind.i64 (Int.fdiv
  (List.getD (x.1.2.1.1 :: x.1.2.1.2.1 :: x.1.2.1.2.2.1 :: x.1.2.1.2.2.2.1 :: x.1.2.1.2.2.2.2.1 :: x.1.2.1.2.2.2.2.2.1 :: x.1.2.1.2.2.2.2.2.2.1 :: x.1.2.1.2.2.2.2.2.2.2.1 :: nilL Int) (Int.toNat (0 : Int) + Int.toNat (0 :
  Int)) (0 : Int)) ((2 : Int) ^ Min.min (Int.toNat (8 : Int)) (IntKind.bits IntKind.u16)))) :: Go.Lb.digS (IntKind.wrap IntKind.i64 (andI IntKind.u16 (List.getD (x.1.2.1.1 :: x.1.2.1.2.1 :: x.1.2.1.2.2.1 ::
  x.1.2.1.2.2.2.1 :: x.1.2.1.2.2.2.2.1 :: x.1.2.1.2.2.2.2.2.1 :: x.1.2.1.2.2.2.2.2.2.1 :: x.1.2.1.2.2.2.2.2.2.2.1 :: nilL Int) (Int.toNat (0 : Int) + Int.toNat (0 : Int)) (0 : Int)) (255 : Int))) :: nilL ByteArray) +
  List.length (Go.Lb.digS (IntKind.wrap IntKind.i64 (Int.fdiv (List.getD (x.1.2.1.1 :: x.1.2.1.2.1 :: x.1.2.1.2.2.1 :: x.1.2.1.2.2.2.1 :: x.1.2.1.2.2.2.2.1 :: x.1.2.1.2.2.2.2.2.1 :: x.1.2.1.2.2.2.2.2.2.1 ::
  x.1.2.1.2.2.2.2.2.2.2.1 :: nilL Int) (Int.toNat (0 : Int) + Int.toNat (IntKind.wrap IntKind.i64 ((0 : Int) + (1 : Int)))) (0 : Int)) ((2 : Int) ^ Min.min (Int.toNat (8 : Int)) (IntKind.bits IntKind.u16)))) :: Go.Lb.digS
  (IntKind.wrap IntKind.i64 (andI IntKind.u16 (List.getD (x.1.2.1.1 :: x.1.2.1.2.1 :: x.1.2.1.2.2.1 :: x.1.2.1.2.2.2.1 :: x.1.2.1.2.2.2.2.1 :: x.1.2.1.2.2.2.2.2.1 :: x.1.2.1.2.2.2.2.2.2.1 :: x.1.2.1.2.2.2.2.2.2.2.1 ::
  nilL Int) (Int.toNat (0 : Int) + Int.toNat (IntKind.wrap IntKind.i64 ((0 : Int) + (1 : Int)))) (0 : Int)) (255 : Int))) :: nilL ByteArray)) * (16 : Nat) ≤ (140737488355328 : Nat)) ∧ Wr ((decide (List.length (Go.Lb.digS
  (IntKind.wrap IntKind.i64 (Int.fdiv (List.getD (x.1.2.1.1 :: x.1.2.1.2.1 :: x.1.2.1.2.2.1 :: x.1.2.1.2.2.2.1 :: x.1.2.1.2.2.2.2.1 :: x.1.2.1.2.2.2.2.2.1 :: x.1.2.1.2.2.2.2.2.2.1 :: x.1.2.1.2.2.2.2.2.2.2.1 :: nilL Int)
  (Int.toNat (0 : Int) + Int.toNat (0 : Int)) (0 : Int)) ((2 : Int) ^ Min.min (Int.toNat (8 : Int)) (IntKind.bits IntKind.u16)))) :: Go.Lb.digS (IntKind.wrap IntKind.i64 (andI IntKind.u16 (List.getD (x.1.2.1.1 ::
  x.1.2.1.2.1 :: x.1.2.1.2.2.1 :: x.1.2.1.2.2.2.1 :: x.1.2.1.2.2.2.2.1 :: x.1.2.1.2.2.2.2.2.1 :: x.1.2.1.2.2.2.2.2.2.1 :: x.1.2.1.2.2.2.2.2.2.2.1 :: nilL Int) (Int.toNat (0 : Int) + Int.toNat (0 : Int)) (0 : Int)) (255 :
  Int))) :: nilL ByteArray ++ Go.Lb.digS (IntKind.wrap IntKind.i64 (Int.fdiv (List.getD (x.1.2.1.1 :: x.1.2.1.2.1 :: x.1.2.1.2.2.1 :: x.1.2.1.2.2.2.1 :: x.1.2.1.2.2.2.2.1 :: x.1.2.1.2.2.2.2.2.1 :: x.1.2.1.2.2.2.2.2.2.1 ::
  x.1.2.1.2.2.2.2.2.2.2.1 :: nilL Int) (Int.toNat (0 : Int) + Int.toNat (IntKind.wrap IntKind.i64 ((0 : Int) + (1 : Int)))) (0 : Int)) ((2 : Int) ^ Min.min (Int.toNat (8 : Int)) (IntKind.bits IntKind.u16)))) :: Go.Lb.digS
  (IntKind.wrap IntKind.i64 (andI IntKind.u16 (List.getD (x.1.2.1.1 :: x.1.2.1.2.1 :: x.1.2.1.2.2.1 :: x.1.2.1.2.2.2.1 :: x.1.2.1.2.2.2.2.1 :: x.1.2.1.2.2.2.2.2.1 :: x.1.2.1.2.2.2.2.2.2.1 :: x.1.2.1.2.2.2.2.2.2.2.1 ::
  nilL Int) (Int.toNat (0 : Int) + Int.toNat (IntKind.wrap IntKind.i64 ((0 : Int) + (1 : Int)))) (0 : Int)) (255 : Int))) :: nilL ByteArray) ≤ (100000 : Nat)) && decide (List.length (joinL (Go.Lb.digS (IntKind.wrap
  IntKind.i64 (Int.fdiv (List.getD (x.1.2.1.1 :: x.1.2.1.2.1 :: x.1.2.1.2.2.1 :: x.1.2.1.2.2.2.1 :: x.1.2.1.2.2.2.2.1 :: x.1.2.1.2.2.2.2.2.1 :: x.1.2.1.2.2.2.2.2.2.1 :: x.1.2.1.2.2.2.2.2.2.2.1 :: nilL Int) (Int.toNat (0 :
  Int) + Int.toNat (0 : Int)) (0 : Int)) ((2 : Int) ^ Min.min (Int.toNat (8 : Int)) (IntKind.bits IntKind.u16)))) :: Go.Lb.digS (IntKind.wrap IntKind.i64 (andI IntKind.u16 (List.getD (x.1.2.1.1 :: x.1.2.1.2.1 ::
  x.1.2.1.2.2.1 :: x.1.2.1.2.2.2.1 :: x.1.2.1.2.2.2.2.1 :: x.1.2.1.2.2.2.2.2.1 :: x.1.2.1.2.2.2.2.2.2.1 :: x.1.2.1.2.2.2.2.2.2.2.1 :: nilL Int) (Int.toNat (0 : Int) + Int.toNat (0 : Int)) (0 : Int)) (255 : Int))) :: nilL
  ByteArray ++ Go.Lb.digS (IntKind.wrap IntKind.i64 (Int.fdiv (List.getD (x.1.2.1.1 :: x.1.2.1.2.1 :: x.1.2.1.2.2.1 :: x.1.2.1.2.2.2.1 :: x.1.2.1.2.2.2.2.1 :: x.1.2.1.2.2.2.2.2.1 :: x.1.2.1.2.2.2.2.2.2.1 ::
  x.1.2.1.2.2.2.2.2.2.2.1 :: nilL Int) (Int.toNat (0 : Int) + Int.toNat (IntKind.wrap IntKind.i64 ((0 : Int) + (1 : Int)))) (0 : Int)) ((2 : Int) ^ Min.min (Int.toNat (8 : Int)) (IntKind.bits IntKind.u16)))) :: Go.Lb.digS
  (IntKind.wrap IntKind.i64 (andI IntKind.u16 (List.getD (x.1.2.1.1 :: x.1.2.1.2.1 :: x.1.2.1.2.2.1 :: x.1.2.1.2.2.2.1 :: x.1.2.1.2.2.2.2.1 :: x.1.2.1.2.2.2.2.2.1 :: x.1.2.1.2.2.2.2.2.2.1 :: x.1.2.1.2.2.2.2.2.2.2.1 ::
  nilL Int) (Int.toNat (0 : Int) + Int.toNat (IntKind.wrap IntKind.i64 ((0 : Int) + (1 : Int)))) (0 : Int)) (255 : Int))) :: nilL ByteArray) (ByteArray.mk (List.toArray ((46 : UInt8) :: nilL UInt8)))) ≤ (4000000000 :
  Nat))) = true) ∧ Wr (ByteArray.size (joinS (Go.Lb.digS (IntKind.wrap IntKind.i64 (Int.fdiv (List.getD (x.1.2.1.1 :: x.1.2.1.2.1 :: x.1.2.1.2.2.1 :: x.1.2.1.2.2.2.1 :: x.1.2.1.2.2.2.2.1 :: x.1.2.1.2.2.2.2.2.1 ::
  x.1.2.1.2.2.2.2.2.2.1 :: x.1.2.1.2.2.2.2.2.2.2.1 :: nilL Int) (Int.toNat (0 : Int) + Int.toNat (0 : Int)) (0 : Int)) ((2 : Int) ^ Min.min (Int.toNat (8 : Int)) (IntKind.bits IntKind.u16)))) :: Go.Lb.digS (IntKind.wrap
  IntKind.i64 (andI IntKind.u16 (List.getD (x.1.2.1.1 :: x.1.2.1.2.1 :: x.1.2.1.2.2.1 :: x.1.2.1.2.2.2.1 :: x.1.2.1.2.2.2.2.1 :: x.1.2.1.2.2.2.2.2.1 :: x.1.2.1.2.2.2.2.2.2.1 :: x.1.2.1.2.2.2.2.2.2.2.1 :: nilL Int)
  (Int.toNat (0 : Int) + Int.toNat (0 : Int)) (0 : Int)) (255 : Int))) :: nilL ByteArray ++ Go.Lb.digS (IntKind.wrap IntKind.i64 (Int.fdiv (List.getD (x.1.2.1.1 :: x.1.2.1.2.1 :: x.1.2.1.2.2.1 :: x.1.2.1.2.2.2.1 ::
  x.1.2.1.2.2.2.2.1 :: x.1.2.1.2.2.2.2.2.1 :: x.1.2.1.2.2.2.2.2.2.1 :: x.1.2.1.2.2.2.2.2.2.2.1 :: nilL Int) (Int.toNat (0 : Int) + Int.toNat (IntKind.wrap IntKind.i64 ((0 : Int) + (1 : Int)))) (0 : Int)) ((2 : Int) ^
  Min.min (Int.toNat (8 : Int)) (IntKind.bits IntKind.u16)))) :: Go.Lb.digS (IntKind.wrap IntKind.i64 (andI IntKind.u16 (List.getD (x.1.2.1.1 :: x.1.2.1.2.1 :: x.1.2.1.2.2.1 :: x.1.2.1.2.2.2.1 :: x.1.2.1.2.2.2.2.1 ::
  x.1.2.1.2.2.2.2.2.1 :: x.1.2.1.2.2.2.2.2.2.1 :: x.1.2.1.2.2.2.2.2.2.2.1 :: nilL Int) (Int.toNat (0 : Int) + Int.toNat (IntKind.wrap IntKind.i64 ((0 : Int) + (1 : Int)))) (0 : Int)) (255 : Int))) :: nilL ByteArray)
  (ByteArray.mk (List.toArray ((46 : UInt8) :: nilL UInt8)))) + ByteArray.size (ByteArray.mk (List.toArray ((58 : UInt8) :: nilL UInt8)) ++ Go.Lb.digS x.1.2.2.1) ≤ Go.maxLen) ∧ (joinS (Go.Lb.digS (IntKind.wrap IntKind.i64
  (Int.fdiv (List.getD (x.1.2.1.1 :: x.1.2.1.2.1 :: x.1.2.1.2.2.1 :: x.1.2.1.2.2.2.1 :: x.1.2.1.2.2.2.2.1 :: x.1.2.1.2.2.2.2.2.1 :: x.1.2.1.2.2.2.2.2.2.1 :: x.1.2.1.2.2.2.2.2.2.2.1 :: nilL Int) (Int.toNat (0 : Int) +
  Int.toNat (0 : Int)) (0 : Int)) ((2 : Int) ^ Min.min (Int.toNat (8 : Int)) (IntKind.bits IntKind.u16)))) :: Go.Lb.digS (IntKind.wrap IntKind.i64 (andI IntKind.u16 (List.getD (x.1.2.1.1 :: x.1.2.1.2.1 :: x.1.2.1.2.2.1 ::
  x.1.2.1.2.2.2.1 :: x.1.2.1.2.2.2.2.1 :: x.1.2.1.2.2.2.2.2.1 :: x.1.2.1.2.2.2.2.2.2.1 :: x.1.2.1.2.2.2.2.2.2.2.1 :: nilL Int) (Int.toNat (0 : Int) + Int.toNat (0 : Int)) (0 : Int)) (255 : Int))) :: nilL ByteArray ++
  Go.Lb.digS (IntKind.wrap IntKind.i64 (Int.fdiv (List.getD (x.1.2.1.1 :: x.1.2.1.2.1 :: x.1.2.1.2.2.1 :: x.1.2.1.2.2.2.1 :: x.1.2.1.2.2.2.2.1 :: x.1.2.1.2.2.2.2.2.1 :: x.1.2.1.2.2.2.2.2.2.1 :: x.1.2.1.2.2.2.2.2.2.2.1 ::
  nilL Int) (Int.toNat (0 : Int) + Int.toNat (IntKind.wrap IntKind.i64 ((0 : Int) + (1 : Int)))) (0 : Int)) ((2 : Int) ^ Min.min (Int.toNat (8 : Int)) (IntKind.bits IntKind.u16)))) :: Go.Lb.digS (IntKind.wrap IntKind.i64
  (andI IntKind.u16 (List.getD (x.1.2.1.1 :: x.1.2.1.2.1 :: x.1.2.1.2.2.1 :: x.1.2.1.2.2.2.1 :: x.1.2.1.2.2.2.2.1 :: x.1.2.1.2.2.2.2.2.1 :: x.1.2.1.2.2.2.2.2.2.1 :: x.1.2.1.2.2.2.2.2.2.2.1 :: nilL Int) (Int.toNat (0 :
  Int) + Int.toNat (IntKind.wrap IntKind.i64 ((0 : Int) + (1 : Int)))) (0 : Int)) (255 : Int))) :: nilL ByteArray) (ByteArray.mk (List.toArray ((46 : UInt8) :: nilL UInt8))) ++ (ByteArray.mk (List.toArray ((58 : UInt8) ::
  nilL UInt8)) ++ Go.Lb.digS x.1.2.2.1), (0 : Int), ()) = (Go.Ad.text1 x.1, Go.Ad.text2 x.1, ())) (Wr (true = true) ∧ bcase (decide (Go.Ad.long2 x.1.2.1 = (0 : Int))) (Wr ((0 : Int) ≤ (0 : Int)) ∧ Wr ((0 : Int) ≤ (↑(8 :
  Nat) : Int)) ∧ Wr ((↑(8 : Nat) : Int) ≤ (↑(8 : Nat) : Int)) ∧ Wr (decide (List.length (List.drop (Int.toNat (0 : Int)) (List.take (Int.toNat (↑(8 : Nat) : Int)) (x.1.2.1.1 :: x.1.2.1.2.1 :: x.1.2.1.2.2.1 ::
  x.1.2.1.2.2.2.1 :: x.1.2.1.2.2.2.2.1 :: x.1.2.1.2.2.2.2.2.1 :: x.1.2.1.2.2.2.2.2.2.1 :: x.1.2.1.2.2.2.2.2.2.2.1 :: nilL Int))) ≤ (8 : Nat)) = true) ∧ Wr (ByteArray.size (ByteArray.mk (List.toArray ((91 : UInt8) :: nilL
  UInt8))) + ByteArray.size (Go.Ad.hexes (List.drop (Int.toNat (0 : Int)) (List.take (Int.toNat (↑(8 : Nat) : Int)) (x.1.2.1.1 :: x.1.2.1.2.1 :: x.1.2.1.2.2.1 :: x.1.2.1.2.2.2.1 :: x.1.2.1.2.2.2.2.1 :: x.1.2.1.2.2.2.2.2.1
  :: x.1.2.1.2.2.2.2.2.2.1 :: x.1.2.1.2.2.2.2.2.2.2.1 :: nilL Int)))) ≤ Go.maxLen) ∧ Wr (ByteArray.size (ByteArray.mk (List.toArray ((91 : UInt8) :: nilL UInt8)) ++ Go.Ad.hexes (List.drop (Int.toNat (0 : Int)) (List.take
  (Int.toNat (↑(8 : Nat) : Int)) (x.1.2.1.1 :: x.1.2.1.2.1 :: x.1.2.1.2.2.1 :: x.1.2.1.2.2.2.1 :: x.1.2.1.2.2.2.2.1 :: x.1.2.1.2.2.2.2.2.1 :: x.1.2.1.2.2.2.2.2.2.1 :: x.1.2.1.2.2.2.2.2.2.2.1 :: nilL Int)))) +
  ByteArray.size (ByteArray.mk (List.toArray ((93 : UInt8) :: nilL UInt8))) ≤ Go.maxLen) ∧ Wr (ByteArray.size (ByteArray.mk (List.toArray ((91 : UInt8) :: nilL UInt8)) ++ Go.Ad.hexes (List.drop (Int.toNat (0 : Int))
  (List.take (Int.toNat (↑(8 : Nat) : Int)) (x.1.2.1.1 :: x.1.2.1.2.1 :: x.1.2.1.2.2.1 :: x.1.2.1.2.2.2.1 :: x.1.2.1.2.2.2.2.1 :: x.1.2.1.2.2.2.2.2.1 :: x.1.2.1.2.2.2.2.2.2.1 :: x.1.2.1.2.2.2.2.2.2.2.1 :: nilL Int))) ++
  ByteArray.mk (List.toArray ((93 : UInt8) :: nilL UInt8))) + ByteArray.size (ByteArray.mk (List.toArray ((58 : UInt8) :: nilL UInt8)) ++ Go.Lb.digS x.1.2.2.1) ≤ Go.maxLen) ∧ (ByteArray.mk (List.toArray ((91 : UInt8) ::
  nilL UInt8)) ++ Go.Ad.hexes (List.drop (Int.toNat (0 : Int)) (List.take (Int.toNat (↑(8 : Nat) : Int)) (x.1.2.1.1 :: x.1.2.1.2.1 :: x.1.2.1.2.2.1 :: x.1.2.1.2.2.2.1 :: x.1.2.1.2.2.2.2.1 :: x.1.2.1.2.2.2.2.2.1 ::
  x.1.2.1.2.2.2.2.2.2.1 :: x.1.2.1.2.2.2.2.2.2.2.1 :: nilL Int))) ++ ByteArray.mk (List.toArray ((93 : UInt8) :: nilL UInt8)) ++ (ByteArray.mk (List.toArray ((58 : UInt8) :: nilL UInt8)) ++ Go.Lb.digS x.1.2.2.1), (0 :
  Int), ()) = (Go.Ad.text1 x.1, Go.Ad.text2 x.1, ())) (Wr ((0 : Int) ≤ (0 : Int)) ∧ Wr ((0 : Int) ≤ Go.Ad.long1 x.1.2.1) ∧ Wr (Go.Ad.long1 x.1.2.1 ≤ (↑(8 : Nat) : Int)) ∧ Wr (decide (List.length (List.drop (Int.toNat (0 :
  Int)) (List.take (Int.toNat (Go.Ad.long1 x.1.2.1)) (x.1.2.1.1 :: x.1.2.1.2.1 :: x.1.2.1.2.2.1 :: x.1.2.1.2.2.2.1 :: x.1.2.1.2.2.2.2.1 :: x.1.2.1.2.2.2.2.2.1 :: x.1.2.1.2.2.2.2.2.2.1 :: x.1.2.1.2.2.2.2.2.2.2.1 :: nilL
  Int))) ≤ (8 : Nat)) = true) ∧ Wr (ByteArray.size (ByteArray.mk (List.toArray ((91 : UInt8) :: nilL UInt8))) + ByteArray.size (Go.Ad.hexes (List.drop (Int.toNat (0 : Int)) (List.take (Int.toNat (Go.Ad.long1 x.1.2.1))
  (x.1.2.1.1 :: x.1.2.1.2.1 :: x.1.2.1.2.2.1 :: x.1.2.1.2.2.2.1 :: x.1.2.1.2.2.2.2.1 :: x.1.2.1.2.2.2.2.2.1 :: x.1.2.1.2.2.2.2.2.2.1 :: x.1.2.1.2.2.2.2.2.2.2.1 :: nilL Int)))) ≤ Go.maxLen) ∧ Wr (ByteArray.size
  (ByteArray.mk (List.toArray ((91 : UInt8) :: nilL UInt8)) ++ Go.Ad.hexes (List.drop (Int.toNat (0 : Int)) (List.take (Int.toNat (Go.Ad.long1 x.1.2.1)) (x.1.2.1.1 :: x.1.2.1.2.1 :: x.1.2.1.2.2.1 :: x.1.2.1.2.2.2.1 ::
  x.1.2.1.2.2.2.2.1 :: x.1.2.1.2.2.2.2.2.1 :: x.1.2.1.2.2.2.2.2.2.1 :: x.1.2.1.2.2.2.2.2.2.2.1 :: nilL Int)))) + ByteArray.size (ByteArray.mk (List.toArray ((58 : UInt8) :: (58 : UInt8) :: nilL UInt8))) ≤ Go.maxLen) ∧ Wr
  ((0 : Int) ≤ IntKind.wrap IntKind.i64 (Go.Ad.long1 x.1.2.1 + Go.Ad.long2 x.1.2.1)) ∧ Wr (IntKind.wrap IntKind.i64 (Go.Ad.long1 x.1.2.1 + Go.Ad.long2 x.1.2.1) ≤ (↑(8 : Nat) : Int)) ∧ Wr ((↑(8 : Nat) : Int) ≤ (↑(8 : Nat)
  : Int)) ∧ Wr (decide (List.length (List.drop (Int.toNat (IntKind.wrap IntKind.i64 (Go.Ad.long1 x.1.2.1 + Go.Ad.long2 x.1.2.1))) (List.take (Int.toNat (↑(8 : Nat) : Int)) (x.1.2.1.1 :: x.1.2.1.2.1 :: x.1.2.1.2.2.1 ::
  x.1.2.1.2.2.2.1 :: x.1.2.1.2.2.2.2.1 :: x.1.2.1.2.2.2.2.2.1 :: x.1.2.1.2.2.2.2.2.2.1 :: x.1.2.1.2.2.2.2.2.2.2.1 :: nilL Int))) ≤ (8 : Nat)) = true) ∧ Wr (ByteArray.size (ByteArray.mk (List.toArray ((91 : UInt8) :: nilL
  UInt8)) ++ Go.Ad.hexes (List.drop (Int.toNat (0 : Int)) (List.take (Int.toNat (Go.Ad.long1 x.1.2.1)) (x.1.2.1.1 :: x.1.2.1.2.1 :: x.1.2.1.2.2.1 :: x.1.2.1.2.2.2.1 :: x.1.2.1.2.2.2.2.1 :: x.1.2.1.2.2.2.2.2.1 ::
  x.1.2.1.2.2.2.2.2.2.1 :: x.1.2.1.2.2.2.2.2.2.2.1 :: nilL Int))) ++ ByteArray.mk (List.toArray ((58 : UInt8) :: (58 : UInt8) :: nilL UInt8))) + ByteArray.size (Go.Ad.hexes (List.drop (Int.toNat (IntKind.wrap IntKind.i64
  (Go.Ad.long1 x.1.2.1 + Go.Ad.long2 x.1.2.1))) (List.take (Int.toNat (↑(8 : Nat) : Int)) (x.1.2.1.1 :: x.1.2.1.2.1 :: x.1.2.1.2.2.1 :: x.1.2.1.2.2.2.1 :: x.1.2.1.2.2.2.2.1 :: x.1.2.1.2.2.2.2.2.1 :: x.1.2.1.2.2.2.2.2.2.1
  :: x.1.2.1.2.2.2.2.2.2.2.1 :: nilL Int)))) ≤ Go.maxLen) ∧ Wr (ByteArray.size (ByteArray.mk (List.toArray ((91 : UInt8) :: nilL UInt8)) ++ Go.Ad.hexes (List.drop (Int.toNat (0 : Int)) (List.take (Int.toNat (Go.Ad.long1
  x.1.2.1)) (x.1.2.1.1 :: x.1.2.1.2.1 :: x.1.2.1.2.2.1 :: x.1.2.1.2.2.2.1 :: x.1.2.1.2.2.2.2.1 :: x.1.2.1.2.2.2.2.2.1 :: x.1.2.1.2.2.2.2.2.2.1 :: x.1.2.1.2.2.2.2.2.2.2.1 :: nilL Int))) ++ ByteArray.mk (List.toArray ((58 :
  UInt8) :: (58 : UInt8) :: nilL UInt8)) ++ Go.Ad.hexes (List.drop (Int.toNat (IntKind.wrap IntKind.i64 (Go.Ad.long1 x.1.2.1 + Go.Ad.long2 x.1.2.1))) (List.take (Int.toNat (↑(8 : Nat) : Int)) (x.1.2.1.1 :: x.1.2.1.2.1 ::
  x.1.2.1.2.2.1 :: x.1.2.1.2.2.2.1 :: x.1.2.1.2.2.2.2.1 :: x.1.2.1.2.2.2.2.2.1 :: x.1.2.1.2.2.2.2.2.2.1 :: x.1.2.1.2.2.2.2.2.2.2.1 :: nilL Int)))) + ByteArray.size (ByteArray.mk (List.toArray ((93 : UInt8) :: nilL
  UInt8))) ≤ Go.maxLen) ∧ Wr (ByteArray.size (ByteArray.mk (List.toArray ((91 : UInt8) :: nilL UInt8)) ++ Go.Ad.hexes (List.drop (Int.toNat (0 : Int)) (List.take (Int.toNat (Go.Ad.long1 x.1.2.1)) (x.1.2.1.1 :: x.1.2.1.2.1
  :: x.1.2.1.2.2.1 :: x.1.2.1.2.2.2.1 :: x.1.2.1.2.2.2.2.1 :: x.1.2.1.2.2.2.2.2.1 :: x.1.2.1.2.2.2.2.2.2.1 :: x.1.2.1.2.2.2.2.2.2.2.1 :: nilL Int))) ++ ByteArray.mk (List.toArray ((58 : UInt8) :: (58 : UInt8) :: nilL
  UInt8)) ++ Go.Ad.hexes (List.drop (Int.toNat (IntKind.wrap IntKind.i64 (Go.Ad.long1 x.1.2.1 + Go.Ad.long2 x.1.2.1))) (List.take (Int.toNat (↑(8 : Nat) : Int)) (x.1.2.1.1 :: x.1.2.1.2.1 :: x.1.2.1.2.2.1 ::
  x.1.2.1.2.2.2.1 :: x.1.2.1.2.2.2.2.1 :: x.1.2.1.2.2.2.2.2.1 :: x.1.2.1.2.2.2.2.2.2.1 :: x.1.2.1.2.2.2.2.2.2.2.1 :: nilL Int))) ++ ByteArray.mk (List.toArray ((93 : UInt8) :: nilL UInt8))) + ByteArray.size (ByteArray.mk
  (List.toArray ((58 : UInt8) :: nilL UInt8)) ++ Go.Lb.digS x.1.2.2.1) ≤ Go.maxLen) ∧ (ByteArray.mk (List.toArray ((91 : UInt8) :: nilL UInt8)) ++ Go.Ad.hexes (List.drop (Int.toNat (0 : Int)) (List.take (Int.toNat
  (Go.Ad.long1 x.1.2.1)) (x.1.2.1.1 :: x.1.2.1.2.1 :: x.1.2.1.2.2.1 :: x.1.2.1.2.2.2.1 :: x.1.2.1.2.2.2.2.1 :: x.1.2.1.2.2.2.2.2.1 :: x.1.2.1.2.2.2.2.2.2.1 :: x.1.2.1.2.2.2.2.2.2.2.1 :: nilL Int))) ++ ByteArray.mk
  (List.toArray ((58 : UInt8) :: (58 : UInt8) :: nilL UInt8)) ++ Go.Ad.hexes (List.drop (Int.toNat (IntKind.wrap IntKind.i64 (Go.Ad.long1 x.1.2.1 + Go.Ad.long2 x.1.2.1))) (List.take (Int.toNat (↑(8 : Nat) : Int))
  (x.1.2.1.1 :: x.1.2.1.2.1 :: x.1.2.1.2.2.1 :: x.1.2.1.2.2.2.1 :: x.1.2.1.2.2.2.2.1 :: x.1.2.1.2.2.2.2.2.1 :: x.1.2.1.2.2.2.2.2.2.1 :: x.1.2.1.2.2.2.2.2.2.2.1 :: nilL Int))) ++ ByteArray.mk (List.toArray ((93 : UInt8) ::
  nilL UInt8)) ++ (ByteArray.mk (List.toArray ((58 : UInt8) :: nilL UInt8)) ++ Go.Lb.digS x.1.2.2.1), (0 : Int), ()) = (Go.Ad.text1 x.1, Go.Ad.text2 x.1, ()))))) := by kernel_rfl
theorem v56_eq : vcFn g56 300 Tryd.f56 cNum = (  ∀ (x : ByteArray × Int × Unit), Wr (szOk x.1 = true) → Wr ((!(decide (x.1 = ByteArray.mk (List.toArray (nilL UInt8))) || decide ((↑(ByteArray.size x.1) : Int) > (5 : Int)))) = true → (0 : Int) ≤ (0 : Int)) ∧ Wr
  ((!(decide (x.1 = ByteArray.mk (List.toArray (nilL UInt8))) || decide ((↑(ByteArray.size x.1) : Int) > (5 : Int)))) = true → (0 : Int) < (↑(ByteArray.size x.1) : Int)) ∧ bcase (decide (x.1 = ByteArray.mk (List.toArray
  (nilL UInt8))) || decide ((↑(ByteArray.size x.1) : Int) > (5 : Int)) || decide (byteAt x.1 (Int.toNat (0 : Int)) = (48 : Int)) && !decide (x.1 = ByteArray.mk (List.toArray ((48 : UInt8) :: nilL UInt8)))) (((0 : Int),
  false, ()) = (Go.Ad.num1 x.1 x.2.1, Go.Ad.num2 x.1 x.2.1, ())) ((Wr (NumI x.1 (0 : Int) (0 : Nat)) ∧ Wr ((0 : Int) = (0 : Int)) ∧ Wr (x.1 = x.1) ∧ Wr (x.2.1 = x.2.1) ∧ Wr (x.1 = x.1) ∧ Wr ((0 : Nat) = (0 : Nat))) ∧ ∀
  (x_1 : Int × Nat), Wr (NumI x.1 x_1.1 x_1.2) → bcase (decide (x_1.2 < ByteArray.size x.1)) (bcase (decide (runeAt x.1 x_1.2 < (48 : Int)) || decide (runeAt x.1 x_1.2 > (57 : Int))) (((0 : Int), false, ()) = (Go.Ad.num1
  x.1 x.2.1, Go.Ad.num2 x.1 x.2.1, ())) (Wr (NumI x.1 (IntKind.wrap IntKind.i64 (IntKind.wrap IntKind.i64 ((10 : Int) * x_1.1) + IntKind.wrap IntKind.i64 (IntKind.wrap IntKind.i32 (runeAt x.1 x_1.2 - (48 : Int))))) (nextP
  x.1 x_1.2)) ∧ Wr (ByteArray.size x.1 - nextP x.1 x_1.2 < ByteArray.size x.1 - x_1.2) ∧ Wr (IntKind.wrap IntKind.i64 (IntKind.wrap IntKind.i64 ((10 : Int) * x_1.1) + IntKind.wrap IntKind.i64 (IntKind.wrap IntKind.i32
  (runeAt x.1 x_1.2 - (48 : Int)))) = IntKind.wrap IntKind.i64 (IntKind.wrap IntKind.i64 ((10 : Int) * x_1.1) + IntKind.wrap IntKind.i64 (IntKind.wrap IntKind.i32 (runeAt x.1 x_1.2 - (48 : Int))))) ∧ Wr (x.1 = x.1) ∧ Wr
  (x.2.1 = x.2.1) ∧ Wr (x.1 = x.1) ∧ Wr (nextP x.1 x_1.2 = nextP x.1 x_1.2))) ((x_1.1, decide (x_1.1 ≤ x.2.1), ()) = (Go.Ad.num1 x.1 x.2.1, Go.Ad.num2 x.1 x.2.1, ())))) := by kernel_rfl
theorem v105_eq : vcFn g105 300 Tryd.f105 cGrp = (  ∀ (x : ByteArray × Unit), Wr (szOk x.1 = true) → (Wr (GrpI x.1 (0 : Int) (0 : Nat)) ∧ Wr ((0 : Int) = (0 : Int)) ∧ Wr (x.1 = x.1) ∧ Wr (x.1 = x.1) ∧ Wr ((0 : Nat) = (0 : Nat))) ∧ ∀ (x_1 : Int × Nat), Wr (GrpI x.1 x_1.1
  x_1.2) → bcase (decide (x_1.2 < ByteArray.size x.1)) (bcase (decide ((48 : Int) ≤ runeAt x.1 x_1.2) && decide (runeAt x.1 x_1.2 ≤ (57 : Int))) (Wr ((0 : Int) ≤ (4 : Int)) ∧ bcase (decide (orI IntKind.i32 (IntKind.wrap
  IntKind.i32 (x_1.1 * (2 : Int) ^ Min.min (Int.toNat (4 : Int)) (IntKind.bits IntKind.i32))) (IntKind.wrap IntKind.i32 (runeAt x.1 x_1.2 - (48 : Int))) > (65535 : Int))) (((0 : Int), false, ()) = (Go.Ad.grp1 x.1,
  Go.Ad.grp2 x.1, ())) (Wr (GrpI x.1 (orI IntKind.i32 (IntKind.wrap IntKind.i32 (x_1.1 * (2 : Int) ^ Min.min (Int.toNat (4 : Int)) (IntKind.bits IntKind.i32))) (IntKind.wrap IntKind.i32 (runeAt x.1 x_1.2 - (48 : Int))))
  (nextP x.1 x_1.2)) ∧ Wr (ByteArray.size x.1 - nextP x.1 x_1.2 < ByteArray.size x.1 - x_1.2) ∧ Wr (orI IntKind.i32 (IntKind.wrap IntKind.i32 (x_1.1 * (2 : Int) ^ Min.min (Int.toNat (4 : Int)) (IntKind.bits IntKind.i32)))
  (IntKind.wrap IntKind.i32 (runeAt x.1 x_1.2 - (48 : Int))) = orI IntKind.i32 (IntKind.wrap IntKind.i32 (x_1.1 * (2 : Int) ^ Min.min (Int.toNat (4 : Int)) (IntKind.bits IntKind.i32))) (IntKind.wrap IntKind.i32 (runeAt
  x.1 x_1.2 - (48 : Int)))) ∧ Wr (x.1 = x.1) ∧ Wr (x.1 = x.1) ∧ Wr (nextP x.1 x_1.2 = nextP x.1 x_1.2))) (bcase (decide ((97 : Int) ≤ runeAt x.1 x_1.2) && decide (runeAt x.1 x_1.2 ≤ (102 : Int))) (Wr ((0 : Int) ≤ (4 :
  Int)) ∧ bcase (decide (orI IntKind.i32 (IntKind.wrap IntKind.i32 (x_1.1 * (2 : Int) ^ Min.min (Int.toNat (4 : Int)) (IntKind.bits IntKind.i32))) (IntKind.wrap IntKind.i32 (IntKind.wrap IntKind.i32 (runeAt x.1 x_1.2 -
  (97 : Int)) + (10 : Int))) > (65535 : Int))) (((0 : Int), false, ()) = (Go.Ad.grp1 x.1, Go.Ad.grp2 x.1, ())) (Wr (GrpI x.1 (orI IntKind.i32 (IntKind.wrap IntKind.i32 (x_1.1 * (2 : Int) ^ Min.min (Int.toNat (4 : Int))
  (IntKind.bits IntKind.i32))) (IntKind.wrap IntKind.i32 (IntKind.wrap IntKind.i32 (runeAt x.1 x_1.2 - (97 : Int)) + (10 : Int)))) (nextP x.1 x_1.2)) ∧ Wr (ByteArray.size x.1 - nextP x.1 x_1.2 < ByteArray.size x.1 -
  x_1.2) ∧ Wr (orI IntKind.i32 (IntKind.wrap IntKind.i32 (x_1.1 * (2 : Int) ^ Min.min (Int.toNat (4 : Int)) (IntKind.bits IntKind.i32))) (IntKind.wrap IntKind.i32 (IntKind.wrap IntKind.i32 (runeAt x.1 x_1.2 - (97 : Int))
  + (10 : Int))) = orI IntKind.i32 (IntKind.wrap IntKind.i32 (x_1.1 * (2 : Int) ^ Min.min (Int.toNat (4 : Int)) (IntKind.bits IntKind.i32))) (IntKind.wrap IntKind.i32 (IntKind.wrap IntKind.i32 (runeAt x.1 x_1.2 - (97 :
  Int)) + (10 : Int)))) ∧ Wr (x.1 = x.1) ∧ Wr (x.1 = x.1) ∧ Wr (nextP x.1 x_1.2 = nextP x.1 x_1.2))) (bcase (decide ((65 : Int) ≤ runeAt x.1 x_1.2) && decide (runeAt x.1 x_1.2 ≤ (70 : Int))) (Wr ((0 : Int) ≤ (4 : Int)) ∧
  bcase (decide (orI IntKind.i32 (IntKind.wrap IntKind.i32 (x_1.1 * (2 : Int) ^ Min.min (Int.toNat (4 : Int)) (IntKind.bits IntKind.i32))) (IntKind.wrap IntKind.i32 (IntKind.wrap IntKind.i32 (runeAt x.1 x_1.2 - (65 :
  Int)) + (10 : Int))) > (65535 : Int))) (((0 : Int), false, ()) = (Go.Ad.grp1 x.1, Go.Ad.grp2 x.1, ())) (Wr (GrpI x.1 (orI IntKind.i32 (IntKind.wrap IntKind.i32 (x_1.1 * (2 : Int) ^ Min.min (Int.toNat (4 : Int))
  (IntKind.bits IntKind.i32))) (IntKind.wrap IntKind.i32 (IntKind.wrap IntKind.i32 (runeAt x.1 x_1.2 - (65 : Int)) + (10 : Int)))) (nextP x.1 x_1.2)) ∧ Wr (ByteArray.size x.1 - nextP x.1 x_1.2 < ByteArray.size x.1 -
  x_1.2) ∧ Wr (orI IntKind.i32 (IntKind.wrap IntKind.i32 (x_1.1 * (2 : Int) ^ Min.min (Int.toNat (4 : Int)) (IntKind.bits IntKind.i32))) (IntKind.wrap IntKind.i32 (IntKind.wrap IntKind.i32 (runeAt x.1 x_1.2 - (65 : Int))
  + (10 : Int))) = orI IntKind.i32 (IntKind.wrap IntKind.i32 (x_1.1 * (2 : Int) ^ Min.min (Int.toNat (4 : Int)) (IntKind.bits IntKind.i32))) (IntKind.wrap IntKind.i32 (IntKind.wrap IntKind.i32 (runeAt x.1 x_1.2 - (65 :
  Int)) + (10 : Int)))) ∧ Wr (x.1 = x.1) ∧ Wr (x.1 = x.1) ∧ Wr (nextP x.1 x_1.2 = nextP x.1 x_1.2))) (((0 : Int), false, ()) = (Go.Ad.grp1 x.1, Go.Ad.grp2 x.1, ()))))) ((IntKind.wrap IntKind.u16 x_1.1, !decide (x.1 =
  ByteArray.mk (List.toArray (nilL UInt8))) && decide ((↑(ByteArray.size x.1) : Int) ≤ (4 : Int)), ()) = (Go.Ad.grp1 x.1, Go.Ad.grp2 x.1, ()))) := by kernel_rfl
theorem v85_eq : vcFn g85 300 Tryd.f85 cSide = (  ∀ (x : ByteArray × Unit), Wr (szOk x.1 = true) → bcase (decide (x.1 = ByteArray.mk (List.toArray (nilL UInt8)))) ((nilL Int, true, ()) = (Go.Ad.side1 x.1, Go.Ad.side2 x.1, ())) (Wr ((szOk x.1 && decide (ByteArray.size
  (ByteArray.mk (List.toArray ((58 : UInt8) :: nilL UInt8))) = (1 : Nat))) = true) ∧ (Wr (GoI Go.Ad.grpO (Go.Lb.splitS x.1 (ByteArray.mk (List.toArray ((58 : UInt8) :: nilL UInt8)))) (nilL Int) (0 : Int)) ∧ Wr ((0 : Int)
  = (0 : Int)) ∧ Wr (Go.Lb.splitS x.1 (ByteArray.mk (List.toArray ((58 : UInt8) :: nilL UInt8))) = Go.Lb.splitS x.1 (ByteArray.mk (List.toArray ((58 : UInt8) :: nilL UInt8)))) ∧ Wr ((↑(List.length (Go.Lb.splitS x.1
  (ByteArray.mk (List.toArray ((58 : UInt8) :: nilL UInt8))))) : Int) = (↑(List.length (Go.Lb.splitS x.1 (ByteArray.mk (List.toArray ((58 : UInt8) :: nilL UInt8))))) : Int)) ∧ Wr (nilL Int = nilL Int)) ∧ ∀ (x_1 : List Int
  × Int), Wr (GoI Go.Ad.grpO (Go.Lb.splitS x.1 (ByteArray.mk (List.toArray ((58 : UInt8) :: nilL UInt8)))) x_1.1 x_1.2) → bcase (decide (x_1.2 < (↑(List.length (Go.Lb.splitS x.1 (ByteArray.mk (List.toArray ((58 : UInt8)
  :: nilL UInt8))))) : Int))) (Wr ((0 : Int) ≤ x_1.2) ∧ Wr (x_1.2 < (↑(List.length (Go.Lb.splitS x.1 (ByteArray.mk (List.toArray ((58 : UInt8) :: nilL UInt8))))) : Int)) ∧ Wr (true = true) ∧ Wr (szOk (List.getD
  (Go.Lb.splitS x.1 (ByteArray.mk (List.toArray ((58 : UInt8) :: nilL UInt8)))) (Int.toNat x_1.2) (Ty.zero Ty.str)) = true) ∧ bcase (!Go.Ad.grp2 (List.getD (Go.Lb.splitS x.1 (ByteArray.mk (List.toArray ((58 : UInt8) ::
  nilL UInt8)))) (Int.toNat x_1.2) (Ty.zero Ty.str))) ((nilL Int, false, ()) = (Go.Ad.side1 x.1, Go.Ad.side2 x.1, ())) (Wr ((List.length x_1.1 + List.length (Go.Ad.grp1 (List.getD (Go.Lb.splitS x.1 (ByteArray.mk
  (List.toArray ((58 : UInt8) :: nilL UInt8)))) (Int.toNat x_1.2) (Ty.zero Ty.str)) :: nilL Int)) * (2 : Nat) ≤ (140737488355328 : Nat)) ∧ Wr (GoI Go.Ad.grpO (Go.Lb.splitS x.1 (ByteArray.mk (List.toArray ((58 : UInt8) ::
  nilL UInt8)))) (x_1.1 ++ Go.Ad.grp1 (List.getD (Go.Lb.splitS x.1 (ByteArray.mk (List.toArray ((58 : UInt8) :: nilL UInt8)))) (Int.toNat x_1.2) (Ty.zero Ty.str)) :: nilL Int) (IntKind.wrap IntKind.i64 (x_1.2 + (1 :
  Int)))) ∧ Wr (List.length (Go.Lb.splitS x.1 (ByteArray.mk (List.toArray ((58 : UInt8) :: nilL UInt8)))) - Int.toNat (IntKind.wrap IntKind.i64 (x_1.2 + (1 : Int))) < List.length (Go.Lb.splitS x.1 (ByteArray.mk
  (List.toArray ((58 : UInt8) :: nilL UInt8)))) - Int.toNat x_1.2) ∧ Wr (IntKind.wrap IntKind.i64 (x_1.2 + (1 : Int)) = IntKind.wrap IntKind.i64 (x_1.2 + (1 : Int))) ∧ Wr (Go.Lb.splitS x.1 (ByteArray.mk (List.toArray ((58
  : UInt8) :: nilL UInt8))) = Go.Lb.splitS x.1 (ByteArray.mk (List.toArray ((58 : UInt8) :: nilL UInt8)))) ∧ Wr ((↑(List.length (Go.Lb.splitS x.1 (ByteArray.mk (List.toArray ((58 : UInt8) :: nilL UInt8))))) : Int) =
  (↑(List.length (Go.Lb.splitS x.1 (ByteArray.mk (List.toArray ((58 : UInt8) :: nilL UInt8))))) : Int)) ∧ Wr (x_1.1 ++ Go.Ad.grp1 (List.getD (Go.Lb.splitS x.1 (ByteArray.mk (List.toArray ((58 : UInt8) :: nilL UInt8))))
  (Int.toNat x_1.2) (Ty.zero Ty.str)) :: nilL Int = x_1.1 ++ Go.Ad.grp1 (List.getD (Go.Lb.splitS x.1 (ByteArray.mk (List.toArray ((58 : UInt8) :: nilL UInt8)))) (Int.toNat x_1.2) (Ty.zero Ty.str)) :: nilL Int))) ((x_1.1,
  true, ()) = (Go.Ad.side1 x.1, Go.Ad.side2 x.1, ())))) := by kernel_rfl
theorem v57_eq : vcFn g57 300 Tryd.f57 cFour = (  ∀ (x : ByteArray × Unit), Wr (szOk x.1 = true) → Wr ((szOk x.1 && decide (ByteArray.size (ByteArray.mk (List.toArray ((46 : UInt8) :: nilL UInt8))) = (1 : Nat))) = true) ∧ bcase (!decide ((↑(List.length (Go.Lb.splitS
  x.1 (ByteArray.mk (List.toArray ((46 : UInt8) :: nilL UInt8))))) : Int) = (4 : Int))) ((((0 : Int), (0 : Int), (0 : Int), (0 : Int), (0 : Int), (0 : Int), (0 : Int), (0 : Int), ()), false, ()) = (Go.Ad.four1 x.1,
  Go.Ad.four2 x.1, ())) ((Wr (FourI (Go.Lb.splitS x.1 (ByteArray.mk (List.toArray ((46 : UInt8) :: nilL UInt8)))) ((0 : Int), (0 : Int), (0 : Int), (0 : Int), (0 : Int), (0 : Int), (0 : Int), (0 : Int), ()) (0 : Int)) ∧
  Wr ((0 : Int) = (0 : Int)) ∧ Wr (Go.Lb.splitS x.1 (ByteArray.mk (List.toArray ((46 : UInt8) :: nilL UInt8))) = Go.Lb.splitS x.1 (ByteArray.mk (List.toArray ((46 : UInt8) :: nilL UInt8)))) ∧ Wr ((↑(List.length
  (Go.Lb.splitS x.1 (ByteArray.mk (List.toArray ((46 : UInt8) :: nilL UInt8))))) : Int) = (↑(List.length (Go.Lb.splitS x.1 (ByteArray.mk (List.toArray ((46 : UInt8) :: nilL UInt8))))) : Int)) ∧ Wr ((0 : Int) = (0 : Int))
  ∧ Wr ((0 : Int) = (0 : Int)) ∧ Wr ((0 : Int) = (0 : Int)) ∧ Wr ((0 : Int) = (0 : Int)) ∧ Wr ((0 : Int) = (0 : Int)) ∧ Wr ((0 : Int) = (0 : Int)) ∧ Wr ((0 : Int) = (0 : Int)) ∧ Wr ((0 : Int) = (0 : Int))) ∧ ∀ (x_1 : (Int
  × Int × Int × Int × Int × Int × Int × Int × Unit) × Int), Wr (FourI (Go.Lb.splitS x.1 (ByteArray.mk (List.toArray ((46 : UInt8) :: nilL UInt8)))) x_1.1 x_1.2) → bcase (decide (x_1.2 < (↑(List.length (Go.Lb.splitS x.1
  (ByteArray.mk (List.toArray ((46 : UInt8) :: nilL UInt8))))) : Int))) (Wr ((0 : Int) ≤ x_1.2) ∧ Wr (x_1.2 < (↑(List.length (Go.Lb.splitS x.1 (ByteArray.mk (List.toArray ((46 : UInt8) :: nilL UInt8))))) : Int)) ∧ Wr
  (true = true) ∧ Wr (szOk (List.getD (Go.Lb.splitS x.1 (ByteArray.mk (List.toArray ((46 : UInt8) :: nilL UInt8)))) (Int.toNat x_1.2) (Ty.zero Ty.str)) = true) ∧ bcase (!Go.Ad.num2 (List.getD (Go.Lb.splitS x.1
  (ByteArray.mk (List.toArray ((46 : UInt8) :: nilL UInt8)))) (Int.toNat x_1.2) (Ty.zero Ty.str)) (255 : Int)) ((((0 : Int), (0 : Int), (0 : Int), (0 : Int), (0 : Int), (0 : Int), (0 : Int), (0 : Int), ()), false, ()) =
  (Go.Ad.four1 x.1, Go.Ad.four2 x.1, ())) (Wr ((2 : Int) ≠ (0 : Int)) ∧ Wr ((2 : Int) ≠ (0 : Int)) ∧ Wr ((0 : Int) ≤ IntKind.wrap IntKind.i64 (Int.tdiv x_1.2 (2 : Int))) ∧ Wr (IntKind.wrap IntKind.i64 (Int.tdiv x_1.2 (2 :
  Int)) < (↑(8 : Nat) : Int)) ∧ Wr ((0 : Int) ≤ (8 : Int)) ∧ Wr ((0 : Int) ≤ IntKind.wrap IntKind.i64 (Int.tdiv x_1.2 (2 : Int))) ∧ Wr (IntKind.wrap IntKind.i64 (Int.tdiv x_1.2 (2 : Int)) < (↑(8 : Nat) : Int)) ∧ Wr (FourI
  (Go.Lb.splitS x.1 (ByteArray.mk (List.toArray ((46 : UInt8) :: nilL UInt8)))) (List.getD (List.set (x_1.1.1 :: x_1.1.2.1 :: x_1.1.2.2.1 :: x_1.1.2.2.2.1 :: x_1.1.2.2.2.2.1 :: x_1.1.2.2.2.2.2.1 :: x_1.1.2.2.2.2.2.2.1 ::
  x_1.1.2.2.2.2.2.2.2.1 :: nilL Int) (Int.toNat (IntKind.wrap IntKind.i64 (Int.tdiv x_1.2 (2 : Int)))) (orI IntKind.u16 (IntKind.wrap IntKind.u16 (List.getD (x_1.1.1 :: x_1.1.2.1 :: x_1.1.2.2.1 :: x_1.1.2.2.2.1 ::
  x_1.1.2.2.2.2.1 :: x_1.1.2.2.2.2.2.1 :: x_1.1.2.2.2.2.2.2.1 :: x_1.1.2.2.2.2.2.2.2.1 :: nilL Int) (Int.toNat (IntKind.wrap IntKind.i64 (Int.tdiv x_1.2 (2 : Int)))) (0 : Int) * (2 : Int) ^ Min.min (Int.toNat (8 : Int))
  (IntKind.bits IntKind.u16))) (IntKind.wrap IntKind.u16 (Go.Ad.num1 (List.getD (Go.Lb.splitS x.1 (ByteArray.mk (List.toArray ((46 : UInt8) :: nilL UInt8)))) (Int.toNat x_1.2) (Ty.zero Ty.str)) (255 : Int))))) (0 : Nat)
  (0 : Int), List.getD (List.set (x_1.1.1 :: x_1.1.2.1 :: x_1.1.2.2.1 :: x_1.1.2.2.2.1 :: x_1.1.2.2.2.2.1 :: x_1.1.2.2.2.2.2.1 :: x_1.1.2.2.2.2.2.2.1 :: x_1.1.2.2.2.2.2.2.2.1 :: nilL Int) (Int.toNat (IntKind.wrap
  IntKind.i64 (Int.tdiv x_1.2 (2 : Int)))) (orI IntKind.u16 (IntKind.wrap IntKind.u16 (List.getD (x_1.1.1 :: x_1.1.2.1 :: x_1.1.2.2.1 :: x_1.1.2.2.2.1 :: x_1.1.2.2.2.2.1 :: x_1.1.2.2.2.2.2.1 :: x_1.1.2.2.2.2.2.2.1 ::
  x_1.1.2.2.2.2.2.2.2.1 :: nilL Int) (Int.toNat (IntKind.wrap IntKind.i64 (Int.tdiv x_1.2 (2 : Int)))) (0 : Int) * (2 : Int) ^ Min.min (Int.toNat (8 : Int)) (IntKind.bits IntKind.u16))) (IntKind.wrap IntKind.u16
  (Go.Ad.num1 (List.getD (Go.Lb.splitS x.1 (ByteArray.mk (List.toArray ((46 : UInt8) :: nilL UInt8)))) (Int.toNat x_1.2) (Ty.zero Ty.str)) (255 : Int))))) (1 : Nat) (0 : Int), List.getD (List.set (x_1.1.1 :: x_1.1.2.1 ::
  x_1.1.2.2.1 :: x_1.1.2.2.2.1 :: x_1.1.2.2.2.2.1 :: x_1.1.2.2.2.2.2.1 :: x_1.1.2.2.2.2.2.2.1 :: x_1.1.2.2.2.2.2.2.2.1 :: nilL Int) (Int.toNat (IntKind.wrap IntKind.i64 (Int.tdiv x_1.2 (2 : Int)))) (orI IntKind.u16
  (IntKind.wrap IntKind.u16 (List.getD (x_1.1.1 :: x_1.1.2.1 :: x_1.1.2.2.1 :: x_1.1.2.2.2.1 :: x_1.1.2.2.2.2.1 :: x_1.1.2.2.2.2.2.1 :: x_1.1.2.2.2.2.2.2.1 :: x_1.1.2.2.2.2.2.2.2.1 :: nilL Int) (Int.toNat (IntKind.wrap
  IntKind.i64 (Int.tdiv x_1.2 (2 : Int)))) (0 : Int) * (2 : Int) ^ Min.min (Int.toNat (8 : Int)) (IntKind.bits IntKind.u16))) (IntKind.wrap IntKind.u16 (Go.Ad.num1 (List.getD (Go.Lb.splitS x.1 (ByteArray.mk (List.toArray
  ((46 : UInt8) :: nilL UInt8)))) (Int.toNat x_1.2) (Ty.zero Ty.str)) (255 : Int))))) (2 : Nat) (0 : Int), List.getD (List.set (x_1.1.1 :: x_1.1.2.1 :: x_1.1.2.2.1 :: x_1.1.2.2.2.1 :: x_1.1.2.2.2.2.1 :: x_1.1.2.2.2.2.2.1
  :: x_1.1.2.2.2.2.2.2.1 :: x_1.1.2.2.2.2.2.2.2.1 :: nilL Int) (Int.toNat (IntKind.wrap IntKind.i64 (Int.tdiv x_1.2 (2 : Int)))) (orI IntKind.u16 (IntKind.wrap IntKind.u16 (List.getD (x_1.1.1 :: x_1.1.2.1 :: x_1.1.2.2.1
  :: x_1.1.2.2.2.1 :: x_1.1.2.2.2.2.1 :: x_1.1.2.2.2.2.2.1 :: x_1.1.2.2.2.2.2.2.1 :: x_1.1.2.2.2.2.2.2.2.1 :: nilL Int) (Int.toNat (IntKind.wrap IntKind.i64 (Int.tdiv x_1.2 (2 : Int)))) (0 : Int) * (2 : Int) ^ Min.min
  (Int.toNat (8 : Int)) (IntKind.bits IntKind.u16))) (IntKind.wrap IntKind.u16 (Go.Ad.num1 (List.getD (Go.Lb.splitS x.1 (ByteArray.mk (List.toArray ((46 : UInt8) :: nilL UInt8)))) (Int.toNat x_1.2) (Ty.zero Ty.str)) (255
  : Int))))) (3 : Nat) (0 : Int), List.getD (List.set (x_1.1.1 :: x_1.1.2.1 :: x_1.1.2.2.1 :: x_1.1.2.2.2.1 :: x_1.1.2.2.2.2.1 :: x_1.1.2.2.2.2.2.1 :: x_1.1.2.2.2.2.2.2.1 :: x_1.1.2.2.2.2.2.2.2.1 :: nilL Int) (Int.toNat
  (IntKind.wrap IntKind.i64 (Int.tdiv x_1.2 (2 : Int)))) (orI IntKind.u16 (IntKind.wrap IntKind.u16 (List.getD (x_1.1.1 :: x_1.1.2.1 :: x_1.1.2.2.1 :: x_1.1.2.2.2.1 :: x_1.1.2.2.2.2.1 :: x_1.1.2.2.2.2.2.1 ::
  x_1.1.2.2.2.2.2.2.1 :: x_1.1.2.2.2.2.2.2.2.1 :: nilL Int) (Int.toNat (IntKind.wrap IntKind.i64 (Int.tdiv x_1.2 (2 : Int)))) (0 : Int) * (2 : Int) ^ Min.min (Int.toNat (8 : Int)) (IntKind.bits IntKind.u16)))
  (IntKind.wrap IntKind.u16 (Go.Ad.num1 (List.getD (Go.Lb.splitS x.1 (ByteArray.mk (List.toArray ((46 : UInt8) :: nilL UInt8)))) (Int.toNat x_1.2) (Ty.zero Ty.str)) (255 : Int))))) (4 : Nat) (0 : Int), List.getD (List.set
  (x_1.1.1 :: x_1.1.2.1 :: x_1.1.2.2.1 :: x_1.1.2.2.2.1 :: x_1.1.2.2.2.2.1 :: x_1.1.2.2.2.2.2.1 :: x_1.1.2.2.2.2.2.2.1 :: x_1.1.2.2.2.2.2.2.2.1 :: nilL Int) (Int.toNat (IntKind.wrap IntKind.i64 (Int.tdiv x_1.2 (2 :
  Int)))) (orI IntKind.u16 (IntKind.wrap IntKind.u16 (List.getD (x_1.1.1 :: x_1.1.2.1 :: x_1.1.2.2.1 :: x_1.1.2.2.2.1 :: x_1.1.2.2.2.2.1 :: x_1.1.2.2.2.2.2.1 :: x_1.1.2.2.2.2.2.2.1 :: x_1.1.2.2.2.2.2.2.2.1 :: nilL Int)
  (Int.toNat (IntKind.wrap IntKind.i64 (Int.tdiv x_1.2 (2 : Int)))) (0 : Int) * (2 : Int) ^ Min.min (Int.toNat (8 : Int)) (IntKind.bits IntKind.u16))) (IntKind.wrap IntKind.u16 (Go.Ad.num1 (List.getD (Go.Lb.splitS x.1
  (ByteArray.mk (List.toArray ((46 : UInt8) :: nilL UInt8)))) (Int.toNat x_1.2) (Ty.zero Ty.str)) (255 : Int))))) (5 : Nat) (0 : Int), List.getD (List.set (x_1.1.1 :: x_1.1.2.1 :: x_1.1.2.2.1 :: x_1.1.2.2.2.1 ::
  x_1.1.2.2.2.2.1 :: x_1.1.2.2.2.2.2.1 :: x_1.1.2.2.2.2.2.2.1 :: x_1.1.2.2.2.2.2.2.2.1 :: nilL Int) (Int.toNat (IntKind.wrap IntKind.i64 (Int.tdiv x_1.2 (2 : Int)))) (orI IntKind.u16 (IntKind.wrap IntKind.u16 (List.getD
  (x_1.1.1 :: x_1.1.2.1 :: x_1.1.2.2.1 :: x_1.1.2.2.2.1 :: x_1.1.2.2.2.2.1 :: x_1.1.2.2.2.2.2.1 :: x_1.1.2.2.2.2.2.2.1 :: x_1.1.2.2.2.2.2.2.2.1 :: nilL Int) (Int.toNat (IntKind.wrap IntKind.i64 (Int.tdiv x_1.2 (2 :
  Int)))) (0 : Int) * (2 : Int) ^ Min.min (Int.toNat (8 : Int)) (IntKind.bits IntKind.u16))) (IntKind.wrap IntKind.u16 (Go.Ad.num1 (List.getD (Go.Lb.splitS x.1 (ByteArray.mk (List.toArray ((46 : UInt8) :: nilL UInt8))))
  (Int.toNat x_1.2) (Ty.zero Ty.str)) (255 : Int))))) (6 : Nat) (0 : Int), List.getD (List.set (x_1.1.1 :: x_1.1.2.1 :: x_1.1.2.2.1 :: x_1.1.2.2.2.1 :: x_1.1.2.2.2.2.1 :: x_1.1.2.2.2.2.2.1 :: x_1.1.2.2.2.2.2.2.1 ::
  x_1.1.2.2.2.2.2.2.2.1 :: nilL Int) (Int.toNat (IntKind.wrap IntKind.i64 (Int.tdiv x_1.2 (2 : Int)))) (orI IntKind.u16 (IntKind.wrap IntKind.u16 (List.getD (x_1.1.1 :: x_1.1.2.1 :: x_1.1.2.2.1 :: x_1.1.2.2.2.1 ::
  x_1.1.2.2.2.2.1 :: x_1.1.2.2.2.2.2.1 :: x_1.1.2.2.2.2.2.2.1 :: x_1.1.2.2.2.2.2.2.2.1 :: nilL Int) (Int.toNat (IntKind.wrap IntKind.i64 (Int.tdiv x_1.2 (2 : Int)))) (0 : Int) * (2 : Int) ^ Min.min (Int.toNat (8 : Int))
  (IntKind.bits IntKind.u16))) (IntKind.wrap IntKind.u16 (Go.Ad.num1 (List.getD (Go.Lb.splitS x.1 (ByteArray.mk (List.toArray ((46 : UInt8) :: nilL UInt8)))) (Int.toNat x_1.2) (Ty.zero Ty.str)) (255 : Int))))) (7 : Nat)
  (0 : Int), ()) (IntKind.wrap IntKind.i64 (x_1.2 + (1 : Int)))) ∧ Wr ((4 : Nat) - Int.toNat (IntKind.wrap IntKind.i64 (x_1.2 + (1 : Int))) < (4 : Nat) - Int.toNat x_1.2) ∧ Wr (IntKind.wrap IntKind.i64 (x_1.2 + (1 : Int))
  = IntKind.wrap IntKind.i64 (x_1.2 + (1 : Int))) ∧ Wr (Go.Lb.splitS x.1 (ByteArray.mk (List.toArray ((46 : UInt8) :: nilL UInt8))) = Go.Lb.splitS x.1 (ByteArray.mk (List.toArray ((46 : UInt8) :: nilL UInt8)))) ∧ Wr
  ((↑(List.length (Go.Lb.splitS x.1 (ByteArray.mk (List.toArray ((46 : UInt8) :: nilL UInt8))))) : Int) = (↑(List.length (Go.Lb.splitS x.1 (ByteArray.mk (List.toArray ((46 : UInt8) :: nilL UInt8))))) : Int)) ∧ Wr
  (List.getD (List.set (x_1.1.1 :: x_1.1.2.1 :: x_1.1.2.2.1 :: x_1.1.2.2.2.1 :: x_1.1.2.2.2.2.1 :: x_1.1.2.2.2.2.2.1 :: x_1.1.2.2.2.2.2.2.1 :: x_1.1.2.2.2.2.2.2.2.1 :: nilL Int) (Int.toNat (IntKind.wrap IntKind.i64
  (Int.tdiv x_1.2 (2 : Int)))) (orI IntKind.u16 (IntKind.wrap IntKind.u16 (List.getD (x_1.1.1 :: x_1.1.2.1 :: x_1.1.2.2.1 :: x_1.1.2.2.2.1 :: x_1.1.2.2.2.2.1 :: x_1.1.2.2.2.2.2.1 :: x_1.1.2.2.2.2.2.2.1 ::
  x_1.1.2.2.2.2.2.2.2.1 :: nilL Int) (Int.toNat (IntKind.wrap IntKind.i64 (Int.tdiv x_1.2 (2 : Int)))) (0 : Int) * (2 : Int) ^ Min.min (Int.toNat (8 : Int)) (IntKind.bits IntKind.u16))) (IntKind.wrap IntKind.u16
  (Go.Ad.num1 (List.getD (Go.Lb.splitS x.1 (ByteArray.mk (List.toArray ((46 : UInt8) :: nilL UInt8)))) (Int.toNat x_1.2) (Ty.zero Ty.str)) (255 : Int))))) (0 : Nat) (0 : Int) = List.getD (List.set (x_1.1.1 :: x_1.1.2.1 ::
  x_1.1.2.2.1 :: x_1.1.2.2.2.1 :: x_1.1.2.2.2.2.1 :: x_1.1.2.2.2.2.2.1 :: x_1.1.2.2.2.2.2.2.1 :: x_1.1.2.2.2.2.2.2.2.1 :: nilL Int) (Int.toNat (IntKind.wrap IntKind.i64 (Int.tdiv x_1.2 (2 : Int)))) (orI IntKind.u16
  (IntKind.wrap IntKind.u16 (List.getD (x_1.1.1 :: x_1.1.2.1 :: x_1.1.2.2.1 :: x_1.1.2.2.2.1 :: x_1.1.2.2.2.2.1 :: x_1.1.2.2.2.2.2.1 :: x_1.1.2.2.2.2.2.2.1 :: x_1.1.2.2.2.2.2.2.2.1 :: nilL Int) (Int.toNat (IntKind.wrap
  IntKind.i64 (Int.tdiv x_1.2 (2 : Int)))) (0 : Int) * (2 : Int) ^ Min.min (Int.toNat (8 : Int)) (IntKind.bits IntKind.u16))) (IntKind.wrap IntKind.u16 (Go.Ad.num1 (List.getD (Go.Lb.splitS x.1 (ByteArray.mk (List.toArray
  ((46 : UInt8) :: nilL UInt8)))) (Int.toNat x_1.2) (Ty.zero Ty.str)) (255 : Int))))) (0 : Nat) (0 : Int)) ∧ Wr (List.getD (List.set (x_1.1.1 :: x_1.1.2.1 :: x_1.1.2.2.1 :: x_1.1.2.2.2.1 :: x_1.1.2.2.2.2.1 ::
  x_1.1.2.2.2.2.2.1 :: x_1.1.2.2.2.2.2.2.1 :: x_1.1.2.2.2.2.2.2.2.1 :: nilL Int) (Int.toNat (IntKind.wrap IntKind.i64 (Int.tdiv x_1.2 (2 : Int)))) (orI IntKind.u16 (IntKind.wrap IntKind.u16 (List.getD (x_1.1.1 ::
  x_1.1.2.1 :: x_1.1.2.2.1 :: x_1.1.2.2.2.1 :: x_1.1.2.2.2.2.1 :: x_1.1.2.2.2.2.2.1 :: x_1.1.2.2.2.2.2.2.1 :: x_1.1.2.2.2.2.2.2.2.1 :: nilL Int) (Int.toNat (IntKind.wrap IntKind.i64 (Int.tdiv x_1.2 (2 : Int)))) (0 : Int)
  * (2 : Int) ^ Min.min (Int.toNat (8 : Int)) (IntKind.bits IntKind.u16))) (IntKind.wrap IntKind.u16 (Go.Ad.num1 (List.getD (Go.Lb.splitS x.1 (ByteArray.mk (List.toArray ((46 : UInt8) :: nilL UInt8)))) (Int.toNat x_1.2)
  (Ty.zero Ty.str)) (255 : Int))))) (1 : Nat) (0 : Int) = List.getD (List.set (x_1.1.1 :: x_1.1.2.1 :: x_1.1.2.2.1 :: x_1.1.2.2.2.1 :: x_1.1.2.2.2.2.1 :: x_1.1.2.2.2.2.2.1 :: x_1.1.2.2.2.2.2.2.1 :: x_1.1.2.2.2.2.2.2.2.1
  :: nilL Int) (Int.toNat (IntKind.wrap IntKind.i64 (Int.tdiv x_1.2 (2 : Int)))) (orI IntKind.u16 (IntKind.wrap IntKind.u16 (List.getD (x_1.1.1 :: x_1.1.2.1 :: x_1.1.2.2.1 :: x_1.1.2.2.2.1 :: x_1.1.2.2.2.2.1 ::
  x_1.1.2.2.2.2.2.1 :: x_1.1.2.2.2.2.2.2.1 :: x_1.1.2.2.2.2.2.2.2.1 :: nilL Int) (Int.toNat (IntKind.wrap IntKind.i64 (Int.tdiv x_1.2 (2 : Int)))) (0 : Int) * (2 : Int) ^ Min.min (Int.toNat (8 : Int)) (IntKind.bits
  IntKind.u16))) (IntKind.wrap IntKind.u16 (Go.Ad.num1 (List.getD (Go.Lb.splitS x.1 (ByteArray.mk (List.toArray ((46 : UInt8) :: nilL UInt8)))) (Int.toNat x_1.2) (Ty.zero Ty.str)) (255 : Int))))) (1 : Nat) (0 : Int)) ∧ Wr
  (List.getD (List.set (x_1.1.1 :: x_1.1.2.1 :: x_1.1.2.2.1 :: x_1.1.2.2.2.1 :: x_1.1.2.2.2.2.1 :: x_1.1.2.2.2.2.2.1 :: x_1.1.2.2.2.2.2.2.1 :: x_1.1.2.2.2.2.2.2.2.1 :: nilL Int) (Int.toNat (IntKind.wrap IntKind.i64
  (Int.tdiv x_1.2 (2 : Int)))) (orI IntKind.u16 (IntKind.wrap IntKind.u16 (List.getD (x_1.1.1 :: x_1.1.2.1 :: x_1.1.2.2.1 :: x_1.1.2.2.2.1 :: x_1.1.2.2.2.2.1 :: x_1.1.2.2.2.2.2.1 :: x_1.1.2.2.2.2.2.2.1 ::
  x_1.1.2.2.2.2.2.2.2.1 :: nilL Int) (Int.toNat (IntKind.wrap IntKind.i64 (Int.tdiv x_1.2 (2 : Int)))) (0 : Int) * (2 : Int) ^ Min.min (Int.toNat (8 : Int)) (IntKind.bits IntKind.u16))) (IntKind.wrap IntKind.u16
  (Go.Ad.num1 (List.getD (Go.Lb.splitS x.1 (ByteArray.mk (List.toArray ((46 : UInt8) :: nilL UInt8)))) (Int.toNat x_1.2) (Ty.zero Ty.str)) (255 : Int))))) (2 : Nat) (0 : Int) = List.getD (List.set (x_1.1.1 :: x_1.1.2.1 ::
  x_1.1.2.2.1 :: x_1.1.2.2.2.1 :: x_1.1.2.2.2.2.1 :: x_1.1.2.2.2.2.2.1 :: x_1.1.2.2.2.2.2.2.1 :: x_1.1.2.2.2.2.2.2.2.1 :: nilL Int) (Int.toNat (IntKind.wrap IntKind.i64 (Int.tdiv x_1.2 (2 : Int)))) (orI IntKind.u16
  (IntKind.wrap IntKind.u16 (List.getD (x_1.1.1 :: x_1.1.2.1 :: x_1.1.2.2.1 :: x_1.1.2.2.2.1 :: x_1.1.2.2.2.2.1 :: x_1.1.2.2.2.2.2.1 :: x_1.1.2.2.2.2.2.2.1 :: x_1.1.2.2.2.2.2.2.2.1 :: nilL Int) (Int.toNat (IntKind.wrap
  IntKind.i64 (Int.tdiv x_1.2 (2 : Int)))) (0 : Int) * (2 : Int) ^ Min.min (Int.toNat (8 : Int)) (IntKind.bits IntKind.u16))) (IntKind.wrap IntKind.u16 (Go.Ad.num1 (List.getD (Go.Lb.splitS x.1 (ByteArray.mk (List.toArray
  ((46 : UInt8) :: nilL UInt8)))) (Int.toNat x_1.2) (Ty.zero Ty.str)) (255 : Int))))) (2 : Nat) (0 : Int)) ∧ Wr (List.getD (List.set (x_1.1.1 :: x_1.1.2.1 :: x_1.1.2.2.1 :: x_1.1.2.2.2.1 :: x_1.1.2.2.2.2.1 ::
  x_1.1.2.2.2.2.2.1 :: x_1.1.2.2.2.2.2.2.1 :: x_1.1.2.2.2.2.2.2.2.1 :: nilL Int) (Int.toNat (IntKind.wrap IntKind.i64 (Int.tdiv x_1.2 (2 : Int)))) (orI IntKind.u16 (IntKind.wrap IntKind.u16 (List.getD (x_1.1.1 ::
  x_1.1.2.1 :: x_1.1.2.2.1 :: x_1.1.2.2.2.1 :: x_1.1.2.2.2.2.1 :: x_1.1.2.2.2.2.2.1 :: x_1.1.2.2.2.2.2.2.1 :: x_1.1.2.2.2.2.2.2.2.1 :: nilL Int) (Int.toNat (IntKind.wrap IntKind.i64 (Int.tdiv x_1.2 (2 : Int)))) (0 : Int)
  * (2 : Int) ^ Min.min (Int.toNat (8 : Int)) (IntKind.bits IntKind.u16))) (IntKind.wrap IntKind.u16 (Go.Ad.num1 (List.getD (Go.Lb.splitS x.1 (ByteArray.mk (List.toArray ((46 : UInt8) :: nilL UInt8)))) (Int.toNat x_1.2)
  (Ty.zero Ty.str)) (255 : Int))))) (3 : Nat) (0 : Int) = List.getD (List.set (x_1.1.1 :: x_1.1.2.1 :: x_1.1.2.2.1 :: x_1.1.2.2.2.1 :: x_1.1.2.2.2.2.1 :: x_1.1.2.2.2.2.2.1 :: x_1.1.2.2.2.2.2.2.1 :: x_1.1.2.2.2.2.2.2.2.1
  :: nilL Int) (Int.toNat (IntKind.wrap IntKind.i64 (Int.tdiv x_1.2 (2 : Int)))) (orI IntKind.u16 (IntKind.wrap IntKind.u16 (List.getD (x_1.1.1 :: x_1.1.2.1 :: x_1.1.2.2.1 :: x_1.1.2.2.2.1 :: x_1.1.2.2.2.2.1 ::
  x_1.1.2.2.2.2.2.1 :: x_1.1.2.2.2.2.2.2.1 :: x_1.1.2.2.2.2.2.2.2.1 :: nilL Int) (Int.toNat (IntKind.wrap IntKind.i64 (Int.tdiv x_1.2 (2 : Int)))) (0 : Int) * (2 : Int) ^ Min.min (Int.toNat (8 : Int)) (IntKind.bits
  IntKind.u16))) (IntKind.wrap IntKind.u16 (Go.Ad.num1 (List.getD (Go.Lb.splitS x.1 (ByteArray.mk (List.toArray ((46 : UInt8) :: nilL UInt8)))) (Int.toNat x_1.2) (Ty.zero Ty.str)) (255 : Int))))) (3 : Nat) (0 : Int)) ∧ Wr
  (List.getD (List.set (x_1.1.1 :: x_1.1.2.1 :: x_1.1.2.2.1 :: x_1.1.2.2.2.1 :: x_1.1.2.2.2.2.1 :: x_1.1.2.2.2.2.2.1 :: x_1.1.2.2.2.2.2.2.1 :: x_1.1.2.2.2.2.2.2.2.1 :: nilL Int) (Int.toNat (IntKind.wrap IntKind.i64
  (Int.tdiv x_1.2 (2 : Int)))) (orI IntKind.u16 (IntKind.wrap IntKind.u16 (List.getD (x_1.1.1 :: x_1.1.2.1 :: x_1.1.2.2.1 :: x_1.1.2.2.2.1 :: x_1.1.2.2.2.2.1 :: x_1.1.2.2.2.2.2.1 :: x_1.1.2.2.2.2.2.2.1 ::
  x_1.1.2.2.2.2.2.2.2.1 :: nilL Int) (Int.toNat (IntKind.wrap IntKind.i64 (Int.tdiv x_1.2 (2 : Int)))) (0 : Int) * (2 : Int) ^ Min.min (Int.toNat (8 : Int)) (IntKind.bits IntKind.u16))) (IntKind.wrap IntKind.u16
  (Go.Ad.num1 (List.getD (Go.Lb.splitS x.1 (ByteArray.mk (List.toArray ((46 : UInt8) :: nilL UInt8)))) (Int.toNat x_1.2) (Ty.zero Ty.str)) (255 : Int))))) (4 : Nat) (0 : Int) = List.getD (List.set (x_1.1.1 :: x_1.1.2.1 ::
  x_1.1.2.2.1 :: x_1.1.2.2.2.1 :: x_1.1.2.2.2.2.1 :: x_1.1.2.2.2.2.2.1 :: x_1.1.2.2.2.2.2.2.1 :: x_1.1.2.2.2.2.2.2.2.1 :: nilL Int) (Int.toNat (IntKind.wrap IntKind.i64 (Int.tdiv x_1.2 (2 : Int)))) (orI IntKind.u16
  (IntKind.wrap IntKind.u16 (List.getD (x_1.1.1 :: x_1.1.2.1 :: x_1.1.2.2.1 :: x_1.1.2.2.2.1 :: x_1.1.2.2.2.2.1 :: x_1.1.2.2.2.2.2.1 :: x_1.1.2.2.2.2.2.2.1 :: x_1.1.2.2.2.2.2.2.2.1 :: nilL Int) (Int.toNat (IntKind.wrap
  IntKind.i64 (Int.tdiv x_1.2 (2 : Int)))) (0 : Int) * (2 : Int) ^ Min.min (Int.toNat (8 : Int)) (IntKind.bits IntKind.u16))) (IntKind.wrap IntKind.u16 (Go.Ad.num1 (List.getD (Go.Lb.splitS x.1 (ByteArray.mk (List.toArray
  ((46 : UInt8) :: nilL UInt8)))) (Int.toNat x_1.2) (Ty.zero Ty.str)) (255 : Int))))) (4 : Nat) (0 : Int)) ∧ Wr (List.getD (List.set (x_1.1.1 :: x_1.1.2.1 :: x_1.1.2.2.1 :: x_1.1.2.2.2.1 :: x_1.1.2.2.2.2.1 ::
  x_1.1.2.2.2.2.2.1 :: x_1.1.2.2.2.2.2.2.1 :: x_1.1.2.2.2.2.2.2.2.1 :: nilL Int) (Int.toNat (IntKind.wrap IntKind.i64 (Int.tdiv x_1.2 (2 : Int)))) (orI IntKind.u16 (IntKind.wrap IntKind.u16 (List.getD (x_1.1.1 ::
  x_1.1.2.1 :: x_1.1.2.2.1 :: x_1.1.2.2.2.1 :: x_1.1.2.2.2.2.1 :: x_1.1.2.2.2.2.2.1 :: x_1.1.2.2.2.2.2.2.1 :: x_1.1.2.2.2.2.2.2.2.1 :: nilL Int) (Int.toNat (IntKind.wrap IntKind.i64 (Int.tdiv x_1.2 (2 : Int)))) (0 : Int)
  * (2 : Int) ^ Min.min (Int.toNat (8 : Int)) (IntKind.bits IntKind.u16))) (IntKind.wrap IntKind.u16 (Go.Ad.num1 (List.getD (Go.Lb.splitS x.1 (ByteArray.mk (List.toArray ((46 : UInt8) :: nilL UInt8)))) (Int.toNat x_1.2)
  (Ty.zero Ty.str)) (255 : Int))))) (5 : Nat) (0 : Int) = List.getD (List.set (x_1.1.1 :: x_1.1.2.1 :: x_1.1.2.2.1 :: x_1.1.2.2.2.1 :: x_1.1.2.2.2.2.1 :: x_1.1.2.2.2.2.2.1 :: x_1.1.2.2.2.2.2.2.1 :: x_1.1.2.2.2.2.2.2.2.1
  :: nilL Int) (Int.toNat (IntKind.wrap IntKind.i64 (Int.tdiv x_1.2 (2 : Int)))) (orI IntKind.u16 (IntKind.wrap IntKind.u16 (List.getD (x_1.1.1 :: x_1.1.2.1 :: x_1.1.2.2.1 :: x_1.1.2.2.2.1 :: x_1.1.2.2.2.2.1 ::
  x_1.1.2.2.2.2.2.1 :: x_1.1.2.2.2.2.2.2.1 :: x_1.1.2.2.2.2.2.2.2.1 :: nilL Int) (Int.toNat (IntKind.wrap IntKind.i64 (Int.tdiv x_1.2 (2 : Int)))) (0 : Int) * (2 : Int) ^ Min.min (Int.toNat (8 : Int)) (IntKind.bits
  IntKind.u16))) (IntKind.wrap IntKind.u16 (Go.Ad.num1 (List.getD (Go.Lb.splitS x.1 (ByteArray.mk (List.toArray ((46 : UInt8) :: nilL UInt8)))) (Int.toNat x_1.2) (Ty.zero Ty.str)) (255 : Int))))) (5 : Nat) (0 : Int)) ∧ Wr
  (List.getD (List.set (x_1.1.1 :: x_1.1.2.1 :: x_1.1.2.2.1 :: x_1.1.2.2.2.1 :: x_1.1.2.2.2.2.1 :: x_1.1.2.2.2.2.2.1 :: x_1.1.2.2.2.2.2.2.1 :: x_1.1.2.2.2.2.2.2.2.1 :: nilL Int) (Int.toNat (IntKind.wrap IntKind.i64
  (Int.tdiv x_1.2 (2 : Int)))) (orI IntKind.u16 (IntKind.wrap IntKind.u16 (List.getD (x_1.1.1 :: x_1.1.2.1 :: x_1.1.2.2.1 :: x_1.1.2.2.2.1 :: x_1.1.2.2.2.2.1 :: x_1.1.2.2.2.2.2.1 :: x_1.1.2.2.2.2.2.2.1 ::
  x_1.1.2.2.2.2.2.2.2.1 :: nilL Int) (Int.toNat (IntKind.wrap IntKind.i64 (Int.tdiv x_1.2 (2 : Int)))) (0 : Int) * (2 : Int) ^ Min.min (Int.toNat (8 : Int)) (IntKind.bits IntKind.u16))) (IntKind.wrap IntKind.u16
  (Go.Ad.num1 (List.getD (Go.Lb.splitS x.1 (ByteArray.mk (List.toArray ((46 : UInt8) :: nilL UInt8)))) (Int.toNat x_1.2) (Ty.zero Ty.str)) (255 : Int))))) (6 : Nat) (0 : Int) = List.getD (List.set (x_1.1.1 :: x_1.1.2.1 ::
  x_1.1.2.2.1 :: x_1.1.2.2.2.1 :: x_1.1.2.2.2.2.1 :: x_1.1.2.2.2.2.2.1 :: x_1.1.2.2.2.2.2.2.1 :: x_1.1.2.2.2.2.2.2.2.1 :: nilL Int) (Int.toNat (IntKind.wrap IntKind.i64 (Int.tdiv x_1.2 (2 : Int)))) (orI IntKind.u16
  (IntKind.wrap IntKind.u16 (List.getD (x_1.1.1 :: x_1.1.2.1 :: x_1.1.2.2.1 :: x_1.1.2.2.2.1 :: x_1.1.2.2.2.2.1 :: x_1.1.2.2.2.2.2.1 :: x_1.1.2.2.2.2.2.2.1 :: x_1.1.2.2.2.2.2.2.2.1 :: nilL Int) (Int.toNat (IntKind.wrap
  IntKind.i64 (Int.tdiv x_1.2 (2 : Int)))) (0 : Int) * (2 : Int) ^ Min.min (Int.toNat (8 : Int)) (IntKind.bits IntKind.u16))) (IntKind.wrap IntKind.u16 (Go.Ad.num1 (List.getD (Go.Lb.splitS x.1 (ByteArray.mk (List.toArray
  ((46 : UInt8) :: nilL UInt8)))) (Int.toNat x_1.2) (Ty.zero Ty.str)) (255 : Int))))) (6 : Nat) (0 : Int)) ∧ Wr (List.getD (List.set (x_1.1.1 :: x_1.1.2.1 :: x_1.1.2.2.1 :: x_1.1.2.2.2.1 :: x_1.1.2.2.2.2.1 ::
  x_1.1.2.2.2.2.2.1 :: x_1.1.2.2.2.2.2.2.1 :: x_1.1.2.2.2.2.2.2.2.1 :: nilL Int) (Int.toNat (IntKind.wrap IntKind.i64 (Int.tdiv x_1.2 (2 : Int)))) (orI IntKind.u16 (IntKind.wrap IntKind.u16 (List.getD (x_1.1.1 ::
  x_1.1.2.1 :: x_1.1.2.2.1 :: x_1.1.2.2.2.1 :: x_1.1.2.2.2.2.1 :: x_1.1.2.2.2.2.2.1 :: x_1.1.2.2.2.2.2.2.1 :: x_1.1.2.2.2.2.2.2.2.1 :: nilL Int) (Int.toNat (IntKind.wrap IntKind.i64 (Int.tdiv x_1.2 (2 : Int)))) (0 : Int)
  * (2 : Int) ^ Min.min (Int.toNat (8 : Int)) (IntKind.bits IntKind.u16))) (IntKind.wrap IntKind.u16 (Go.Ad.num1 (List.getD (Go.Lb.splitS x.1 (ByteArray.mk (List.toArray ((46 : UInt8) :: nilL UInt8)))) (Int.toNat x_1.2)
  (Ty.zero Ty.str)) (255 : Int))))) (7 : Nat) (0 : Int) = List.getD (List.set (x_1.1.1 :: x_1.1.2.1 :: x_1.1.2.2.1 :: x_1.1.2.2.2.1 :: x_1.1.2.2.2.2.1 :: x_1.1.2.2.2.2.2.1 :: x_1.1.2.2.2.2.2.2.1 :: x_1.1.2.2.2.2.2.2.2.1
  :: nilL Int) (Int.toNat (IntKind.wrap IntKind.i64 (Int.tdiv x_1.2 (2 : Int)))) (orI IntKind.u16 (IntKind.wrap IntKind.u16 (List.getD (x_1.1.1 :: x_1.1.2.1 :: x_1.1.2.2.1 :: x_1.1.2.2.2.1 :: x_1.1.2.2.2.2.1 ::
  x_1.1.2.2.2.2.2.1 :: x_1.1.2.2.2.2.2.2.1 :: x_1.1.2.2.2.2.2.2.2.1 :: nilL Int) (Int.toNat (IntKind.wrap IntKind.i64 (Int.tdiv x_1.2 (2 : Int)))) (0 : Int) * (2 : Int) ^ Min.min (Int.toNat (8 : Int)) (IntKind.bits
  IntKind.u16))) (IntKind.wrap IntKind.u16 (Go.Ad.num1 (List.getD (Go.Lb.splitS x.1 (ByteArray.mk (List.toArray ((46 : UInt8) :: nilL UInt8)))) (Int.toNat x_1.2) (Ty.zero Ty.str)) (255 : Int))))) (7 : Nat) (0 : Int))))
  ((x_1.1, true, ()) = (Go.Ad.four1 x.1, Go.Ad.four2 x.1, ())))) := by kernel_rfl
theorem v58_eq : vcFn g58 300 Tryd.f58 cSix = (  ∀ (x : ByteArray × Unit), Wr (szOk x.1 = true) → Wr (szOk x.1 = true) ∧ Wr (szOk (cut1 x.1 (ByteArray.mk (List.toArray ((58 : UInt8) :: (58 : UInt8) :: nilL UInt8)))) = true) ∧ Wr (szOk (cut2 x.1 (ByteArray.mk
  (List.toArray ((58 : UInt8) :: (58 : UInt8) :: nilL UInt8)))) = true) ∧ bcase (!Go.Ad.side2 (cut1 x.1 (ByteArray.mk (List.toArray ((58 : UInt8) :: (58 : UInt8) :: nilL UInt8)))) || !Go.Ad.side2 (cut2 x.1 (ByteArray.mk
  (List.toArray ((58 : UInt8) :: (58 : UInt8) :: nilL UInt8))))) (bcase (!Go.Ad.side2 (cut1 x.1 (ByteArray.mk (List.toArray ((58 : UInt8) :: (58 : UInt8) :: nilL UInt8)))) || !Go.Ad.side2 (cut2 x.1 (ByteArray.mk
  (List.toArray ((58 : UInt8) :: (58 : UInt8) :: nilL UInt8))))) ((((0 : Int), (0 : Int), (0 : Int), (0 : Int), (0 : Int), (0 : Int), (0 : Int), (0 : Int), ()), false, ()) = (Go.Ad.six1 x.1, Go.Ad.six2 x.1, ())) (Wr ((0 :
  Int) ≤ (0 : Int)) ∧ Wr ((0 : Int) ≤ (↑(8 : Nat) : Int)) ∧ Wr ((↑(8 : Nat) : Int) ≤ (↑(8 : Nat) : Int)) ∧ Wr ((0 : Int) ≤ IntKind.wrap IntKind.i64 ((8 : Int) - (↑(List.length (Go.Ad.side1 (cut2 x.1 (ByteArray.mk
  (List.toArray ((58 : UInt8) :: (58 : UInt8) :: nilL UInt8)))))) : Int))) ∧ Wr (IntKind.wrap IntKind.i64 ((8 : Int) - (↑(List.length (Go.Ad.side1 (cut2 x.1 (ByteArray.mk (List.toArray ((58 : UInt8) :: (58 : UInt8) ::
  nilL UInt8)))))) : Int)) ≤ (↑(8 : Nat) : Int)) ∧ Wr ((↑(8 : Nat) : Int) ≤ (↑(8 : Nat) : Int)) ∧ ((List.getD (cpL (List.getD (cpL ((0 : Int) :: (0 : Int) :: (0 : Int) :: (0 : Int) :: (0 : Int) :: (0 : Int) :: (0 : Int)
  :: (0 : Int) :: nilL Int) (Int.toNat (0 : Int)) (Int.toNat (↑(8 : Nat) : Int) - Int.toNat (0 : Int)) (Go.Ad.side1 (cut1 x.1 (ByteArray.mk (List.toArray ((58 : UInt8) :: (58 : UInt8) :: nilL UInt8)))))) (0 : Nat) (0 :
  Int) :: List.getD (cpL ((0 : Int) :: (0 : Int) :: (0 : Int) :: (0 : Int) :: (0 : Int) :: (0 : Int) :: (0 : Int) :: (0 : Int) :: nilL Int) (Int.toNat (0 : Int)) (Int.toNat (↑(8 : Nat) : Int) - Int.toNat (0 : Int))
  (Go.Ad.side1 (cut1 x.1 (ByteArray.mk (List.toArray ((58 : UInt8) :: (58 : UInt8) :: nilL UInt8)))))) (1 : Nat) (0 : Int) :: List.getD (cpL ((0 : Int) :: (0 : Int) :: (0 : Int) :: (0 : Int) :: (0 : Int) :: (0 : Int) ::
  (0 : Int) :: (0 : Int) :: nilL Int) (Int.toNat (0 : Int)) (Int.toNat (↑(8 : Nat) : Int) - Int.toNat (0 : Int)) (Go.Ad.side1 (cut1 x.1 (ByteArray.mk (List.toArray ((58 : UInt8) :: (58 : UInt8) :: nilL UInt8)))))) (2 :
  Nat) (0 : Int) :: List.getD (cpL ((0 : Int) :: (0 : Int) :: (0 : Int) :: (0 : Int) :: (0 : Int) :: (0 : Int) :: (0 : Int) :: (0 : Int) :: nilL Int) (Int.toNat (0 : Int)) (Int.toNat (↑(8 : Nat) : Int) - Int.toNat (0 :
  Int)) (Go.Ad.side1 (cut1 x.1 (ByteArray.mk (List.toArray ((58 : UInt8) :: (58 : UInt8) :: nilL UInt8)))))) (3 : Nat) (0 : Int) :: List.getD (cpL ((0 : Int) :: (0 : Int) :: (0 : Int) :: (0 : Int) :: (0 : Int) :: (0 :
  Int) :: (0 : Int) :: (0 : Int) :: nilL Int) (Int.toNat (0 : Int)) (Int.toNat (↑(8 : Nat) : Int) - Int.toNat (0 : Int)) (Go.Ad.side1 (cut1 x.1 (ByteArray.mk (List.toArray ((58 : UInt8) :: (58 : UInt8) :: nilL UInt8))))))
  (4 : Nat) (0 : Int) :: List.getD (cpL ((0 : Int) :: (0 : Int) :: (0 : Int) :: (0 : Int) :: (0 : Int) :: (0 : Int) :: (0 : Int) :: (0 : Int) :: nilL Int) (Int.toNat (0 : Int)) (Int.toNat (↑(8 : Nat) : Int) - Int.toNat (0
  : Int)) (Go.Ad.side1 (cut1 x.1 (ByteArray.mk (List.toArray ((58 : UInt8) :: (58 : UInt8) :: nilL UInt8)))))) (5 : Nat) (0 : Int) :: List.getD (cpL ((0 : Int) :: (0 : Int) :: (0 : Int) :: (0 : Int) :: (0 : Int) :: (0 :
  Int) :: (0 : Int) :: (0 : Int) :: nilL Int) (Int.toNat (0 : Int)) (Int.toNat (↑(8 : Nat) : Int) - Int.toNat (0 : Int)) (Go.Ad.side1 (cut1 x.1 (ByteArray.mk (List.toArray ((58 : UInt8) :: (58 : UInt8) :: nilL UInt8))))))
  (6 : Nat) (0 : Int) :: List.getD (cpL ((0 : Int) :: (0 : Int) :: (0 : Int) :: (0 : Int) :: (0 : Int) :: (0 : Int) :: (0 : Int) :: (0 : Int) :: nilL Int) (Int.toNat (0 : Int)) (Int.toNat (↑(8 : Nat) : Int) - Int.toNat (0
  : Int)) (Go.Ad.side1 (cut1 x.1 (ByteArray.mk (List.toArray ((58 : UInt8) :: (58 : UInt8) :: nilL UInt8)))))) (7 : Nat) (0 : Int) :: nilL Int) (Int.toNat (IntKind.wrap IntKind.i64 ((8 : Int) - (↑(List.length (Go.Ad.side1
  (cut2 x.1 (ByteArray.mk (List.toArray ((58 : UInt8) :: (58 : UInt8) :: nilL UInt8)))))) : Int)))) (Int.toNat (↑(8 : Nat) : Int) - Int.toNat (IntKind.wrap IntKind.i64 ((8 : Int) - (↑(List.length (Go.Ad.side1 (cut2 x.1
  (ByteArray.mk (List.toArray ((58 : UInt8) :: (58 : UInt8) :: nilL UInt8)))))) : Int)))) (Go.Ad.side1 (cut2 x.1 (ByteArray.mk (List.toArray ((58 : UInt8) :: (58 : UInt8) :: nilL UInt8)))))) (0 : Nat) (0 : Int), List.getD
  (cpL (List.getD (cpL ((0 : Int) :: (0 : Int) :: (0 : Int) :: (0 : Int) :: (0 : Int) :: (0 : Int) :: (0 : Int) :: (0 : Int) :: nilL Int) (Int.toNat (0 : Int)) (Int.toNat (↑(8 : Nat) : Int) - Int.toNat (0 : Int))
  (Go.Ad.side1 (cut1 x.1 (ByteArray.mk (List.toArray ((58 : UInt8) :: (58 : UInt8) :: nilL UInt8)))))) (0 : Nat) (0 : Int) :: List.getD (cpL ((0 : Int) :: (0 : Int) :: (0 : Int) :: (0 : Int) :: (0 : Int) :: (0 : Int) ::
  (0 : Int) :: (0 : Int) :: nilL Int) (Int.toNat (0 : Int)) (Int.toNat (↑(8 : Nat) : Int) - Int.toNat (0 : Int)) (Go.Ad.side1 (cut1 x.1 (ByteArray.mk (List.toArray ((58 : UInt8) :: (58 : UInt8) :: nilL UInt8)))))) (1 :
  Nat) (0 : Int) :: List.getD (cpL ((0 : Int) :: (0 : Int) :: (0 : Int) :: (0 : Int) :: (0 : Int) :: (0 : Int) :: (0 : Int) :: (0 : Int) :: nilL Int) (Int.toNat (0 : Int)) (Int.toNat (↑(8 : Nat) : Int) - Int.toNat (0 :
  Int)) (Go.Ad.side1 (cut1 x.1 (ByteArray.mk (List.toArray ((58 : UInt8) :: (58 : UInt8) :: nilL UInt8)))))) (2 : Nat) (0 : Int) :: List.getD (cpL ((0 : Int) :: (0 : Int) :: (0 : Int) :: (0 : Int) :: (0 : Int) :: (0 :
  Int) :: (0 : Int) :: (0 : Int) :: nilL Int) (Int.toNat (0 : Int)) (Int.toNat (↑(8 : Nat) : Int) - Int.toNat (0 : Int)) (Go.Ad.side1 (cut1 x.1 (ByteArray.mk (List.toArray ((58 : UInt8) :: (58 : UInt8) :: nilL UInt8))))))
  (3 : Nat) (0 : Int) :: List.getD (cpL ((0 : Int) :: (0 : Int) :: (0 : Int) :: (0 : Int) :: (0 : Int) :: (0 : Int) :: (0 : Int) :: (0 : Int) :: nilL Int) (Int.toNat (0 : Int)) (Int.toNat (↑(8 : Nat) : Int) - Int.toNat (0
  : Int)) (Go.Ad.side1 (cut1 x.1 (ByteArray.mk (List.toArray ((58 : UInt8) :: (58 : UInt8) :: nilL UInt8)))))) (4 : Nat) (0 : Int) :: List.getD (cpL ((0 : Int) :: (0 : Int) :: (0 : Int) :: (0 : Int) :: (0 : Int) :: (0 :
  Int) :: (0 : Int) :: (0 : Int) :: nilL Int) (Int.toNat (0 : Int)) (Int.toNat (↑(8 : Nat) : Int) - Int.toNat (0 : Int)) (Go.Ad.side1 (cut1 x.1 (ByteArray.mk (List.toArray ((58 : UInt8) :: (58 : UInt8) :: nilL UInt8))))))
  (5 : Nat) (0 : Int) :: List.getD (cpL ((0 : Int) :: (0 : Int) :: (0 : Int) :: (0 : Int) :: (0 : Int) :: (0 : Int) :: (0 : Int) :: (0 : Int) :: nilL Int) (Int.toNat (0 : Int)) (Int.toNat (↑(8 : Nat) : Int) - Int.toNat (0
  : Int)) (Go.Ad.side1 (cut1 x.1 (ByteArray.mk (List.toArray ((58 : UInt8) :: (58 : UInt8) :: nilL UInt8)))))) (6 : Nat) (0 : Int) :: List.getD (cpL ((0 : Int) :: (0 : Int) :: (0 : Int) :: (0 : Int) :: (0 : Int) :: (0 :
  Int) :: (0 : Int) :: (0 : Int) :: nilL Int) (Int.toNat (0 : Int)) (Int.toNat (↑(8 : Nat) : Int) - Int.toNat (0 : Int)) (Go.Ad.side1 (cut1 x.1 (ByteArray.mk (List.toArray ((58 : UInt8) :: (58 : UInt8) :: nilL UInt8))))))
  (7 : Nat) (0 : Int) :: nilL Int) (Int.toNat (IntKind.wrap IntKind.i64 ((8 : Int) - (↑(List.length (Go.Ad.side1 (cut2 x.1 (ByteArray.mk (List.toArray ((58 : UInt8) :: (58 : UInt8) :: nilL UInt8)))))) : Int)))) (Int.toNat
  (↑(8 : Nat) : Int) - Int.toNat (IntKind.wrap IntKind.i64 ((8 : Int) - (↑(List.length (Go.Ad.side1 (cut2 x.1 (ByteArray.mk (List.toArray ((58 : UInt8) :: (58 : UInt8) :: nilL UInt8)))))) : Int)))) (Go.Ad.side1 (cut2 x.1
  (ByteArray.mk (List.toArray ((58 : UInt8) :: (58 : UInt8) :: nilL UInt8)))))) (1 : Nat) (0 : Int), List.getD (cpL (List.getD (cpL ((0 : Int) :: (0 : Int) :: (0 : Int) :: (0 : Int) :: (0 : Int) :: (0 : Int) :: (0 : Int)
  :: (0 : Int) :: nilL Int) (Int.toNat (0 : Int)) (Int.toNat (↑(8 : Nat) : Int) - Int.toNat (0 : Int)) (Go.Ad.side1 (cut1 x.1 (ByteArray.mk (List.toArray ((58 : UInt8) :: (58 : UInt8) :: nilL UInt8)))))) (0 : Nat) (0 :
  Int) :: List.getD (cpL ((0 : Int) :: (0 : Int) :: (0 : Int) :: (0 : Int) :: (0 : Int) :: (0 : Int) :: (0 : Int) :: (0 : Int) :: nilL Int) (Int.toNat (0 : Int)) (Int.toNat (↑(8 : Nat) : Int) - Int.toNat (0 : Int))
  (Go.Ad.side1 (cut1 x.1 (ByteArray.mk (List.toArray ((58 : UInt8) :: (58 : UInt8) :: nilL UInt8)))))) (1 : Nat) (0 : Int) :: List.getD (cpL ((0 : Int) :: (0 : Int) :: (0 : Int) :: (0 : Int) :: (0 : Int) :: (0 : Int) ::
  (0 : Int) :: (0 : Int) :: nilL Int) (Int.toNat (0 : Int)) (Int.toNat (↑(8 : Nat) : Int) - Int.toNat (0 : Int)) (Go.Ad.side1 (cut1 x.1 (ByteArray.mk (List.toArray ((58 : UInt8) :: (58 : UInt8) :: nilL UInt8)))))) (2 :
  Nat) (0 : Int) :: List.getD (cpL ((0 : Int) :: (0 : Int) :: (0 : Int) :: (0 : Int) :: (0 : Int) :: (0 : Int) :: (0 : Int) :: (0 : Int) :: nilL Int) (Int.toNat (0 : Int)) (Int.toNat (↑(8 : Nat) : Int) - Int.toNat (0 :
  Int)) (Go.Ad.side1 (cut1 x.1 (ByteArray.mk (List.toArray ((58 : UInt8) :: (58 : UInt8) :: nilL UInt8)))))) (3 : Nat) (0 : Int) :: List.getD (cpL ((0 : Int) :: (0 : Int) :: (0 : Int) :: (0 : Int) :: (0 : Int) :: (0 :
  Int) :: (0 : Int) :: (0 : Int) :: nilL Int) (Int.toNat (0 : Int)) (Int.toNat (↑(8 : Nat) : Int) - Int.toNat (0 : Int)) (Go.Ad.side1 (cut1 x.1 (ByteArray.mk (List.toArray ((58 : UInt8) :: (58 : UInt8) :: nilL UInt8))))))
  (4 : Nat) (0 : Int) :: List.getD (cpL ((0 : Int) :: (0 : Int) :: (0 : Int) :: (0 : Int) :: (0 : Int) :: (0 : Int) :: (0 : Int) :: (0 : Int) :: nilL Int) (Int.toNat (0 : Int)) (Int.toNat (↑(8 : Nat) : Int) - Int.toNat (0
  : Int)) (Go.Ad.side1 (cut1 x.1 (ByteArray.mk (List.toArray ((58 : UInt8) :: (58 : UInt8) :: nilL UInt8)))))) (5 : Nat) (0 : Int) :: List.getD (cpL ((0 : Int) :: (0 : Int) :: (0 : Int) :: (0 : Int) :: (0 : Int) :: (0 :
  Int) :: (0 : Int) :: (0 : Int) :: nilL Int) (Int.toNat (0 : Int)) (Int.toNat (↑(8 : Nat) : Int) - Int.toNat (0 : Int)) (Go.Ad.side1 (cut1 x.1 (ByteArray.mk (List.toArray ((58 : UInt8) :: (58 : UInt8) :: nilL UInt8))))))
  (6 : Nat) (0 : Int) :: List.getD (cpL ((0 : Int) :: (0 : Int) :: (0 : Int) :: (0 : Int) :: (0 : Int) :: (0 : Int) :: (0 : Int) :: (0 : Int) :: nilL Int) (Int.toNat (0 : Int)) (Int.toNat (↑(8 : Nat) : Int) - Int.toNat (0
  : Int)) (Go.Ad.side1 (cut1 x.1 (ByteArray.mk (List.toArray ((58 : UInt8) :: (58 : UInt8) :: nilL UInt8)))))) (7 : Nat) (0 : Int) :: nilL Int) (Int.toNat (IntKind.wrap IntKind.i64 ((8 : Int) - (↑(List.length (Go.Ad.side1
  (cut2 x.1 (ByteArray.mk (List.toArray ((58 : UInt8) :: (58 : UInt8) :: nilL UInt8)))))) : Int)))) (Int.toNat (↑(8 : Nat) : Int) - Int.toNat (IntKind.wrap IntKind.i64 ((8 : Int) - (↑(List.length (Go.Ad.side1 (cut2 x.1
  (ByteArray.mk (List.toArray ((58 : UInt8) :: (58 : UInt8) :: nilL UInt8)))))) : Int)))) (Go.Ad.side1 (cut2 x.1 (ByteArray.mk (List.toArray ((58 : UInt8) :: (58 : UInt8) :: nilL UInt8)))))) (2 : Nat) (0 : Int), List.getD
  (cpL (List.getD (cpL ((0 : Int) :: (0 : Int) :: (0 : Int) :: (0 : Int) :: (0 : Int) :: (0 : Int) :: (0 : Int) :: (0 : Int) :: nilL Int) (Int.toNat (0 : Int)) (Int.toNat (↑(8 : Nat) : Int) - Int.toNat (0 : Int))
  (Go.Ad.side1 (cut1 x.1 (ByteArray.mk (List.toArray ((58 : UInt8) :: (58 : UInt8) :: nilL UInt8)))))) (0 : Nat) (0 : Int) :: List.getD (cpL ((0 : Int) :: (0 : Int) :: (0 : Int) :: (0 : Int) :: (0 : Int) :: (0 : Int) ::
  (0 : Int) :: (0 : Int) :: nilL Int) (Int.toNat (0 : Int)) (Int.toNat (↑(8 : Nat) : Int) - Int.toNat (0 : Int)) (Go.Ad.side1 (cut1 x.1 (ByteArray.mk (List.toArray ((58 : UInt8) :: (58 : UInt8) :: nilL UInt8)))))) (1 :
  Nat) (0 : Int) :: List.getD (cpL ((0 : Int) :: (0 : Int) :: (0 : Int) :: (0 : Int) :: (0 : Int) :: (0 : Int) :: (0 : Int) :: (0 : Int) :: nilL Int) (Int.toNat (0 : Int)) (Int.toNat (↑(8 : Nat) : Int) - Int.toNat (0 :
  Int)) (Go.Ad.side1 (cut1 x.1 (ByteArray.mk (List.toArray ((58 : UInt8) :: (58 : UInt8) :: nilL UInt8)))))) (2 : Nat) (0 : Int) :: List.getD (cpL ((0 : Int) :: (0 : Int) :: (0 : Int) :: (0 : Int) :: (0 : Int) :: (0 :
  Int) :: (0 : Int) :: (0 : Int) :: nilL Int) (Int.toNat (0 : Int)) (Int.toNat (↑(8 : Nat) : Int) - Int.toNat (0 : Int)) (Go.Ad.side1 (cut1 x.1 (ByteArray.mk (List.toArray ((58 : UInt8) :: (58 : UInt8) :: nilL UInt8))))))
  (3 : Nat) (0 : Int) :: List.getD (cpL ((0 : Int) :: (0 : Int) :: (0 : Int) :: (0 : Int) :: (0 : Int) :: (0 : Int) :: (0 : Int) :: (0 : Int) :: nilL Int) (Int.toNat (0 : Int)) (Int.toNat (↑(8 : Nat) : Int) - Int.toNat (0
  : Int)) (Go.Ad.side1 (cut1 x.1 (ByteArray.mk (List.toArray ((58 : UInt8) :: (58 : UInt8) :: nilL UInt8)))))) (4 : Nat) (0 : Int) :: List.getD (cpL ((0 : Int) :: (0 : Int) :: (0 : Int) :: (0 : Int) :: (0 : Int) :: (0 :
  Int) :: (0 : Int) :: (0 : Int) :: nilL Int) (Int.toNat (0 : Int)) (Int.toNat (↑(8 : Nat) : Int) - Int.toNat (0 : Int)) (Go.Ad.side1 (cut1 x.1 (ByteArray.mk (List.toArray ((58 : UInt8) :: (58 : UInt8) :: nilL UInt8))))))
  (5 : Nat) (0 : Int) :: List.getD (cpL ((0 : Int) :: (0 : Int) :: (0 : Int) :: (0 : Int) :: (0 : Int) :: (0 : Int) :: (0 : Int) :: (0 : Int) :: nilL Int) (Int.toNat (0 : Int)) (Int.toNat (↑(8 : Nat) : Int) - Int.toNat (0
  : Int)) (Go.Ad.side1 (cut1 x.1 (ByteArray.mk (List.toArray ((58 : UInt8) :: (58 : UInt8) :: nilL UInt8)))))) (6 : Nat) (0 : Int) :: List.getD (cpL ((0 : Int) :: (0 : Int) :: (0 : Int) :: (0 : Int) :: (0 : Int) :: (0 :
  Int) :: (0 : Int) :: (0 : Int) :: nilL Int) (Int.toNat (0 : Int)) (Int.toNat (↑(8 : Nat) : Int) - Int.toNat (0 : Int)) (Go.Ad.side1 (cut1 x.1 (ByteArray.mk (List.toArray ((58 : UInt8) :: (58 : UInt8) :: nilL UInt8))))))
  (7 : Nat) (0 : Int) :: nilL Int) (Int.toNat (IntKind.wrap IntKind.i64 ((8 : Int) - (↑(List.length (Go.Ad.side1 (cut2 x.1 (ByteArray.mk (List.toArray ((58 : UInt8) :: (58 : UInt8) :: nilL UInt8)))))) : Int)))) (Int.toNat
  (↑(8 : Nat) : Int) - Int.toNat (IntKind.wrap IntKind.i64 ((8 : Int) - (↑(List.length (Go.Ad.side1 (cut2 x.1 (ByteArray.mk (List.toArray ((58 : UInt8) :: (58 : UInt8) :: nilL UInt8)))))) : Int)))) (Go.Ad.side1 (cut2 x.1
  (ByteArray.mk (List.toArray ((58 : UInt8) :: (58 : UInt8) :: nilL UInt8)))))) (3 : Nat) (0 : Int), List.getD (cpL (List.getD (cpL ((0 : Int) :: (0 : Int) :: (0 : Int) :: (0 : Int) :: (0 : Int) :: (0 : Int) :: (0 : Int)
  :: (0 : Int) :: nilL Int) (Int.toNat (0 : Int)) (Int.toNat (↑(8 : Nat) : Int) - Int.toNat (0 : Int)) (Go.Ad.side1 (cut1 x.1 (ByteArray.mk (List.toArray ((58 : UInt8) :: (58 : UInt8) :: nilL UInt8)))))) (0 : Nat) (0 :
  Int) :: List.getD (cpL ((0 : Int) :: (0 : Int) :: (0 : Int) :: (0 : Int) :: (0 : Int) :: (0 : Int) :: (0 : Int) :: (0 : Int) :: nilL Int) (Int.toNat (0 : Int)) (Int.toNat (↑(8 : Nat) : Int) - Int.toNat (0 : Int))
  (Go.Ad.side1 (cut1 x.1 (ByteArray.mk (List.toArray ((58 : UInt8) :: (58 : UInt8) :: nilL UInt8)))))) (1 : Nat) (0 : Int) :: List.getD (cpL ((0 : Int) :: (0 : Int) :: (0 : Int) :: (0 : Int) :: (0 : Int) :: (0 : Int) ::
  (0 : Int) :: (0 : Int) :: nilL Int) (Int.toNat (0 : Int)) (Int.toNat (↑(8 : Nat) : Int) - Int.toNat (0 : Int)) (Go.Ad.side1 (cut1 x.1 (ByteArray.mk (List.toArray ((58 : UInt8) :: (58 : UInt8) :: nilL UInt8)))))) (2 :
  Nat) (0 : Int) :: List.getD (cpL ((0 : Int) :: (0 : Int) :: (0 : Int) :: (0 : Int) :: (0 : Int) :: (0 : Int) :: (0 : Int) :: (0 : Int) :: nilL Int) (Int.toNat (0 : Int)) (Int.toNat (↑(8 : Nat) : Int) - Int.toNat (0 :
  Int)) (Go.Ad.side1 (cut1 x.1 (ByteArray.mk (List.toArray ((58 : UInt8) :: (58 : UInt8) :: nilL UInt8)))))) (3 : Nat) (0 : Int) :: List.getD (cpL ((0 : Int) :: (0 : Int) :: (0 : Int) :: (0 : Int) :: (0 : Int) :: (0 :
  Int) :: (0 : Int) :: (0 : Int) :: nilL Int) (Int.toNat (0 : Int)) (Int.toNat (↑(8 : Nat) : Int) - Int.toNat (0 : Int)) (Go.Ad.side1 (cut1 x.1 (ByteArray.mk (List.toArray ((58 : UInt8) :: (58 : UInt8) :: nilL UInt8))))))
  (4 : Nat) (0 : Int) :: List.getD (cpL ((0 : Int) :: (0 : Int) :: (0 : Int) :: (0 : Int) :: (0 : Int) :: (0 : Int) :: (0 : Int) :: (0 : Int) :: nilL Int) (Int.toNat (0 : Int)) (Int.toNat (↑(8 : Nat) : Int) - Int.toNat (0
  : Int)) (Go.Ad.side1 (cut1 x.1 (ByteArray.mk (List.toArray ((58 : UInt8) :: (58 : UInt8) :: nilL UInt8)))))) (5 : Nat) (0 : Int) :: List.getD (cpL ((0 : Int) :: (0 : Int) :: (0 : Int) :: (0 : Int) :: (0 : Int) :: (0 :
  Int) :: (0 : Int) :: (0 : Int) :: nilL Int) (Int.toNat (0 : Int)) (Int.toNat (↑(8 : Nat) : Int) - Int.toNat (0 : Int)) (Go.Ad.side1 (cut1 x.1 (ByteArray.mk (List.toArray ((58 : UInt8) :: (58 : UInt8) :: nilL UInt8))))))
  (6 : Nat) (0 : Int) :: List.getD (cpL ((0 : Int) :: (0 : Int) :: (0 : Int) :: (0 : Int) :: (0 : Int) :: (0 : Int) :: (0 : Int) :: (0 : Int) :: nilL Int) (Int.toNat (0 : Int)) (Int.toNat (↑(8 : Nat) : Int) - Int.toNat (0
  : Int)) (Go.Ad.side1 (cut1 x.1 (ByteArray.mk (List.toArray ((58 : UInt8) :: (58 : UInt8) :: nilL UInt8)))))) (7 : Nat) (0 : Int) :: nilL Int) (Int.toNat (IntKind.wrap IntKind.i64 ((8 : Int) - (↑(List.length (Go.Ad.side1
  (cut2 x.1 (ByteArray.mk (List.toArray ((58 : UInt8) :: (58 : UInt8) :: nilL UInt8)))))) : Int)))) (Int.toNat (↑(8 : Nat) : Int) - Int.toNat (IntKind.wrap IntKind.i64 ((8 : Int) - (↑(List.length (Go.Ad.side1 (cut2 x.1
  (ByteArray.mk (List.toArray ((58 : UInt8) :: (58 : UInt8) :: nilL UInt8)))))) : Int)))) (Go.Ad.side1 (cut2 x.1 (ByteArray.mk (List.toArray ((58 : UInt8) :: (58 : UInt8) :: nilL UInt8)))))) (4 : Nat) (0 : Int), List.getD
  (cpL (List.getD (cpL ((0 : Int) :: (0 : Int) :: (0 : Int) :: (0 : Int) :: (0 : Int) :: (0 : Int) :: (0 : Int) :: (0 : Int) :: nilL Int) (Int.toNat (0 : Int)) (Int.toNat (↑(8 : Nat) : Int) - Int.toNat (0 : Int))
  (Go.Ad.side1 (cut1 x.1 (ByteArray.mk (List.toArray ((58 : UInt8) :: (58 : UInt8) :: nilL UInt8)))))) (0 : Nat) (0 : Int) :: List.getD (cpL ((0 : Int) :: (0 : Int) :: (0 : Int) :: (0 : Int) :: (0 : Int) :: (0 : Int) ::
  (0 : Int) :: (0 : Int) :: nilL Int) (Int.toNat (0 : Int)) (Int.toNat (↑(8 : Nat) : Int) - Int.toNat (0 : Int)) (Go.Ad.side1 (cut1 x.1 (ByteArray.mk (List.toArray ((58 : UInt8) :: (58 : UInt8) :: nilL UInt8)))))) (1 :
  Nat) (0 : Int) :: List.getD (cpL ((0 : Int) :: (0 : Int) :: (0 : Int) :: (0 : Int) :: (0 : Int) :: (0 : Int) :: (0 : Int) :: (0 : Int) :: nilL Int) (Int.toNat (0 : Int)) (Int.toNat (↑(8 : Nat) : Int) - Int.toNat (0 :
  Int)) (Go.Ad.side1 (cut1 x.1 (ByteArray.mk (List.toArray ((58 : UInt8) :: (58 : UInt8) :: nilL UInt8)))))) (2 : Nat) (0 : Int) :: List.getD (cpL ((0 : Int) :: (0 : Int) :: (0 : Int) :: (0 : Int) :: (0 : Int) :: (0 :
  Int) :: (0 : Int) :: (0 : Int) :: nilL Int) (Int.toNat (0 : Int)) (Int.toNat (↑(8 : Nat) : Int) - Int.toNat (0 : Int)) (Go.Ad.side1 (cut1 x.1 (ByteArray.mk (List.toArray ((58 : UInt8) :: (58 : UInt8) :: nilL UInt8))))))
  (3 : Nat) (0 : Int) :: List.getD (cpL ((0 : Int) :: (0 : Int) :: (0 : Int) :: (0 : Int) :: (0 : Int) :: (0 : Int) :: (0 : Int) :: (0 : Int) :: nilL Int) (Int.toNat (0 : Int)) (Int.toNat (↑(8 : Nat) : Int) - Int.toNat (0
  : Int)) (Go.Ad.side1 (cut1 x.1 (ByteArray.mk (List.toArray ((58 : UInt8) :: (58 : UInt8) :: nilL UInt8)))))) (4 : Nat) (0 : Int) :: List.getD (cpL ((0 : Int) :: (0 : Int) :: (0 : Int) :: (0 : Int) :: (0 : Int) :: (0 :
  Int) :: (0 : Int) :: (0 : Int) :: nilL Int) (Int.toNat (0 : Int)) (Int.toNat (↑(8 : Nat) : Int) - Int.toNat (0 : Int)) (Go.Ad.side1 (cut1 x.1 (ByteArray.mk (List.toArray ((58 : UInt8) :: (58 : UInt8) :: nilL UInt8))))))
  (5 : Nat) (0 : Int) :: List.getD (cpL ((0 : Int) :: (0 : Int) :: (0 : Int) :: (0 : Int) :: (0 : Int) :: (0 : Int) :: (0 : Int) :: (0 : Int) :: nilL Int) (Int.toNat (0 : Int)) (Int.toNat (↑(8 : Nat) : Int) - Int.toNat (0
  : Int)) (Go.Ad.side1 (cut1 x.1 (ByteArray.mk (List.toArray ((58 : UInt8) :: (58 : UInt8) :: nilL UInt8)))))) (6 : Nat) (0 : Int) :: List.getD (cpL ((0 : Int) :: (0 : Int) :: (0 : Int) :: (0 : Int) :: (0 : Int) :: (0 :
  Int) :: (0 : Int) :: (0 : Int) :: nilL Int) (Int.toNat (0 : Int)) (Int.toNat (↑(8 : Nat) : Int) - Int.toNat (0 : Int)) (Go.Ad.side1 (cut1 x.1 (ByteArray.mk (List.toArray ((58 : UInt8) :: (58 : UInt8) :: nilL UInt8))))))
  (7 : Nat) (0 : Int) :: nilL Int) (Int.toNat (IntKind.wrap IntKind.i64 ((8 : Int) - (↑(List.length (Go.Ad.side1 (cut2 x.1 (ByteArray.mk (List.toArray ((58 : UInt8) :: (58 : UInt8) :: nilL UInt8)))))) : Int)))) (Int.toNat
  (↑(8 : Nat) : Int) - Int.toNat (IntKind.wrap IntKind.i64 ((8 : Int) - (↑(List.length (Go.Ad.side1 (cut2 x.1 (ByteArray.mk (List.toArray ((58 : UInt8) :: (58 : UInt8) :: nilL UInt8)))))) : Int)))) (Go.Ad.side1 (cut2 x.1
  (ByteArray.mk (List.toArray ((58 : UInt8) :: (58 : UInt8) :: nilL UInt8)))))) (5 : Nat) (0 : Int), List.getD (cpL (List.getD (cpL ((0 : Int) :: (0 : Int) :: (0 : Int) :: (0 : Int) :: (0 : Int) :: (0 : Int) :: (0 : Int)
  :: (0 : Int) :: nilL Int) (Int.toNat (0 : Int)) (Int.toNat (↑(8 : Nat) : Int) - Int.toNat (0 : Int)) (Go.Ad.side1 (cut1 x.1 (ByteArray.mk (List.toArray ((58 : UInt8) :: (58 : UInt8) :: nilL UInt8)))))) (0 : Nat) (0 :
  Int) :: List.getD (cpL ((0 : Int) :: (0 : Int) :: (0 : Int) :: (0 : Int) :: (0 : Int) :: (0 : Int) :: (0 : Int) :: (0 : Int) :: nilL Int) (Int.toNat (0 : Int)) (Int.toNat (↑(8 : Nat) : Int) - Int.toNat (0 : Int))
  (Go.Ad.side1 (cut1 x.1 (ByteArray.mk (List.toArray ((58 : UInt8) :: (58 : UInt8) :: nilL UInt8)))))) (1 : Nat) (0 : Int) :: List.getD (cpL ((0 : Int) :: (0 : Int) :: (0 : Int) :: (0 : Int) :: (0 : Int) :: (0 : Int) ::
  (0 : Int) :: (0 : Int) :: nilL Int) (Int.toNat (0 : Int)) (Int.toNat (↑(8 : Nat) : Int) - Int.toNat (0 : Int)) (Go.Ad.side1 (cut1 x.1 (ByteArray.mk (List.toArray ((58 : UInt8) :: (58 : UInt8) :: nilL UInt8)))))) (2 :
  Nat) (0 : Int) :: List.getD (cpL ((0 : Int) :: (0 : Int) :: (0 : Int) :: (0 : Int) :: (0 : Int) :: (0 : Int) :: (0 : Int) :: (0 : Int) :: nilL Int) (Int.toNat (0 : Int)) (Int.toNat (↑(8 : Nat) : Int) - Int.toNat (0 :
  Int)) (Go.Ad.side1 (cut1 x.1 (ByteArray.mk (List.toArray ((58 : UInt8) :: (58 : UInt8) :: nilL UInt8)))))) (3 : Nat) (0 : Int) :: List.getD (cpL ((0 : Int) :: (0 : Int) :: (0 : Int) :: (0 : Int) :: (0 : Int) :: (0 :
  Int) :: (0 : Int) :: (0 : Int) :: nilL Int) (Int.toNat (0 : Int)) (Int.toNat (↑(8 : Nat) : Int) - Int.toNat (0 : Int)) (Go.Ad.side1 (cut1 x.1 (ByteArray.mk (List.toArray ((58 : UInt8) :: (58 : UInt8) :: nilL UInt8))))))
  (4 : Nat) (0 : Int) :: List.getD (cpL ((0 : Int) :: (0 : Int) :: (0 : Int) :: (0 : Int) :: (0 : Int) :: (0 : Int) :: (0 : Int) :: (0 : Int) :: nilL Int) (Int.toNat (0 : Int)) (Int.toNat (↑(8 : Nat) : Int) - Int.toNat (0
  : Int)) (Go.Ad.side1 (cut1 x.1 (ByteArray.mk (List.toArray ((58 : UInt8) :: (58 : UInt8) :: nilL UInt8)))))) (5 : Nat) (0 : Int) :: List.getD (cpL ((0 : Int) :: (0 : Int) :: (0 : Int) :: (0 : Int) :: (0 : Int) :: (0 :
  Int) :: (0 : Int) :: (0 : Int) :: nilL Int) (Int.toNat (0 : Int)) (Int.toNat (↑(8 : Nat) : Int) - Int.toNat (0 : Int)) (Go.Ad.side1 (cut1 x.1 (ByteArray.mk (List.toArray ((58 : UInt8) :: (58 : UInt8) :: nilL UInt8))))))
  (6 : Nat) (0 : Int) :: List.getD (cpL ((0 : Int) :: (0 : Int) :: (0 : Int) :: (0 : Int) :: (0 : Int) :: (0 : Int) :: (0 : Int) :: (0 : Int) :: nilL Int) (Int.toNat (0 : Int)) (Int.toNat (↑(8 : Nat) : Int) - Int.toNat (0
  : Int)) (Go.Ad.side1 (cut1 x.1 (ByteArray.mk (List.toArray ((58 : UInt8) :: (58 : UInt8) :: nilL UInt8)))))) (7 : Nat) (0 : Int) :: nilL Int) (Int.toNat (IntKind.wrap IntKind.i64 ((8 : Int) - (↑(List.length (Go.Ad.side1
  (cut2 x.1 (ByteArray.mk (List.toArray ((58 : UInt8) :: (58 : UInt8) :: nilL UInt8)))))) : Int)))) (Int.toNat (↑(8 : Nat) : Int) - Int.toNat (IntKind.wrap IntKind.i64 ((8 : Int) - (↑(List.length (Go.Ad.side1 (cut2 x.1
  (ByteArray.mk (List.toArray ((58 : UInt8) :: (58 : UInt8) :: nilL UInt8)))))) : Int)))) (Go.Ad.side1 (cut2 x.1 (ByteArray.mk (List.toArray ((58 : UInt8) :: (58 : UInt8) :: nilL UInt8)))))) (6 : Nat) (0 : Int), List.getD
  (cpL (List.getD (cpL ((0 : Int) :: (0 : Int) :: (0 : Int) :: (0 : Int) :: (0 : Int) :: (0 : Int) :: (0 : Int) :: (0 : Int) :: nilL Int) (Int.toNat (0 : Int)) (Int.toNat (↑(8 : Nat) : Int) - Int.toNat (0 : Int))
  (Go.Ad.side1 (cut1 x.1 (ByteArray.mk (List.toArray ((58 : UInt8) :: (58 : UInt8) :: nilL UInt8)))))) (0 : Nat) (0 : Int) :: List.getD (cpL ((0 : Int) :: (0 : Int) :: (0 : Int) :: (0 : Int) :: (0 : Int) :: (0 : Int) ::
  (0 : Int) :: (0 : Int) :: nilL Int) (Int.toNat (0 : Int)) (Int.toNat (↑(8 : Nat) : Int) - Int.toNat (0 : Int)) (Go.Ad.side1 (cut1 x.1 (ByteArray.mk (List.toArray ((58 : UInt8) :: (58 : UInt8) :: nilL UInt8)))))) (1 :
  Nat) (0 : Int) :: List.getD (cpL ((0 : Int) :: (0 : Int) :: (0 : Int) :: (0 : Int) :: (0 : Int) :: (0 : Int) :: (0 : Int) :: (0 : Int) :: nilL Int) (Int.toNat (0 : Int)) (Int.toNat (↑(8 : Nat) : Int) - Int.toNat (0 :
  Int)) (Go.Ad.side1 (cut1 x.1 (ByteArray.mk (List.toArray ((58 : UInt8) :: (58 : UInt8) :: nilL UInt8)))))) (2 : Nat) (0 : Int) :: List.getD (cpL ((0 : Int) :: (0 : Int) :: (0 : Int) :: (0 : Int) :: (0 : Int) :: (0 :
  Int) :: (0 : Int) :: (0 : Int) :: nilL Int) (Int.toNat (0 : Int)) (Int.toNat (↑(8 : Nat) : Int) - Int.toNat (0 : Int)) (Go.Ad.side1 (cut1 x.1 (ByteArray.mk (List.toArray ((58 : UInt8) :: (58 : UInt8) :: nilL UInt8))))))
  (3 : Nat) (0 : Int) :: List.getD (cpL ((0 : Int) :: (0 : Int) :: (0 : Int) :: (0 : Int) :: (0 : Int) :: (0 : Int) :: (0 : Int) :: (0 : Int) :: nilL Int) (Int.toNat (0 : Int)) (Int.toNat (↑(8 : Nat) : Int) - Int.toNat (0
  : Int)) (Go.Ad.side1 (cut1 x.1 (ByteArray.mk (List.toArray ((58 : UInt8) :: (58 : UInt8) :: nilL UInt8)))))) (4 : Nat) (0 : Int) :: List.getD (cpL ((0 : Int) :: (0 : Int) :: (0 : Int) :: (0 : Int) :: (0 : Int) :: (0 :
  Int) :: (0 : Int) :: (0 : Int) :: nilL Int) (Int.toNat (0 : Int)) (Int.toNat (↑(8 : Nat) : Int) - Int.toNat (0 : Int)) (Go.Ad.side1 (cut1 x.1 (ByteArray.mk (List.toArray ((58 : UInt8) :: (58 : UInt8) :: nilL UInt8))))))
  (5 : Nat) (0 : Int) :: List.getD (cpL ((0 : Int) :: (0 : Int) :: (0 : Int) :: (0 : Int) :: (0 : Int) :: (0 : Int) :: (0 : Int) :: (0 : Int) :: nilL Int) (Int.toNat (0 : Int)) (Int.toNat (↑(8 : Nat) : Int) - Int.toNat (0
  : Int)) (Go.Ad.side1 (cut1 x.1 (ByteArray.mk (List.toArray ((58 : UInt8) :: (58 : UInt8) :: nilL UInt8)))))) (6 : Nat) (0 : Int) :: List.getD (cpL ((0 : Int) :: (0 : Int) :: (0 : Int) :: (0 : Int) :: (0 : Int) :: (0 :
  Int) :: (0 : Int) :: (0 : Int) :: nilL Int) (Int.toNat (0 : Int)) (Int.toNat (↑(8 : Nat) : Int) - Int.toNat (0 : Int)) (Go.Ad.side1 (cut1 x.1 (ByteArray.mk (List.toArray ((58 : UInt8) :: (58 : UInt8) :: nilL UInt8))))))
  (7 : Nat) (0 : Int) :: nilL Int) (Int.toNat (IntKind.wrap IntKind.i64 ((8 : Int) - (↑(List.length (Go.Ad.side1 (cut2 x.1 (ByteArray.mk (List.toArray ((58 : UInt8) :: (58 : UInt8) :: nilL UInt8)))))) : Int)))) (Int.toNat
  (↑(8 : Nat) : Int) - Int.toNat (IntKind.wrap IntKind.i64 ((8 : Int) - (↑(List.length (Go.Ad.side1 (cut2 x.1 (ByteArray.mk (List.toArray ((58 : UInt8) :: (58 : UInt8) :: nilL UInt8)))))) : Int)))) (Go.Ad.side1 (cut2 x.1
  (ByteArray.mk (List.toArray ((58 : UInt8) :: (58 : UInt8) :: nilL UInt8)))))) (7 : Nat) (0 : Int), ()), true, ()) = (Go.Ad.six1 x.1, Go.Ad.six2 x.1, ()))) (bcase (cutOk x.1 (ByteArray.mk (List.toArray ((58 : UInt8) ::
  (58 : UInt8) :: nilL UInt8))) && decide (IntKind.wrap IntKind.i64 ((↑(List.length (Go.Ad.side1 (cut1 x.1 (ByteArray.mk (List.toArray ((58 : UInt8) :: (58 : UInt8) :: nilL UInt8)))))) : Int) + (↑(List.length (Go.Ad.side1
  (cut2 x.1 (ByteArray.mk (List.toArray ((58 : UInt8) :: (58 : UInt8) :: nilL UInt8)))))) : Int)) > (7 : Int))) (bcase (cutOk x.1 (ByteArray.mk (List.toArray ((58 : UInt8) :: (58 : UInt8) :: nilL UInt8))) && decide
  (IntKind.wrap IntKind.i64 ((↑(List.length (Go.Ad.side1 (cut1 x.1 (ByteArray.mk (List.toArray ((58 : UInt8) :: (58 : UInt8) :: nilL UInt8)))))) : Int) + (↑(List.length (Go.Ad.side1 (cut2 x.1 (ByteArray.mk (List.toArray
  ((58 : UInt8) :: (58 : UInt8) :: nilL UInt8)))))) : Int)) > (7 : Int))) ((((0 : Int), (0 : Int), (0 : Int), (0 : Int), (0 : Int), (0 : Int), (0 : Int), (0 : Int), ()), false, ()) = (Go.Ad.six1 x.1, Go.Ad.six2 x.1, ()))
  (Wr ((0 : Int) ≤ (0 : Int)) ∧ Wr ((0 : Int) ≤ (↑(8 : Nat) : Int)) ∧ Wr ((↑(8 : Nat) : Int) ≤ (↑(8 : Nat) : Int)) ∧ Wr ((0 : Int) ≤ IntKind.wrap IntKind.i64 ((8 : Int) - (↑(List.length (Go.Ad.side1 (cut2 x.1
  (ByteArray.mk (List.toArray ((58 : UInt8) :: (58 : UInt8) :: nilL UInt8)))))) : Int))) ∧ Wr (IntKind.wrap IntKind.i64 ((8 : Int) - (↑(List.length (Go.Ad.side1 (cut2 x.1 (ByteArray.mk (List.toArray ((58 : UInt8) :: (58 :
  UInt8) :: nilL UInt8)))))) : Int)) ≤ (↑(8 : Nat) : Int)) ∧ Wr ((↑(8 : Nat) : Int) ≤ (↑(8 : Nat) : Int)) ∧ ((List.getD (cpL (List.getD (cpL ((0 : Int) :: (0 : Int) :: (0 : Int) :: (0 : Int) :: (0 : Int) :: (0 : Int) ::
  (0 : Int) :: (0 : Int) :: nilL Int) (Int.toNat (0 : Int)) (Int.toNat (↑(8 : Nat) : Int) - Int.toNat (0 : Int)) (Go.Ad.side1 (cut1 x.1 (ByteArray.mk (List.toArray ((58 : UInt8) :: (58 : UInt8) :: nilL UInt8)))))) (0 :
  Nat) (0 : Int) :: List.getD (cpL ((0 : Int) :: (0 : Int) :: (0 : Int) :: (0 : Int) :: (0 : Int) :: (0 : Int) :: (0 : Int) :: (0 : Int) :: nilL Int) (Int.toNat (0 : Int)) (Int.toNat (↑(8 : Nat) : Int) - Int.toNat (0 :
  Int)) (Go.Ad.side1 (cut1 x.1 (ByteArray.mk (List.toArray ((58 : UInt8) :: (58 : UInt8) :: nilL UInt8)))))) (1 : Nat) (0 : Int) :: List.getD (cpL ((0 : Int) :: (0 : Int) :: (0 : Int) :: (0 : Int) :: (0 : Int) :: (0 :
  Int) :: (0 : Int) :: (0 : Int) :: nilL Int) (Int.toNat (0 : Int)) (Int.toNat (↑(8 : Nat) : Int) - Int.toNat (0 : Int)) (Go.Ad.side1 (cut1 x.1 (ByteArray.mk (List.toArray ((58 : UInt8) :: (58 : UInt8) :: nilL UInt8))))))
  (2 : Nat) (0 : Int) :: List.getD (cpL ((0 : Int) :: (0 : Int) :: (0 : Int) :: (0 : Int) :: (0 : Int) :: (0 : Int) :: (0 : Int) :: (0 : Int) :: nilL Int) (Int.toNat (0 : Int)) (Int.toNat (↑(8 : Nat) : Int) - Int.toNat (0
  : Int)) (Go.Ad.side1 (cut1 x.1 (ByteArray.mk (List.toArray ((58 : UInt8) :: (58 : UInt8) :: nilL UInt8)))))) (3 : Nat) (0 : Int) :: List.getD (cpL ((0 : Int) :: (0 : Int) :: (0 : Int) :: (0 : Int) :: (0 : Int) :: (0 :
  Int) :: (0 : Int) :: (0 : Int) :: nilL Int) (Int.toNat (0 : Int)) (Int.toNat (↑(8 : Nat) : Int) - Int.toNat (0 : Int)) (Go.Ad.side1 (cut1 x.1 (ByteArray.mk (List.toArray ((58 : UInt8) :: (58 : UInt8) :: nilL UInt8))))))
  (4 : Nat) (0 : Int) :: List.getD (cpL ((0 : Int) :: (0 : Int) :: (0 : Int) :: (0 : Int) :: (0 : Int) :: (0 : Int) :: (0 : Int) :: (0 : Int) :: nilL Int) (Int.toNat (0 : Int)) (Int.toNat (↑(8 : Nat) : Int) - Int.toNat (0
  : Int)) (Go.Ad.side1 (cut1 x.1 (ByteArray.mk (List.toArray ((58 : UInt8) :: (58 : UInt8) :: nilL UInt8)))))) (5 : Nat) (0 : Int) :: List.getD (cpL ((0 : Int) :: (0 : Int) :: (0 : Int) :: (0 : Int) :: (0 : Int) :: (0 :
  Int) :: (0 : Int) :: (0 : Int) :: nilL Int) (Int.toNat (0 : Int)) (Int.toNat (↑(8 : Nat) : Int) - Int.toNat (0 : Int)) (Go.Ad.side1 (cut1 x.1 (ByteArray.mk (List.toArray ((58 : UInt8) :: (58 : UInt8) :: nilL UInt8))))))
  (6 : Nat) (0 : Int) :: List.getD (cpL ((0 : Int) :: (0 : Int) :: (0 : Int) :: (0 : Int) :: (0 : Int) :: (0 : Int) :: (0 : Int) :: (0 : Int) :: nilL Int) (Int.toNat (0 : Int)) (Int.toNat (↑(8 : Nat) : Int) - Int.toNat (0
  : Int)) (Go.Ad.side1 (cut1 x.1 (ByteArray.mk (List.toArray ((58 : UInt8) :: (58 : UInt8) :: nilL UInt8)))))) (7 : Nat) (0 : Int) :: nilL Int) (Int.toNat (IntKind.wrap IntKind.i64 ((8 : Int) - (↑(List.length (Go.Ad.side1
  (cut2 x.1 (ByteArray.mk (List.toArray ((58 : UInt8) :: (58 : UInt8) :: nilL UInt8)))))) : Int)))) (Int.toNat (↑(8 : Nat) : Int) - Int.toNat (IntKind.wrap IntKind.i64 ((8 : Int) - (↑(List.length (Go.Ad.side1 (cut2 x.1
  (ByteArray.mk (List.toArray ((58 : UInt8) :: (58 : UInt8) :: nilL UInt8)))))) : Int)))) (Go.Ad.side1 (cut2 x.1 (ByteArray.mk (List.toArray ((58 : UInt8) :: (58 : UInt8) :: nilL UInt8)))))) (0 : Nat) (0 : Int), List.getD
  (cpL (List.getD (cpL ((0 : Int) :: (0 : Int) :: (0 : Int) :: (0 : Int) :: (0 : Int) :: (0 : Int) :: (0 : Int) :: (0 : Int) :: nilL Int) (Int.toNat (0 : Int)) (Int.toNat (↑(8 : Nat) : Int) - Int.toNat (0 : Int))
  (Go.Ad.side1 (cut1 x.1 (ByteArray.mk (List.toArray ((58 : UInt8) :: (58 : UInt8) :: nilL UInt8)))))) (0 : Nat) (0 : Int) :: List.getD (cpL ((0 : Int) :: (0 : Int) :: (0 : Int) :: (0 : Int) :: (0 : Int) :: (0 : Int) ::
  (0 : Int) :: (0 : Int) :: nilL Int) (Int.toNat (0 : Int)) (Int.toNat (↑(8 : Nat) : Int) - Int.toNat (0 : Int)) (Go.Ad.side1 (cut1 x.1 (ByteArray.mk (List.toArray ((58 : UInt8) :: (58 : UInt8) :: nilL UInt8)))))) (1 :
  Nat) (0 : Int) :: List.getD (cpL ((0 : Int) :: (0 : Int) :: (0 : Int) :: (0 : Int) :: (0 : Int) :: (0 : Int) :: (0 : Int) :: (0 : Int) :: nilL Int) (Int.toNat (0 : Int)) (Int.toNat (↑(8 : Nat) : Int) - Int.toNat (0 :
  Int)) (Go.Ad.side1 (cut1 x.1 (ByteArray.mk (List.toArray ((58 : UInt8) :: (58 : UInt8) :: nilL UInt8)))))) (2 : Nat) (0 : Int) :: List.getD (cpL ((0 : Int) :: (0 : Int) :: (0 : Int) :: (0 : Int) :: (0 : Int) :: (0 :
  Int) :: (0 : Int) :: (0 : Int) :: nilL Int) (Int.toNat (0 : Int)) (Int.toNat (↑(8 : Nat) : Int) - Int.toNat (0 : Int)) (Go.Ad.side1 (cut1 x.1 (ByteArray.mk (List.toArray ((58 : UInt8) :: (58 : UInt8) :: nilL UInt8))))))
  (3 : Nat) (0 : Int) :: List.getD (cpL ((0 : Int) :: (0 : Int) :: (0 : Int) :: (0 : Int) :: (0 : Int) :: (0 : Int) :: (0 : Int) :: (0 : Int) :: nilL Int) (Int.toNat (0 : Int)) (Int.toNat (↑(8 : Nat) : Int) - Int.toNat (0
  : Int)) (Go.Ad.side1 (cut1 x.1 (ByteArray.mk (List.toArray ((58 : UInt8) :: (58 : UInt8) :: nilL UInt8)))))) (4 : Nat) (0 : Int) :: List.getD (cpL ((0 : Int) :: (0 : Int) :: (0 : Int) :: (0 : Int) :: (0 : Int) :: (0 :
  Int) :: (0 : Int) :: (0 : Int) :: nilL Int) (Int.toNat (0 : Int)) (Int.toNat (↑(8 : Nat) : Int) - Int.toNat (0 : Int)) (Go.Ad.side1 (cut1 x.1 (ByteArray.mk (List.toArray ((58 : UInt8) :: (58 : UInt8) :: nilL UInt8))))))
  (5 : Nat) (0 : Int) :: List.getD (cpL ((0 : Int) :: (0 : Int) :: (0 : Int) :: (0 : Int) :: (0 : Int) :: (0 : Int) :: (0 : Int) :: (0 : Int) :: nilL Int) (Int.toNat (0 : Int)) (Int.toNat (↑(8 : Nat) : Int) - Int.toNat (0
  : Int)) (Go.Ad.side1 (cut1 x.1 (ByteArray.mk (List.toArray ((58 : UInt8) :: (58 : UInt8) :: nilL UInt8)))))) (6 : Nat) (0 : Int) :: List.getD (cpL ((0 : Int) :: (0 : Int) :: (0 : Int) :: (0 : Int) :: (0 : Int) :: (0 :
  Int) :: (0 : Int) :: (0 : Int) :: nilL Int) (Int.toNat (0 : Int)) (Int.toNat (↑(8 : Nat) : Int) - Int.toNat (0 : Int)) (Go.Ad.side1 (cut1 x.1 (ByteArray.mk (List.toArray ((58 : UInt8) :: (58 : UInt8) :: nilL UInt8))))))
  (7 : Nat) (0 : Int) :: nilL Int) (Int.toNat (IntKind.wrap IntKind.i64 ((8 : Int) - (↑(List.length (Go.Ad.side1 (cut2 x.1 (ByteArray.mk (List.toArray ((58 : UInt8) :: (58 : UInt8) :: nilL UInt8)))))) : Int)))) (Int.toNat
  (↑(8 : Nat) : Int) - Int.toNat (IntKind.wrap IntKind.i64 ((8 : Int) - (↑(List.length (Go.Ad.side1 (cut2 x.1 (ByteArray.mk (List.toArray ((58 : UInt8) :: (58 : UInt8) :: nilL UInt8)))))) : Int)))) (Go.Ad.side1 (cut2 x.1
  (ByteArray.mk (List.toArray ((58 : UInt8) :: (58 : UInt8) :: nilL UInt8)))))) (1 : Nat) (0 : Int), List.getD (cpL (List.getD (cpL ((0 : Int) :: (0 : Int) :: (0 : Int) :: (0 : Int) :: (0 : Int) :: (0 : Int) :: (0 : Int)
  :: (0 : Int) :: nilL Int) (Int.toNat (0 : Int)) (Int.toNat (↑(8 : Nat) : Int) - Int.toNat (0 : Int)) (Go.Ad.side1 (cut1 x.1 (ByteArray.mk (List.toArray ((58 : UInt8) :: (58 : UInt8) :: nilL UInt8)))))) (0 : Nat) (0 :
  Int) :: List.getD (cpL ((0 : Int) :: (0 : Int) :: (0 : Int) :: (0 : Int) :: (0 : Int) :: (0 : Int) :: (0 : Int) :: (0 : Int) :: nilL Int) (Int.toNat (0 : Int)) (Int.toNat (↑(8 : Nat) : Int) - Int.toNat (0 : Int))
  (Go.Ad.side1 (cut1 x.1 (ByteArray.mk (List.toArray ((58 : UInt8) :: (58 : UInt8) :: nilL UInt8)))))) (1 : Nat) (0 : Int) :: List.getD (cpL ((0 : Int) :: (0 : Int) :: (0 : Int) :: (0 : Int) :: (0 : Int) :: (0 : Int) ::
  (0 : Int) :: (0 : Int) :: nilL Int) (Int.toNat (0 : Int)) (Int.toNat (↑(8 : Nat) : Int) - Int.toNat (0 : Int)) (Go.Ad.side1 (cut1 x.1 (ByteArray.mk (List.toArray ((58 : UInt8) :: (58 : UInt8) :: nilL UInt8)))))) (2 :
  Nat) (0 : Int) :: List.getD (cpL ((0 : Int) :: (0 : Int) :: (0 : Int) :: (0 : Int) :: (0 : Int) :: (0 : Int) :: (0 : Int) :: (0 : Int) :: nilL Int) (Int.toNat (0 : Int)) (Int.toNat (↑(8 : Nat) : Int) - Int.toNat (0 :
  Int)) (Go.Ad.side1 (cut1 x.1 (ByteArray.mk (List.toArray ((58 : UInt8) :: (58 : UInt8) :: nilL UInt8)))))) (3 : Nat) (0 : Int) :: List.getD (cpL ((0 : Int) :: (0 : Int) :: (0 : Int) :: (0 : Int) :: (0 : Int) :: (0 :
  Int) :: (0 : Int) :: (0 : Int) :: nilL Int) (Int.toNat (0 : Int)) (Int.toNat (↑(8 : Nat) : Int) - Int.toNat (0 : Int)) (Go.Ad.side1 (cut1 x.1 (ByteArray.mk (List.toArray ((58 : UInt8) :: (58 : UInt8) :: nilL UInt8))))))
  (4 : Nat) (0 : Int) :: List.getD (cpL ((0 : Int) :: (0 : Int) :: (0 : Int) :: (0 : Int) :: (0 : Int) :: (0 : Int) :: (0 : Int) :: (0 : Int) :: nilL Int) (Int.toNat (0 : Int)) (Int.toNat (↑(8 : Nat) : Int) - Int.toNat (0
  : Int)) (Go.Ad.side1 (cut1 x.1 (ByteArray.mk (List.toArray ((58 : UInt8) :: (58 : UInt8) :: nilL UInt8)))))) (5 : Nat) (0 : Int) :: List.getD (cpL ((0 : Int) :: (0 : Int) :: (0 : Int) :: (0 : Int) :: (0 : Int) :: (0 :
  Int) :: (0 : Int) :: (0 : Int) :: nilL Int) (Int.toNat (0 : Int)) (Int.toNat (↑(8 : Nat) : Int) - Int.toNat (0 : Int)) (Go.Ad.side1 (cut1 x.1 (ByteArray.mk (List.toArray ((58 : UInt8) :: (58 : UInt8) :: nilL UInt8))))))
  (6 : Nat) (0 : Int) :: List.getD (cpL ((0 : Int) :: (0 : Int) :: (0 : Int) :: (0 : Int) :: (0 : Int) :: (0 : Int) :: (0 : Int) :: (0 : Int) :: nilL Int) (Int.toNat (0 : Int)) (Int.toNat (↑(8 : Nat) : Int) - Int.toNat (0
  : Int)) (Go.Ad.side1 (cut1 x.1 (ByteArray.mk (List.toArray ((58 : UInt8) :: (58 : UInt8) :: nilL UInt8)))))) (7 : Nat) (0 : Int) :: nilL Int) (Int.toNat (IntKind.wrap IntKind.i64 ((8 : Int) - (↑(List.length (Go.Ad.side1
  (cut2 x.1 (ByteArray.mk (List.toArray ((58 : UInt8) :: (58 : UInt8) :: nilL UInt8)))))) : Int)))) (Int.toNat (↑(8 : Nat) : Int) - Int.toNat (IntKind.wrap IntKind.i64 ((8 : Int) - (↑(List.length (Go.Ad.side1 (cut2 x.1
  (ByteArray.mk (List.toArray ((58 : UInt8) :: (58 : UInt8) :: nilL UInt8)))))) : Int)))) (Go.Ad.side1 (cut2 x.1 (ByteArray.mk (List.toArray ((58 : UInt8) :: (58 : UInt8) :: nilL UInt8)))))) (2 : Nat) (0 : Int), List.getD
  (cpL (List.getD (cpL ((0 : Int) :: (0 : Int) :: (0 : Int) :: (0 : Int) :: (0 : Int) :: (0 : Int) :: (0 : Int) :: (0 : Int) :: nilL Int) (Int.toNat (0 : Int)) (Int.toNat (↑(8 : Nat) : Int) - Int.toNat (0 : Int))
  (Go.Ad.side1 (cut1 x.1 (ByteArray.mk (List.toArray ((58 : UInt8) :: (58 : UInt8) :: nilL UInt8)))))) (0 : Nat) (0 : Int) :: List.getD (cpL ((0 : Int) :: (0 : Int) :: (0 : Int) :: (0 : Int) :: (0 : Int) :: (0 : Int) ::
  (0 : Int) :: (0 : Int) :: nilL Int) (Int.toNat (0 : Int)) (Int.toNat (↑(8 : Nat) : Int) - Int.toNat (0 : Int)) (Go.Ad.side1 (cut1 x.1 (ByteArray.mk (List.toArray ((58 : UInt8) :: (58 : UInt8) :: nilL UInt8)))))) (1 :
  Nat) (0 : Int) :: List.getD (cpL ((0 : Int) :: (0 : Int) :: (0 : Int) :: (0 : Int) :: (0 : Int) :: (0 : Int) :: (0 : Int) :: (0 : Int) :: nilL Int) (Int.toNat (0 : Int)) (Int.toNat (↑(8 : Nat) : Int) - Int.toNat (0 :
  Int)) (Go.Ad.side1 (cut1 x.1 (ByteArray.mk (List.toArray ((58 : UInt8) :: (58 : UInt8) :: nilL UInt8)))))) (2 : Nat) (0 : Int) :: List.getD (cpL ((0 : Int) :: (0 : Int) :: (0 : Int) :: (0 : Int) :: (0 : Int) :: (0 :
  Int) :: (0 : Int) :: (0 : Int) :: nilL Int) (Int.toNat (0 : Int)) (Int.toNat (↑(8 : Nat) : Int) - Int.toNat (0 : Int)) (Go.Ad.side1 (cut1 x.1 (ByteArray.mk (List.toArray ((58 : UInt8) :: (58 : UInt8) :: nilL UInt8))))))
  (3 : Nat) (0 : Int) :: List.getD (cpL ((0 : Int) :: (0 : Int) :: (0 : Int) :: (0 : Int) :: (0 : Int) :: (0 : Int) :: (0 : Int) :: (0 : Int) :: nilL Int) (Int.toNat (0 : Int)) (Int.toNat (↑(8 : Nat) : Int) - Int.toNat (0
  : Int)) (Go.Ad.side1 (cut1 x.1 (ByteArray.mk (List.toArray ((58 : UInt8) :: (58 : UInt8) :: nilL UInt8)))))) (4 : Nat) (0 : Int) :: List.getD (cpL ((0 : Int) :: (0 : Int) :: (0 : Int) :: (0 : Int) :: (0 : Int) :: (0 :
  Int) :: (0 : Int) :: (0 : Int) :: nilL Int) (Int.toNat (0 : Int)) (Int.toNat (↑(8 : Nat) : Int) - Int.toNat (0 : Int)) (Go.Ad.side1 (cut1 x.1 (ByteArray.mk (List.toArray ((58 : UInt8) :: (58 : UInt8) :: nilL UInt8))))))
  (5 : Nat) (0 : Int) :: List.getD (cpL ((0 : Int) :: (0 : Int) :: (0 : Int) :: (0 : Int) :: (0 : Int) :: (0 : Int) :: (0 : Int) :: (0 : Int) :: nilL Int) (Int.toNat (0 : Int)) (Int.toNat (↑(8 : Nat) : Int) - Int.toNat (0
  : Int)) (Go.Ad.side1 (cut1 x.1 (ByteArray.mk (List.toArray ((58 : UInt8) :: (58 : UInt8) :: nilL UInt8)))))) (6 : Nat) (0 : Int) :: List.getD (cpL ((0 : Int) :: (0 : Int) :: (0 : Int) :: (0 : Int) :: (0 : Int) :: (0 :
  Int) :: (0 : Int) :: (0 : Int) :: nilL Int) (Int.toNat (0 : Int)) (Int.toNat (↑(8 : Nat) : Int) - Int.toNat (0 : Int)) (Go.Ad.side1 (cut1 x.1 (ByteArray.mk (List.toArray ((58 : UInt8) :: (58 : UInt8) :: nilL UInt8))))))
  (7 : Nat) (0 : Int) :: nilL Int) (Int.toNat (IntKind.wrap IntKind.i64 ((8 : Int) - (↑(List.length (Go.Ad.side1 (cut2 x.1 (ByteArray.mk (List.toArray ((58 : UInt8) :: (58 : UInt8) :: nilL UInt8)))))) : Int)))) (Int.toNat
  (↑(8 : Nat) : Int) - Int.toNat (IntKind.wrap IntKind.i64 ((8 : Int) - (↑(List.length (Go.Ad.side1 (cut2 x.1 (ByteArray.mk (List.toArray ((58 : UInt8) :: (58 : UInt8) :: nilL UInt8)))))) : Int)))) (Go.Ad.side1 (cut2 x.1
  (ByteArray.mk (List.toArray ((58 : UInt8) :: (58 : UInt8) :: nilL UInt8)))))) (3 : Nat) (0 : Int), List.getD (cpL (List.getD (cpL ((0 : Int) :: (0 : Int) :: (0 : Int) :: (0 : Int) :: (0 : Int) :: (0 : Int) :: (0 : Int)
  :: (0 : Int) :: nilL Int) (Int.toNat (0 : Int)) (Int.toNat (↑(8 : Nat) : Int) - Int.toNat (0 : Int)) (Go.Ad.side1 (cut1 x.1 (ByteArray.mk (List.toArray ((58 : UInt8) :: (58 : UInt8) :: nilL UInt8)))))) (0 : Nat) (0 :
  Int) :: List.getD (cpL ((0 : Int) :: (0 : Int) :: (0 : Int) :: (0 : Int) :: (0 : Int) :: (0 : Int) :: (0 : Int) :: (0 : Int) :: nilL Int) (Int.toNat (0 : Int)) (Int.toNat (↑(8 : Nat) : Int) - Int.toNat (0 : Int))
  (Go.Ad.side1 (cut1 x.1 (ByteArray.mk (List.toArray ((58 : UInt8) :: (58 : UInt8) :: nilL UInt8)))))) (1 : Nat) (0 : Int) :: List.getD (cpL ((0 : Int) :: (0 : Int) :: (0 : Int) :: (0 : Int) :: (0 : Int) :: (0 : Int) ::
  (0 : Int) :: (0 : Int) :: nilL Int) (Int.toNat (0 : Int)) (Int.toNat (↑(8 : Nat) : Int) - Int.toNat (0 : Int)) (Go.Ad.side1 (cut1 x.1 (ByteArray.mk (List.toArray ((58 : UInt8) :: (58 : UInt8) :: nilL UInt8)))))) (2 :
  Nat) (0 : Int) :: List.getD (cpL ((0 : Int) :: (0 : Int) :: (0 : Int) :: (0 : Int) :: (0 : Int) :: (0 : Int) :: (0 : Int) :: (0 : Int) :: nilL Int) (Int.toNat (0 : Int)) (Int.toNat (↑(8 : Nat) : Int) - Int.toNat (0 :
  Int)) (Go.Ad.side1 (cut1 x.1 (ByteArray.mk (List.toArray ((58 : UInt8) :: (58 : UInt8) :: nilL UInt8)))))) (3 : Nat) (0 : Int) :: List.getD (cpL ((0 : Int) :: (0 : Int) :: (0 : Int) :: (0 : Int) :: (0 : Int) :: (0 :
  Int) :: (0 : Int) :: (0 : Int) :: nilL Int) (Int.toNat (0 : Int)) (Int.toNat (↑(8 : Nat) : Int) - Int.toNat (0 : Int)) (Go.Ad.side1 (cut1 x.1 (ByteArray.mk (List.toArray ((58 : UInt8) :: (58 : UInt8) :: nilL UInt8))))))
  (4 : Nat) (0 : Int) :: List.getD (cpL ((0 : Int) :: (0 : Int) :: (0 : Int) :: (0 : Int) :: (0 : Int) :: (0 : Int) :: (0 : Int) :: (0 : Int) :: nilL Int) (Int.toNat (0 : Int)) (Int.toNat (↑(8 : Nat) : Int) - Int.toNat (0
  : Int)) (Go.Ad.side1 (cut1 x.1 (ByteArray.mk (List.toArray ((58 : UInt8) :: (58 : UInt8) :: nilL UInt8)))))) (5 : Nat) (0 : Int) :: List.getD (cpL ((0 : Int) :: (0 : Int) :: (0 : Int) :: (0 : Int) :: (0 : Int) :: (0 :
  Int) :: (0 : Int) :: (0 : Int) :: nilL Int) (Int.toNat (0 : Int)) (Int.toNat (↑(8 : Nat) : Int) - Int.toNat (0 : Int)) (Go.Ad.side1 (cut1 x.1 (ByteArray.mk (List.toArray ((58 : UInt8) :: (58 : UInt8) :: nilL UInt8))))))
  (6 : Nat) (0 : Int) :: List.getD (cpL ((0 : Int) :: (0 : Int) :: (0 : Int) :: (0 : Int) :: (0 : Int) :: (0 : Int) :: (0 : Int) :: (0 : Int) :: nilL Int) (Int.toNat (0 : Int)) (Int.toNat (↑(8 : Nat) : Int) - Int.toNat (0
  : Int)) (Go.Ad.side1 (cut1 x.1 (ByteArray.mk (List.toArray ((58 : UInt8) :: (58 : UInt8) :: nilL UInt8)))))) (7 : Nat) (0 : Int) :: nilL Int) (Int.toNat (IntKind.wrap IntKind.i64 ((8 : Int) - (↑(List.length (Go.Ad.side1
  (cut2 x.1 (ByteArray.mk (List.toArray ((58 : UInt8) :: (58 : UInt8) :: nilL UInt8)))))) : Int)))) (Int.toNat (↑(8 : Nat) : Int) - Int.toNat (IntKind.wrap IntKind.i64 ((8 : Int) - (↑(List.length (Go.Ad.side1 (cut2 x.1
  (ByteArray.mk (List.toArray ((58 : UInt8) :: (58 : UInt8) :: nilL UInt8)))))) : Int)))) (Go.Ad.side1 (cut2 x.1 (ByteArray.mk (List.toArray ((58 : UInt8) :: (58 : UInt8) :: nilL UInt8)))))) (4 : Nat) (0 : Int), List.getD
  (cpL (List.getD (cpL ((0 : Int) :: (0 : Int) :: (0 : Int) :: (0 : Int) :: (0 : Int) :: (0 : Int) :: (0 : Int) :: (0 : Int) :: nilL Int) (Int.toNat (0 : Int)) (Int.toNat (↑(8 : Nat) : Int) - Int.toNat (0 : Int))
  (Go.Ad.side1 (cut1 x.1 (ByteArray.mk (List.toArray ((58 : UInt8) :: (58 : UInt8) :: nilL UInt8)))))) (0 : Nat) (0 : Int) :: List.getD (cpL ((0 : Int) :: (0 : Int) :: (0 : Int) :: (0 : Int) :: (0 : Int) :: (0 : Int) ::
  (0 : Int) :: (0 : Int) :: nilL Int) (Int.toNat (0 : Int)) (Int.toNat (↑(8 : Nat) : Int) - Int.toNat (0 : Int)) (Go.Ad.side1 (cut1 x.1 (ByteArray.mk (List.toArray ((58 : UInt8) :: (58 : UInt8) :: nilL UInt8)))))) (1 :
  Nat) (0 : Int) :: List.getD (cpL ((0 : Int) :: (0 : Int) :: (0 : Int) :: (0 : Int) :: (0 : Int) :: (0 : Int) :: (0 : Int) :: (0 : Int) :: nilL Int) (Int.toNat (0 : Int)) (Int.toNat (↑(8 : Nat) : Int) - Int.toNat (0 :
  Int)) (Go.Ad.side1 (cut1 x.1 (ByteArray.mk (List.toArray ((58 : UInt8) :: (58 : UInt8) :: nilL UInt8)))))) (2 : Nat) (0 : Int) :: List.getD (cpL ((0 : Int) :: (0 : Int) :: (0 : Int) :: (0 : Int) :: (0 : Int) :: (0 :
  Int) :: (0 : Int) :: (0 : Int) :: nilL Int) (Int.toNat (0 : Int)) (Int.toNat (↑(8 : Nat) : Int) - Int.toNat (0 : Int)) (Go.Ad.side1 (cut1 x.1 (ByteArray.mk (List.toArray ((58 : UInt8) :: (58 : UInt8) :: nilL UInt8))))))
  (3 : Nat) (0 : Int) :: List.getD (cpL ((0 : Int) :: (0 : Int) :: (0 : Int) :: (0 : Int) :: (0 : Int) :: (0 : Int) :: (0 : Int) :: (0 : Int) :: nilL Int) (Int.toNat (0 : Int)) (Int.toNat (↑(8 : Nat) : Int) - Int.toNat (0
  : Int)) (Go.Ad.side1 (cut1 x.1 (ByteArray.mk (List.toArray ((58 : UInt8) :: (58 : UInt8) :: nilL UInt8)))))) (4 : Nat) (0 : Int) :: List.getD (cpL ((0 : Int) :: (0 : Int) :: (0 : Int) :: (0 : Int) :: (0 : Int) :: (0 :
  Int) :: (0 : Int) :: (0 : Int) :: nilL Int) (Int.toNat (0 : Int)) (Int.toNat (↑(8 : Nat) : Int) - Int.toNat (0 : Int)) (Go.Ad.side1 (cut1 x.1 (ByteArray.mk (List.toArray ((58 : UInt8) :: (58 : UInt8) :: nilL UInt8))))))
  (5 : Nat) (0 : Int) :: List.getD (cpL ((0 : Int) :: (0 : Int) :: (0 : Int) :: (0 : Int) :: (0 : Int) :: (0 : Int) :: (0 : Int) :: (0 : Int) :: nilL Int) (Int.toNat (0 : Int)) (Int.toNat (↑(8 : Nat) : Int) - Int.toNat (0
  : Int)) (Go.Ad.side1 (cut1 x.1 (ByteArray.mk (List.toArray ((58 : UInt8) :: (58 : UInt8) :: nilL UInt8)))))) (6 : Nat) (0 : Int) :: List.getD (cpL ((0 : Int) :: (0 : Int) :: (0 : Int) :: (0 : Int) :: (0 : Int) :: (0 :
  Int) :: (0 : Int) :: (0 : Int) :: nilL Int) (Int.toNat (0 : Int)) (Int.toNat (↑(8 : Nat) : Int) - Int.toNat (0 : Int)) (Go.Ad.side1 (cut1 x.1 (ByteArray.mk (List.toArray ((58 : UInt8) :: (58 : UInt8) :: nilL UInt8))))))
  (7 : Nat) (0 : Int) :: nilL Int) (Int.toNat (IntKind.wrap IntKind.i64 ((8 : Int) - (↑(List.length (Go.Ad.side1 (cut2 x.1 (ByteArray.mk (List.toArray ((58 : UInt8) :: (58 : UInt8) :: nilL UInt8)))))) : Int)))) (Int.toNat
  (↑(8 : Nat) : Int) - Int.toNat (IntKind.wrap IntKind.i64 ((8 : Int) - (↑(List.length (Go.Ad.side1 (cut2 x.1 (ByteArray.mk (List.toArray ((58 : UInt8) :: (58 : UInt8) :: nilL UInt8)))))) : Int)))) (Go.Ad.side1 (cut2 x.1
  (ByteArray.mk (List.toArray ((58 : UInt8) :: (58 : UInt8) :: nilL UInt8)))))) (5 : Nat) (0 : Int), List.getD (cpL (List.getD (cpL ((0 : Int) :: (0 : Int) :: (0 : Int) :: (0 : Int) :: (0 : Int) :: (0 : Int) :: (0 : Int)
  :: (0 : Int) :: nilL Int) (Int.toNat (0 : Int)) (Int.toNat (↑(8 : Nat) : Int) - Int.toNat (0 : Int)) (Go.Ad.side1 (cut1 x.1 (ByteArray.mk (List.toArray ((58 : UInt8) :: (58 : UInt8) :: nilL UInt8)))))) (0 : Nat) (0 :
  Int) :: List.getD (cpL ((0 : Int) :: (0 : Int) :: (0 : Int) :: (0 : Int) :: (0 : Int) :: (0 : Int) :: (0 : Int) :: (0 : Int) :: nilL Int) (Int.toNat (0 : Int)) (Int.toNat (↑(8 : Nat) : Int) - Int.toNat (0 : Int))
  (Go.Ad.side1 (cut1 x.1 (ByteArray.mk (List.toArray ((58 : UInt8) :: (58 : UInt8) :: nilL UInt8)))))) (1 : Nat) (0 : Int) :: List.getD (cpL ((0 : Int) :: (0 : Int) :: (0 : Int) :: (0 : Int) :: (0 : Int) :: (0 : Int) ::
  (0 : Int) :: (0 : Int) :: nilL Int) (Int.toNat (0 : Int)) (Int.toNat (↑(8 : Nat) : Int) - Int.toNat (0 : Int)) (Go.Ad.side1 (cut1 x.1 (ByteArray.mk (List.toArray ((58 : UInt8) :: (58 : UInt8) :: nilL UInt8)))))) (2 :
  Nat) (0 : Int) :: List.getD (cpL ((0 : Int) :: (0 : Int) :: (0 : Int) :: (0 : Int) :: (0 : Int) :: (0 : Int) :: (0 : Int) :: (0 : Int) :: nilL Int) (Int.toNat (0 : Int)) (Int.toNat (↑(8 : Nat) : Int) - Int.toNat (0 :
  Int)) (Go.Ad.side1 (cut1 x.1 (ByteArray.mk (List.toArray ((58 : UInt8) :: (58 : UInt8) :: nilL UInt8)))))) (3 : Nat) (0 : Int) :: List.getD (cpL ((0 : Int) :: (0 : Int) :: (0 : Int) :: (0 : Int) :: (0 : Int) :: (0 :
  Int) :: (0 : Int) :: (0 : Int) :: nilL Int) (Int.toNat (0 : Int)) (Int.toNat (↑(8 : Nat) : Int) - Int.toNat (0 : Int)) (Go.Ad.side1 (cut1 x.1 (ByteArray.mk (List.toArray ((58 : UInt8) :: (58 : UInt8) :: nilL UInt8))))))
  (4 : Nat) (0 : Int) :: List.getD (cpL ((0 : Int) :: (0 : Int) :: (0 : Int) :: (0 : Int) :: (0 : Int) :: (0 : Int) :: (0 : Int) :: (0 : Int) :: nilL Int) (Int.toNat (0 : Int)) (Int.toNat (↑(8 : Nat) : Int) - Int.toNat (0
  : Int)) (Go.Ad.side1 (cut1 x.1 (ByteArray.mk (List.toArray ((58 : UInt8) :: (58 : UInt8) :: nilL UInt8)))))) (5 : Nat) (0 : Int) :: List.getD (cpL ((0 : Int) :: (0 : Int) :: (0 : Int) :: (0 : Int) :: (0 : Int) :: (0 :
  Int) :: (0 : Int) :: (0 : Int) :: nilL Int) (Int.toNat (0 : Int)) (Int.toNat (↑(8 : Nat) : Int) - Int.toNat (0 : Int)) (Go.Ad.side1 (cut1 x.1 (ByteArray.mk (List.toArray ((58 : UInt8) :: (58 : UInt8) :: nilL UInt8))))))
  (6 : Nat) (0 : Int) :: List.getD (cpL ((0 : Int) :: (0 : Int) :: (0 : Int) :: (0 : Int) :: (0 : Int) :: (0 : Int) :: (0 : Int) :: (0 : Int) :: nilL Int) (Int.toNat (0 : Int)) (Int.toNat (↑(8 : Nat) : Int) - Int.toNat (0
  : Int)) (Go.Ad.side1 (cut1 x.1 (ByteArray.mk (List.toArray ((58 : UInt8) :: (58 : UInt8) :: nilL UInt8)))))) (7 : Nat) (0 : Int) :: nilL Int) (Int.toNat (IntKind.wrap IntKind.i64 ((8 : Int) - (↑(List.length (Go.Ad.side1
  (cut2 x.1 (ByteArray.mk (List.toArray ((58 : UInt8) :: (58 : UInt8) :: nilL UInt8)))))) : Int)))) (Int.toNat (↑(8 : Nat) : Int) - Int.toNat (IntKind.wrap IntKind.i64 ((8 : Int) - (↑(List.length (Go.Ad.side1 (cut2 x.1
  (ByteArray.mk (List.toArray ((58 : UInt8) :: (58 : UInt8) :: nilL UInt8)))))) : Int)))) (Go.Ad.side1 (cut2 x.1 (ByteArray.mk (List.toArray ((58 : UInt8) :: (58 : UInt8) :: nilL UInt8)))))) (6 : Nat) (0 : Int), List.getD
  (cpL (List.getD (cpL ((0 : Int) :: (0 : Int) :: (0 : Int) :: (0 : Int) :: (0 : Int) :: (0 : Int) :: (0 : Int) :: (0 : Int) :: nilL Int) (Int.toNat (0 : Int)) (Int.toNat (↑(8 : Nat) : Int) - Int.toNat (0 : Int))
  (Go.Ad.side1 (cut1 x.1 (ByteArray.mk (List.toArray ((58 : UInt8) :: (58 : UInt8) :: nilL UInt8)))))) (0 : Nat) (0 : Int) :: List.getD (cpL ((0 : Int) :: (0 : Int) :: (0 : Int) :: (0 : Int) :: (0 : Int) :: (0 : Int) ::
  (0 : Int) :: (0 : Int) :: nilL Int) (Int.toNat (0 : Int)) (Int.toNat (↑(8 : Nat) : Int) - Int.toNat (0 : Int)) (Go.Ad.side1 (cut1 x.1 (ByteArray.mk (List.toArray ((58 : UInt8) :: (58 : UInt8) :: nilL UInt8)))))) (1 :
  Nat) (0 : Int) :: List.getD (cpL ((0 : Int) :: (0 : Int) :: (0 : Int) :: (0 : Int) :: (0 : Int) :: (0 : Int) :: (0 : Int) :: (0 : Int) :: nilL Int) (Int.toNat (0 : Int)) (Int.toNat (↑(8 : Nat) : Int) - Int.toNat (0 :
  Int)) (Go.Ad.side1 (cut1 x.1 (ByteArray.mk (List.toArray ((58 : UInt8) :: (58 : UInt8) :: nilL UInt8)))))) (2 : Nat) (0 : Int) :: List.getD (cpL ((0 : Int) :: (0 : Int) :: (0 : Int) :: (0 : Int) :: (0 : Int) :: (0 :
  Int) :: (0 : Int) :: (0 : Int) :: nilL Int) (Int.toNat (0 : Int)) (Int.toNat (↑(8 : Nat) : Int) - Int.toNat (0 : Int)) (Go.Ad.side1 (cut1 x.1 (ByteArray.mk (List.toArray ((58 : UInt8) :: (58 : UInt8) :: nilL UInt8))))))
  (3 : Nat) (0 : Int) :: List.getD (cpL ((0 : Int) :: (0 : Int) :: (0 : Int) :: (0 : Int) :: (0 : Int) :: (0 : Int) :: (0 : Int) :: (0 : Int) :: nilL Int) (Int.toNat (0 : Int)) (Int.toNat (↑(8 : Nat) : Int) - Int.toNat (0
  : Int)) (Go.Ad.side1 (cut1 x.1 (ByteArray.mk (List.toArray ((58 : UInt8) :: (58 : UInt8) :: nilL UInt8)))))) (4 : Nat) (0 : Int) :: List.getD (cpL ((0 : Int) :: (0 : Int) :: (0 : Int) :: (0 : Int) :: (0 : Int) :: (0 :
  Int) :: (0 : Int) :: (0 : Int) :: nilL Int) (Int.toNat (0 : Int)) (Int.toNat (↑(8 : Nat) : Int) - Int.toNat (0 : Int)) (Go.Ad.side1 (cut1 x.1 (ByteArray.mk (List.toArray ((58 : UInt8) :: (58 : UInt8) :: nilL UInt8))))))
  (5 : Nat) (0 : Int) :: List.getD (cpL ((0 : Int) :: (0 : Int) :: (0 : Int) :: (0 : Int) :: (0 : Int) :: (0 : Int) :: (0 : Int) :: (0 : Int) :: nilL Int) (Int.toNat (0 : Int)) (Int.toNat (↑(8 : Nat) : Int) - Int.toNat (0
  : Int)) (Go.Ad.side1 (cut1 x.1 (ByteArray.mk (List.toArray ((58 : UInt8) :: (58 : UInt8) :: nilL UInt8)))))) (6 : Nat) (0 : Int) :: List.getD (cpL ((0 : Int) :: (0 : Int) :: (0 : Int) :: (0 : Int) :: (0 : Int) :: (0 :
  Int) :: (0 : Int) :: (0 : Int) :: nilL Int) (Int.toNat (0 : Int)) (Int.toNat (↑(8 : Nat) : Int) - Int.toNat (0 : Int)) (Go.Ad.side1 (cut1 x.1 (ByteArray.mk (List.toArray ((58 : UInt8) :: (58 : UInt8) :: nilL UInt8))))))
  (7 : Nat) (0 : Int) :: nilL Int) (Int.toNat (IntKind.wrap IntKind.i64 ((8 : Int) - (↑(List.length (Go.Ad.side1 (cut2 x.1 (ByteArray.mk (List.toArray ((58 : UInt8) :: (58 : UInt8) :: nilL UInt8)))))) : Int)))) (Int.toNat
  (↑(8 : Nat) : Int) - Int.toNat (IntKind.wrap IntKind.i64 ((8 : Int) - (↑(List.length (Go.Ad.side1 (cut2 x.1 (ByteArray.mk (List.toArray ((58 : UInt8) :: (58 : UInt8) :: nilL UInt8)))))) : Int)))) (Go.Ad.side1 (cut2 x.1
  (ByteArray.mk (List.toArray ((58 : UInt8) :: (58 : UInt8) :: nilL UInt8)))))) (7 : Nat) (0 : Int), ()), true, ()) = (Go.Ad.six1 x.1, Go.Ad.six2 x.1, ()))) (bcase (!cutOk x.1 (ByteArray.mk (List.toArray ((58 : UInt8) ::
  (58 : UInt8) :: nilL UInt8))) && !decide ((↑(List.length (Go.Ad.side1 (cut1 x.1 (ByteArray.mk (List.toArray ((58 : UInt8) :: (58 : UInt8) :: nilL UInt8)))))) : Int) = (8 : Int))) ((((0 : Int), (0 : Int), (0 : Int), (0 :
  Int), (0 : Int), (0 : Int), (0 : Int), (0 : Int), ()), false, ()) = (Go.Ad.six1 x.1, Go.Ad.six2 x.1, ())) (Wr ((0 : Int) ≤ (0 : Int)) ∧ Wr ((0 : Int) ≤ (↑(8 : Nat) : Int)) ∧ Wr ((↑(8 : Nat) : Int) ≤ (↑(8 : Nat) : Int))
  ∧ Wr ((0 : Int) ≤ IntKind.wrap IntKind.i64 ((8 : Int) - (↑(List.length (Go.Ad.side1 (cut2 x.1 (ByteArray.mk (List.toArray ((58 : UInt8) :: (58 : UInt8) :: nilL UInt8)))))) : Int))) ∧ Wr (IntKind.wrap IntKind.i64 ((8 :
  Int) - (↑(List.length (Go.Ad.side1 (cut2 x.1 (ByteArray.mk (List.toArray ((58 : UInt8) :: (58 : UInt8) :: nilL UInt8)))))) : Int)) ≤ (↑(8 : Nat) : Int)) ∧ Wr ((↑(8 : Nat) : Int) ≤ (↑(8 : Nat) : Int)) ∧ ((List.getD (cpL
  (List.getD (cpL ((0 : Int) :: (0 : Int) :: (0 : Int) :: (0 : Int) :: (0 : Int) :: (0 : Int) :: (0 : Int) :: (0 : Int) :: nilL Int) (Int.toNat (0 : Int)) (Int.toNat (↑(8 : Nat) : Int) - Int.toNat (0 : Int)) (Go.Ad.side1
  (cut1 x.1 (ByteArray.mk (List.toArray ((58 : UInt8) :: (58 : UInt8) :: nilL UInt8)))))) (0 : Nat) (0 : Int) :: List.getD (cpL ((0 : Int) :: (0 : Int) :: (0 : Int) :: (0 : Int) :: (0 : Int) :: (0 : Int) :: (0 : Int) ::
  (0 : Int) :: nilL Int) (Int.toNat (0 : Int)) (Int.toNat (↑(8 : Nat) : Int) - Int.toNat (0 : Int)) (Go.Ad.side1 (cut1 x.1 (ByteArray.mk (List.toArray ((58 : UInt8) :: (58 : UInt8) :: nilL UInt8)))))) (1 : Nat) (0 : Int)
  :: List.getD (cpL ((0 : Int) :: (0 : Int) :: (0 : Int) :: (0 : Int) :: (0 : Int) :: (0 : Int) :: (0 : Int) :: (0 : Int) :: nilL Int) (Int.toNat (0 : Int)) (Int.toNat (↑(8 : Nat) : Int) - Int.toNat (0 : Int))
  (Go.Ad.side1 (cut1 x.1 (ByteArray.mk (List.toArray ((58 : UInt8) :: (58 : UInt8) :: nilL UInt8)))))) (2 : Nat) (0 : Int) :: List.getD (cpL ((0 : Int) :: (0 : Int) :: (0 : Int) :: (0 : Int) :: (0 : Int) :: (0 : Int) ::
  (0 : Int) :: (0 : Int) :: nilL Int) (Int.toNat (0 : Int)) (Int.toNat (↑(8 : Nat) : Int) - Int.toNat (0 : Int)) (Go.Ad.side1 (cut1 x.1 (ByteArray.mk (List.toArray ((58 : UInt8) :: (58 : UInt8) :: nilL UInt8)))))) (3 :
  Nat) (0 : Int) :: List.getD (cpL ((0 : Int) :: (0 : Int) :: (0 : Int) :: (0 : Int) :: (0 : Int) :: (0 : Int) :: (0 : Int) :: (0 : Int) :: nilL Int) (Int.toNat (0 : Int)) (Int.toNat (↑(8 : Nat) : Int) - Int.toNat (0 :
  Int)) (Go.Ad.side1 (cut1 x.1 (ByteArray.mk (List.toArray ((58 : UInt8) :: (58 : UInt8) :: nilL UInt8)))))) (4 : Nat) (0 : Int) :: List.getD (cpL ((0 : Int) :: (0 : Int) :: (0 : Int) :: (0 : Int) :: (0 : Int) :: (0 :
  Int) :: (0 : Int) :: (0 : Int) :: nilL Int) (Int.toNat (0 : Int)) (Int.toNat (↑(8 : Nat) : Int) - Int.toNat (0 : Int)) (Go.Ad.side1 (cut1 x.1 (ByteArray.mk (List.toArray ((58 : UInt8) :: (58 : UInt8) :: nilL UInt8))))))
  (5 : Nat) (0 : Int) :: List.getD (cpL ((0 : Int) :: (0 : Int) :: (0 : Int) :: (0 : Int) :: (0 : Int) :: (0 : Int) :: (0 : Int) :: (0 : Int) :: nilL Int) (Int.toNat (0 : Int)) (Int.toNat (↑(8 : Nat) : Int) - Int.toNat (0
  : Int)) (Go.Ad.side1 (cut1 x.1 (ByteArray.mk (List.toArray ((58 : UInt8) :: (58 : UInt8) :: nilL UInt8)))))) (6 : Nat) (0 : Int) :: List.getD (cpL ((0 : Int) :: (0 : Int) :: (0 : Int) :: (0 : Int) :: (0 : Int) :: (0 :
  Int) :: (0 : Int) :: (0 : Int) :: nilL Int) (Int.toNat (0 : Int)) (Int.toNat (↑(8 : Nat) : Int) - Int.toNat (0 : Int)) (Go.Ad.side1 (cut1 x.1 (ByteArray.mk (List.toArray ((58 : UInt8) :: (58 : UInt8) :: nilL UInt8))))))
  (7 : Nat) (0 : Int) :: nilL Int) (Int.toNat (IntKind.wrap IntKind.i64 ((8 : Int) - (↑(List.length (Go.Ad.side1 (cut2 x.1 (ByteArray.mk (List.toArray ((58 : UInt8) :: (58 : UInt8) :: nilL UInt8)))))) : Int)))) (Int.toNat
  (↑(8 : Nat) : Int) - Int.toNat (IntKind.wrap IntKind.i64 ((8 : Int) - (↑(List.length (Go.Ad.side1 (cut2 x.1 (ByteArray.mk (List.toArray ((58 : UInt8) :: (58 : UInt8) :: nilL UInt8)))))) : Int)))) (Go.Ad.side1 (cut2 x.1
  (ByteArray.mk (List.toArray ((58 : UInt8) :: (58 : UInt8) :: nilL UInt8)))))) (0 : Nat) (0 : Int), List.getD (cpL (List.getD (cpL ((0 : Int) :: (0 : Int) :: (0 : Int) :: (0 : Int) :: (0 : Int) :: (0 : Int) :: (0 : Int)
  :: (0 : Int) :: nilL Int) (Int.toNat (0 : Int)) (Int.toNat (↑(8 : Nat) : Int) - Int.toNat (0 : Int)) (Go.Ad.side1 (cut1 x.1 (ByteArray.mk (List.toArray ((58 : UInt8) :: (58 : UInt8) :: nilL UInt8)))))) (0 : Nat) (0 :
  Int) :: List.getD (cpL ((0 : Int) :: (0 : Int) :: (0 : Int) :: (0 : Int) :: (0 : Int) :: (0 : Int) :: (0 : Int) :: (0 : Int) :: nilL Int) (Int.toNat (0 : Int)) (Int.toNat (↑(8 : Nat) : Int) - Int.toNat (0 : Int))
  (Go.Ad.side1 (cut1 x.1 (ByteArray.mk (List.toArray ((58 : UInt8) :: (58 : UInt8) :: nilL UInt8)))))) (1 : Nat) (0 : Int) :: List.getD (cpL ((0 : Int) :: (0 : Int) :: (0 : Int) :: (0 : Int) :: (0 : Int) :: (0 : Int) ::
  (0 : Int) :: (0 : Int) :: nilL Int) (Int.toNat (0 : Int)) (Int.toNat (↑(8 : Nat) : Int) - Int.toNat (0 : Int)) (Go.Ad.side1 (cut1 x.1 (ByteArray.mk (List.toArray ((58 : UInt8) :: (58 : UInt8) :: nilL UInt8)))))) (2 :
  Nat) (0 : Int) :: List.getD (cpL ((0 : Int) :: (0 : Int) :: (0 : Int) :: (0 : Int) :: (0 : Int) :: (0 : Int) :: (0 : Int) :: (0 : Int) :: nilL Int) (Int.toNat (0 : Int)) (Int.toNat (↑(8 : Nat) : Int) - Int.toNat (0 :
  Int)) (Go.Ad.side1 (cut1 x.1 (ByteArray.mk (List.toArray ((58 : UInt8) :: (58 : UInt8) :: nilL UInt8)))))) (3 : Nat) (0 : Int) :: List.getD (cpL ((0 : Int) :: (0 : Int) :: (0 : Int) :: (0 : Int) :: (0 : Int) :: (0 :
  Int) :: (0 : Int) :: (0 : Int) :: nilL Int) (Int.toNat (0 : Int)) (Int.toNat (↑(8 : Nat) : Int) - Int.toNat (0 : Int)) (Go.Ad.side1 (cut1 x.1 (ByteArray.mk (List.toArray ((58 : UInt8) :: (58 : UInt8) :: nilL UInt8))))))
  (4 : Nat) (0 : Int) :: List.getD (cpL ((0 : Int) :: (0 : Int) :: (0 : Int) :: (0 : Int) :: (0 : Int) :: (0 : Int) :: (0 : Int) :: (0 : Int) :: nilL Int) (Int.toNat (0 : Int)) (Int.toNat (↑(8 : Nat) : Int) - Int.toNat (0
  : Int)) (Go.Ad.side1 (cut1 x.1 (ByteArray.mk (List.toArray ((58 : UInt8) :: (58 : UInt8) :: nilL UInt8)))))) (5 : Nat) (0 : Int) :: List.getD (cpL ((0 : Int) :: (0 : Int) :: (0 : Int) :: (0 : Int) :: (0 : Int) :: (0 :
  Int) :: (0 : Int) :: (0 : Int) :: nilL Int) (Int.toNat (0 : Int)) (Int.toNat (↑(8 : Nat) : Int) - Int.toNat (0 : Int)) (Go.Ad.side1 (cut1 x.1 (ByteArray.mk (List.toArray ((58 : UInt8) :: (58 : UInt8) :: nilL UInt8))))))
  (6 : Nat) (0 : Int) :: List.getD (cpL ((0 : Int) :: (0 : Int) :: (0 : Int) :: (0 : Int) :: (0 : Int) :: (0 : Int) :: (0 : Int) :: (0 : Int) :: nilL Int) (Int.toNat (0 : Int)) (Int.toNat (↑(8 : Nat) : Int) - Int.toNat (0
  : Int)) (Go.Ad.side1 (cut1 x.1 (ByteArray.mk (List.toArray ((58 : UInt8) :: (58 : UInt8) :: nilL UInt8)))))) (7 : Nat) (0 : Int) :: nilL Int) (Int.toNat (IntKind.wrap IntKind.i64 ((8 : Int) - (↑(List.length (Go.Ad.side1
  (cut2 x.1 (ByteArray.mk (List.toArray ((58 : UInt8) :: (58 : UInt8) :: nilL UInt8)))))) : Int)))) (Int.toNat (↑(8 : Nat) : Int) - Int.toNat (IntKind.wrap IntKind.i64 ((8 : Int) - (↑(List.length (Go.Ad.side1 (cut2 x.1
  (ByteArray.mk (List.toArray ((58 : UInt8) :: (58 : UInt8) :: nilL UInt8)))))) : Int)))) (Go.Ad.side1 (cut2 x.1 (ByteArray.mk (List.toArray ((58 : UInt8) :: (58 : UInt8) :: nilL UInt8)))))) (1 : Nat) (0 : Int), List.getD
  (cpL (List.getD (cpL ((0 : Int) :: (0 : Int) :: (0 : Int) :: (0 : Int) :: (0 : Int) :: (0 : Int) :: (0 : Int) :: (0 : Int) :: nilL Int) (Int.toNat (0 : Int)) (Int.toNat (↑(8 : Nat) : Int) - Int.toNat (0 : Int))
  (Go.Ad.side1 (cut1 x.1 (ByteArray.mk (List.toArray ((58 : UInt8) :: (58 : UInt8) :: nilL UInt8)))))) (0 : Nat) (0 : Int) :: List.getD (cpL ((0 : Int) :: (0 : Int) :: (0 : Int) :: (0 : Int) :: (0 : Int) :: (0 : Int) ::
  (0 : Int) :: (0 : Int) :: nilL Int) (Int.toNat (0 : Int)) (Int.toNat (↑(8 : Nat) : Int) - Int.toNat (0 : Int)) (Go.Ad.side1 (cut1 x.1 (ByteArray.mk (List.toArray ((58 : UInt8) :: (58 : UInt8) :: nilL UInt8)))))) (1 :
  Nat) (0 : Int) :: List.getD (cpL ((0 : Int) :: (0 : Int) :: (0 : Int) :: (0 : Int) :: (0 : Int) :: (0 : Int) :: (0 : Int) :: (0 : Int) :: nilL Int) (Int.toNat (0 : Int)) (Int.toNat (↑(8 : Nat) : Int) - Int.toNat (0 :
  Int)) (Go.Ad.side1 (cut1 x.1 (ByteArray.mk (List.toArray ((58 : UInt8) :: (58 : UInt8) :: nilL UInt8)))))) (2 : Nat) (0 : Int) :: List.getD (cpL ((0 : Int) :: (0 : Int) :: (0 : Int) :: (0 : Int) :: (0 : Int) :: (0 :
  Int) :: (0 : Int) :: (0 : Int) :: nilL Int) (Int.toNat (0 : Int)) (Int.toNat (↑(8 : Nat) : Int) - Int.toNat (0 : Int)) (Go.Ad.side1 (cut1 x.1 (ByteArray.mk (List.toArray ((58 : UInt8) :: (58 : UInt8) :: nilL UInt8))))))
  (3 : Nat) (0 : Int) :: List.getD (cpL ((0 : Int) :: (0 : Int) :: (0 : Int) :: (0 : Int) :: (0 : Int) :: (0 : Int) :: (0 : Int) :: (0 : Int) :: nilL Int) (Int.toNat (0 : Int)) (Int.toNat (↑(8 : Nat) : Int) - Int.toNat (0
  : Int)) (Go.Ad.side1 (cut1 x.1 (ByteArray.mk (List.toArray ((58 : UInt8) :: (58 : UInt8) :: nilL UInt8)))))) (4 : Nat) (0 : Int) :: List.getD (cpL ((0 : Int) :: (0 : Int) :: (0 : Int) :: (0 : Int) :: (0 : Int) :: (0 :
  Int) :: (0 : Int) :: (0 : Int) :: nilL Int) (Int.toNat (0 : Int)) (Int.toNat (↑(8 : Nat) : Int) - Int.toNat (0 : Int)) (Go.Ad.side1 (cut1 x.1 (ByteArray.mk (List.toArray ((58 : UInt8) :: (58 : UInt8) :: nilL UInt8))))))
  (5 : Nat) (0 : Int) :: List.getD (cpL ((0 : Int) :: (0 : Int) :: (0 : Int) :: (0 : Int) :: (0 : Int) :: (0 : Int) :: (0 : Int) :: (0 : Int) :: nilL Int) (Int.toNat (0 : Int)) (Int.toNat (↑(8 : Nat) : Int) - Int.toNat (0
  : Int)) (Go.Ad.side1 (cut1 x.1 (ByteArray.mk (List.toArray ((58 : UInt8) :: (58 : UInt8) :: nilL UInt8)))))) (6 : Nat) (0 : Int) :: List.getD (cpL ((0 : Int) :: (0 : Int) :: (0 : Int) :: (0 : Int) :: (0 : Int) :: (0 :
  Int) :: (0 : Int) :: (0 : Int) :: nilL Int) (Int.toNat (0 : Int)) (Int.toNat (↑(8 : Nat) : Int) - Int.toNat (0 : Int)) (Go.Ad.side1 (cut1 x.1 (ByteArray.mk (List.toArray ((58 : UInt8) :: (58 : UInt8) :: nilL UInt8))))))
  (7 : Nat) (0 : Int) :: nilL Int) (Int.toNat (IntKind.wrap IntKind.i64 ((8 : Int) - (↑(List.length (Go.Ad.side1 (cut2 x.1 (ByteArray.mk (List.toArray ((58 : UInt8) :: (58 : UInt8) :: nilL UInt8)))))) : Int)))) (Int.toNat
  (↑(8 : Nat) : Int) - Int.toNat (IntKind.wrap IntKind.i64 ((8 : Int) - (↑(List.length (Go.Ad.side1 (cut2 x.1 (ByteArray.mk (List.toArray ((58 : UInt8) :: (58 : UInt8) :: nilL UInt8)))))) : Int)))) (Go.Ad.side1 (cut2 x.1
  (ByteArray.mk (List.toArray ((58 : UInt8) :: (58 : UInt8) :: nilL UInt8)))))) (2 : Nat) (0 : Int), List.getD (cpL (List.getD (cpL ((0 : Int) :: (0 : Int) :: (0 : Int) :: (0 : Int) :: (0 : Int) :: (0 : Int) :: (0 : Int)
  :: (0 : Int) :: nilL Int) (Int.toNat (0 : Int)) (Int.toNat (↑(8 : Nat) : Int) - Int.toNat (0 : Int)) (Go.Ad.side1 (cut1 x.1 (ByteArray.mk (List.toArray ((58 : UInt8) :: (58 : UInt8) :: nilL UInt8)))))) (0 : Nat) (0 :
  Int) :: List.getD (cpL ((0 : Int) :: (0 : Int) :: (0 : Int) :: (0 : Int) :: (0 : Int) :: (0 : Int) :: (0 : Int) :: (0 : Int) :: nilL Int) (Int.toNat (0 : Int)) (Int.toNat (↑(8 : Nat) : Int) - Int.toNat (0 : Int))
  (Go.Ad.side1 (cut1 x.1 (ByteArray.mk (List.toArray ((58 : UInt8) :: (58 : UInt8) :: nilL UInt8)))))) (1 : Nat) (0 : Int) :: List.getD (cpL ((0 : Int) :: (0 : Int) :: (0 : Int) :: (0 : Int) :: (0 : Int) :: (0 : Int) ::
  (0 : Int) :: (0 : Int) :: nilL Int) (Int.toNat (0 : Int)) (Int.toNat (↑(8 : Nat) : Int) - Int.toNat (0 : Int)) (Go.Ad.side1 (cut1 x.1 (ByteArray.mk (List.toArray ((58 : UInt8) :: (58 : UInt8) :: nilL UInt8)))))) (2 :
  Nat) (0 : Int) :: List.getD (cpL ((0 : Int) :: (0 : Int) :: (0 : Int) :: (0 : Int) :: (0 : Int) :: (0 : Int) :: (0 : Int) :: (0 : Int) :: nilL Int) (Int.toNat (0 : Int)) (Int.toNat (↑(8 : Nat) : Int) - Int.toNat (0 :
  Int)) (Go.Ad.side1 (cut1 x.1 (ByteArray.mk (List.toArray ((58 : UInt8) :: (58 : UInt8) :: nilL UInt8)))))) (3 : Nat) (0 : Int) :: List.getD (cpL ((0 : Int) :: (0 : Int) :: (0 : Int) :: (0 : Int) :: (0 : Int) :: (0 :
  Int) :: (0 : Int) :: (0 : Int) :: nilL Int) (Int.toNat (0 : Int)) (Int.toNat (↑(8 : Nat) : Int) - Int.toNat (0 : Int)) (Go.Ad.side1 (cut1 x.1 (ByteArray.mk (List.toArray ((58 : UInt8) :: (58 : UInt8) :: nilL UInt8))))))
  (4 : Nat) (0 : Int) :: List.getD (cpL ((0 : Int) :: (0 : Int) :: (0 : Int) :: (0 : Int) :: (0 : Int) :: (0 : Int) :: (0 : Int) :: (0 : Int) :: nilL Int) (Int.toNat (0 : Int)) (Int.toNat (↑(8 : Nat) : Int) - Int.toNat (0
  : Int)) (Go.Ad.side1 (cut1 x.1 (ByteArray.mk (List.toArray ((58 : UInt8) :: (58 : UInt8) :: nilL UInt8)))))) (5 : Nat) (0 : Int) :: List.getD (cpL ((0 : Int) :: (0 : Int) :: (0 : Int) :: (0 : Int) :: (0 : Int) :: (0 :
  Int) :: (0 : Int) :: (0 : Int) :: nilL Int) (Int.toNat (0 : Int)) (Int.toNat (↑(8 : Nat) : Int) - Int.toNat (0 : Int)) (Go.Ad.side1 (cut1 x.1 (ByteArray.mk (List.toArray ((58 : UInt8) :: (58 : UInt8) :: nilL UInt8))))))
  (6 : Nat) (0 : Int) :: List.getD (cpL ((0 : Int) :: (0 : Int) :: (0 : Int) :: (0 : Int) :: (0 : Int) :: (0 : Int) :: (0 : Int) :: (0 : Int) :: nilL Int) (Int.toNat (0 : Int)) (Int.toNat (↑(8 : Nat) : Int) - Int.toNat (0
  : Int)) (Go.Ad.side1 (cut1 x.1 (ByteArray.mk (List.toArray ((58 : UInt8) :: (58 : UInt8) :: nilL UInt8)))))) (7 : Nat) (0 : Int) :: nilL Int) (Int.toNat (IntKind.wrap IntKind.i64 ((8 : Int) - (↑(List.length (Go.Ad.side1
  (cut2 x.1 (ByteArray.mk (List.toArray ((58 : UInt8) :: (58 : UInt8) :: nilL UInt8)))))) : Int)))) (Int.toNat (↑(8 : Nat) : Int) - Int.toNat (IntKind.wrap IntKind.i64 ((8 : Int) - (↑(List.length (Go.Ad.side1 (cut2 x.1
  (ByteArray.mk (List.toArray ((58 : UInt8) :: (58 : UInt8) :: nilL UInt8)))))) : Int)))) (Go.Ad.side1 (cut2 x.1 (ByteArray.mk (List.toArray ((58 : UInt8) :: (58 : UInt8) :: nilL UInt8)))))) (3 : Nat) (0 : Int), List.getD
  (cpL (List.getD (cpL ((0 : Int) :: (0 : Int) :: (0 : Int) :: (0 : Int) :: (0 : Int) :: (0 : Int) :: (0 : Int) :: (0 : Int) :: nilL Int) (Int.toNat (0 : Int)) (Int.toNat (↑(8 : Nat) : Int) - Int.toNat (0 : Int))
  (Go.Ad.side1 (cut1 x.1 (ByteArray.mk (List.toArray ((58 : UInt8) :: (58 : UInt8) :: nilL UInt8)))))) (0 : Nat) (0 : Int) :: List.getD (cpL ((0 : Int) :: (0 : Int) :: (0 : Int) :: (0 : Int) :: (0 : Int) :: (0 : Int) ::
  (0 : Int) :: (0 : Int) :: nilL Int) (Int.toNat (0 : Int)) (Int.toNat (↑(8 : Nat) : Int) - Int.toNat (0 : Int)) (Go.Ad.side1 (cut1 x.1 (ByteArray.mk (List.toArray ((58 : UInt8) :: (58 : UInt8) :: nilL UInt8)))))) (1 :
  Nat) (0 : Int) :: List.getD (cpL ((0 : Int) :: (0 : Int) :: (0 : Int) :: (0 : Int) :: (0 : Int) :: (0 : Int) :: (0 : Int) :: (0 : Int) :: nilL Int) (Int.toNat (0 : Int)) (Int.toNat (↑(8 : Nat) : Int) - Int.toNat (0 :
  Int)) (Go.Ad.side1 (cut1 x.1 (ByteArray.mk (List.toArray ((58 : UInt8) :: (58 : UInt8) :: nilL UInt8)))))) (2 : Nat) (0 : Int) :: List.getD (cpL ((0 : Int) :: (0 : Int) :: (0 : Int) :: (0 : Int) :: (0 : Int) :: (0 :
  Int) :: (0 : Int) :: (0 : Int) :: nilL Int) (Int.toNat (0 : Int)) (Int.toNat (↑(8 : Nat) : Int) - Int.toNat (0 : Int)) (Go.Ad.side1 (cut1 x.1 (ByteArray.mk (List.toArray ((58 : UInt8) :: (58 : UInt8) :: nilL UInt8))))))
  (3 : Nat) (0 : Int) :: List.getD (cpL ((0 : Int) :: (0 : Int) :: (0 : Int) :: (0 : Int) :: (0 : Int) :: (0 : Int) :: (0 : Int) :: (0 : Int) :: nilL Int) (Int.toNat (0 : Int)) (Int.toNat (↑(8 : Nat) : Int) - Int.toNat (0
  : Int)) (Go.Ad.side1 (cut1 x.1 (ByteArray.mk (List.toArray ((58 : UInt8) :: (58 : UInt8) :: nilL UInt8)))))) (4 : Nat) (0 : Int) :: List.getD (cpL ((0 : Int) :: (0 : Int) :: (0 : Int) :: (0 : Int) :: (0 : Int) :: (0 :
  Int) :: (0 : Int) :: (0 : Int) :: nilL Int) (Int.toNat (0 : Int)) (Int.toNat (↑(8 : Nat) : Int) - Int.toNat (0 : Int)) (Go.Ad.side1 (cut1 x.1 (ByteArray.mk (List.toArray ((58 : UInt8) :: (58 : UInt8) :: nilL UInt8))))))
  (5 : Nat) (0 : Int) :: List.getD (cpL ((0 : Int) :: (0 : Int) :: (0 : Int) :: (0 : Int) :: (0 : Int) :: (0 : Int) :: (0 : Int) :: (0 : Int) :: nilL Int) (Int.toNat (0 : Int)) (Int.toNat (↑(8 : Nat) : Int) - Int.toNat (0
  : Int)) (Go.Ad.side1 (cut1 x.1 (ByteArray.mk (List.toArray ((58 : UInt8) :: (58 : UInt8) :: nilL UInt8)))))) (6 : Nat) (0 : Int) :: List.getD (cpL ((0 : Int) :: (0 : Int) :: (0 : Int) :: (0 : Int) :: (0 : Int) :: (0 :
  Int) :: (0 : Int) :: (0 : Int) :: nilL Int) (Int.toNat (0 : Int)) (Int.toNat (↑(8 : Nat) : Int) - Int.toNat (0 : Int)) (Go.Ad.side1 (cut1 x.1 (ByteArray.mk (List.toArray ((58 : UInt8) :: (58 : UInt8) :: nilL UInt8))))))
  (7 : Nat) (0 : Int) :: nilL Int) (Int.toNat (IntKind.wrap IntKind.i64 ((8 : Int) - (↑(List.length (Go.Ad.side1 (cut2 x.1 (ByteArray.mk (List.toArray ((58 : UInt8) :: (58 : UInt8) :: nilL UInt8)))))) : Int)))) (Int.toNat
  (↑(8 : Nat) : Int) - Int.toNat (IntKind.wrap IntKind.i64 ((8 : Int) - (↑(List.length (Go.Ad.side1 (cut2 x.1 (ByteArray.mk (List.toArray ((58 : UInt8) :: (58 : UInt8) :: nilL UInt8)))))) : Int)))) (Go.Ad.side1 (cut2 x.1
  (ByteArray.mk (List.toArray ((58 : UInt8) :: (58 : UInt8) :: nilL UInt8)))))) (4 : Nat) (0 : Int), List.getD (cpL (List.getD (cpL ((0 : Int) :: (0 : Int) :: (0 : Int) :: (0 : Int) :: (0 : Int) :: (0 : Int) :: (0 : Int)
  :: (0 : Int) :: nilL Int) (Int.toNat (0 : Int)) (Int.toNat (↑(8 : Nat) : Int) - Int.toNat (0 : Int)) (Go.Ad.side1 (cut1 x.1 (ByteArray.mk (List.toArray ((58 : UInt8) :: (58 : UInt8) :: nilL UInt8)))))) (0 : Nat) (0 :
  Int) :: List.getD (cpL ((0 : Int) :: (0 : Int) :: (0 : Int) :: (0 : Int) :: (0 : Int) :: (0 : Int) :: (0 : Int) :: (0 : Int) :: nilL Int) (Int.toNat (0 : Int)) (Int.toNat (↑(8 : Nat) : Int) - Int.toNat (0 : Int))
  (Go.Ad.side1 (cut1 x.1 (ByteArray.mk (List.toArray ((58 : UInt8) :: (58 : UInt8) :: nilL UInt8)))))) (1 : Nat) (0 : Int) :: List.getD (cpL ((0 : Int) :: (0 : Int) :: (0 : Int) :: (0 : Int) :: (0 : Int) :: (0 : Int) ::
  (0 : Int) :: (0 : Int) :: nilL Int) (Int.toNat (0 : Int)) (Int.toNat (↑(8 : Nat) : Int) - Int.toNat (0 : Int)) (Go.Ad.side1 (cut1 x.1 (ByteArray.mk (List.toArray ((58 : UInt8) :: (58 : UInt8) :: nilL UInt8)))))) (2 :
  Nat) (0 : Int) :: List.getD (cpL ((0 : Int) :: (0 : Int) :: (0 : Int) :: (0 : Int) :: (0 : Int) :: (0 : Int) :: (0 : Int) :: (0 : Int) :: nilL Int) (Int.toNat (0 : Int)) (Int.toNat (↑(8 : Nat) : Int) - Int.toNat (0 :
  Int)) (Go.Ad.side1 (cut1 x.1 (ByteArray.mk (List.toArray ((58 : UInt8) :: (58 : UInt8) :: nilL UInt8)))))) (3 : Nat) (0 : Int) :: List.getD (cpL ((0 : Int) :: (0 : Int) :: (0 : Int) :: (0 : Int) :: (0 : Int) :: (0 :
  Int) :: (0 : Int) :: (0 : Int) :: nilL Int) (Int.toNat (0 : Int)) (Int.toNat (↑(8 : Nat) : Int) - Int.toNat (0 : Int)) (Go.Ad.side1 (cut1 x.1 (ByteArray.mk (List.toArray ((58 : UInt8) :: (58 : UInt8) :: nilL UInt8))))))
  (4 : Nat) (0 : Int) :: List.getD (cpL ((0 : Int) :: (0 : Int) :: (0 : Int) :: (0 : Int) :: (0 : Int) :: (0 : Int) :: (0 : Int) :: (0 : Int) :: nilL Int) (Int.toNat (0 : Int)) (Int.toNat (↑(8 : Nat) : Int) - Int.toNat (0
  : Int)) (Go.Ad.side1 (cut1 x.1 (ByteArray.mk (List.toArray ((58 : UInt8) :: (58 : UInt8) :: nilL UInt8)))))) (5 : Nat) (0 : Int) :: List.getD (cpL ((0 : Int) :: (0 : Int) :: (0 : Int) :: (0 : Int) :: (0 : Int) :: (0 :
  Int) :: (0 : Int) :: (0 : Int) :: nilL Int) (Int.toNat (0 : Int)) (Int.toNat (↑(8 : Nat) : Int) - Int.toNat (0 : Int)) (Go.Ad.side1 (cut1 x.1 (ByteArray.mk (List.toArray ((58 : UInt8) :: (58 : UInt8) :: nilL UInt8))))))
  (6 : Nat) (0 : Int) :: List.getD (cpL ((0 : Int) :: (0 : Int) :: (0 : Int) :: (0 : Int) :: (0 : Int) :: (0 : Int) :: (0 : Int) :: (0 : Int) :: nilL Int) (Int.toNat (0 : Int)) (Int.toNat (↑(8 : Nat) : Int) - Int.toNat (0
  : Int)) (Go.Ad.side1 (cut1 x.1 (ByteArray.mk (List.toArray ((58 : UInt8) :: (58 : UInt8) :: nilL UInt8)))))) (7 : Nat) (0 : Int) :: nilL Int) (Int.toNat (IntKind.wrap IntKind.i64 ((8 : Int) - (↑(List.length (Go.Ad.side1
  (cut2 x.1 (ByteArray.mk (List.toArray ((58 : UInt8) :: (58 : UInt8) :: nilL UInt8)))))) : Int)))) (Int.toNat (↑(8 : Nat) : Int) - Int.toNat (IntKind.wrap IntKind.i64 ((8 : Int) - (↑(List.length (Go.Ad.side1 (cut2 x.1
  (ByteArray.mk (List.toArray ((58 : UInt8) :: (58 : UInt8) :: nilL UInt8)))))) : Int)))) (Go.Ad.side1 (cut2 x.1 (ByteArray.mk (List.toArray ((58 : UInt8) :: (58 : UInt8) :: nilL UInt8)))))) (5 : Nat) (0 : Int), List.getD
  (cpL (List.getD (cpL ((0 : Int) :: (0 : Int) :: (0 : Int) :: (0 : Int) :: (0 : Int) :: (0 : Int) :: (0 : Int) :: (0 : Int) :: nilL Int) (Int.toNat (0 : Int)) (Int.toNat (↑(8 : Nat) : Int) - Int.toNat (0 : Int))
  (Go.Ad.side1 (cut1 x.1 (ByteArray.mk (List.toArray ((58 : UInt8) :: (58 : UInt8) :: nilL UInt8)))))) (0 : Nat) (0 : Int) :: List.getD (cpL ((0 : Int) :: (0 : Int) :: (0 : Int) :: (0 : Int) :: (0 : Int) :: (0 : Int) ::
  (0 : Int) :: (0 : Int) :: nilL Int) (Int.toNat (0 : Int)) (Int.toNat (↑(8 : Nat) : Int) - Int.toNat (0 : Int)) (Go.Ad.side1 (cut1 x.1 (ByteArray.mk (List.toArray ((58 : UInt8) :: (58 : UInt8) :: nilL UInt8)))))) (1 :
  Nat) (0 : Int) :: List.getD (cpL ((0 : Int) :: (0 : Int) :: (0 : Int) :: (0 : Int) :: (0 : Int) :: (0 : Int) :: (0 : Int) :: (0 : Int) :: nilL Int) (Int.toNat (0 : Int)) (Int.toNat (↑(8 : Nat) : Int) - Int.toNat (0 :
  Int)) (Go.Ad.side1 (cut1 x.1 (ByteArray.mk (List.toArray ((58 : UInt8) :: (58 : UInt8) :: nilL UInt8)))))) (2 : Nat) (0 : Int) :: List.getD (cpL ((0 : Int) :: (0 : Int) :: (0 : Int) :: (0 : Int) :: (0 : Int) :: (0 :
  Int) :: (0 : Int) :: (0 : Int) :: nilL Int) (Int.toNat (0 : Int)) (Int.toNat (↑(8 : Nat) : Int) - Int.toNat (0 : Int)) (Go.Ad.side1 (cut1 x.1 (ByteArray.mk (List.toArray ((58 : UInt8) :: (58 : UInt8) :: nilL UInt8))))))
  (3 : Nat) (0 : Int) :: List.getD (cpL ((0 : Int) :: (0 : Int) :: (0 : Int) :: (0 : Int) :: (0 : Int) :: (0 : Int) :: (0 : Int) :: (0 : Int) :: nilL Int) (Int.toNat (0 : Int)) (Int.toNat (↑(8 : Nat) : Int) - Int.toNat (0
  : Int)) (Go.Ad.side1 (cut1 x.1 (ByteArray.mk (List.toArray ((58 : UInt8) :: (58 : UInt8) :: nilL UInt8)))))) (4 : Nat) (0 : Int) :: List.getD (cpL ((0 : Int) :: (0 : Int) :: (0 : Int) :: (0 : Int) :: (0 : Int) :: (0 :
  Int) :: (0 : Int) :: (0 : Int) :: nilL Int) (Int.toNat (0 : Int)) (Int.toNat (↑(8 : Nat) : Int) - Int.toNat (0 : Int)) (Go.Ad.side1 (cut1 x.1 (ByteArray.mk (List.toArray ((58 : UInt8) :: (58 : UInt8) :: nilL UInt8))))))
  (5 : Nat) (0 : Int) :: List.getD (cpL ((0 : Int) :: (0 : Int) :: (0 : Int) :: (0 : Int) :: (0 : Int) :: (0 : Int) :: (0 : Int) :: (0 : Int) :: nilL Int) (Int.toNat (0 : Int)) (Int.toNat (↑(8 : Nat) : Int) - Int.toNat (0
  : Int)) (Go.Ad.side1 (cut1 x.1 (ByteArray.mk (List.toArray ((58 : UInt8) :: (58 : UInt8) :: nilL UInt8)))))) (6 : Nat) (0 : Int) :: List.getD (cpL ((0 : Int) :: (0 : Int) :: (0 : Int) :: (0 : Int) :: (0 : Int) :: (0 :
  Int) :: (0 : Int) :: (0 : Int) :: nilL Int) (Int.toNat (0 : Int)) (Int.toNat (↑(8 : Nat) : Int) - Int.toNat (0 : Int)) (Go.Ad.side1 (cut1 x.1 (ByteArray.mk (List.toArray ((58 : UInt8) :: (58 : UInt8) :: nilL UInt8))))))
  (7 : Nat) (0 : Int) :: nilL Int) (Int.toNat (IntKind.wrap IntKind.i64 ((8 : Int) - (↑(List.length (Go.Ad.side1 (cut2 x.1 (ByteArray.mk (List.toArray ((58 : UInt8) :: (58 : UInt8) :: nilL UInt8)))))) : Int)))) (Int.toNat
  (↑(8 : Nat) : Int) - Int.toNat (IntKind.wrap IntKind.i64 ((8 : Int) - (↑(List.length (Go.Ad.side1 (cut2 x.1 (ByteArray.mk (List.toArray ((58 : UInt8) :: (58 : UInt8) :: nilL UInt8)))))) : Int)))) (Go.Ad.side1 (cut2 x.1
  (ByteArray.mk (List.toArray ((58 : UInt8) :: (58 : UInt8) :: nilL UInt8)))))) (6 : Nat) (0 : Int), List.getD (cpL (List.getD (cpL ((0 : Int) :: (0 : Int) :: (0 : Int) :: (0 : Int) :: (0 : Int) :: (0 : Int) :: (0 : Int)
  :: (0 : Int) :: nilL Int) (Int.toNat (0 : Int)) (Int.toNat (↑(8 : Nat) : Int) - Int.toNat (0 : Int)) (Go.Ad.side1 (cut1 x.1 (ByteArray.mk (List.toArray ((58 : UInt8) :: (58 : UInt8) :: nilL UInt8)))))) (0 : Nat) (0 :
  Int) :: List.getD (cpL ((0 : Int) :: (0 : Int) :: (0 : Int) :: (0 : Int) :: (0 : Int) :: (0 : Int) :: (0 : Int) :: (0 : Int) :: nilL Int) (Int.toNat (0 : Int)) (Int.toNat (↑(8 : Nat) : Int) - Int.toNat (0 : Int))
  (Go.Ad.side1 (cut1 x.1 (ByteArray.mk (List.toArray ((58 : UInt8) :: (58 : UInt8) :: nilL UInt8)))))) (1 : Nat) (0 : Int) :: List.getD (cpL ((0 : Int) :: (0 : Int) :: (0 : Int) :: (0 : Int) :: (0 : Int) :: (0 : Int) ::
  (0 : Int) :: (0 : Int) :: nilL Int) (Int.toNat (0 : Int)) (Int.toNat (↑(8 : Nat) : Int) - Int.toNat (0 : Int)) (Go.Ad.side1 (cut1 x.1 (ByteArray.mk (List.toArray ((58 : UInt8) :: (58 : UInt8) :: nilL UInt8)))))) (2 :
  Nat) (0 : Int) :: List.getD (cpL ((0 : Int) :: (0 : Int) :: (0 : Int) :: (0 : Int) :: (0 : Int) :: (0 : Int) :: (0 : Int) :: (0 : Int) :: nilL Int) (Int.toNat (0 : Int)) (Int.toNat (↑(8 : Nat) : Int) - Int.toNat (0 :
  Int)) (Go.Ad.side1 (cut1 x.1 (ByteArray.mk (List.toArray ((58 : UInt8) :: (58 : UInt8) :: nilL UInt8)))))) (3 : Nat) (0 : Int) :: List.getD (cpL ((0 : Int) :: (0 : Int) :: (0 : Int) :: (0 : Int) :: (0 : Int) :: (0 :
  Int) :: (0 : Int) :: (0 : Int) :: nilL Int) (Int.toNat (0 : Int)) (Int.toNat (↑(8 : Nat) : Int) - Int.toNat (0 : Int)) (Go.Ad.side1 (cut1 x.1 (ByteArray.mk (List.toArray ((58 : UInt8) :: (58 : UInt8) :: nilL UInt8))))))
  (4 : Nat) (0 : Int) :: List.getD (cpL ((0 : Int) :: (0 : Int) :: (0 : Int) :: (0 : Int) :: (0 : Int) :: (0 : Int) :: (0 : Int) :: (0 : Int) :: nilL Int) (Int.toNat (0 : Int)) (Int.toNat (↑(8 : Nat) : Int) - Int.toNat (0
  : Int)) (Go.Ad.side1 (cut1 x.1 (ByteArray.mk (List.toArray ((58 : UInt8) :: (58 : UInt8) :: nilL UInt8)))))) (5 : Nat) (0 : Int) :: List.getD (cpL ((0 : Int) :: (0 : Int) :: (0 : Int) :: (0 : Int) :: (0 : Int) :: (0 :
  Int) :: (0 : Int) :: (0 : Int) :: nilL Int) (Int.toNat (0 : Int)) (Int.toNat (↑(8 : Nat) : Int) - Int.toNat (0 : Int)) (Go.Ad.side1 (cut1 x.1 (ByteArray.mk (List.toArray ((58 : UInt8) :: (58 : UInt8) :: nilL UInt8))))))
  (6 : Nat) (0 : Int) :: List.getD (cpL ((0 : Int) :: (0 : Int) :: (0 : Int) :: (0 : Int) :: (0 : Int) :: (0 : Int) :: (0 : Int) :: (0 : Int) :: nilL Int) (Int.toNat (0 : Int)) (Int.toNat (↑(8 : Nat) : Int) - Int.toNat (0
  : Int)) (Go.Ad.side1 (cut1 x.1 (ByteArray.mk (List.toArray ((58 : UInt8) :: (58 : UInt8) :: nilL UInt8)))))) (7 : Nat) (0 : Int) :: nilL Int) (Int.toNat (IntKind.wrap IntKind.i64 ((8 : Int) - (↑(List.length (Go.Ad.side1
  (cut2 x.1 (ByteArray.mk (List.toArray ((58 : UInt8) :: (58 : UInt8) :: nilL UInt8)))))) : Int)))) (Int.toNat (↑(8 : Nat) : Int) - Int.toNat (IntKind.wrap IntKind.i64 ((8 : Int) - (↑(List.length (Go.Ad.side1 (cut2 x.1
  (ByteArray.mk (List.toArray ((58 : UInt8) :: (58 : UInt8) :: nilL UInt8)))))) : Int)))) (Go.Ad.side1 (cut2 x.1 (ByteArray.mk (List.toArray ((58 : UInt8) :: (58 : UInt8) :: nilL UInt8)))))) (7 : Nat) (0 : Int), ()),
  true, ()) = (Go.Ad.six1 x.1, Go.Ad.six2 x.1, ()))))) := by kernel_rfl
theorem v18_eq : vcFn g18 300 Tryd.f18 cParse = (  ∀ (x : ByteArray × Unit), Wr (szOk x.1 = true) → Wr ((szOk x.1 && decide ((0 : Int) ≤ (58 : Int)) && decide ((58 : Int) < (256 : Int))) = true) ∧ bcase (decide (Go.Lb.lastZ x.1 (58 : Int) < (1 : Int))) ((((0 : Int), ((0
  : Int), (0 : Int), (0 : Int), (0 : Int), (0 : Int), (0 : Int), (0 : Int), (0 : Int), ()), (0 : Int), ()), (20 : Int), ()) = (Go.Ad.parse1 x.1, Go.Ad.parse2 x.1, ())) (Wr ((0 : Int) ≤ (0 : Int)) ∧ Wr ((0 : Int) ≤
  Go.Lb.lastZ x.1 (58 : Int)) ∧ Wr (Go.Lb.lastZ x.1 (58 : Int) ≤ (↑(ByteArray.size x.1) : Int)) ∧ Wr ((0 : Int) ≤ IntKind.wrap IntKind.i64 (Go.Lb.lastZ x.1 (58 : Int) + (1 : Int))) ∧ Wr (IntKind.wrap IntKind.i64
  (Go.Lb.lastZ x.1 (58 : Int) + (1 : Int)) ≤ (↑(ByteArray.size x.1) : Int)) ∧ Wr ((↑(ByteArray.size x.1) : Int) ≤ (↑(ByteArray.size x.1) : Int)) ∧ Wr (szOk (subS x.1 (Int.toNat (IntKind.wrap IntKind.i64 (Go.Lb.lastZ x.1
  (58 : Int) + (1 : Int)))) (Int.toNat (↑(ByteArray.size x.1) : Int))) = true) ∧ Wr ((0 : Int) ≤ (0 : Int)) ∧ Wr ((0 : Int) < (↑(ByteArray.size (subS x.1 (Int.toNat (0 : Int)) (Int.toNat (Go.Lb.lastZ x.1 (58 : Int))))) :
  Int)) ∧ bcase (!decide (byteAt (subS x.1 (Int.toNat (0 : Int)) (Int.toNat (Go.Lb.lastZ x.1 (58 : Int)))) (Int.toNat (0 : Int)) = (91 : Int))) (Wr (szOk (subS x.1 (Int.toNat (0 : Int)) (Int.toNat (Go.Lb.lastZ x.1 (58 :
  Int)))) = true) ∧ bcase (!Go.Ad.num2 (subS x.1 (Int.toNat (IntKind.wrap IntKind.i64 (Go.Lb.lastZ x.1 (58 : Int) + (1 : Int)))) (Int.toNat (↑(ByteArray.size x.1) : Int))) (65535 : Int) || !Go.Ad.four2 (subS x.1
  (Int.toNat (0 : Int)) (Int.toNat (Go.Lb.lastZ x.1 (58 : Int)))) || decide (Go.Ad.num1 (subS x.1 (Int.toNat (IntKind.wrap IntKind.i64 (Go.Lb.lastZ x.1 (58 : Int) + (1 : Int)))) (Int.toNat (↑(ByteArray.size x.1) : Int)))
  (65535 : Int) = (0 : Int))) ((((0 : Int), ((0 : Int), (0 : Int), (0 : Int), (0 : Int), (0 : Int), (0 : Int), (0 : Int), (0 : Int), ()), (0 : Int), ()), (20 : Int), ()) = (Go.Ad.parse1 x.1, Go.Ad.parse2 x.1, ())) ((((4 :
  Int), Go.Ad.four1 (subS x.1 (Int.toNat (0 : Int)) (Int.toNat (Go.Lb.lastZ x.1 (58 : Int)))), Go.Ad.num1 (subS x.1 (Int.toNat (IntKind.wrap IntKind.i64 (Go.Lb.lastZ x.1 (58 : Int) + (1 : Int)))) (Int.toNat
  (↑(ByteArray.size x.1) : Int))) (65535 : Int), ()), (0 : Int), ()) = (Go.Ad.parse1 x.1, Go.Ad.parse2 x.1, ()))) (Wr (decide ((↑(ByteArray.size (subS x.1 (Int.toNat (0 : Int)) (Int.toNat (Go.Lb.lastZ x.1 (58 : Int))))) :
  Int) > (1 : Int)) = true → (0 : Int) ≤ IntKind.wrap IntKind.i64 ((↑(ByteArray.size (subS x.1 (Int.toNat (0 : Int)) (Int.toNat (Go.Lb.lastZ x.1 (58 : Int))))) : Int) - (1 : Int))) ∧ Wr (decide ((↑(ByteArray.size (subS
  x.1 (Int.toNat (0 : Int)) (Int.toNat (Go.Lb.lastZ x.1 (58 : Int))))) : Int) > (1 : Int)) = true → IntKind.wrap IntKind.i64 ((↑(ByteArray.size (subS x.1 (Int.toNat (0 : Int)) (Int.toNat (Go.Lb.lastZ x.1 (58 : Int))))) :
  Int) - (1 : Int)) < (↑(ByteArray.size (subS x.1 (Int.toNat (0 : Int)) (Int.toNat (Go.Lb.lastZ x.1 (58 : Int))))) : Int)) ∧ bcase (decide ((↑(ByteArray.size (subS x.1 (Int.toNat (0 : Int)) (Int.toNat (Go.Lb.lastZ x.1 (58
  : Int))))) : Int) > (1 : Int)) && decide (byteAt (subS x.1 (Int.toNat (0 : Int)) (Int.toNat (Go.Lb.lastZ x.1 (58 : Int)))) (Int.toNat (IntKind.wrap IntKind.i64 ((↑(ByteArray.size (subS x.1 (Int.toNat (0 : Int))
  (Int.toNat (Go.Lb.lastZ x.1 (58 : Int))))) : Int) - (1 : Int)))) = (93 : Int))) (Wr ((0 : Int) ≤ (1 : Int)) ∧ Wr ((1 : Int) ≤ IntKind.wrap IntKind.i64 ((↑(ByteArray.size (subS x.1 (Int.toNat (0 : Int)) (Int.toNat
  (Go.Lb.lastZ x.1 (58 : Int))))) : Int) - (1 : Int))) ∧ Wr (IntKind.wrap IntKind.i64 ((↑(ByteArray.size (subS x.1 (Int.toNat (0 : Int)) (Int.toNat (Go.Lb.lastZ x.1 (58 : Int))))) : Int) - (1 : Int)) ≤ (↑(ByteArray.size
  (subS x.1 (Int.toNat (0 : Int)) (Int.toNat (Go.Lb.lastZ x.1 (58 : Int))))) : Int)) ∧ Wr (szOk (subS (subS x.1 (Int.toNat (0 : Int)) (Int.toNat (Go.Lb.lastZ x.1 (58 : Int)))) (Int.toNat (1 : Int)) (Int.toNat
  (IntKind.wrap IntKind.i64 ((↑(ByteArray.size (subS x.1 (Int.toNat (0 : Int)) (Int.toNat (Go.Lb.lastZ x.1 (58 : Int))))) : Int) - (1 : Int))))) = true) ∧ bcase (!Go.Ad.num2 (subS x.1 (Int.toNat (IntKind.wrap IntKind.i64
  (Go.Lb.lastZ x.1 (58 : Int) + (1 : Int)))) (Int.toNat (↑(ByteArray.size x.1) : Int))) (65535 : Int) || !Go.Ad.six2 (subS (subS x.1 (Int.toNat (0 : Int)) (Int.toNat (Go.Lb.lastZ x.1 (58 : Int)))) (Int.toNat (1 : Int))
  (Int.toNat (IntKind.wrap IntKind.i64 ((↑(ByteArray.size (subS x.1 (Int.toNat (0 : Int)) (Int.toNat (Go.Lb.lastZ x.1 (58 : Int))))) : Int) - (1 : Int))))) || decide (Go.Ad.num1 (subS x.1 (Int.toNat (IntKind.wrap
  IntKind.i64 (Go.Lb.lastZ x.1 (58 : Int) + (1 : Int)))) (Int.toNat (↑(ByteArray.size x.1) : Int))) (65535 : Int) = (0 : Int))) ((((0 : Int), ((0 : Int), (0 : Int), (0 : Int), (0 : Int), (0 : Int), (0 : Int), (0 : Int),
  (0 : Int), ()), (0 : Int), ()), (20 : Int), ()) = (Go.Ad.parse1 x.1, Go.Ad.parse2 x.1, ())) ((((6 : Int), Go.Ad.six1 (subS (subS x.1 (Int.toNat (0 : Int)) (Int.toNat (Go.Lb.lastZ x.1 (58 : Int)))) (Int.toNat (1 : Int))
  (Int.toNat (IntKind.wrap IntKind.i64 ((↑(ByteArray.size (subS x.1 (Int.toNat (0 : Int)) (Int.toNat (Go.Lb.lastZ x.1 (58 : Int))))) : Int) - (1 : Int))))), Go.Ad.num1 (subS x.1 (Int.toNat (IntKind.wrap IntKind.i64
  (Go.Lb.lastZ x.1 (58 : Int) + (1 : Int)))) (Int.toNat (↑(ByteArray.size x.1) : Int))) (65535 : Int), ()), (0 : Int), ()) = (Go.Ad.parse1 x.1, Go.Ad.parse2 x.1, ()))) (bcase (!Go.Ad.num2 (subS x.1 (Int.toNat
  (IntKind.wrap IntKind.i64 (Go.Lb.lastZ x.1 (58 : Int) + (1 : Int)))) (Int.toNat (↑(ByteArray.size x.1) : Int))) (65535 : Int) || !false || decide (Go.Ad.num1 (subS x.1 (Int.toNat (IntKind.wrap IntKind.i64 (Go.Lb.lastZ
  x.1 (58 : Int) + (1 : Int)))) (Int.toNat (↑(ByteArray.size x.1) : Int))) (65535 : Int) = (0 : Int))) ((((0 : Int), ((0 : Int), (0 : Int), (0 : Int), (0 : Int), (0 : Int), (0 : Int), (0 : Int), (0 : Int), ()), (0 : Int),
  ()), (20 : Int), ()) = (Go.Ad.parse1 x.1, Go.Ad.parse2 x.1, ())) ((((4 : Int), ((0 : Int), (0 : Int), (0 : Int), (0 : Int), (0 : Int), (0 : Int), (0 : Int), (0 : Int), ()), Go.Ad.num1 (subS x.1 (Int.toNat (IntKind.wrap
  IntKind.i64 (Go.Lb.lastZ x.1 (58 : Int) + (1 : Int)))) (Int.toNat (↑(ByteArray.size x.1) : Int))) (65535 : Int), ()), (0 : Int), ()) = (Go.Ad.parse1 x.1, Go.Ad.parse2 x.1, ())))))) := by kernel_rfl
theorem v19_eq : vcFn g19 300 Tryd.f19 cGreat = (  ∀ (x : List (Int × (Int × Int × Int × Int × Int × Int × Int × Int × Unit) × Int × Unit) × Unit), Wr (true = true) → (decide ((↑(List.length x.1) : Int) > (60 : Int)), ()) = (decide ((60 : Nat) < List.length x.1), ())) := by kernel_rfl
theorem v20_eq : vcFn g20 300 Tryd.f20 cOf = (  ∀ (x : Int × List (Int × (Int × Int × Int × Int × Int × Int × Int × Int × Unit) × Int × Unit) × Unit), Wr (lenA x.2.1 = true) → (Wr (OfI x.1 x.2.1 (nilL (Int × (Int × Int × Int × Int × Int × Int × Int × Int × Unit) ×
  Int × Unit)) (0 : Int)) ∧ Wr ((0 : Int) = (0 : Int)) ∧ Wr (x.1 = x.1) ∧ Wr (x.2.1 = x.2.1) ∧ Wr (x.2.1 = x.2.1) ∧ Wr ((↑(List.length x.2.1) : Int) = (↑(List.length x.2.1) : Int)) ∧ Wr (nilL (Int × (Int × Int × Int × Int
  × Int × Int × Int × Int × Unit) × Int × Unit) = nilL (Int × (Int × Int × Int × Int × Int × Int × Int × Int × Unit) × Int × Unit))) ∧ ∀ (x_1 : List (Int × (Int × Int × Int × Int × Int × Int × Int × Int × Unit) × Int ×
  Unit) × Int), Wr (OfI x.1 x.2.1 x_1.1 x_1.2) → bcase (decide (x_1.2 < (↑(List.length x.2.1) : Int))) (Wr ((0 : Int) ≤ x_1.2) ∧ Wr (x_1.2 < (↑(List.length x.2.1) : Int)) ∧ Wr (true = true) ∧ bcase (decide ((List.getD
  x.2.1 (Int.toNat x_1.2) (Ty.zero AdT)).1 = x.1)) (Wr ((List.length x_1.1 + List.length (List.getD x.2.1 (Int.toNat x_1.2) (Ty.zero AdT) :: nilL (Int × (Int × Int × Int × Int × Int × Int × Int × Int × Unit) × Int ×
  Unit))) * (32 : Nat) ≤ (140737488355328 : Nat)) ∧ Wr (OfI x.1 x.2.1 (x_1.1 ++ List.getD x.2.1 (Int.toNat x_1.2) (Ty.zero AdT) :: nilL (Int × (Int × Int × Int × Int × Int × Int × Int × Int × Unit) × Int × Unit))
  (IntKind.wrap IntKind.i64 (x_1.2 + (1 : Int)))) ∧ Wr (List.length x.2.1 - Int.toNat (IntKind.wrap IntKind.i64 (x_1.2 + (1 : Int))) < List.length x.2.1 - Int.toNat x_1.2) ∧ Wr (IntKind.wrap IntKind.i64 (x_1.2 + (1 :
  Int)) = IntKind.wrap IntKind.i64 (x_1.2 + (1 : Int))) ∧ Wr (x.1 = x.1) ∧ Wr (x.2.1 = x.2.1) ∧ Wr (x.2.1 = x.2.1) ∧ Wr ((↑(List.length x.2.1) : Int) = (↑(List.length x.2.1) : Int)) ∧ Wr (x_1.1 ++ List.getD x.2.1
  (Int.toNat x_1.2) (Ty.zero AdT) :: nilL (Int × (Int × Int × Int × Int × Int × Int × Int × Int × Unit) × Int × Unit) = x_1.1 ++ List.getD x.2.1 (Int.toNat x_1.2) (Ty.zero AdT) :: nilL (Int × (Int × Int × Int × Int × Int
  × Int × Int × Int × Unit) × Int × Unit))) (Wr (OfI x.1 x.2.1 x_1.1 (IntKind.wrap IntKind.i64 (x_1.2 + (1 : Int)))) ∧ Wr (List.length x.2.1 - Int.toNat (IntKind.wrap IntKind.i64 (x_1.2 + (1 : Int))) < List.length x.2.1 -
  Int.toNat x_1.2) ∧ Wr (IntKind.wrap IntKind.i64 (x_1.2 + (1 : Int)) = IntKind.wrap IntKind.i64 (x_1.2 + (1 : Int))) ∧ Wr (x.1 = x.1) ∧ Wr (x.2.1 = x.2.1) ∧ Wr (x.2.1 = x.2.1) ∧ Wr ((↑(List.length x.2.1) : Int) =
  (↑(List.length x.2.1) : Int)) ∧ Wr (x_1.1 = x_1.1))) ((x_1.1, ()) = (Go.Ad.ofA x.1 x.2.1, ()))) := by kernel_rfl
theorem v25_eq : vcFn g25 300 Tryd.f25 cSameA = (  ∀ (x : List (Int × (Int × Int × Int × Int × Int × Int × Int × Int × Unit) × Int × Unit) × List (Int × (Int × Int × Int × Int × Int × Int × Int × Int × Unit) × Int × Unit) × Unit), Wr (lenA x.1 = true) → bcase (!decide
  ((↑(List.length x.1) : Int) = (↑(List.length x.2.1) : Int))) ((false, ()) = (sameLs x.1 x.2.1, ())) ((Wr (SameI x.1 x.2.1 (0 : Int)) ∧ Wr ((0 : Int) = (0 : Int)) ∧ Wr (x.1 = x.1) ∧ Wr (x.2.1 = x.2.1)) ∧ ∀ (x_1 : Int),
  Wr (SameI x.1 x.2.1 x_1) → bcase (decide (x_1 < (↑(List.length x.1) : Int))) (Wr ((0 : Int) ≤ x_1) ∧ Wr (x_1 < (↑(List.length x.1) : Int)) ∧ Wr (true = true) ∧ Wr ((0 : Int) ≤ x_1) ∧ Wr (x_1 < (↑(List.length x.2.1) :
  Int)) ∧ Wr (true = true) ∧ bcase (!Ty.eqb (Ty.cons (Ty.int IntKind.i8) (Ty.cons (Ty.arr (8 : Nat) (Ty.int IntKind.u16)) (Ty.cons (Ty.int IntKind.i64) Ty.unit))) (List.getD x.1 (Int.toNat x_1) (Ty.zero AdT)) (List.getD
  x.2.1 (Int.toNat x_1) (Ty.zero AdT))) ((false, ()) = (sameLs x.1 x.2.1, ())) (Wr (SameI x.1 x.2.1 (IntKind.wrap IntKind.i64 (x_1 + (1 : Int)))) ∧ Wr (List.length x.1 - Int.toNat (IntKind.wrap IntKind.i64 (x_1 + (1 :
  Int))) < List.length x.1 - Int.toNat x_1) ∧ Wr (IntKind.wrap IntKind.i64 (x_1 + (1 : Int)) = IntKind.wrap IntKind.i64 (x_1 + (1 : Int))) ∧ Wr (x.1 = x.1) ∧ Wr (x.2.1 = x.2.1))) ((true, ()) = (sameLs x.1 x.2.1, ())))) := by kernel_rfl
end Go.Proofs.YtkimpfoimblhjaaDoor.Ad
set_option linter.all false
namespace Go.Proofs.YtkimpfoimblhjaaDoor.Ad
open Go Go.Eng Go.Lb Go.Ad Lb
set_option maxRecDepth 100000
set_option maxHeartbeats 1000000

theorem getD_mem {α : Type} {l : List α} {i : Int} {z : α} (h0 : 0 ≤ i) (h : i < l.length) : l.getD i.toNat z ∈ l := by
  have h' : i.toNat < l.length := by omega
  rw [List.getD_eq_getElem?_getD, List.getElem?_eq_getElem h']
  exact List.getElem_mem h'
theorem take_all {α : Type} {l : List α} {i : Int} (h1 : i ≤ l.length) (h : ¬ i < l.length) : l.take i.toNat = l := List.take_of_length_le (by omega)
theorem step {i : Int} {n : Nat} (h0 : 0 ≤ i) (hn : n ≤ 5000000000) (h : i < n) : IntKind.wrap .i64 (i + 1) = i + 1 := w64 (by omega) (by omega)
theorem bL0 (l : List UInt8) : ({ data := { toList := l } } : ByteArray) = ofL l := rfl
theorem wcut {n : Nat} {i : Int} (h0 : 0 ≤ i) (h : i < n) : n - (i + 1).toNat < n - i.toNat := by omega
theorem GoI.zero {α β : Type} (f : α → Option β) (l : List α) : GoI f l [] 0 := ⟨by omega, by omega, rfl⟩
theorem GoI.len {α β : Type} {f : α → Option β} {l : List α} {out : List β} {i : Int} (h : GoI f l out i) : out.length = i.toNat := by
  rw [goO_len h.a, List.length_take]
  have := h.i0; have := h.i1
  omega
theorem GoI.on {α β : Type} {f : α → Option β} {l : List α} {out : List β} {i : Int} {z : α} {b : β} (h : GoI f l out i) (hl : l.length ≤ 5000000000) (hi : i < l.length) (hf : f (l.getD i.toNat z) = some b) :
    GoI f l (out ++ [b]) (IntKind.wrap .i64 (i + 1)) ∧ l.length - (IntKind.wrap .i64 (i + 1)).toNat < l.length - i.toNat := by
  have h0 := h.i0
  rw [step h0 hl hi]
  refine ⟨⟨by omega, by omega, ?_⟩, wcut h0 hi⟩
  rw [take_succ l i z h0 hi, goO_app, h.a]
  simp only [goO, hf]
theorem GoI.no {α β : Type} {f : α → Option β} {l : List α} {out : List β} {i : Int} {z : α} (h : GoI f l out i) (hi : i < l.length) (hf : f (l.getD i.toNat z) = none) : goO f l = none := goO_none (getD_mem h.i0 hi) hf
theorem GoI.fin {α β : Type} {f : α → Option β} {l : List α} {out : List β} {i : Int} (h : GoI f l out i) (hi : ¬ i < l.length) : goO f l = some out := by
  have := h.a
  rwa [take_all h.i1 hi] at this
theorem MapI.zero {α β : Type} (f : α → β) (l : List α) : MapI f l [] 0 := ⟨by omega, by omega, rfl⟩
theorem MapI.on {α β : Type} {f : α → β} {l : List α} {out : List β} {i : Int} {z : α} (h : MapI f l out i) (hl : l.length ≤ 5000000000) (hi : i < l.length) :
    MapI f l (out ++ [f (l.getD i.toNat z)]) (IntKind.wrap .i64 (i + 1)) ∧ l.length - (IntKind.wrap .i64 (i + 1)).toNat < l.length - i.toNat := by
  have h0 := h.i0
  rw [step h0 hl hi]
  refine ⟨⟨by omega, by omega, ?_⟩, wcut h0 hi⟩
  rw [take_succ l i z h0 hi, h.a, List.map_append]
  rfl
theorem MapI.fin {α β : Type} {f : α → β} {l : List α} {out : List β} {i : Int} (h : MapI f l out i) (hi : ¬ i < l.length) : out = l.map f := by
  have := h.a
  rwa [take_all h.i1 hi] at this
theorem eqA (a b : Ad) : Ty.eqb AdT a b = true ↔ a = b := by
  constructor
  · exact eqb_eq AdT rfl a b
  · rintro rfl
    simp [Ty.eqb, Ty.arr]
theorem eqA_f (a b : Ad) : Ty.eqb AdT a b = false ↔ ¬ a = b := by
  rw [← eqA, Bool.not_eq_true]
theorem lenA_iff (l : List Ad) : lenA l = true ↔ l.length ≤ 100000 := by simp [lenA]
def bare (a : Ad) : Ad := (a.1, (a.2.1.1, a.2.1.2.1, 0, 0, 0, 0, 0, 0, ()), a.2.2)
theorem bare_iff (a : Ad) : a = bare a ↔ ∀ x ∈ (gl a.2.1).drop 2, x = 0 := by
  obtain ⟨f, ⟨a0, a1, a2, a3, a4, a5, a6, a7, ⟨⟩⟩, p, ⟨⟩⟩ := a
  simp [bare, gl]
theorem may_no (a : Ad) (h : (a.2.2.1 < 1 ∨ a.2.2.1 > 65535) ∨ ¬ a.1 = 6 ∧ (¬ a.1 = 4 ∨ Ty.eqb AdT a (bare a) = false)) : may1 a = false := by
  rw [eqA_f, bare_iff] at h
  cases hm : may1 a with
  | false => rfl
  | true =>
    rw [may1_iff] at hm
    exfalso
    rcases hm with ⟨⟨h1, h2⟩, h3 | ⟨h3, h4⟩⟩
    · omega
    · rcases h with h | ⟨h5, h6 | h6⟩
      · omega
      · exact h6 h3
      · exact h6 h4
theorem may_yes (a : Ad) (h : (¬ a.2.2.1 < 1 ∧ ¬ a.2.2.1 > 65535) ∧ (a.1 = 6 ∨ a.1 = 4 ∧ Ty.eqb AdT a (bare a) = true)) : may1 a = true := by
  rw [eqA, bare_iff] at h
  rw [may1_iff]
  exact ⟨⟨by omega, by omega⟩, h.2⟩
theorem v15 : Vc g15 300 Tryd.f15 cMay := by
  constructor
  rw [v15_eq]
  simp only [Wr_iff, bcase_iff, true_and, and_true, decide_eq_true_eq, decide_eq_false_iff_not, Bool.and_eq_true, Bool.and_eq_false_iff, Bool.or_eq_true, Bool.or_eq_false_iff, Bool.not_eq_true', Bool.not_eq_false', Option.map_some, Option.getD_some, Option.isSome_some, Option.isSome_map, imp_self, nilL, noneO]
  intro x
  generalize x.fst = l
  intro hl
  have hl := (lenA_iff l).1 hl
  refine ⟨⟨by omega, by omega, rfl⟩, fun i hi => ⟨fun h => ?_, fun h => ?_⟩⟩
  · refine ⟨hi.i0, h, fun hn => ?_, fun hy => ?_⟩
    · have hn := may_no _ hn
      have : mayA l = false := by
        cases hm : mayA l with
        | false => rfl
        | true =>
          have := List.all_eq_true.1 hm _ (getD_mem (z := Ty.zero AdT) hi.i0 h)
          exact absurd (this.symm.trans hn) (by decide)
      rw [this]
    · have hy := may_yes _ hy
      have h0 := hi.i0
      rw [step h0 (by omega) h]
      refine ⟨⟨by omega, by omega, ?_⟩, wcut h0 h⟩
      have e := take_succ l i (Ty.zero AdT) h0 h
      rw [e, List.all_append, hi.a, List.all_cons, List.all_nil, Bool.and_true, Bool.true_and]
      exact hy
  · have := hi.a
    rw [take_all hi.i1 h] at this
    exact congrArg (fun b => (b, ())) this.symm
theorem v19 : Vc g19 300 Tryd.f19 cGreat := by
  constructor
  rw [v19_eq]
  intro x _
  refine congrArg (fun b => (b, ())) ?_
  rw [Bool.eq_iff_iff, decide_eq_true_eq, decide_eq_true_eq]
  exact ⟨fun h => by have h : (60 : Int) < _ := h; omega, fun h => by show (60 : Int) < _; omega⟩
theorem ofA_snoc (f : Int) (l : List Ad) (a : Ad) : ofA f (l ++ [a]) = if a.1 = f then ofA f l ++ [a] else ofA f l := by
  unfold ofA
  rw [List.filter_append, List.filter_cons, List.filter_nil]
  unfold isFam
  by_cases h : a.1 = f <;> simp [h]
theorem v20 : Vc g20 300 Tryd.f20 cOf := by
  constructor
  rw [v20_eq]
  simp only [Wr_iff, bcase_iff, true_and, and_true, decide_eq_true_eq, decide_eq_false_iff_not, Bool.and_eq_true, Bool.and_eq_false_iff, Bool.or_eq_true, Bool.or_eq_false_iff, Bool.not_eq_true', Bool.not_eq_false', Option.map_some, Option.getD_some, Option.isSome_some, Option.isSome_map, imp_self, nilL, noneO]
  intro x
  generalize x.fst = f
  generalize x.snd.fst = l
  intro hl
  have hl := (lenA_iff l).1 hl
  refine ⟨⟨by omega, by omega, rfl⟩, fun y hi => ⟨fun h => ?_, fun h => ?_⟩⟩
  · have h0 := hi.i0
    have hlen : List.length (α := Ad) y.1 ≤ 100000 := by
      have e := hi.a
      have : (ofA f (l.take y.2.toNat)).length ≤ (l.take y.2.toNat).length := List.length_filter_le _ _
      rw [← e, List.length_take] at this
      omega
    have e := take_succ l y.2 (Ty.zero AdT) h0 h
    refine ⟨h0, h, fun hf => ⟨?_, ?_⟩, fun hf => ?_⟩
    · have e1 : List.length (α := Ad) [l.getD y.2.toNat (Ty.zero AdT)] = 1 := rfl
      have : (List.length (α := Ad) y.1 + 1) * 32 ≤ 140737488355328 := by omega
      exact this
    · rw [step h0 (by omega) h]
      refine ⟨⟨by omega, by omega, ?_⟩, wcut h0 h⟩
      have e2 := ofA_snoc f (l.take y.2.toNat) (l.getD y.2.toNat (Ty.zero AdT))
      rw [if_pos hf] at e2
      exact (congrArg (· ++ [l.getD y.2.toNat (Ty.zero AdT)]) hi.a).trans (e2.symm.trans (congrArg (ofA f) e.symm))
    · rw [step h0 (by omega) h]
      refine ⟨⟨by omega, by omega, ?_⟩, wcut h0 h⟩
      have e2 := ofA_snoc f (l.take y.2.toNat) (l.getD y.2.toNat (Ty.zero AdT))
      rw [if_neg hf] at e2
      exact hi.a.trans (e2.symm.trans (congrArg (ofA f) e.symm))
  · have e := hi.a
    rw [take_all hi.i1 h] at e
    rw [e]
theorem v25 : Vc g25 300 Tryd.f25 cSameA := by
  constructor
  rw [v25_eq]
  simp only [Wr_iff, bcase_iff, true_and, and_true, decide_eq_true_eq, decide_eq_false_iff_not, Bool.and_eq_true, Bool.and_eq_false_iff, Bool.or_eq_true, Bool.or_eq_false_iff, Bool.not_eq_true', Bool.not_eq_false', Option.map_some, Option.getD_some, Option.isSome_some, Option.isSome_map, imp_self, nilL, noneO]
  intro x
  generalize x.fst = l
  generalize x.snd.fst = m
  intro hl
  have hl := (lenA_iff l).1 hl
  have no : ¬ (l : List Ad) = m → sameLs l m = false := fun h => decide_eq_false h
  refine ⟨fun h => ?_, fun hlm => ⟨⟨by omega, by omega, by omega, rfl⟩, fun i hi => ⟨fun h => ?_, fun h => ?_⟩⟩⟩
  · rw [no fun e => h (by rw [e])]
  · have h0 := hi.i0
    have hm : i < m.length := by omega
    refine ⟨h0, h, h0, hm, fun he => ?_, fun he => ?_⟩
    · have he := (eqA_f _ _).1 he
      rw [no fun e => he (by rw [e])]
    · have he := (eqA _ _).1 he
      rw [step h0 (by omega) h]
      refine ⟨⟨by omega, by omega, by omega, ?_⟩, wcut h0 h⟩
      have e1 := take_succ l i (Ty.zero AdT) h0 h
      have e2 := take_succ m i (Ty.zero AdT) h0 hm
      exact e1.trans ((congrArg (· ++ _) hi.a).trans ((congrArg (fun b => m.take i.toNat ++ [b]) he).trans e2.symm))
  · have e := hi.a
    have e2 : m.take i.toNat = m := List.take_of_length_le (by omega)
    rw [take_all hi.i1 h, e2] at e
    rw [show sameLs l m = true from decide_eq_true e]
theorem lens_le {n : Nat} : ∀ {ps : List (List UInt8)}, (∀ p ∈ ps, p.length ≤ n) → Go.Lib.lens ps ≤ n * ps.length
  | [], _ => by simp [Go.Lib.lens]
  | p :: r, h => by
    have := lens_le fun x hx => h x (List.mem_cons_of_mem _ hx)
    have h1 := h p List.mem_cons_self
    simp only [Go.Lib.lens, List.map_cons, List.sum_cons, List.length_cons] at this ⊢
    rw [Nat.mul_succ]
    omega
theorem join_le {n : Nat} {d : List UInt8} {ps : List (List UInt8)} (h : ∀ p ∈ ps, p.length ≤ n) : (Go.Lib.join ps d).length ≤ (n + d.length) * ps.length := by
  cases ps with
  | nil => simp [Go.Lib.join_nil]
  | cons p r =>
    rw [Go.Lib.join_cons, List.length_append, Go.Lib.joinTail_length]
    have h1 := h p List.mem_cons_self
    have h2 := lens_le fun x hx => h x (List.mem_cons_of_mem _ hx)
    rw [List.length_cons, Nat.mul_succ, Nat.add_mul]
    omega
theorem hexF_len : ∀ (f n : Nat), (hexF f n).length ≤ f
  | 0, _ => by simp [hexF]
  | f + 1, n => by
    unfold hexF
    rw [cond_eq_ite]
    split
    · simp
    · rw [List.length_append, List.length_singleton]
      have := hexF_len f (n / 16)
      omega
theorem hexesL_len {l : List Int} (h : l.length ≤ 8) : (hexesL l).length ≤ 40 := by
  unfold hexesL
  have := join_le (n := 4) (d := [58]) (ps := l.map fun n => hexL n.toNat) (by
    intro p hp
    obtain ⟨x, _, rfl⟩ := List.mem_map.1 hp
    exact hexF_len 4 _)
  rw [List.length_map] at this
  simp only [List.length_singleton] at this
  omega
theorem text0_len (a : Ad) : (text0 a).length ≤ 200 := by
  have hd : ∀ n, (digL n).length ≤ 5 := fun n => digF_len 5 n
  unfold text0 hostL
  rw [List.length_append, List.length_cons]
  have h1 := hd a.2.2.1.toNat
  rw [cond_eq_ite]
  split
  · unfold fourL
    have := join_le (n := 5) (d := [46]) (ps := [digL (a.2.1.1.toNat / 256), digL (a.2.1.1.toNat % 256), digL (a.2.1.2.1.toNat / 256), digL (a.2.1.2.1.toNat % 256)]) (by
      intro p hp
      simp only [List.mem_cons, List.not_mem_nil, or_false] at hp
      rcases hp with rfl | rfl | rfl | rfl <;> exact hd _)
    simp only [List.length_cons, List.length_nil] at this
    omega
  · unfold inL
    rw [cond_eq_ite]
    split
    · have := hexesL_len (l := gl a.2.1) (by rw [len_gl]; omega)
      simp only [List.length_append, List.length_cons, List.length_nil]
      omega
    · have h2 := hexesL_len (l := (gl a.2.1).take (long1 a.2.1).toNat) (by rw [List.length_take, len_gl]; omega)
      have h3 := hexesL_len (l := (gl a.2.1).drop (long1 a.2.1 + long2 a.2.1).toNat) (by rw [List.length_drop, len_gl]; omega)
      simp only [List.length_append, List.length_cons, List.length_nil]
      omega
theorem text1_len (a : Ad) : (text1 a).size ≤ 200 := by
  unfold text1
  rw [cond_eq_ite]
  split
  · rw [ofL_size]; exact text0_len a
  · rw [ofL_size]; simp
theorem text2_iff (a : Ad) : text2 a = 0 ↔ may1 a = true := by
  unfold text2
  cases may1 a <;> simp
theorem empty_iff (s : ByteArray) : s = ofL [] ↔ decide ((bytesL s).length = 0) = true := by
  rw [decide_eq_true_eq]
  constructor
  · rintro rfl; rw [bytesL_ofL]; rfl
  · intro h; apply bytesL_inj; rw [bytesL_ofL, List.length_eq_zero_iff.1 h]
theorem splitS_sz {s d p : ByteArray} (hs : szOk s = true) (hp : p ∈ splitS s d) : szOk p = true := by
  rw [szOk_iff] at hs ⊢
  have := (splitS_le s d).1 p hp
  omega
theorem splitS_n {s d : ByteArray} (hs : szOk s = true) : (splitS s d).length ≤ 4000000001 := by
  rw [szOk_iff] at hs
  have := (splitS_le s d).2
  omega
theorem parse2_iff (s : ByteArray) : parse2 s = 0 ↔ parseO s = some (parse1 s) := by
  unfold parse2 parse1
  cases parseO s <;> simp
theorem parse2_no {s : ByteArray} (h : ¬ parse2 s = 0) : parseO s = none ∧ parse2 s = 20 := by
  unfold parse2 at h ⊢
  cases hp : parseO s with
  | none => exact ⟨rfl, rfl⟩
  | some a => rw [hp] at h; exact absurd rfl h
theorem grp_O {s : ByteArray} : (grp2 s = true → grpO s = some (grp1 s)) ∧ (grp2 s = false → grpO s = none) := by
  unfold grpO
  constructor <;> intro h <;> rw [h] <;> rfl
theorem v85 : Vc g85 300 Tryd.f85 cSide := by
  constructor
  rw [v85_eq]
  simp only [Wr_iff, bcase_iff, true_and, and_true, decide_eq_true_eq, decide_eq_false_iff_not, Bool.and_eq_true, Bool.and_eq_false_iff, Bool.or_eq_true, Bool.or_eq_false_iff, Bool.not_eq_true', Bool.not_eq_false', Option.map_some, Option.getD_some, Option.isSome_some, Option.isSome_map, imp_self, nilL, noneO]
  intro x
  generalize x.fst = s
  intro hs
  have hd : ({ data := #[58] } : ByteArray) = ofL [58] := rfl
  have he0 : ({ data := #[] } : ByteArray) = ofL [] := rfl
  have un : sideO s = bif decide ((bytesL s).length = 0) then some [] else goO grpO (splitS s (ofL [58])) := rfl
  have hn := splitS_n (d := ofL [58]) hs
  have hz := fun p => splitS_sz (p := p) (d := ofL [58]) hs
  have fin : ∀ (o : Option (List Int)) (a : List Int) (b : Bool), sideO s = o → a = o.getD [] → b = o.isSome → (a, b, ()) = (side1 s, side2 s, ()) := by
    intro o a b h1 h2 h3
    unfold side1 side2
    rw [h1, h2, h3]
  refine ⟨fun h => ?_, fun h => ⟨⟨hs, rfl⟩, ?_⟩⟩
  · rw [(empty_iff s).1 h] at un
    exact fin _ _ _ un rfl rfl
  · have h : decide ((bytesL s).length = 0) = false := by
      cases hx : decide ((bytesL s).length = 0) with
      | false => rfl
      | true => exact absurd ((empty_iff s).2 hx) h
    rw [h, cond_false] at un
    show _ ∧ _
    rw [hd]
    generalize splitS s (ofL [58]) = l at un hn hz ⊢
    refine ⟨GoI.zero _ _, fun y hi => ⟨fun hlt => ?_, fun hlt => ?_⟩⟩
    · have hm := getD_mem (z := Ty.zero .str) hi.i0 hlt
      refine ⟨hi.i0, hlt, hz _ hm, fun hp => ?_, fun hp => ⟨?_, ?_⟩⟩
      · rw [hi.no hlt (grp_O.2 hp)] at un
        exact fin _ _ _ un rfl rfl
      · have e1 : List.length [grp1 (l.getD y.2.toNat (Ty.zero .str))] = 1 := rfl
        have e2 := hi.len
        have : (List.length (α := Int) y.1 + 1) * 2 ≤ 140737488355328 := by omega
        exact this
      · exact hi.on (z := Ty.zero .str) (by omega) hlt (grp_O.1 hp)
    · rw [hi.fin hlt] at un
      exact fin _ _ _ un rfl rfl
end Go.Proofs.YtkimpfoimblhjaaDoor.Ad
set_option linter.all false
namespace Go.Proofs.YtkimpfoimblhjaaDoor.Ad
open Go Go.Eng Go.Lb Go.Ad Lb
set_option maxRecDepth 100000
set_option maxHeartbeats 1000000

theorem rest_cons {s : ByteArray} {p : Nat} (h : p < s.size) : restL s p = (bytesL s).getD p 0 :: restL s (p + 1) := by
  unfold restL
  rw [size_bytesL] at h
  rw [List.drop_eq_getElem_cons h, List.getD_eq_getElem?_getD, List.getElem?_eq_getElem h]
  rfl
theorem rune_byte {s : ByteArray} {p : Nat} (h : p < s.size) : ∃ b, restL s p = b :: restL s (p + 1) ∧ ((b.toNat < 128 ∧ runeAt s p = b.toNat ∧ nextP s p = p + 1) ∨ (128 ≤ b.toNat ∧ 128 ≤ runeAt s p)) := by
  refine ⟨_, rest_cons h, ?_⟩
  have h1 := runeAt_eq h
  have h2 := nextP_eq h
  rw [rest_cons h] at h1 h2
  rcases hd1_cases (b := (bytesL s).getD p 0) (r := restL s (p + 1)) with ⟨c1, c2, c3⟩ | ⟨c1, c2, _⟩
  · rw [c2] at h1
    rw [c3] at h2
    exact .inl ⟨c1, h1, h2⟩
  · refine .inr ⟨c1, ?_⟩
    cases hc : (hd1 ((bytesL s).getD p 0 :: restL s (p + 1))).1 with
    | none => rw [hc] at h1; rw [h1]; decide
    | some c =>
      rw [hc] at h1
      have := c2 c hc
      rw [h1, Option.getD_some]
      omega
theorem long_cases {g : G8} {i n a m : Int} {z : Int} (h : LongI g i n a m) (hi : i < 8) : (¬ (gl g).getD i.toNat z = 0 → LongI g (i + 1) 0 a m) ∧
    ((gl g).getD i.toNat z = 0 → (max m 1 < n + 1 → LongI g (i + 1) (n + 1) (i + 1 - (n + 1)) (n + 1)) ∧ (¬ max m 1 < n + 1 → LongI g (i + 1) (n + 1) a m)) := by
  obtain ⟨i0, i1, n0, n1, m0, m1, a0, a1, e⟩ := h
  have hd := drop_cons (gl g) i z i0 (by rw [len_gl]; omega)
  rw [hd, longGo] at e
  refine ⟨fun hz => ?_, fun hz => ⟨fun hm => ?_, fun hm => ?_⟩⟩
  · rw [show decide ((gl g).getD i.toNat z = 0) = false from decide_eq_false hz, cond_false] at e
    exact ⟨by omega, by omega, by omega, by omega, m0, m1, a0, a1, e⟩
  · rw [show decide ((gl g).getD i.toNat z = 0) = true from decide_eq_true hz, cond_true, show decide (max m 1 < n + 1) = true from decide_eq_true hm, cond_true] at e
    exact ⟨by omega, by omega, by omega, by omega, by omega, by omega, by omega, by omega, e⟩
  · rw [show decide ((gl g).getD i.toNat z = 0) = true from decide_eq_true hz, cond_true, show decide (max m 1 < n + 1) = false from decide_eq_false hm, cond_false] at e
    exact ⟨by omega, by omega, by omega, by omega, m0, m1, a0, a1, e⟩
theorem v53 : Vc g53 300 Tryd.f53 cLong := by
  constructor
  rw [v53_eq]
  simp only [Wr_iff, bcase_iff, true_and, and_true, decide_eq_true_eq, decide_eq_false_iff_not, Bool.and_eq_true, Bool.and_eq_false_iff, Bool.or_eq_true, Bool.or_eq_false_iff, Bool.not_eq_true', Bool.not_eq_false', Option.map_some, Option.getD_some, Option.isSome_some, Option.isSome_map, imp_self, nilL, noneO]
  intro x
  generalize x.fst = g
  intro _
  refine ⟨⟨by omega, by omega, by omega, by omega, by omega, by omega, by omega, by omega, rfl⟩, fun y hy => ⟨fun h => ?_, fun h => ?_⟩⟩
  · have hc := long_cases (z := 0) hy h
    have i0 := hy.i0
    have n0 := hy.n0
    have n1 := hy.n1
    have m0 := hy.m0
    have w1 : IntKind.wrap .i64 (y.1 + 1) = y.1 + 1 := w64 (by omega) (by omega)
    have w2 : IntKind.wrap .i64 (y.2.1 + 1) = y.2.1 + 1 := w64 (by omega) (by omega)
    have w3 : IntKind.wrap .i64 (y.1 + 1 - (y.2.1 + 1)) = y.1 + 1 - (y.2.1 + 1) := w64 (by omega) (by omega)
    rw [w1, w2, w3]
    have hmu : 8 - (y.1 + 1).toNat < 8 - y.1.toNat := by omega
    refine ⟨i0, h, fun hz => ⟨fun hm => ?_, fun hm => ?_⟩, fun hz => ⟨fun hm => ?_, fun hm => ?_⟩⟩
    · omega
    · exact ⟨hc.1 hz, hmu⟩
    · exact ⟨(hc.2 hz).1 hm, hmu⟩
    · exact ⟨(hc.2 hz).2 (by omega), hmu⟩
  · have e := hy.a
    rw [List.drop_eq_nil_iff.2 (by rw [len_gl]; have := hy.i1; omega)] at e
    have e1 : y.2.2.1 = long1 g := congrArg Prod.fst e
    have e2 : y.2.2.2 = long2 g := congrArg Prod.snd e
    rw [e1, e2]
theorem num_bad {s : ByteArray} (h : (s = ofL [] ∨ (s.size : Int) > 5) ∨ byteAt s 0 = 48 ∧ ¬ s = ofL [48]) : numOk (bytesL s) = false := by
  have hs := size_bytesL s
  have e1 : s = ofL [] ↔ bytesL s = [] := ⟨fun h => by rw [h, bytesL_ofL], fun h => bytesL_inj (by rw [h, bytesL_ofL])⟩
  have e2 : s = ofL [48] ↔ bytesL s = [48] := ⟨fun h => by rw [h, bytesL_ofL], fun h => bytesL_inj (by rw [h, bytesL_ofL])⟩
  rw [e1, e2, byteAt_eq, hs] at h
  cases hn : numOk (bytesL s) with
  | false => rfl
  | true =>
    exfalso
    unfold numOk at hn
    simp only [Bool.and_eq_true, decide_eq_true_eq, Bool.or_eq_true] at hn
    generalize bytesL s = l at h hn
    match l with
    | [] => simp at hn
    | [b] =>
      simp at h hn
      obtain ⟨h1, h2⟩ := h
      exact h2 (UInt8.toNat_inj.1 (by show b.toNat = 48; omega))
    | b :: c :: r =>
      simp at h hn
      rcases h with h | h
      · omega
      · exact hn.1.2 (UInt8.toNat_inj.1 (by show b.toNat = 48; omega))
theorem num_good {s : ByteArray} (h : (¬ s = ofL [] ∧ ¬ (s.size : Int) > 5) ∧ (¬ byteAt s 0 = 48 ∨ s = ofL [48])) : numOk (bytesL s) = (bytesL s).all isDigit := by
  have hs := size_bytesL s
  have e1 : s = ofL [] ↔ bytesL s = [] := ⟨fun h => by rw [h, bytesL_ofL], fun h => bytesL_inj (by rw [h, bytesL_ofL])⟩
  have e2 : s = ofL [48] ↔ bytesL s = [48] := ⟨fun h => by rw [h, bytesL_ofL], fun h => bytesL_inj (by rw [h, bytesL_ofL])⟩
  rw [e1, e2, byteAt_eq, hs] at h
  unfold numOk
  generalize bytesL s = l at h
  match l with
  | [] => simp at h
  | b :: r =>
    have k1 : decide (1 ≤ (b :: r).length) = true := by simp
    have k2 : decide ((b :: r).length ≤ 5) = true := by have := h.1.2; rw [decide_eq_true_eq]; omega
    have k3 : (decide ((b :: r).head? ≠ some 48) || decide ((b :: r).length = 1)) = true := by
      rcases h.2 with h | h
      · rw [Bool.or_eq_true]
        left
        rw [decide_eq_true_eq]
        intro e
        simp at e
        apply h
        rw [e]
        rfl
      · rw [h]; rfl
    rw [k1, k2, k3]
    rfl
theorem isDigit_iff (b : UInt8) : isDigit b = true ↔ 48 ≤ b.toNat ∧ b.toNat ≤ 57 := by unfold isDigit; simp
theorem pw_le {p : Nat} (h : p ≤ 5) : (10 : Int) ^ p ≤ 100000 := by
  have : ∀ q : Fin 6, (10 : Int) ^ q.val ≤ 100000 := by decide
  exact this ⟨p, by omega⟩
theorem num_on {s : ByteArray} {n : Int} {p : Nat} (h : NumI s n p) (hp : p < s.size) : ((runeAt s p < 48 ∨ runeAt s p > 57) → (bytesL s).all isDigit = false) ∧
    ((¬ runeAt s p < 48 ∧ ¬ runeAt s p > 57) → NumI s (IntKind.wrap .i64 (IntKind.wrap .i64 (10 * n) + IntKind.wrap .i64 (IntKind.wrap .i32 (runeAt s p - 48)))) (nextP s p)) := by
  obtain ⟨p1, z, n0, n1, d, a⟩ := h
  obtain ⟨b, e, hb⟩ := rune_byte hp
  have hpw := pw_le (p := p) (by omega)
  rw [e] at d a
  constructor
  · intro hr
    rw [← d, List.all_cons]
    have : isDigit b = false := by
      rw [← Bool.not_eq_true, isDigit_iff]
      omega
    rw [this, Bool.false_and]
  · intro hr
    rcases hb with ⟨b1, b2, b3⟩ | ⟨b1, b2⟩
    · have w0 : IntKind.wrap .i32 (runeAt s p - 48) = runeAt s p - 48 := by simp [IntKind.wrap, IntKind.signed, IntKind.bits]; omega
      have hd : isDigit b = true := by rw [isDigit_iff]; omega
      rw [w0, w64 (n := 10 * n) (by omega) (by omega), w64 (n := runeAt s p - 48) (by omega) (by omega), w64 (by omega) (by omega), b3, b2]
      refine ⟨by omega, z, by omega, ?_, ?_, ?_⟩
      · rw [Int.pow_succ]; omega
      · rw [← d, List.all_cons, hd, Bool.true_and]
      · have a : numL (n.toNat * 10 + (b.toNat - 48)) (restL s (p + 1)) = numL 0 (bytesL s) := a
        rw [← a]
        congr 1
        omega
    · omega
theorem v56 : Vc g56 300 Tryd.f56 cNum := by
  constructor
  rw [v56_eq]
  simp only [Wr_iff, bcase_iff, true_and, and_true, decide_eq_true_eq, decide_eq_false_iff_not, Bool.and_eq_true, Bool.and_eq_false_iff, Bool.or_eq_true, Bool.or_eq_false_iff, Bool.not_eq_true', Bool.not_eq_false', Option.map_some, Option.getD_some, Option.isSome_some, Option.isSome_map, imp_self, nilL, noneO]
  intro x
  generalize x.fst = s
  generalize x.snd.fst = m
  intro hs
  have e48 : ({ data := #[48] } : ByteArray) = ofL [48] := rfl
  have e0 : ({ data := #[] } : ByteArray) = ofL [] := rfl
  have no : numOk (bytesL s) = false → ((0 : Int), false, ()) = (num1 s m, num2 s m, ()) := by
    intro h
    unfold num1 num2
    rw [h]
    rfl
  have hz : ¬ s = ofL [] → 0 < s.size := by
    intro h
    rw [size_bytesL]
    rcases Nat.eq_zero_or_pos (bytesL s).length with h0 | h0
    · exact absurd (bytesL_inj (by rw [List.length_eq_zero_iff.1 h0, bytesL_ofL])) h
    · exact h0
  refine ⟨fun _ => by omega, fun h => by have := hz h.1; omega, fun h => no (num_bad h), fun h => ⟨⟨by omega, by have := h.1.2; omega, by omega, by decide, rfl, rfl⟩, fun y hy => ⟨fun hp => ⟨fun hr => ?_, fun hr => ?_⟩, fun hp => ?_⟩⟩⟩
  · have := (num_on hy hp).1 hr
    exact no (by rw [num_good h, this])
  · refine ⟨(num_on hy hp).2 hr, ?_⟩
    have := nextP_le hp
    omega
  · have hd := hy.d
    have ha := hy.a
    have hp1 := hy.p1
    have hn0 := hy.n0
    rw [restL_end (by omega)] at hd ha
    have hok : numOk (bytesL s) = true := by rw [num_good h, ← hd]; rfl
    have ha : y.1.toNat = numL 0 (bytesL s) := ha
    have hn : y.1 = ((numL 0 (bytesL s) : Nat) : Int) := by
      rw [← ha]; omega
    unfold num1 num2
    rw [hok, ← hn]
    rfl
theorem orI_nat (k : IntKind) (x y : Nat) (hx : x < 2 ^ k.bits) (hy : y < 2 ^ k.bits) : orI k x y = k.wrap ((x ||| y : Nat) : Int) := by
  have e : ∀ z : Nat, z < 2 ^ k.bits → ((z : Int) % ((2 ^ k.bits : Nat) : Int)).toNat = z := by
    intro z hz
    rw [Int.emod_eq_of_lt (by omega) (by exact_mod_cast hz)]
    simp
  unfold orI
  rw [BitVec.toNat_or, BitVec.toNat_ofInt, BitVec.toNat_ofInt, e x hx, e y hy]
theorem or_add {i a d : Nat} (hd : d < 2 ^ i) : (a * 2 ^ i ||| d) = a * 2 ^ i + d := by rw [Nat.mul_comm]; exact (Nat.two_pow_add_eq_or_of_lt hd a).symm
theorem or16 {n d : Int} (n0 : 0 ≤ n) (n1 : n ≤ 65535) (d0 : 0 ≤ d) (d1 : d < 16) : orI .i32 (IntKind.wrap .i32 (n * 2 ^ min (Int.toNat 4) (IntKind.bits .i32))) d = n * 16 + d := by
  obtain ⟨a, rfl⟩ : ∃ a : Nat, n = a := ⟨n.toNat, by omega⟩
  obtain ⟨b, rfl⟩ : ∃ b : Nat, d = b := ⟨d.toNat, by omega⟩
  have e : IntKind.wrap .i32 ((a : Int) * 2 ^ min (Int.toNat 4) (IntKind.bits .i32)) = ((a * 2 ^ 4 : Nat) : Int) := by
    have : (2 : Int) ^ min (Int.toNat 4) (IntKind.bits .i32) = 16 := rfl
    rw [this]
    simp [IntKind.wrap, IntKind.signed, IntKind.bits]; omega
  rw [e, orI_nat _ _ _ (by show _ < 2 ^ 32; omega) (by show _ < 2 ^ 32; omega), or_add (by omega)]
  simp [IntKind.wrap, IntKind.signed, IntKind.bits]; omega
theorem grp_no {s : ByteArray} (h : grpL 0 (bytesL s) = none) : ((0 : Int), false, ()) = (grp1 s, grp2 s, ()) := by
  unfold grp1 grp2
  rw [h]
  rfl
theorem grp_on {s : ByteArray} {n : Int} {p : Nat} {d : Int} (h : GrpI s n p) (hp : p < s.size) (d0 : 0 ≤ d) (d1 : d < 16) (hv : runeAt s p < 128 → ∀ b : UInt8, runeAt s p = b.toNat → hexV b = some d.toNat) (hr : runeAt s p < 128) :
    (n * 16 + d > 65535 → grpL 0 (bytesL s) = none) ∧ (¬ n * 16 + d > 65535 → GrpI s (n * 16 + d) (nextP s p)) := by
  obtain ⟨p1, n0, n1, a⟩ := h
  obtain ⟨b, e, hb⟩ := rune_byte hp
  rcases hb with ⟨b1, b2, b3⟩ | ⟨b1, b2⟩
  · rw [e, grpL, hv hr b b2] at a
    simp only at a
    refine ⟨fun h => ?_, fun h => ?_⟩
    · rw [← a, show decide (n.toNat * 16 + d.toNat ≤ 65535) = false from decide_eq_false (by omega)]
      rfl
    · rw [show decide (n.toNat * 16 + d.toNat ≤ 65535) = true from decide_eq_true (by omega), cond_true] at a
      rw [b3]
      refine ⟨by omega, by omega, by omega, ?_⟩
      rw [← a]
      congr 1
      omega
  · omega
theorem hexV_0 {b : UInt8} (h : 48 ≤ b.toNat ∧ b.toNat ≤ 57) : hexV b = some (b.toNat - 48) := by
  unfold hexV
  rw [show (decide (48 ≤ b.toNat) && decide (b.toNat ≤ 57)) = true from by simpa using h]
  rfl
theorem hexV_a {b : UInt8} (h : 97 ≤ b.toNat ∧ b.toNat ≤ 102) : hexV b = some (b.toNat - 87) := by
  unfold hexV
  rw [show (decide (48 ≤ b.toNat) && decide (b.toNat ≤ 57)) = false from by simp; omega, show (decide (97 ≤ b.toNat) && decide (b.toNat ≤ 102)) = true from by simpa using h]
  rfl
theorem hexV_A {b : UInt8} (h : 65 ≤ b.toNat ∧ b.toNat ≤ 70) : hexV b = some (b.toNat - 55) := by
  unfold hexV
  rw [show (decide (48 ≤ b.toNat) && decide (b.toNat ≤ 57)) = false from by simp; omega, show (decide (97 ≤ b.toNat) && decide (b.toNat ≤ 102)) = false from by simp; omega, show (decide (65 ≤ b.toNat) && decide (b.toNat ≤ 70)) = true from by simpa using h]
  rfl
theorem hexV_no {b : UInt8} (h : ¬ (48 ≤ b.toNat ∧ b.toNat ≤ 57) ∧ ¬ (97 ≤ b.toNat ∧ b.toNat ≤ 102) ∧ ¬ (65 ≤ b.toNat ∧ b.toNat ≤ 70)) : hexV b = none := by
  unfold hexV
  rw [show (decide (48 ≤ b.toNat) && decide (b.toNat ≤ 57)) = false from by simp; omega, show (decide (97 ≤ b.toNat) && decide (b.toNat ≤ 102)) = false from by simp; omega, show (decide (65 ≤ b.toNat) && decide (b.toNat ≤ 70)) = false from by simp; omega]
  rfl
theorem wi32 {n : Int} (h0 : -1000 ≤ n) (h1 : n ≤ 2000000000) : IntKind.wrap .i32 n = n := by
  simp [IntKind.wrap, IntKind.signed, IntKind.bits]; omega
theorem v105 : Vc g105 300 Tryd.f105 cGrp := by
  constructor
  rw [v105_eq]
  simp only [Wr_iff, bcase_iff, true_and, and_true, decide_eq_true_eq, decide_eq_false_iff_not, Bool.and_eq_true, Bool.and_eq_false_iff, Bool.or_eq_true, Bool.or_eq_false_iff, Bool.not_eq_true', Bool.not_eq_false', Option.map_some, Option.getD_some, Option.isSome_some, Option.isSome_map, imp_self, nilL, noneO]
  intro x
  generalize x.fst = s
  intro hs
  have e0 : ({ data := #[] } : ByteArray) = ofL [] := rfl
  refine ⟨⟨by omega, by omega, by omega, rfl⟩, fun y hy => ⟨fun hp => ?_, fun hp => ?_⟩⟩
  · have hmu : s.size - nextP s y.2 < s.size - y.2 := by have := nextP_le hp; omega
    have n0 := hy.n0
    have n1 := hy.n1
    refine ⟨fun hr => ?_, fun hr1 => ⟨fun hr => ?_, fun hr2 => ⟨fun hr => ?_, fun hr3 => ?_⟩⟩⟩
    · rw [wi32 (n := runeAt s y.2 - 48) (by omega) (by omega), or16 n0 n1 (by omega) (by omega)]
      have hg := grp_on (d := runeAt s y.2 - 48) hy hp (by omega) (by omega) (fun _ b hb => by rw [hexV_0 (by omega)]; congr 1; omega) (by omega)
      exact ⟨by omega, fun h => grp_no (hg.1 h), fun h => ⟨hg.2 h, hmu⟩⟩
    · rw [wi32 (n := runeAt s y.2 - 97) (by omega) (by omega), wi32 (n := runeAt s y.2 - 97 + 10) (by omega) (by omega), or16 n0 n1 (by omega) (by omega)]
      have hg := grp_on (d := runeAt s y.2 - 97 + 10) hy hp (by omega) (by omega) (fun _ b hb => by rw [hexV_a (by omega)]; congr 1; omega) (by omega)
      exact ⟨by omega, fun h => grp_no (hg.1 h), fun h => ⟨hg.2 h, hmu⟩⟩
    · rw [wi32 (n := runeAt s y.2 - 65) (by omega) (by omega), wi32 (n := runeAt s y.2 - 65 + 10) (by omega) (by omega), or16 n0 n1 (by omega) (by omega)]
      have hg := grp_on (d := runeAt s y.2 - 65 + 10) hy hp (by omega) (by omega) (fun _ b hb => by rw [hexV_A (by omega)]; congr 1; omega) (by omega)
      exact ⟨by omega, fun h => grp_no (hg.1 h), fun h => ⟨hg.2 h, hmu⟩⟩
    · refine grp_no ?_
      obtain ⟨b, e, hb⟩ := rune_byte hp
      rw [← hy.a, e, grpL, hexV_no (by omega)]
  · have ha := hy.a
    have hp1 := hy.p1
    have hn0 := hy.n0
    have hn1 := hy.n1
    rw [restL_end (by omega), grpL] at ha
    have e1 : IntKind.wrap .u16 y.1 = grp1 s := by
      unfold grp1
      rw [← ha, Option.getD_some]
      simp [IntKind.wrap, IntKind.signed, IntKind.bits]; omega
    have e2 : (!decide (s = { data := #[] }) && decide ((s.size : Int) ≤ 4)) = grp2 s := by
      unfold grp2
      rw [← ha, Option.isSome_some, Bool.true_and, e0]
      have := empty_iff s
      have hsz := size_bytesL s
      rw [Bool.eq_iff_iff]
      simp only [Bool.and_eq_true, Bool.not_eq_true', decide_eq_false_iff_not, decide_eq_true_eq, this]
      omega
    rw [e1, e2]
end Go.Proofs.YtkimpfoimblhjaaDoor.Ad
set_option linter.all false
namespace Go.Proofs.YtkimpfoimblhjaaDoor.Ad
open Go Go.Eng Go.Lb Go.Ad Lb
set_option maxRecDepth 100000
set_option maxHeartbeats 1000000
theorem numO_cases (s : ByteArray) (m : Int) : (num2 s m = true → numO m s = some (num1 s m)) ∧ (num2 s m = false → numO m s = none) := by
  unfold numO
  exact ⟨fun h => by rw [h]; rfl, fun h => by rw [h]; rfl⟩
theorem four_cases (s : ByteArray) : (four2 s = true → (fourO s).map (fun l => ((4 : Int), l)) = some (4, (fourO s).getD [])) ∧ (four2 s = false → fourO s = none) := by
  unfold four2
  cases fourO s with
  | none => exact ⟨fun h => Bool.noConfusion h, fun _ => rfl⟩
  | some l => exact ⟨fun _ => rfl, fun h => Bool.noConfusion h⟩
theorem six_cases (s : ByteArray) : (six2 s = true → (sixO s).map (fun l => ((6 : Int), l)) = some (6, (sixO s).getD [])) ∧ (six2 s = false → sixO s = none) := by
  unfold six2
  cases sixO s with
  | none => exact ⟨fun h => Bool.noConfusion h, fun _ => rfl⟩
  | some l => exact ⟨fun _ => rfl, fun h => Bool.noConfusion h⟩
theorem sub_ofL (s : ByteArray) (i k : Nat) : subS s i k = ofL (((bytesL s).take k).drop i) := by
  apply bytesL_inj
  rw [bytesL_ofL, bytesL_sub]
theorem sub_take (s : ByteArray) (i : Nat) : subS s 0 i = ofL ((bytesL s).take i) := by rw [sub_ofL]; rfl
theorem sub_drop (s : ByteArray) (i : Nat) : subS s i s.size = ofL ((bytesL s).drop i) := by
  rw [sub_ofL, List.take_of_length_le (Nat.le_of_eq (size_bytesL s).symm)]
theorem sub_mid (l : List UInt8) : subS (ofL l) 1 (l.length - 1) = ofL (l.drop 1).dropLast := by
  rw [sub_ofL, bytesL_ofL, List.dropLast_eq_take, List.drop_take, List.length_drop]
theorem sub_at {s : ByteArray} {a b : Int} {k : Nat} (ha : a = k) (hb : b = s.size) : subS s a.toNat b.toNat = ofL ((bytesL s).drop k) := by
  rw [ha, hb]
  exact sub_drop s k
theorem sub_to {s : ByteArray} {b : Int} {k : Nat} (hb : b = k) : subS s (Int.toNat 0) b.toNat = ofL ((bytesL s).take k) := by
  rw [hb]
  exact sub_take s k
theorem sub_in {l : List UInt8} {b : Int} (hl : 1 ≤ l.length) (hb : b = (l.length : Int) - 1) : subS (ofL l) (Int.toNat 1) b.toNat = ofL (l.drop 1).dropLast := by
  rw [hb, show ((l.length : Int) - 1).toNat = l.length - 1 from by omega]
  exact sub_mid l
theorem head91 : ∀ {l : List UInt8}, byteAt (ofL l) (Int.toNat 0) = 91 ↔ l.head? = some 91
  | [] => by rw [byteAt_eq, bytesL_ofL]; decide
  | b :: r => by
    rw [byteAt_eq, bytesL_ofL]
    simp
    exact ⟨fun h => UInt8.toNat_inj.1 (by show b.toNat = 91; omega), fun h => by rw [h]; decide⟩
theorem last93 {l : List UInt8} {b : Int} (hl : 1 ≤ l.length) (hb : b = (l.length : Int) - 1) : byteAt (ofL l) b.toNat = 93 ↔ l.getLast? = some 93 := by
  rw [byteAt_eq, bytesL_ofL, hb, show ((l.length : Int) - 1).toNat = l.length - 1 from by omega, List.getLast?_eq_getElem?]
  have : l.length - 1 < l.length := by omega
  rw [List.getD_eq_getElem?_getD, List.getElem?_eq_getElem this]
  simp
  exact ⟨fun h => UInt8.toNat_inj.1 (by show (l[l.length - 1]).toNat = 93; omega), fun h => by rw [h]; decide⟩
theorem parse_none {s : ByteArray} (h : parseO s = none) : (((0 : Int), ((0 : Int), (0 : Int), (0 : Int), (0 : Int), (0 : Int), (0 : Int), (0 : Int), (0 : Int), ()), (0 : Int), ()), (20 : Int), ()) = (parse1 s, parse2 s, ()) := by
  unfold parse1 parse2
  rw [h]
  rfl
theorem parse_some {s : ByteArray} {a : Ad} (h : parseO s = some a) : (a, (0 : Int), ()) = (parse1 s, parse2 s, ()) := by
  unfold parse1 parse2
  rw [h]
  rfl
theorem parse_at {s : ByteArray} {k : Nat} (h : lastN 58 (bytesL s) = some k) (h1 : 1 ≤ k) : parseO s = match hostO ((bytesL s).take k), numO 65535 (ofL ((bytesL s).drop (k + 1))) with
    | some h, some p => bif decide (p = 0) then none else some (h.1, lg h.2, p, ())
    | _, _ => none := by
  unfold parseO
  rw [h]
  show (bif decide (k < 1) then none else _) = _
  rw [show decide (k < 1) = false from decide_eq_false (by omega), cond_false]
  rfl
theorem parse_bad {s : ByteArray} {k : Nat} (h : lastN 58 (bytesL s) = some k) (h1 : 1 ≤ k) (hb : num2 (ofL ((bytesL s).drop (k + 1))) 65535 = false ∨ hostO ((bytesL s).take k) = none ∨ num1 (ofL ((bytesL s).drop (k + 1))) 65535 = 0) : parseO s = none := by
  rw [parse_at h h1]
  cases hn : num2 (ofL ((bytesL s).drop (k + 1))) 65535 with
  | false =>
    rw [(numO_cases _ _).2 hn]
    cases hostO ((bytesL s).take k) <;> rfl
  | true =>
    rw [(numO_cases _ _).1 hn]
    cases hh : hostO ((bytesL s).take k) with
    | none => rfl
    | some h =>
      show (bif decide (num1 (ofL ((bytesL s).drop (k + 1))) 65535 = 0) then none else _) = _
      rw [hn, hh] at hb
      rw [decide_eq_true (by simpa using hb), cond_true]
theorem parse_good {s : ByteArray} {k : Nat} {f : Int} {l : List Int} (h : lastN 58 (bytesL s) = some k) (h1 : 1 ≤ k) (hn : num2 (ofL ((bytesL s).drop (k + 1))) 65535 = true) (hh : hostO ((bytesL s).take k) = some (f, l)) (h0 : ¬ num1 (ofL ((bytesL s).drop (k + 1))) 65535 = 0) :
    parseO s = some (f, lg l, num1 (ofL ((bytesL s).drop (k + 1))) 65535, ()) := by
  rw [parse_at h h1, (numO_cases _ _).1 hn, hh]
  show (bif decide (num1 (ofL ((bytesL s).drop (k + 1))) 65535 = 0) then none else _) = _
  rw [decide_eq_false h0, cond_false]
theorem host4 {l : List UInt8} (h : ¬ l.head? = some 91) : hostO l = (fourO (ofL l)).map (fun l => ((4 : Int), l)) := by
  unfold hostO
  rw [show decide (l.head? ≠ some 91) = true from decide_eq_true h, cond_true]
theorem host6 {l : List UInt8} (h : l.head? = some 91) (h1 : 1 < l.length) (h2 : l.getLast? = some 93) : hostO l = (sixO (ofL (l.drop 1).dropLast)).map (fun l => ((6 : Int), l)) := by
  unfold hostO
  rw [show decide (l.head? ≠ some 91) = false from decide_eq_false (fun k => k h), cond_false, decide_eq_true h1, decide_eq_true h2]
  rfl
theorem host0 {l : List UInt8} (h : l.head? = some 91) (h1 : ¬ 1 < l.length ∨ ¬ l.getLast? = some 93) : hostO l = none := by
  unfold hostO
  rw [show decide (l.head? ≠ some 91) = false from decide_eq_false (fun k => k h), cond_false]
  rcases h1 with h1 | h1
  · rw [decide_eq_false h1]; rfl
  · rw [decide_eq_false h1, Bool.and_false]; rfl
theorem v18 : Vc g18 300 Tryd.f18 cParse := by
  constructor
  rw [v18_eq]
  simp only [Wr_iff, bcase_iff, true_and, and_true, decide_eq_true_eq, decide_eq_false_iff_not, Bool.and_eq_true, Bool.and_eq_false_iff, Bool.or_eq_true, Bool.or_eq_false_iff, Bool.not_eq_true', Bool.not_eq_false', Option.map_some, Option.getD_some, Option.isSome_some, Option.isSome_map, imp_self, nilL, noneO]
  intro x
  generalize x.fst = s
  intro hs
  refine ⟨⟨⟨hs, by omega⟩, by omega⟩, ?_⟩
  have hs' := (szOk_iff s).1 hs
  have sz := size_bytesL s
  cases hk : lastN 58 (bytesL s) with
  | none =>
    have hz : lastZ s 58 = -1 := by unfold lastZ; rw [show UInt8.ofNat (Int.toNat 58) = 58 from rfl, hk]
    rw [hz]
    refine ⟨fun _ => parse_none ?_, fun h => absurd (show (-1 : Int) < 1 by omega) h⟩
    unfold parseO
    rw [hk]
  | some k =>
    have hz : lastZ s 58 = k := by unfold lastZ; rw [show UInt8.ofNat (Int.toNat 58) = 58 from rfl, hk]
    have hlt := lastN_lt hk
    rw [hz]
    have wz : IntKind.wrap .i64 ((k : Int) + 1) = ((k + 1 : Nat) : Int) := by rw [w64 (by omega) (by omega)]; omega
    refine ⟨fun h => parse_none ?_, fun h => ?_⟩
    · unfold parseO
      rw [hk]
      show (bif decide (k < 1) then none else _) = _
      rw [show decide (k < 1) = true from decide_eq_true (by omega), cond_true]
    · have h1 : 1 ≤ k := by omega
      rw [sub_at wz rfl, sub_to (b := (k : Int)) rfl, wz]
      have hH : ((bytesL s).take k).length = k := by rw [List.length_take]; omega
      have zH : (ofL ((bytesL s).take k)).size = k := by rw [ofL_size, hH]
      have bad := fun b => parse_none (parse_bad hk h1 b)
      have good := fun (f : Int) (l : List Int) a b c => parse_some (parse_good (f := f) (l := l) hk h1 a b c)
      have szP : (ofL ((bytesL s).drop (k + 1))).size ≤ 4000000000 := by rw [ofL_size, List.length_drop]; omega
      have w1 : IntKind.wrap .i64 ((((ofL ((bytesL s).take k)).size : Nat) : Int) - 1) = (((bytesL s).take k).length : Int) - 1 := by rw [w64 (by omega) (by omega)]; omega
      generalize (bytesL s).take k = H at *
      generalize ofL ((bytesL s).drop (k + 1)) = P at *
      rw [sub_in (by omega) w1, last93 (by omega) w1, head91, w1, zH, hH]
      have dH : (ofL (H.drop 1).dropLast).size ≤ 4000000000 := by rw [ofL_size, List.length_dropLast, List.length_drop]; omega
      refine ⟨by omega, by omega, by omega, by omega, by omega, by omega, (szOk_iff _).2 szP, by omega, by omega, fun hd => ?_, fun hd => ⟨by omega, by omega, fun hm => ?_, fun hm => ?_⟩⟩
      · refine ⟨(szOk_iff _).2 (by omega), fun b => bad ?_, fun g => good _ _ g.1.1 ?_ g.2⟩
        · rcases b with (b | b) | b
          · exact .inl b
          · rw [host4 hd, (four_cases _).2 b]; exact .inr (.inl rfl)
          · exact .inr (.inr b)
        · rw [host4 hd, (four_cases _).1 g.1.2]
      · have hh := host6 hd (by omega) hm.2
        refine ⟨by omega, by omega, by omega, (szOk_iff _).2 dH, fun b => bad ?_, fun g => good _ _ g.1.1 ?_ g.2⟩
        · rcases b with (b | b) | b
          · exact .inl b
          · rw [hh, (six_cases _).2 b]; exact .inr (.inl rfl)
          · exact .inr (.inr b)
        · rw [hh, (six_cases _).1 g.1.2]
      · have hh := host0 hd (by rcases hm with hm | hm; exact .inl (by omega); exact .inr hm)
        refine ⟨fun _ => bad (.inr (.inl hh)), fun g => ?_⟩
        exact absurd g.1.2 (by decide)
end Go.Proofs.YtkimpfoimblhjaaDoor.Ad
set_option linter.all false
namespace Go.Proofs.YtkimpfoimblhjaaDoor.Ad
open Go Go.Eng Go.Lb Go.Ad Lb
set_option maxRecDepth 100000
set_option maxHeartbeats 2000000
theorem wu16 {n : Int} (h0 : 0 ≤ n) (h1 : n < 65536) : IntKind.wrap .u16 n = n := by
  simp [IntKind.wrap, IntKind.signed, IntKind.bits]; omega
theorem or8 {n d : Int} (n0 : 0 ≤ n) (n1 : n ≤ 255) (d0 : 0 ≤ d) (d1 : d ≤ 255) : orI .u16 (IntKind.wrap .u16 (n * 2 ^ min (Int.toNat 8) (IntKind.bits .u16))) (IntKind.wrap .u16 d) = n * 256 + d := by
  obtain ⟨a, rfl⟩ : ∃ a : Nat, n = a := ⟨n.toNat, by omega⟩
  obtain ⟨b, rfl⟩ : ∃ b : Nat, d = b := ⟨d.toNat, by omega⟩
  have e : IntKind.wrap .u16 ((a : Int) * 2 ^ min (Int.toNat 8) (IntKind.bits .u16)) = ((a * 2 ^ 8 : Nat) : Int) := by
    have : (2 : Int) ^ min (Int.toNat 8) (IntKind.bits .u16) = 256 := rfl
    rw [this, wu16 (by omega) (by omega)]
    omega
  rw [e, wu16 d0 (by omega), orI_nat .u16 _ _ (by show a * 2 ^ 8 < 65536; omega) (by show b < 65536; omega), or_add (by omega), wu16 (by omega) (by omega)]
  omega
abbrev four8 (g : G8) (i : Int) (n : Int) : G8 := lg ((gl g).set (IntKind.wrap .i64 (Int.tdiv i 2)).toNat (orI .u16 (IntKind.wrap .u16 ((gl g).getD (IntKind.wrap .i64 (Int.tdiv i 2)).toNat 0 * 2 ^ min (Int.toNat 8) (IntKind.bits .u16))) (IntKind.wrap .u16 n)))
theorem four_on {ps : List ByteArray} {g : G8} {i : Int} {z : ByteArray} (h : FourI ps g i) (hi : i < ps.length) (hn : num2 (ps.getD i.toNat z) 255 = true) : FourI ps (four8 g i (num1 (ps.getD i.toNat z) 255)) (IntKind.wrap .i64 (i + 1)) := by
  obtain ⟨i0, i1, l, ns, e, rfl⟩ := h
  have hg : GoI (numO 255) ps ns i := ⟨i0, by omega, e⟩
  have hno := (numO_cases _ _).1 hn
  obtain ⟨hon, _⟩ := hg.on (z := z) (by omega) hi hno
  have len := hg.len
  have R : ∀ n ∈ ns, 0 ≤ n ∧ n ≤ 255 := goO_mem (fun a b => numO_R) e
  have Rn := numO_R hno
  refine ⟨hon.i0, by have := hon.i1; omega, l, ns ++ [num1 (ps.getD i.toNat z) 255], hon.a, ?_⟩
  generalize num1 (ps.getD i.toNat z) 255 = n at *
  have hc : i = 0 ∨ i = 1 ∨ i = 2 ∨ i = 3 := by omega
  rcases hc with rfl | rfl | rfl | rfl
  · match ns, len with
    | [], _ =>
      have e1 := or8 (n := 0) (by omega) (by omega) Rn.1 Rn.2
      rw [Int.zero_mul, Int.zero_mul, Int.zero_add] at e1
      show lg [orI .u16 (IntKind.wrap .u16 (0 * 2 ^ min (Int.toNat 8) (IntKind.bits .u16))) (IntKind.wrap .u16 n), 0, 0, 0, 0, 0, 0, 0] = lg [n]
      rw [Int.zero_mul, e1]
      rfl
  · match ns, len with
    | [a], _ =>
      have Ra := R a (by simp)
      have e1 := or8 Ra.1 Ra.2 Rn.1 Rn.2
      show lg [orI .u16 (IntKind.wrap .u16 (a * 2 ^ min (Int.toNat 8) (IntKind.bits .u16))) (IntKind.wrap .u16 n), 0, 0, 0, 0, 0, 0, 0] = lg [a * 256 + n]
      rw [e1]
      rfl
  · match ns, len with
    | [a, b], _ =>
      have e1 := or8 (n := 0) (by omega) (by omega) Rn.1 Rn.2
      rw [Int.zero_mul, Int.zero_mul, Int.zero_add] at e1
      show lg [a * 256 + b, orI .u16 (IntKind.wrap .u16 (0 * 2 ^ min (Int.toNat 8) (IntKind.bits .u16))) (IntKind.wrap .u16 n), 0, 0, 0, 0, 0, 0] = lg [a * 256 + b, n]
      rw [Int.zero_mul, e1]
      rfl
  · match ns, len with
    | [a, b, c], _ =>
      have Ra := R c (by simp)
      have e1 := or8 Ra.1 Ra.2 Rn.1 Rn.2
      show lg [a * 256 + b, orI .u16 (IntKind.wrap .u16 (c * 2 ^ min (Int.toNat 8) (IntKind.bits .u16))) (IntKind.wrap .u16 n), 0, 0, 0, 0, 0, 0] = lg [a * 256 + b, c * 256 + n]
      rw [e1]
      rfl
theorem four_no {s : ByteArray} (h : fourO s = none) : (((0 : Int), (0 : Int), (0 : Int), (0 : Int), (0 : Int), (0 : Int), (0 : Int), (0 : Int), ()), false, ()) = (four1 s, four2 s, ()) := by
  unfold four1 four2
  rw [h]
  rfl
theorem four_fin {s : ByteArray} {g : G8} {i : Int} (h : FourI (splitS s (ofL [46])) g i) (hi : ¬ i < (splitS s (ofL [46])).length) : (g, true, ()) = (four1 s, four2 s, ()) := by
  obtain ⟨i0, i1, l, ns, e, rfl⟩ := h
  have hg : GoI (numO 255) (splitS s (ofL [46])) ns i := ⟨i0, by omega, e⟩
  have hf := hg.fin hi
  have hl := goO_len hf
  unfold four1 four2 fourO
  rw [l, hf]
  match ns, hl.trans l with
  | [a, b, c, d], _ => rfl
theorem v57 : Vc g57 300 Tryd.f57 cFour := by
  constructor
  rw [v57_eq]
  simp only [Wr_iff, bcase_iff, true_and, and_true, decide_eq_true_eq, decide_eq_false_iff_not, Bool.and_eq_true, Bool.and_eq_false_iff, Bool.or_eq_true, Bool.or_eq_false_iff, Bool.not_eq_true', Bool.not_eq_false', Option.map_some, Option.getD_some, Option.isSome_some, Option.isSome_map, imp_self, nilL, noneO]
  intro x
  generalize x.fst = s
  rw [show ({ data := #[46] } : ByteArray) = ofL [46] from rfl]
  intro hs
  refine ⟨⟨hs, rfl⟩, ?_⟩
  refine ⟨fun h => four_no ?_, fun h => ⟨?_, fun y hy => ⟨fun hi => ?_, fun hi => four_fin hy hi⟩⟩⟩
  · unfold fourO
    rw [show decide ((splitS s (ofL [46])).length = 4) = false from decide_eq_false (by omega)]
    rfl
  · exact ⟨by omega, by omega, by omega, [], rfl, rfl⟩
  · have i0 := hy.i0
    have w : IntKind.wrap .i64 (Int.tdiv y.2 2) = Int.tdiv y.2 2 ∧ 0 ≤ Int.tdiv y.2 2 ∧ Int.tdiv y.2 2 < 8 := by
      rw [Int.tdiv_eq_ediv_of_nonneg i0]
      exact ⟨w64 (by omega) (by omega), by omega, by omega⟩
    have szp := splitS_sz hs (getD_mem (z := Ty.zero .str) i0 hi)
    refine ⟨i0, hi, szp, fun hn => four_no ?_, fun hn => ?_⟩
    · have hg := hy.a
      obtain ⟨ns, e, _⟩ := hg
      unfold fourO
      rw [goO_none (getD_mem (z := Ty.zero .str) i0 hi) ((numO_cases _ _).2 hn)]
      cases decide ((splitS s (ofL [46])).length = 4) <;> rfl
    · have e8 : ((8 : Nat) : Int) = 8 := rfl
      refine ⟨by omega, by omega, by rw [w.1]; exact w.2.1, by rw [w.1, e8]; exact w.2.2, by omega, by rw [w.1]; exact w.2.1, by rw [w.1, e8]; exact w.2.2, four_on hy hi hn, ?_⟩
      have hl := hy.l
      rw [step i0 (by omega) hi]
      exact wcut (n := 4) i0 (by omega)
end Go.Proofs.YtkimpfoimblhjaaDoor.Ad
set_option linter.all false
namespace Go.Proofs.YtkimpfoimblhjaaDoor.Ad
open Go Go.Eng Go.Lb Go.Ad Lb
set_option maxRecDepth 100000
set_option maxHeartbeats 4000000
theorem cut_no {l d : List UInt8} (h : (Go.Lib.cut l d).2.2 = false) : (Go.Lib.cut l d).2.1 = [] := by
  unfold Go.Lib.cut at *
  by_cases hc : 0 ≤ Go.Lib.index l d
  · rw [if_pos hc] at h; exact Bool.noConfusion (show true = false from h)
  · rw [if_neg hc]
theorem gl_lg {l : List Int} (h : l.length = 8) : gl (lg l) = l := by
  match l, h with
  | [a, b, c, d, e, f, g, i], _ => rfl
abbrev z8 : List Int := [0, 0, 0, 0, 0, 0, 0, 0]
theorem z8_eq : z8 = List.replicate 8 0 := rfl
theorem cp1 {l : List Int} (h : l.length ≤ 8) : cpL z8 (Int.toNat 0) (Int.toNat (8 : Nat) - Int.toNat 0) l = l ++ List.replicate (8 - l.length) 0 := by
  show z8.take 0 ++ (l.take 8 ++ z8.drop (0 + min 8 l.length)) = _
  rw [List.take_zero, List.nil_append, List.take_of_length_le h, z8_eq, List.drop_replicate, Nat.zero_add, Nat.min_eq_right h]
theorem cp2 {l m : List Int} {w : Int} (h : l.length + m.length ≤ 8) (hw : w = 8 - (m.length : Int)) : cpL (l ++ List.replicate (8 - l.length) 0) w.toNat (Int.toNat (8 : Nat) - w.toNat) m = l ++ List.replicate (8 - l.length - m.length) 0 ++ m := by
  have e : w.toNat = 8 - m.length := by omega
  have e8 : Int.toNat ((8 : Nat) : Int) = 8 := rfl
  unfold cpL
  rw [e, e8, show 8 - (8 - m.length) = m.length from by omega, List.take_of_length_le (Nat.le_refl _), Nat.min_self, List.take_append, List.drop_of_length_le (by simp; omega), List.append_nil, List.take_of_length_le (by omega), List.take_replicate, show min (8 - m.length - l.length) (8 - l.length) = 8 - l.length - m.length from by omega]
theorem six_cp {l m : List Int} {w : Int} (h : l.length + m.length ≤ 8) (hw : w = 8 - (m.length : Int)) :
    lg (cpL (gl (lg (cpL z8 (Int.toNat 0) (Int.toNat (8 : Nat) - Int.toNat 0) l))) w.toNat (Int.toNat (8 : Nat) - w.toNat) m) = lg (l ++ List.replicate (8 - l.length - m.length) 0 ++ m) := by
  rw [cp1 (by omega), gl_lg (by rw [List.length_append, List.length_replicate]; omega), cp2 h hw]
theorem side_len {s : ByteArray} (h : szOk s = true) : (side1 s).length ≤ 4000000001 := by
  unfold side1 sideO
  cases decide ((bytesL s).length = 0) with
  | true => exact Nat.zero_le _
  | false =>
    rw [cond_false]
    cases hg : goO grpO (splitS s (ofL [58])) with
    | none => exact Nat.zero_le _
    | some l => rw [Option.getD_some, goO_len hg]; exact splitS_n h
theorem six_eq (s : ByteArray) : sixO s = bif side2 (cut1 s (ofL [58, 58])) && side2 (cut2 s (ofL [58, 58])) then
    (bif cutOk s (ofL [58, 58]) then (bif decide ((side1 (cut1 s (ofL [58, 58]))).length + (side1 (cut2 s (ofL [58, 58]))).length ≤ 7) then some (side1 (cut1 s (ofL [58, 58])) ++ List.replicate (8 - (side1 (cut1 s (ofL [58, 58]))).length - (side1 (cut2 s (ofL [58, 58]))).length) 0 ++ side1 (cut2 s (ofL [58, 58]))) else none) else
      (bif decide ((side1 (cut1 s (ofL [58, 58]))).length = 8) then some (side1 (cut1 s (ofL [58, 58]))) else none)) else none := by
  unfold sixO cut1 cut2 cutOk side1 side2
  rw [bytesL_ofL]
  generalize sideO (ofL (Go.Lib.cut (bytesL s) [58, 58]).1) = a
  generalize sideO (ofL (Go.Lib.cut (bytesL s) [58, 58]).2.1) = b
  cases a <;> cases b <;> rfl
theorem cut_side (s : ByteArray) (h : cutOk s (ofL [58, 58]) = false) : side1 (cut2 s (ofL [58, 58])) = [] := by
  unfold cutOk at h
  unfold cut2
  rw [cut_no h]
  rfl
theorem six_no {s : ByteArray} (h : sixO s = none) : (((0 : Int), (0 : Int), (0 : Int), (0 : Int), (0 : Int), (0 : Int), (0 : Int), (0 : Int), ()), false, ()) = (six1 s, six2 s, ()) := by
  unfold six1 six2
  rw [h]
  rfl
theorem six_yes {s : ByteArray} {l : List Int} {g : G8} (h : sixO s = some l) (hg : g = lg l) : (g, true, ()) = (six1 s, six2 s, ()) := by
  unfold six1 six2
  rw [h, hg]
  rfl
theorem cut_le (s : ByteArray) : (cut1 s (ofL [58, 58])).size ≤ s.size ∧ (cut2 s (ofL [58, 58])).size ≤ s.size := by
  unfold cut1 cut2
  rw [ofL_size, ofL_size, size_bytesL s]
  unfold Go.Lib.cut
  by_cases hc : 0 ≤ Go.Lib.index (bytesL s) (bytesL (ofL [58, 58]))
  · rw [if_pos hc]
    show (List.take _ _).length ≤ _ ∧ (List.drop _ _).length ≤ _
    rw [List.length_take, List.length_drop]
    omega
  · rw [if_neg hc]
    exact ⟨Nat.le_refl _, Nat.zero_le _⟩
theorem v58 : Vc g58 300 Tryd.f58 cSix := by
  constructor
  rw [v58_eq]
  intro x
  generalize x.fst = s
  have hf := six_eq s
  have hk := cut_side s
  have hc := cut_le s
  rw [show (ByteArray.mk (List.toArray ((58 : UInt8) :: (58 : UInt8) :: nilL UInt8)) : ByteArray) = ofL [58, 58] from rfl]
  generalize ha : cut1 s (ofL [58, 58]) = a at *
  generalize hb : cut2 s (ofL [58, 58]) = b at *
  have l1 : szOk a = true → (side1 a).length ≤ 4000000001 := side_len
  have l2 : szOk b = true → (side1 b).length ≤ 4000000001 := side_len
  generalize side1 a = l at *
  generalize side1 b = m at *
  generalize side2 a = p at *
  generalize side2 b = q at *
  generalize cutOk s (ofL [58, 58]) = k at *
  intro hs
  have hs := (szOk_iff s).1 ((Wr_iff _).1 hs)
  have za := (szOk_iff a).2 (by omega)
  have zb := (szOk_iff b).2 (by omega)
  have l1 := l1 za
  have l2 := l2 zb
  refine ⟨⟨(szOk_iff s).2 hs⟩, ⟨za⟩, ⟨zb⟩, ?_⟩
  have w : IntKind.wrap .i64 ((l.length : Int) + m.length) = (l.length : Int) + m.length := w64 (by omega) (by omega)
  have e8 : ((8 : Nat) : Int) = 8 := rfl
  refine (bcase_iff _ _ _).2 ⟨fun h => (bcase_iff _ _ _).2 ⟨fun _ => six_no ?_, fun h' => absurd (h.symm.trans h') (by decide)⟩, fun h => (bcase_iff _ _ _).2 ⟨fun h2 => (bcase_iff _ _ _).2 ⟨fun _ => six_no ?_, fun h' => absurd (h2.symm.trans h') (by decide)⟩, fun h2 => (bcase_iff _ _ _).2 ⟨fun h3 => six_no ?_, fun h3 => ?_⟩⟩⟩
  · rw [hf]
    have : (p && q) = false := by cases p <;> cases q <;> simp_all
    rw [this]; rfl
  · have hp : (p && q) = true := by cases p <;> cases q <;> simp_all
    rw [Bool.and_eq_true, decide_eq_true_eq, w] at h2
    rw [hf, hp, h2.1, decide_eq_false (show ¬ l.length + m.length ≤ 7 by omega)]; rfl
  · have hp : (p && q) = true := by cases p <;> cases q <;> simp_all
    rw [Bool.and_eq_true, Bool.not_eq_true', Bool.not_eq_true', decide_eq_false_iff_not] at h3
    rw [hf, hp, h3.1, decide_eq_false (show ¬ l.length = 8 by omega)]; rfl
  · have hp : (p && q) = true := by cases p <;> cases q <;> simp_all
    have hlm : ∃ r, sixO s = some r ∧ r = l ++ List.replicate (8 - l.length - m.length) 0 ++ m ∧ l.length + m.length ≤ 8 := by
      cases k with
      | true =>
        have : ¬ ((l.length : Int) + m.length > 7) := by rw [Bool.true_and, decide_eq_false_iff_not, w] at h2; exact h2
        rw [hf, hp, decide_eq_true (show l.length + m.length ≤ 7 by omega)]
        exact ⟨_, rfl, rfl, by omega⟩
      | false =>
        have : (l.length : Int) = 8 := by rw [Bool.not_false, Bool.true_and, Bool.not_eq_false', decide_eq_true_eq] at h3; exact h3
        have hm := hk rfl
        subst hm
        rw [hf, hp, decide_eq_true (show l.length = 8 by omega)]
        refine ⟨_, rfl, ?_, by rw [List.length_nil]; omega⟩
        rw [show 8 - l.length - ([] : List Int).length = 0 from by rw [List.length_nil]; omega]
        simp
    obtain ⟨r, h1, h2, h3⟩ := hlm
    have w8 : IntKind.wrap .i64 (8 - (m.length : Int)) = 8 - (m.length : Int) := w64 (by omega) (by omega)
    have hcp := six_cp (w := IntKind.wrap .i64 (8 - (m.length : Int))) h3 w8
    refine ⟨⟨by omega⟩, ⟨by omega⟩, ⟨by omega⟩, ⟨by rw [w8]; omega⟩, ⟨by rw [w8]; omega⟩, ⟨by omega⟩, six_yes h1 ?_⟩
    rw [h2, ← hcp]
    rfl
end Go.Proofs.YtkimpfoimblhjaaDoor.Ad
set_option linter.all false
namespace Go.Proofs.YtkimpfoimblhjaaDoor.Ad
open Go Go.Eng Go.Lb Go.Ad Lb
set_option maxRecDepth 100000
set_option maxHeartbeats 4000000
theorem ofL_app (a b : List UInt8) : ofL a ++ ofL b = ofL (a ++ b) := by
  apply bytesL_inj
  rw [bytesL_ofL]
  simp [bytesL, ofL]
theorem typU16 {n : Int} (h : IntKind.wrap .u16 n = n) : inR n := by
  unfold inR
  rw [← h]
  simp [IntKind.wrap, IntKind.signed, IntKind.bits]
  omega
theorem typed_R {a : Ad} (h : typedB AdT a = true) : AdR a := by
  obtain ⟨f, ⟨a0, a1, a2, a3, a4, a5, a6, a7, ⟨⟩⟩, p, ⟨⟩⟩ := a
  have h' : (decide (IntKind.wrap .i8 f = f) && ((decide (IntKind.wrap .u16 a0 = a0) && (decide (IntKind.wrap .u16 a1 = a1) && (decide (IntKind.wrap .u16 a2 = a2) && (decide (IntKind.wrap .u16 a3 = a3) && (decide (IntKind.wrap .u16 a4 = a4) && (decide (IntKind.wrap .u16 a5 = a5) && (decide (IntKind.wrap .u16 a6 = a6) && (decide (IntKind.wrap .u16 a7 = a7) && true)))))))) && (decide (IntKind.wrap .i64 p = p) && true))) = true := h
  simp only [Bool.and_eq_true, decide_eq_true_eq, Bool.and_true] at h'
  obtain ⟨_, ⟨h0, h1, h2, h3, h4, h5, h6, h7⟩, _⟩ := h'
  constructor
  intro x hx
  have hx : x ∈ [a0, a1, a2, a3, a4, a5, a6, a7] := hx
  simp only [List.mem_cons, List.not_mem_nil, or_false] at hx
  rcases hx with rfl | rfl | rfl | rfl | rfl | rfl | rfl | rfl <;> exact typU16 (by assumption)
theorem hi_byte {n : Int} (h : inR n) : IntKind.wrap .i64 (Int.fdiv n (2 ^ min (Int.toNat 8) (IntKind.bits .u16))) = ((n.toNat / 256 : Nat) : Int) := by
  unfold inR at h
  have e : (2 : Int) ^ min (Int.toNat 8) (IntKind.bits .u16) = 256 := rfl
  rw [e, Int.fdiv_eq_ediv_of_nonneg _ (by omega), w64 (by omega) (by omega)]
  omega
theorem lo_byte {n : Int} (h : inR n) : IntKind.wrap .i64 (andI .u16 n 255) = ((n.toNat % 256 : Nat) : Int) := by
  unfold inR at h
  obtain ⟨a, rfl⟩ : ∃ a : Nat, n = a := ⟨n.toNat, by omega⟩
  have e1 : (BitVec.ofInt (IntKind.bits .u16) (a : Int)).toNat = a := by
    rw [BitVec.toNat_ofInt]
    show ((a : Int) % 65536).toNat = a
    omega
  have e2 : (BitVec.ofInt (IntKind.bits .u16) 255).toNat = 255 := rfl
  have e3 : a &&& 255 = a % 256 := Nat.and_two_pow_sub_one_eq_mod (n := 8) a
  unfold andI
  rw [BitVec.toNat_and, e1, e2, e3, wu16 (by omega) (by omega), w64 (by omega) (by omega), Int.toNat_natCast]
theorem digS_len (n : Int) : (digS n).size ≤ 5 := digS_size n
theorem join4 {x y z w : Nat} : joinS [digS x, digS y, digS z, digS w] (ofL [46]) = ofL (Go.Lib.join [digL x, digL y, digL z, digL w] [46]) ∧ (joinL [digS x, digS y, digS z, digS w] (ofL [46])).length ≤ 24 := by
  have e : joinL [digS x, digS y, digS z, digS w] (ofL [46]) = Go.Lib.join [digL x, digL y, digL z, digL w] [46] := by
    unfold joinL
    rw [bytesL_ofL]
    simp only [List.map_cons, List.map_nil, digS, bytesL_ofL, Int.toNat_natCast]
  unfold joinS
  rw [e]
  refine ⟨rfl, ?_⟩
  have := join_le (n := 5) (d := [46]) (ps := [digL x, digL y, digL z, digL w]) (by
    intro p hp
    simp only [List.mem_cons, List.not_mem_nil, or_false] at hp
    rcases hp with rfl | rfl | rfl | rfl <;> exact digF_len 5 _)
  exact this
theorem hexes_size {l : List Int} (h : l.length ≤ 8) : (hexes l).size ≤ 40 := by
  unfold hexes
  rw [ofL_size]
  exact hexesL_len h
theorem text_no' {a : Ad} (h : may1 a = false) : (({ data := #[] } : ByteArray), (20 : Int), ()) = (text1 a, text2 a, ()) := by
  unfold text1 text2
  rw [h]
  rfl
theorem text_yes {a : Ad} {t : ByteArray} (h : may1 a = true) (ht : t = ofL (text0 a)) : (t, (0 : Int), ()) = (text1 a, text2 a, ()) := by
  unfold text1 text2
  rw [h, ht]
  rfl
theorem mayA_one (a : Ad) : mayA (a :: nilL Ad) = may1 a := Bool.and_true _
theorem v17 : Vc g17 300 Tryd.f17 cText.T := by
  constructor
  rw [v17_eq]
  rintro ⟨a, ⟨⟩⟩ hx
  have hr : AdR a := by
    have h1 : (typedB AdT a && true) = true := hx.out.1
    rw [Bool.and_true] at h1
    exact typed_R h1
  have i0 : inR a.2.1.1 := hr.g _ (by simp [gl])
  have i1 : inR a.2.1.2.1 := hr.g _ (by simp [gl])
  have e0 : Int.toNat 0 + Int.toNat 0 = 0 := rfl
  have e1 : Int.toNat 0 + Int.toNat (IntKind.wrap .i64 (0 + 1)) = 1 := rfl
  have b91 : (ByteArray.mk (List.toArray ((91 : UInt8) :: nilL UInt8)) : ByteArray) = ofL [91] := rfl
  have b93 : (ByteArray.mk (List.toArray ((93 : UInt8) :: nilL UInt8)) : ByteArray) = ofL [93] := rfl
  have b58 : (ByteArray.mk (List.toArray ((58 : UInt8) :: nilL UInt8)) : ByteArray) = ofL [58] := rfl
  have b46 : (ByteArray.mk (List.toArray ((46 : UInt8) :: nilL UInt8)) : ByteArray) = ofL [46] := rfl
  have b5858 : (ByteArray.mk (List.toArray ((58 : UInt8) :: (58 : UInt8) :: nilL UInt8)) : ByteArray) = ofL [58, 58] := rfl
  have mx : maxLen = 9223372036854775807 := rfl
  have s1 : ∀ b : UInt8, (ofL [b]).size = 1 := fun b => ofL_size [b]
  have s2 : (ofL [58, 58]).size = 2 := ofL_size _
  have hp := digS_len a.2.2.1
  have hg : (a.2.1.1 :: a.2.1.2.1 :: a.2.1.2.2.1 :: a.2.1.2.2.2.1 :: a.2.1.2.2.2.2.1 :: a.2.1.2.2.2.2.2.1 :: a.2.1.2.2.2.2.2.2.1 :: a.2.1.2.2.2.2.2.2.2.1 :: nilL Int) = gl a.2.1 := rfl
  have lg8 := len_gl a.2.1
  have n8 : Int.toNat ((8 : Nat) : Int) = 8 := rfl
  have n0 : Int.toNat 0 = 0 := rfl
  simp only [e0, e1, List.getD_cons_zero, List.getD_cons_succ, hi_byte i0, lo_byte i0, hi_byte i1, lo_byte i1, mayA_one]
  simp only [b91, b93, b58, b46, b5858, hg, n8, n0, List.drop_zero]
  refine ⟨⟨(lenA_iff _).2 (by show 1 ≤ 100000; omega)⟩, (bcase_iff _ _ _).2 ⟨fun h => text_no' (by simpa using h), fun h => ?_⟩⟩
  have hm : may1 a = true := by simpa using h
  have hm' := (may1_iff a).1 hm
  have hport : digS a.2.2.1 = ofL (digL a.2.2.1.toNat) := rfl
  refine ⟨⟨by simp; omega⟩, ⟨by rw [s1, mx]; omega⟩, (bcase_iff _ _ _).2 ⟨fun h4 => ?_, fun h4 => ⟨⟨trivial⟩, (bcase_iff _ _ _).2 ⟨fun h0 => ?_, fun h0 => ?_⟩⟩⟩⟩
  · obtain ⟨j1, j2⟩ := join4 (x := a.2.1.1.toNat / 256) (y := a.2.1.1.toNat % 256) (z := a.2.1.2.1.toNat / 256) (w := a.2.1.2.1.toNat % 256)
    have e : ∀ p q r t : ByteArray, (p :: q :: nilL ByteArray) ++ (r :: t :: nilL ByteArray) = [p, q, r, t] := fun _ _ _ _ => rfl
    have el : ∀ p q : ByteArray, (p :: q :: nilL ByteArray).length = 2 := fun _ _ => rfl
    have e4 : ∀ p q r t : ByteArray, [p, q, r, t].length = 4 := fun _ _ _ _ => rfl
    unfold inR at i0 i1
    have k4 : a.1 = 4 := by simpa using h4
    rw [e, el, e4, j1, el]
    refine ⟨⟨by omega⟩, ⟨by omega⟩, ⟨by omega⟩, ⟨by omega⟩, ⟨by decide⟩, ⟨by omega⟩, ⟨by simp; omega⟩, ⟨by simp; omega⟩, ⟨by omega⟩, ⟨by decide⟩, ⟨by decide⟩, ⟨by omega⟩, ⟨by simp; omega⟩, ⟨by simp; omega⟩, ⟨by omega⟩, ⟨?_⟩, ⟨?_⟩, text_yes hm ?_⟩
    · rw [Bool.and_eq_true, decide_eq_true_eq, decide_eq_true_eq]
      omega
    · have : (ofL (Go.Lib.join [digL (a.2.1.1.toNat / 256), digL (a.2.1.1.toNat % 256), digL (a.2.1.2.1.toNat / 256), digL (a.2.1.2.1.toNat % 256)] [46])).size ≤ 24 := by
        rw [← j1]; unfold joinS; rw [ofL_size]; exact j2
      rw [ByteArray.size_append, s1, mx]
      omega
    · rw [hport, ofL_app, ofL_app]
      unfold text0 hostL
      rw [decide_eq_true k4, cond_true]
      rfl
  · have hh := hexes_size (l := gl a.2.1) (by omega)
    have k0 : long2 a.2.1 = 0 := by simpa using h0
    rw [List.take_of_length_le (Nat.le_of_eq lg8)]
    refine ⟨⟨by omega⟩, ⟨by omega⟩, ⟨by omega⟩, ⟨decide_eq_true (Nat.le_of_eq lg8)⟩, ⟨by rw [s1, mx]; omega⟩, ⟨by rw [ByteArray.size_append, s1, s1, mx]; omega⟩, ⟨by rw [ByteArray.size_append, ByteArray.size_append, ByteArray.size_append, s1, s1, s1, mx]; omega⟩, text_yes hm ?_⟩
    rw [hport, show hexes (gl a.2.1) = ofL (hexesL (gl a.2.1)) from rfl, ofL_app, ofL_app, ofL_app, ofL_app]
    unfold text0 hostL inL
    rw [show decide (a.1 = 4) = false from h4, cond_false, decide_eq_true k0, cond_true]
    rfl
  · have k0 : ¬ long2 a.2.1 = 0 := by simpa using h0
    have hl := longL_ok (gl a.2.1)
    have hl : 2 ≤ long2 a.2.1 ∧ 0 ≤ long1 a.2.1 ∧ long1 a.2.1 + long2 a.2.1 ≤ 8 := by
      rcases hl with h | ⟨h1, h2, h3, _⟩
      · exact absurd h k0
      · exact ⟨h1, h2, h3⟩
    have w : IntKind.wrap .i64 (long1 a.2.1 + long2 a.2.1) = long1 a.2.1 + long2 a.2.1 := w64 (by omega) (by omega)
    rw [List.take_of_length_le (Nat.le_of_eq lg8), w]
    have l1 : ((gl a.2.1).take (long1 a.2.1).toNat).length ≤ 8 := by rw [List.length_take]; omega
    have l2 : ((gl a.2.1).drop (long1 a.2.1 + long2 a.2.1).toNat).length ≤ 8 := by rw [List.length_drop]; omega
    have h1 := hexes_size l1
    have h2 := hexes_size l2
    refine ⟨⟨by omega⟩, ⟨by omega⟩, ⟨by omega⟩, ⟨decide_eq_true l1⟩, ⟨by rw [s1, mx]; omega⟩, ⟨by rw [ByteArray.size_append, s1, s2, mx]; omega⟩, ⟨by omega⟩, ⟨by omega⟩, ⟨by omega⟩, ⟨decide_eq_true l2⟩, ⟨by simp only [ByteArray.size_append, s1, s2, mx]; omega⟩, ⟨by simp only [ByteArray.size_append, s1, s2, mx]; omega⟩, ⟨by simp only [ByteArray.size_append, s1, s2, mx]; omega⟩, text_yes hm ?_⟩
    rw [hport, show ∀ l, hexes l = ofL (hexesL l) from fun _ => rfl, show ∀ l, hexes l = ofL (hexesL l) from fun _ => rfl, ofL_app, ofL_app, ofL_app, ofL_app, ofL_app, ofL_app]
    unfold text0 hostL inL
    rw [show decide (a.1 = 4) = false from h4, cond_false, decide_eq_false k0, cond_false]
    simp
end Go.Proofs.YtkimpfoimblhjaaDoor.Ad

/-
  A text of mine, of several parts: AdVc, AdP1.
-/
import Derived.Test.YtkimpfoimblhjaaDoorAea
import Derived.Test.YtkimpfoimblhjaaDoorAeb
import Derived.Test.YtkimpfoimblhjaaDoorAec
set_option linter.all false
namespace Go.Proofs.YtkimpfoimblhjaaDoor.Ad
open Go Go.Eng Go.Lb Go.Ad Lb
set_option maxRecDepth 100000
theorem v15_eq : vcFn g15 300 Tryd.f15 cMay = ( ∀ (x : List (Int × (Int × Int × Int × Int × Int × Int × Int × Int × Unit) × Int × Unit) × Unit), Wr (lenA x.fst = Bool.true) → (Wr (MayI x.fst (0 : Int)) ∧ Wr ((0 : Int) = (0 : Int)) ∧ Wr (x.fst = x.fst) ∧ Wr (x.fst =
  x.fst) ∧ Wr ((↑(List.length x.fst) : Int) = (↑(List.length x.fst) : Int))) ∧ ∀ (x_1 : Int), Wr (MayI x.fst x_1) → bcase (Decidable.decide (x_1 < (↑(List.length x.fst) : Int))) (Wr ((0 : Int) ≤ x_1) ∧ Wr (x_1 <
  (↑(List.length x.fst) : Int)) ∧ Wr (Bool.true = Bool.true) ∧ bcase (Decidable.decide ((List.getD x.fst (Int.toNat x_1) (Ty.zero AdT)).snd.snd.fst < (1 : Int)) || Decidable.decide ((List.getD x.fst (Int.toNat x_1)
  (Ty.zero AdT)).snd.snd.fst > (65535 : Int)) || !Decidable.decide ((List.getD x.fst (Int.toNat x_1) (Ty.zero AdT)).fst = (6 : Int)) && (!Decidable.decide ((List.getD x.fst (Int.toNat x_1) (Ty.zero AdT)).fst = (4 : Int))
  || !Ty.eqb (Ty.cons (Ty.int IntKind.i8) (Ty.cons (Ty.arr (8 : Nat) (Ty.int IntKind.u16)) (Ty.cons (Ty.int IntKind.i64) Ty.unit))) (List.getD x.fst (Int.toNat x_1) (Ty.zero AdT)) ((List.getD x.fst (Int.toNat x_1)
  (Ty.zero AdT)).fst, ((List.getD x.fst (Int.toNat x_1) (Ty.zero AdT)).snd.fst.fst, (List.getD x.fst (Int.toNat x_1) (Ty.zero AdT)).snd.fst.snd.fst, (0 : Int), (0 : Int), (0 : Int), (0 : Int), (0 : Int), (0 : Int), ()),
  (List.getD x.fst (Int.toNat x_1) (Ty.zero AdT)).snd.snd))) ((Bool.false, ()) = (Go.Ad.mayA x.fst, ())) (Wr (MayI x.fst (IntKind.wrap IntKind.i64 (x_1 + (1 : Int)))) ∧ Wr (List.length x.fst - Int.toNat (IntKind.wrap
  IntKind.i64 (x_1 + (1 : Int))) < List.length x.fst - Int.toNat x_1) ∧ Wr (IntKind.wrap IntKind.i64 (x_1 + (1 : Int)) = IntKind.wrap IntKind.i64 (x_1 + (1 : Int))) ∧ Wr (x.fst = x.fst) ∧ Wr (x.fst = x.fst) ∧ Wr
  ((↑(List.length x.fst) : Int) = (↑(List.length x.fst) : Int)))) ((Bool.true, ()) = (Go.Ad.mayA x.fst, ()))) := by kernel_rfl
theorem v53_eq : vcFn g53 300 Tryd.f53 cLong = ( ∀ (x : (Int × Int × Int × Int × Int × Int × Int × Int × Unit) × Unit), Wr (Bool.true = Bool.true) → (Wr (LongI x.fst (0 : Int) (0 : Int) (0 : Int) (0 : Int)) ∧ Wr (x.fst = x.fst) ∧ Wr ((0 : Int) = (0 : Int)) ∧ Wr ((0 :
  Int) = (0 : Int)) ∧ Wr ((0 : Int) = (0 : Int)) ∧ Wr ((0 : Int) = (0 : Int))) ∧ ∀ (x_1 : Int × Int × Int × Int), Wr (LongI x.fst x_1.fst x_1.snd.fst x_1.snd.snd.fst x_1.snd.snd.snd) → bcase (Decidable.decide (x_1.fst <
  (8 : Int))) (Wr ((0 : Int) ≤ x_1.fst) ∧ Wr (x_1.fst < (↑(8 : Nat) : Int)) ∧ bcase (!Decidable.decide (List.getD (x.fst.fst :: x.fst.snd.fst :: x.fst.snd.snd.fst :: x.fst.snd.snd.snd.fst :: x.fst.snd.snd.snd.snd.fst ::
  x.fst.snd.snd.snd.snd.snd.fst :: x.fst.snd.snd.snd.snd.snd.snd.fst :: x.fst.snd.snd.snd.snd.snd.snd.snd.fst :: nilL Int) (Int.toNat x_1.fst) (0 : Int) = (0 : Int))) (bcase (Decidable.decide ((0 : Int) > Max.max
  x_1.snd.snd.snd (1 : Int))) (Wr (LongI x.fst (IntKind.wrap IntKind.i64 (x_1.fst + (1 : Int))) (0 : Int) (IntKind.wrap IntKind.i64 (IntKind.wrap IntKind.i64 (x_1.fst + (1 : Int)) - (0 : Int))) (0 : Int)) ∧ Wr ((8 : Nat)
  - Int.toNat (IntKind.wrap IntKind.i64 (x_1.fst + (1 : Int))) < (8 : Nat) - Int.toNat x_1.fst) ∧ Wr (x.fst = x.fst) ∧ Wr (IntKind.wrap IntKind.i64 (x_1.fst + (1 : Int)) = IntKind.wrap IntKind.i64 (x_1.fst + (1 : Int))) ∧
  Wr ((0 : Int) = (0 : Int)) ∧ Wr (IntKind.wrap IntKind.i64 (IntKind.wrap IntKind.i64 (x_1.fst + (1 : Int)) - (0 : Int)) = IntKind.wrap IntKind.i64 (IntKind.wrap IntKind.i64 (x_1.fst + (1 : Int)) - (0 : Int))) ∧ Wr ((0 :
  Int) = (0 : Int))) (Wr (LongI x.fst (IntKind.wrap IntKind.i64 (x_1.fst + (1 : Int))) (0 : Int) x_1.snd.snd.fst x_1.snd.snd.snd) ∧ Wr ((8 : Nat) - Int.toNat (IntKind.wrap IntKind.i64 (x_1.fst + (1 : Int))) < (8 : Nat) -
  Int.toNat x_1.fst) ∧ Wr (x.fst = x.fst) ∧ Wr (IntKind.wrap IntKind.i64 (x_1.fst + (1 : Int)) = IntKind.wrap IntKind.i64 (x_1.fst + (1 : Int))) ∧ Wr ((0 : Int) = (0 : Int)) ∧ Wr (x_1.snd.snd.fst = x_1.snd.snd.fst) ∧ Wr
  (x_1.snd.snd.snd = x_1.snd.snd.snd))) (bcase (Decidable.decide (IntKind.wrap IntKind.i64 (x_1.snd.fst + (1 : Int)) > Max.max x_1.snd.snd.snd (1 : Int))) (Wr (LongI x.fst (IntKind.wrap IntKind.i64 (x_1.fst + (1 : Int)))
  (IntKind.wrap IntKind.i64 (x_1.snd.fst + (1 : Int))) (IntKind.wrap IntKind.i64 (IntKind.wrap IntKind.i64 (x_1.fst + (1 : Int)) - IntKind.wrap IntKind.i64 (x_1.snd.fst + (1 : Int)))) (IntKind.wrap IntKind.i64
  (x_1.snd.fst + (1 : Int)))) ∧ Wr ((8 : Nat) - Int.toNat (IntKind.wrap IntKind.i64 (x_1.fst + (1 : Int))) < (8 : Nat) - Int.toNat x_1.fst) ∧ Wr (x.fst = x.fst) ∧ Wr (IntKind.wrap IntKind.i64 (x_1.fst + (1 : Int)) =
  IntKind.wrap IntKind.i64 (x_1.fst + (1 : Int))) ∧ Wr (IntKind.wrap IntKind.i64 (x_1.snd.fst + (1 : Int)) = IntKind.wrap IntKind.i64 (x_1.snd.fst + (1 : Int))) ∧ Wr (IntKind.wrap IntKind.i64 (IntKind.wrap IntKind.i64
  (x_1.fst + (1 : Int)) - IntKind.wrap IntKind.i64 (x_1.snd.fst + (1 : Int))) = IntKind.wrap IntKind.i64 (IntKind.wrap IntKind.i64 (x_1.fst + (1 : Int)) - IntKind.wrap IntKind.i64 (x_1.snd.fst + (1 : Int)))) ∧ Wr
  (IntKind.wrap IntKind.i64 (x_1.snd.fst + (1 : Int)) = IntKind.wrap IntKind.i64 (x_1.snd.fst + (1 : Int)))) (Wr (LongI x.fst (IntKind.wrap IntKind.i64 (x_1.fst + (1 : Int))) (IntKind.wrap IntKind.i64 (x_1.snd.fst + (1 :
  Int))) x_1.snd.snd.fst x_1.snd.snd.snd) ∧ Wr ((8 : Nat) - Int.toNat (IntKind.wrap IntKind.i64 (x_1.fst + (1 : Int))) < (8 : Nat) - Int.toNat x_1.fst) ∧ Wr (x.fst = x.fst) ∧ Wr (IntKind.wrap IntKind.i64 (x_1.fst + (1 :
  Int)) = IntKind.wrap IntKind.i64 (x_1.fst + (1 : Int))) ∧ Wr (IntKind.wrap IntKind.i64 (x_1.snd.fst + (1 : Int)) = IntKind.wrap IntKind.i64 (x_1.snd.fst + (1 : Int))) ∧ Wr (x_1.snd.snd.fst = x_1.snd.snd.fst) ∧ Wr
  (x_1.snd.snd.snd = x_1.snd.snd.snd)))) ((x_1.snd.snd.fst, x_1.snd.snd.snd, ()) = (Go.Ad.long1 x.fst, Go.Ad.long2 x.fst, ()))) := by kernel_rfl
theorem v54_eq : vcFn g54 300 Tryd.f54 cHexes.T = ( ∀ (x : List Int × Unit), Wr (typedB (Ty.cons (Ty.sl Go.Proofs.YtkimpfoimblhjaaDoor.Lb.U16) Ty.unit) x = Bool.true ∧ Decidable.decide (List.length x.fst ≤ (8 : Nat)) = Bool.true) → (Wr (MapI Go.Ad.hexS x.fst (nilL
  ByteArray) (0 : Int)) ∧ Wr ((0 : Int) = (0 : Int)) ∧ Wr (x.fst = x.fst) ∧ Wr (x.fst = x.fst) ∧ Wr ((↑(List.length x.fst) : Int) = (↑(List.length x.fst) : Int)) ∧ Wr (nilL ByteArray = nilL ByteArray)) ∧ ∀ (x_1 : List
  ByteArray × Int), Wr (MapI Go.Ad.hexS x.fst x_1.fst x_1.snd) → bcase (Decidable.decide (x_1.snd < (↑(List.length x.fst) : Int))) (Wr ((0 : Int) ≤ x_1.snd) ∧ Wr (x_1.snd < (↑(List.length x.fst) : Int)) ∧ Wr (Bool.true =
  Bool.true) ∧ bcase (Decidable.decide (IntKind.wrap IntKind.i64 (List.getD x.fst (Int.toNat x_1.snd) (0 : Int)) < (0 : Int))) (Wr ((Decidable.decide ((0 : Int) ≤ IntKind.wrap IntKind.u64 (16 : Int)) && Decidable.decide
  (IntKind.wrap IntKind.u64 (16 : Int) < (18446744073709551616 : Int))) = Bool.true) ∧ (Wr (BitsI (IntKind.wrap IntKind.u64 ((0 : Int) - IntKind.wrap IntKind.u64 (IntKind.wrap IntKind.i64 (List.getD x.fst (Int.toNat
  x_1.snd) (0 : Int))))) (IntKind.wrap IntKind.u64 ((0 : Int) - IntKind.wrap IntKind.u64 (IntKind.wrap IntKind.i64 (List.getD x.fst (Int.toNat x_1.snd) (0 : Int))))) (65 : Int) (List.replicate (65 : Nat) (0 : Int))) ∧ Wr
  (IntKind.wrap IntKind.u64 ((0 : Int) - IntKind.wrap IntKind.u64 (IntKind.wrap IntKind.i64 (List.getD x.fst (Int.toNat x_1.snd) (0 : Int)))) = IntKind.wrap IntKind.u64 ((0 : Int) - IntKind.wrap IntKind.u64 (IntKind.wrap
  IntKind.i64 (List.getD x.fst (Int.toNat x_1.snd) (0 : Int))))) ∧ Wr ((65 : Int) = (65 : Int)) ∧ Wr ((0 : Nat) < List.length (List.replicate (65 : Nat) (0 : Int))) ∧ Wr ((16 : Int) = (16 : Int)) ∧ Wr (Decidable.decide
  (IntKind.wrap IntKind.i64 (List.getD x.fst (Int.toNat x_1.snd) (0 : Int)) < (0 : Int)) = Decidable.decide (IntKind.wrap IntKind.i64 (List.getD x.fst (Int.toNat x_1.snd) (0 : Int)) < (0 : Int))) ∧ Wr (Bool.false =
  Bool.false) ∧ Wr (ByteArray.mk (List.toArray (nilL UInt8)) = ByteArray.mk (List.toArray (nilL UInt8))) ∧ Wr (IntKind.wrap IntKind.u64 (Go.Proofs.YtkimpfoimblhjaaDoor.Lb.ctzZ (IntKind.wrap IntKind.u64 (16 : Int))) =
  IntKind.wrap IntKind.u64 (Go.Proofs.YtkimpfoimblhjaaDoor.Lb.ctzZ (IntKind.wrap IntKind.u64 (16 : Int)))) ∧ Wr (IntKind.wrap IntKind.u64 (16 : Int) = IntKind.wrap IntKind.u64 (16 : Int)) ∧ Wr (IntKind.wrap IntKind.u64
  (IntKind.wrap IntKind.u64 (16 : Int) - (1 : Int)) = IntKind.wrap IntKind.u64 (IntKind.wrap IntKind.u64 (16 : Int) - (1 : Int))) ∧ Wr (List.replicate (65 : Nat) (0 : Int) = List.replicate (65 : Nat) (0 : Int)) ∧ Wr
  (x_1.fst = x_1.fst)) ∧ ∀ (x_2 : Int × Int × List Int), Wr (BitsI (IntKind.wrap IntKind.u64 ((0 : Int) - IntKind.wrap IntKind.u64 (IntKind.wrap IntKind.i64 (List.getD x.fst (Int.toNat x_1.snd) (0 : Int))))) x_2.fst
  x_2.snd.fst x_2.snd.snd) → bcase (Decidable.decide (x_2.fst ≥ IntKind.wrap IntKind.u64 (16 : Int))) (Wr ((0 : Int) ≤ andI IntKind.u64 x_2.fst (IntKind.wrap IntKind.u64 (IntKind.wrap IntKind.u64 (16 : Int) - (1 : Int))))
  ∧ Wr (andI IntKind.u64 x_2.fst (IntKind.wrap IntKind.u64 (IntKind.wrap IntKind.u64 (16 : Int) - (1 : Int))) < (↑(ByteArray.size (ByteArray.mk (List.toArray ((48 : UInt8) :: (49 : UInt8) :: (50 : UInt8) :: (51 : UInt8)
  :: (52 : UInt8) :: (53 : UInt8) :: (54 : UInt8) :: (55 : UInt8) :: (56 : UInt8) :: (57 : UInt8) :: (97 : UInt8) :: (98 : UInt8) :: (99 : UInt8) :: (100 : UInt8) :: (101 : UInt8) :: (102 : UInt8) :: (103 : UInt8) :: (104
  : UInt8) :: (105 : UInt8) :: (106 : UInt8) :: (107 : UInt8) :: (108 : UInt8) :: (109 : UInt8) :: (110 : UInt8) :: (111 : UInt8) :: (112 : UInt8) :: (113 : UInt8) :: (114 : UInt8) :: (115 : UInt8) :: (116 : UInt8) ::
  (117 : UInt8) :: (118 : UInt8) :: (119 : UInt8) :: (120 : UInt8) :: (121 : UInt8) :: (122 : UInt8) :: nilL UInt8)))) : Int)) ∧ Wr (List.length x_2.snd.snd = (65 : Nat)) ∧ Wr ((0 : Int) ≤ IntKind.wrap IntKind.i64
  (x_2.snd.fst - (1 : Int))) ∧ Wr (IntKind.wrap IntKind.i64 (x_2.snd.fst - (1 : Int)) < (↑(65 : Nat) : Int)) ∧ Wr ((0 : Int) ≤ IntKind.wrap IntKind.u64 (Go.Proofs.YtkimpfoimblhjaaDoor.Lb.ctzZ (IntKind.wrap IntKind.u64 (16
  : Int)))) ∧ Wr (BitsI (IntKind.wrap IntKind.u64 ((0 : Int) - IntKind.wrap IntKind.u64 (IntKind.wrap IntKind.i64 (List.getD x.fst (Int.toNat x_1.snd) (0 : Int))))) (Int.fdiv x_2.fst ((2 : Int) ^ Min.min (Int.toNat
  (IntKind.wrap IntKind.u64 (Go.Proofs.YtkimpfoimblhjaaDoor.Lb.ctzZ (IntKind.wrap IntKind.u64 (16 : Int))))) (IntKind.bits IntKind.u64))) (IntKind.wrap IntKind.i64 (x_2.snd.fst - (1 : Int))) (List.set x_2.snd.snd
  (Int.toNat (IntKind.wrap IntKind.i64 (x_2.snd.fst - (1 : Int)))) (byteAt (ByteArray.mk (List.toArray ((48 : UInt8) :: (49 : UInt8) :: (50 : UInt8) :: (51 : UInt8) :: (52 : UInt8) :: (53 : UInt8) :: (54 : UInt8) :: (55 :
  UInt8) :: (56 : UInt8) :: (57 : UInt8) :: (97 : UInt8) :: (98 : UInt8) :: (99 : UInt8) :: (100 : UInt8) :: (101 : UInt8) :: (102 : UInt8) :: (103 : UInt8) :: (104 : UInt8) :: (105 : UInt8) :: (106 : UInt8) :: (107 :
  UInt8) :: (108 : UInt8) :: (109 : UInt8) :: (110 : UInt8) :: (111 : UInt8) :: (112 : UInt8) :: (113 : UInt8) :: (114 : UInt8) :: (115 : UInt8) :: (116 : UInt8) :: (117 : UInt8) :: (118 : UInt8) :: (119 : UInt8) :: (120
  : UInt8) :: (121 : UInt8) :: (122 : UInt8) :: nilL UInt8))) (Int.toNat (andI IntKind.u64 x_2.fst (IntKind.wrap IntKind.u64 (IntKind.wrap IntKind.u64 (16 : Int) - (1 : Int)))))))) ∧ Wr (Int.toNat (IntKind.wrap
  IntKind.i64 (x_2.snd.fst - (1 : Int))) < Int.toNat x_2.snd.fst) ∧ Wr (Int.fdiv x_2.fst ((2 : Int) ^ Min.min (Int.toNat (IntKind.wrap IntKind.u64 (Go.Proofs.YtkimpfoimblhjaaDoor.Lb.ctzZ (IntKind.wrap IntKind.u64 (16 :
  Int))))) (IntKind.bits IntKind.u64)) = Int.fdiv x_2.fst ((2 : Int) ^ Min.min (Int.toNat (IntKind.wrap IntKind.u64 (Go.Proofs.YtkimpfoimblhjaaDoor.Lb.ctzZ (IntKind.wrap IntKind.u64 (16 : Int))))) (IntKind.bits
  IntKind.u64))) ∧ Wr (IntKind.wrap IntKind.i64 (x_2.snd.fst - (1 : Int)) = IntKind.wrap IntKind.i64 (x_2.snd.fst - (1 : Int))) ∧ Wr ((0 : Nat) < List.length (List.set x_2.snd.snd (Int.toNat (IntKind.wrap IntKind.i64
  (x_2.snd.fst - (1 : Int)))) (byteAt (ByteArray.mk (List.toArray ((48 : UInt8) :: (49 : UInt8) :: (50 : UInt8) :: (51 : UInt8) :: (52 : UInt8) :: (53 : UInt8) :: (54 : UInt8) :: (55 : UInt8) :: (56 : UInt8) :: (57 :
  UInt8) :: (97 : UInt8) :: (98 : UInt8) :: (99 : UInt8) :: (100 : UInt8) :: (101 : UInt8) :: (102 : UInt8) :: (103 : UInt8) :: (104 : UInt8) :: (105 : UInt8) :: (106 : UInt8) :: (107 : UInt8) :: (108 : UInt8) :: (109 :
  UInt8) :: (110 : UInt8) :: (111 : UInt8) :: (112 : UInt8) :: (113 : UInt8) :: (114 : UInt8) :: (115 : UInt8) :: (116 : UInt8) :: (117 : UInt8) :: (118 : UInt8) :: (119 : UInt8) :: (120 : UInt8) :: (121 : UInt8) :: (122
  : UInt8) :: nilL UInt8))) (Int.toNat (andI IntKind.u64 x_2.fst (IntKind.wrap IntKind.u64 (IntKind.wrap IntKind.u64 (16 : Int) - (1 : Int)))))))) ∧ Wr ((16 : Int) = (16 : Int)) ∧ Wr (Decidable.decide (IntKind.wrap
  IntKind.i64 (List.getD x.fst (Int.toNat x_1.snd) (0 : Int)) < (0 : Int)) = Decidable.decide (IntKind.wrap IntKind.i64 (List.getD x.fst (Int.toNat x_1.snd) (0 : Int)) < (0 : Int))) ∧ Wr (Bool.false = Bool.false) ∧ Wr
  (ByteArray.mk (List.toArray (nilL UInt8)) = ByteArray.mk (List.toArray (nilL UInt8))) ∧ Wr (IntKind.wrap IntKind.u64 (Go.Proofs.YtkimpfoimblhjaaDoor.Lb.ctzZ (IntKind.wrap IntKind.u64 (16 : Int))) = IntKind.wrap
  IntKind.u64 (Go.Proofs.YtkimpfoimblhjaaDoor.Lb.ctzZ (IntKind.wrap IntKind.u64 (16 : Int)))) ∧ Wr (IntKind.wrap IntKind.u64 (16 : Int) = IntKind.wrap IntKind.u64 (16 : Int)) ∧ Wr (IntKind.wrap IntKind.u64 (IntKind.wrap
  IntKind.u64 (16 : Int) - (1 : Int)) = IntKind.wrap IntKind.u64 (IntKind.wrap IntKind.u64 (16 : Int) - (1 : Int))) ∧ Wr (List.set x_2.snd.snd (Int.toNat (IntKind.wrap IntKind.i64 (x_2.snd.fst - (1 : Int)))) (byteAt
  (ByteArray.mk (List.toArray ((48 : UInt8) :: (49 : UInt8) :: (50 : UInt8) :: (51 : UInt8) :: (52 : UInt8) :: (53 : UInt8) :: (54 : UInt8) :: (55 : UInt8) :: (56 : UInt8) :: (57 : UInt8) :: (97 : UInt8) :: (98 : UInt8)
  :: (99 : UInt8) :: (100 : UInt8) :: (101 : UInt8) :: (102 : UInt8) :: (103 : UInt8) :: (104 : UInt8) :: (105 : UInt8) :: (106 : UInt8) :: (107 : UInt8) :: (108 : UInt8) :: (109 : UInt8) :: (110 : UInt8) :: (111 : UInt8)
  :: (112 : UInt8) :: (113 : UInt8) :: (114 : UInt8) :: (115 : UInt8) :: (116 : UInt8) :: (117 : UInt8) :: (118 : UInt8) :: (119 : UInt8) :: (120 : UInt8) :: (121 : UInt8) :: (122 : UInt8) :: nilL UInt8))) (Int.toNat
  (andI IntKind.u64 x_2.fst (IntKind.wrap IntKind.u64 (IntKind.wrap IntKind.u64 (16 : Int) - (1 : Int)))))) = List.set x_2.snd.snd (Int.toNat (IntKind.wrap IntKind.i64 (x_2.snd.fst - (1 : Int)))) (byteAt (ByteArray.mk
  (List.toArray ((48 : UInt8) :: (49 : UInt8) :: (50 : UInt8) :: (51 : UInt8) :: (52 : UInt8) :: (53 : UInt8) :: (54 : UInt8) :: (55 : UInt8) :: (56 : UInt8) :: (57 : UInt8) :: (97 : UInt8) :: (98 : UInt8) :: (99 : UInt8)
  :: (100 : UInt8) :: (101 : UInt8) :: (102 : UInt8) :: (103 : UInt8) :: (104 : UInt8) :: (105 : UInt8) :: (106 : UInt8) :: (107 : UInt8) :: (108 : UInt8) :: (109 : UInt8) :: (110 : UInt8) :: (111 : UInt8) :: (112 :
  UInt8) :: (113 : UInt8) :: (114 : UInt8) :: (115 : UInt8) :: (116 : UInt8) :: (117 : UInt8) :: (118 : UInt8) :: (119 : UInt8) :: (120 : UInt8) :: (121 : UInt8) :: (122 : UInt8) :: nilL UInt8))) (Int.toNat (andI
  IntKind.u64 x_2.fst (IntKind.wrap IntKind.u64 (IntKind.wrap IntKind.u64 (16 : Int) - (1 : Int))))))) ∧ Wr (x_1.fst = x_1.fst)) (Wr ((0 : Int) ≤ x_2.fst) ∧ Wr (x_2.fst < (↑(ByteArray.size (ByteArray.mk (List.toArray ((48
  : UInt8) :: (49 : UInt8) :: (50 : UInt8) :: (51 : UInt8) :: (52 : UInt8) :: (53 : UInt8) :: (54 : UInt8) :: (55 : UInt8) :: (56 : UInt8) :: (57 : UInt8) :: (97 : UInt8) :: (98 : UInt8) :: (99 : UInt8) :: (100 : UInt8)
  :: (101 : UInt8) :: (102 : UInt8) :: (103 : UInt8) :: (104 : UInt8) :: (105 : UInt8) :: (106 : UInt8) :: (107 : UInt8) :: (108 : UInt8) :: (109 : UInt8) :: (110 : UInt8) :: (111 : UInt8) :: (112 : UInt8) :: (113 :
  UInt8) :: (114 : UInt8) :: (115 : UInt8) :: (116 : UInt8) :: (117 : UInt8) :: (118 : UInt8) :: (119 : UInt8) :: (120 : UInt8) :: (121 : UInt8) :: (122 : UInt8) :: nilL UInt8)))) : Int)) ∧ Wr (List.length x_2.snd.snd =
  (65 : Nat)) ∧ Wr ((0 : Int) ≤ IntKind.wrap IntKind.i64 (x_2.snd.fst - (1 : Int))) ∧ Wr (IntKind.wrap IntKind.i64 (x_2.snd.fst - (1 : Int)) < (↑(65 : Nat) : Int)) ∧ bcase (Decidable.decide (IntKind.wrap IntKind.i64
  (List.getD x.fst (Int.toNat x_1.snd) (0 : Int)) < (0 : Int))) (Wr (List.length (List.set x_2.snd.snd (Int.toNat (IntKind.wrap IntKind.i64 (x_2.snd.fst - (1 : Int)))) (byteAt (ByteArray.mk (List.toArray ((48 : UInt8) ::
  (49 : UInt8) :: (50 : UInt8) :: (51 : UInt8) :: (52 : UInt8) :: (53 : UInt8) :: (54 : UInt8) :: (55 : UInt8) :: (56 : UInt8) :: (57 : UInt8) :: (97 : UInt8) :: (98 : UInt8) :: (99 : UInt8) :: (100 : UInt8) :: (101 :
  UInt8) :: (102 : UInt8) :: (103 : UInt8) :: (104 : UInt8) :: (105 : UInt8) :: (106 : UInt8) :: (107 : UInt8) :: (108 : UInt8) :: (109 : UInt8) :: (110 : UInt8) :: (111 : UInt8) :: (112 : UInt8) :: (113 : UInt8) :: (114
  : UInt8) :: (115 : UInt8) :: (116 : UInt8) :: (117 : UInt8) :: (118 : UInt8) :: (119 : UInt8) :: (120 : UInt8) :: (121 : UInt8) :: (122 : UInt8) :: nilL UInt8))) (Int.toNat x_2.fst))) = (65 : Nat)) ∧ Wr ((0 : Int) ≤
  IntKind.wrap IntKind.i64 (IntKind.wrap IntKind.i64 (x_2.snd.fst - (1 : Int)) - (1 : Int))) ∧ Wr (IntKind.wrap IntKind.i64 (IntKind.wrap IntKind.i64 (x_2.snd.fst - (1 : Int)) - (1 : Int)) < (↑(65 : Nat) : Int)) ∧ Wr ((0
  : Int) ≤ IntKind.wrap IntKind.i64 (IntKind.wrap IntKind.i64 (x_2.snd.fst - (1 : Int)) - (1 : Int))) ∧ Wr (IntKind.wrap IntKind.i64 (IntKind.wrap IntKind.i64 (x_2.snd.fst - (1 : Int)) - (1 : Int)) ≤ (↑(65 : Nat) : Int))
  ∧ Wr ((↑(65 : Nat) : Int) ≤ (↑(65 : Nat) : Int)) ∧ Wr (List.length (List.set (List.set x_2.snd.snd (Int.toNat (IntKind.wrap IntKind.i64 (x_2.snd.fst - (1 : Int)))) (byteAt (ByteArray.mk (List.toArray ((48 : UInt8) ::
  (49 : UInt8) :: (50 : UInt8) :: (51 : UInt8) :: (52 : UInt8) :: (53 : UInt8) :: (54 : UInt8) :: (55 : UInt8) :: (56 : UInt8) :: (57 : UInt8) :: (97 : UInt8) :: (98 : UInt8) :: (99 : UInt8) :: (100 : UInt8) :: (101 :
  UInt8) :: (102 : UInt8) :: (103 : UInt8) :: (104 : UInt8) :: (105 : UInt8) :: (106 : UInt8) :: (107 : UInt8) :: (108 : UInt8) :: (109 : UInt8) :: (110 : UInt8) :: (111 : UInt8) :: (112 : UInt8) :: (113 : UInt8) :: (114
  : UInt8) :: (115 : UInt8) :: (116 : UInt8) :: (117 : UInt8) :: (118 : UInt8) :: (119 : UInt8) :: (120 : UInt8) :: (121 : UInt8) :: (122 : UInt8) :: nilL UInt8))) (Int.toNat x_2.fst))) (Int.toNat (IntKind.wrap
  IntKind.i64 (IntKind.wrap IntKind.i64 (x_2.snd.fst - (1 : Int)) - (1 : Int)))) (45 : Int)) = (65 : Nat)) ∧ Wr (List.length (List.drop (Int.toNat (IntKind.wrap IntKind.i64 (IntKind.wrap IntKind.i64 (x_2.snd.fst - (1 :
  Int)) - (1 : Int)))) (List.take (Int.toNat (↑(65 : Nat) : Int)) (List.set (List.set x_2.snd.snd (Int.toNat (IntKind.wrap IntKind.i64 (x_2.snd.fst - (1 : Int)))) (byteAt (ByteArray.mk (List.toArray ((48 : UInt8) :: (49 :
  UInt8) :: (50 : UInt8) :: (51 : UInt8) :: (52 : UInt8) :: (53 : UInt8) :: (54 : UInt8) :: (55 : UInt8) :: (56 : UInt8) :: (57 : UInt8) :: (97 : UInt8) :: (98 : UInt8) :: (99 : UInt8) :: (100 : UInt8) :: (101 : UInt8) ::
  (102 : UInt8) :: (103 : UInt8) :: (104 : UInt8) :: (105 : UInt8) :: (106 : UInt8) :: (107 : UInt8) :: (108 : UInt8) :: (109 : UInt8) :: (110 : UInt8) :: (111 : UInt8) :: (112 : UInt8) :: (113 : UInt8) :: (114 : UInt8)
  :: (115 : UInt8) :: (116 : UInt8) :: (117 : UInt8) :: (118 : UInt8) :: (119 : UInt8) :: (120 : UInt8) :: (121 : UInt8) :: (122 : UInt8) :: nilL UInt8))) (Int.toNat x_2.fst))) (Int.toNat (IntKind.wrap IntKind.i64
  (IntKind.wrap IntKind.i64 (x_2.snd.fst - (1 : Int)) - (1 : Int)))) (45 : Int)))) ≤ Go.maxLen) ∧ Wr ((List.length x_1.fst + List.length (strI (List.drop (Int.toNat (IntKind.wrap IntKind.i64 (IntKind.wrap IntKind.i64
  (x_2.snd.fst - (1 : Int)) - (1 : Int)))) (List.take (Int.toNat (↑(65 : Nat) : Int)) (List.set (List.set x_2.snd.snd (Int.toNat (IntKind.wrap IntKind.i64 (x_2.snd.fst - (1 : Int)))) (byteAt (ByteArray.mk (List.toArray
  ((48 : UInt8) :: (49 : UInt8) :: (50 : UInt8) :: (51 : UInt8) :: (52 : UInt8) :: (53 : UInt8) :: (54 : UInt8) :: (55 : UInt8) :: (56 : UInt8) :: (57 : UInt8) :: (97 : UInt8) :: (98 : UInt8) :: (99 : UInt8) :: (100 :
  UInt8) :: (101 : UInt8) :: (102 : UInt8) :: (103 : UInt8) :: (104 : UInt8) :: (105 : UInt8) :: (106 : UInt8) :: (107 : UInt8) :: (108 : UInt8) :: (109 : UInt8) :: (110 : UInt8) :: (111 : UInt8) :: (112 : UInt8) :: (113
  : UInt8) :: (114 : UInt8) :: (115 : UInt8) :: (116 : UInt8) :: (117 : UInt8) :: (118 : UInt8) :: (119 : UInt8) :: (120 : UInt8) :: (121 : UInt8) :: (122 : UInt8) :: nilL UInt8))) (Int.toNat x_2.fst))) (Int.toNat
  (IntKind.wrap IntKind.i64 (IntKind.wrap IntKind.i64 (x_2.snd.fst - (1 : Int)) - (1 : Int)))) (45 : Int)))) :: nilL ByteArray)) * (16 : Nat) ≤ (140737488355328 : Nat)) ∧ Wr (MapI Go.Ad.hexS x.fst (x_1.fst ++ strI
  (List.drop (Int.toNat (IntKind.wrap IntKind.i64 (IntKind.wrap IntKind.i64 (x_2.snd.fst - (1 : Int)) - (1 : Int)))) (List.take (Int.toNat (↑(65 : Nat) : Int)) (List.set (List.set x_2.snd.snd (Int.toNat (IntKind.wrap
  IntKind.i64 (x_2.snd.fst - (1 : Int)))) (byteAt (ByteArray.mk (List.toArray ((48 : UInt8) :: (49 : UInt8) :: (50 : UInt8) :: (51 : UInt8) :: (52 : UInt8) :: (53 : UInt8) :: (54 : UInt8) :: (55 : UInt8) :: (56 : UInt8)
  :: (57 : UInt8) :: (97 : UInt8) :: (98 : UInt8) :: (99 : UInt8) :: (100 : UInt8) :: (101 : UInt8) :: (102 : UInt8) :: (103 : UInt8) :: (104 : UInt8) :: (105 : UInt8) :: (106 : UInt8) :: (107 : UInt8) :: (108 : UInt8) ::
  (109 : UInt8) :: (110 : UInt8) :: (111 : UInt8) :: (112 : UInt8) :: (113 : UInt8) :: (114 : UInt8) :: (115 : UInt8) :: (116 : UInt8) :: (117 : UInt8) :: (118 : UInt8) :: (119 : UInt8) :: (120 : UInt8) :: (121 : UInt8)
  :: (122 : UInt8) :: nilL UInt8))) (Int.toNat x_2.fst))) (Int.toNat (IntKind.wrap IntKind.i64 (IntKind.wrap IntKind.i64 (x_2.snd.fst - (1 : Int)) - (1 : Int)))) (45 : Int)))) :: nilL ByteArray) (IntKind.wrap IntKind.i64
  (x_1.snd + (1 : Int)))) ∧ Wr (List.length x.fst - Int.toNat (IntKind.wrap IntKind.i64 (x_1.snd + (1 : Int))) < List.length x.fst - Int.toNat x_1.snd) ∧ Wr (IntKind.wrap IntKind.i64 (x_1.snd + (1 : Int)) = IntKind.wrap
  IntKind.i64 (x_1.snd + (1 : Int))) ∧ Wr (x.fst = x.fst) ∧ Wr (x.fst = x.fst) ∧ Wr ((↑(List.length x.fst) : Int) = (↑(List.length x.fst) : Int)) ∧ Wr (x_1.fst ++ strI (List.drop (Int.toNat (IntKind.wrap IntKind.i64
  (IntKind.wrap IntKind.i64 (x_2.snd.fst - (1 : Int)) - (1 : Int)))) (List.take (Int.toNat (↑(65 : Nat) : Int)) (List.set (List.set x_2.snd.snd (Int.toNat (IntKind.wrap IntKind.i64 (x_2.snd.fst - (1 : Int)))) (byteAt
  (ByteArray.mk (List.toArray ((48 : UInt8) :: (49 : UInt8) :: (50 : UInt8) :: (51 : UInt8) :: (52 : UInt8) :: (53 : UInt8) :: (54 : UInt8) :: (55 : UInt8) :: (56 : UInt8) :: (57 : UInt8) :: (97 : UInt8) :: (98 : UInt8)
  :: (99 : UInt8) :: (100 : UInt8) :: (101 : UInt8) :: (102 : UInt8) :: (103 : UInt8) :: (104 : UInt8) :: (105 : UInt8) :: (106 : UInt8) :: (107 : UInt8) :: (108 : UInt8) :: (109 : UInt8) :: (110 : UInt8) :: (111 : UInt8)
  :: (112 : UInt8) :: (113 : UInt8) :: (114 : UInt8) :: (115 : UInt8) :: (116 : UInt8) :: (117 : UInt8) :: (118 : UInt8) :: (119 : UInt8) :: (120 : UInt8) :: (121 : UInt8) :: (122 : UInt8) :: nilL UInt8))) (Int.toNat
  x_2.fst))) (Int.toNat (IntKind.wrap IntKind.i64 (IntKind.wrap IntKind.i64 (x_2.snd.fst - (1 : Int)) - (1 : Int)))) (45 : Int)))) :: nilL ByteArray = x_1.fst ++ strI (List.drop (Int.toNat (IntKind.wrap IntKind.i64
  (IntKind.wrap IntKind.i64 (x_2.snd.fst - (1 : Int)) - (1 : Int)))) (List.take (Int.toNat (↑(65 : Nat) : Int)) (List.set (List.set x_2.snd.snd (Int.toNat (IntKind.wrap IntKind.i64 (x_2.snd.fst - (1 : Int)))) (byteAt
  (ByteArray.mk (List.toArray ((48 : UInt8) :: (49 : UInt8) :: (50 : UInt8) :: (51 : UInt8) :: (52 : UInt8) :: (53 : UInt8) :: (54 : UInt8) :: (55 : UInt8) :: (56 : UInt8) :: (57 : UInt8) :: (97 : UInt8) :: (98 : UInt8)
  :: (99 : UInt8) :: (100 : UInt8) :: (101 : UInt8) :: (102 : UInt8) :: (103 : UInt8) :: (104 : UInt8) :: (105 : UInt8) :: (106 : UInt8) :: (107 : UInt8) :: (108 : UInt8) :: (109 : UInt8) :: (110 : UInt8) :: (111 : UInt8)
  :: (112 : UInt8) :: (113 : UInt8) :: (114 : UInt8) :: (115 : UInt8) :: (116 : UInt8) :: (117 : UInt8) :: (118 : UInt8) :: (119 : UInt8) :: (120 : UInt8) :: (121 : UInt8) :: (122 : UInt8) :: nilL UInt8))) (Int.toNat
  x_2.fst))) (Int.toNat (IntKind.wrap IntKind.i64 (IntKind.wrap IntKind.i64 (x_2.snd.fst - (1 : Int)) - (1 : Int)))) (45 : Int)))) :: nilL ByteArray)) (Wr ((0 : Int) ≤ IntKind.wrap IntKind.i64 (x_2.snd.fst - (1 : Int))) ∧
  Wr (IntKind.wrap IntKind.i64 (x_2.snd.fst - (1 : Int)) ≤ (↑(65 : Nat) : Int)) ∧ Wr ((↑(65 : Nat) : Int) ≤ (↑(65 : Nat) : Int)) ∧ Wr (List.length (List.set x_2.snd.snd (Int.toNat (IntKind.wrap IntKind.i64 (x_2.snd.fst -
  (1 : Int)))) (byteAt (ByteArray.mk (List.toArray ((48 : UInt8) :: (49 : UInt8) :: (50 : UInt8) :: (51 : UInt8) :: (52 : UInt8) :: (53 : UInt8) :: (54 : UInt8) :: (55 : UInt8) :: (56 : UInt8) :: (57 : UInt8) :: (97 :
  UInt8) :: (98 : UInt8) :: (99 : UInt8) :: (100 : UInt8) :: (101 : UInt8) :: (102 : UInt8) :: (103 : UInt8) :: (104 : UInt8) :: (105 : UInt8) :: (106 : UInt8) :: (107 : UInt8) :: (108 : UInt8) :: (109 : UInt8) :: (110 :
  UInt8) :: (111 : UInt8) :: (112 : UInt8) :: (113 : UInt8) :: (114 : UInt8) :: (115 : UInt8) :: (116 : UInt8) :: (117 : UInt8) :: (118 : UInt8) :: (119 : UInt8) :: (120 : UInt8) :: (121 : UInt8) :: (122 : UInt8) :: nilL
  UInt8))) (Int.toNat x_2.fst))) = (65 : Nat)) ∧ Wr (List.length (List.drop (Int.toNat (IntKind.wrap IntKind.i64 (x_2.snd.fst - (1 : Int)))) (List.take (Int.toNat (↑(65 : Nat) : Int)) (List.set x_2.snd.snd (Int.toNat
  (IntKind.wrap IntKind.i64 (x_2.snd.fst - (1 : Int)))) (byteAt (ByteArray.mk (List.toArray ((48 : UInt8) :: (49 : UInt8) :: (50 : UInt8) :: (51 : UInt8) :: (52 : UInt8) :: (53 : UInt8) :: (54 : UInt8) :: (55 : UInt8) ::
  (56 : UInt8) :: (57 : UInt8) :: (97 : UInt8) :: (98 : UInt8) :: (99 : UInt8) :: (100 : UInt8) :: (101 : UInt8) :: (102 : UInt8) :: (103 : UInt8) :: (104 : UInt8) :: (105 : UInt8) :: (106 : UInt8) :: (107 : UInt8) ::
  (108 : UInt8) :: (109 : UInt8) :: (110 : UInt8) :: (111 : UInt8) :: (112 : UInt8) :: (113 : UInt8) :: (114 : UInt8) :: (115 : UInt8) :: (116 : UInt8) :: (117 : UInt8) :: (118 : UInt8) :: (119 : UInt8) :: (120 : UInt8)
  :: (121 : UInt8) :: (122 : UInt8) :: nilL UInt8))) (Int.toNat x_2.fst))))) ≤ Go.maxLen) ∧ Wr ((List.length x_1.fst + List.length (strI (List.drop (Int.toNat (IntKind.wrap IntKind.i64 (x_2.snd.fst - (1 : Int))))
  (List.take (Int.toNat (↑(65 : Nat) : Int)) (List.set x_2.snd.snd (Int.toNat (IntKind.wrap IntKind.i64 (x_2.snd.fst - (1 : Int)))) (byteAt (ByteArray.mk (List.toArray ((48 : UInt8) :: (49 : UInt8) :: (50 : UInt8) :: (51
  : UInt8) :: (52 : UInt8) :: (53 : UInt8) :: (54 : UInt8) :: (55 : UInt8) :: (56 : UInt8) :: (57 : UInt8) :: (97 : UInt8) :: (98 : UInt8) :: (99 : UInt8) :: (100 : UInt8) :: (101 : UInt8) :: (102 : UInt8) :: (103 :
  UInt8) :: (104 : UInt8) :: (105 : UInt8) :: (106 : UInt8) :: (107 : UInt8) :: (108 : UInt8) :: (109 : UInt8) :: (110 : UInt8) :: (111 : UInt8) :: (112 : UInt8) :: (113 : UInt8) :: (114 : UInt8) :: (115 : UInt8) :: (116
  : UInt8) :: (117 : UInt8) :: (118 : UInt8) :: (119 : UInt8) :: (120 : UInt8) :: (121 : UInt8) :: (122 : UInt8) :: nilL UInt8))) (Int.toNat x_2.fst))))) :: nilL ByteArray)) * (16 : Nat) ≤ (140737488355328 : Nat)) ∧ Wr
  (MapI Go.Ad.hexS x.fst (x_1.fst ++ strI (List.drop (Int.toNat (IntKind.wrap IntKind.i64 (x_2.snd.fst - (1 : Int)))) (List.take (Int.toNat (↑(65 : Nat) : Int)) (List.set x_2.snd.snd (Int.toNat (IntKind.wrap IntKind.i64
  (x_2.snd.fst - (1 : Int)))) (byteAt (ByteArray.mk (List.toArray ((48 : UInt8) :: (49 : UInt8) :: (50 : UInt8) :: (51 : UInt8) :: (52 : UInt8) :: (53 : UInt8) :: (54 : UInt8) :: (55 : UInt8) :: (56 : UInt8) :: (57 :
  UInt8) :: (97 : UInt8) :: (98 : UInt8) :: (99 : UInt8) :: (100 : UInt8) :: (101 : UInt8) :: (102 : UInt8) :: (103 : UInt8) :: (104 : UInt8) :: (105 : UInt8) :: (106 : UInt8) :: (107 : UInt8) :: (108 : UInt8) :: (109 :
  UInt8) :: (110 : UInt8) :: (111 : UInt8) :: (112 : UInt8) :: (113 : UInt8) :: (114 : UInt8) :: (115 : UInt8) :: (116 : UInt8) :: (117 : UInt8) :: (118 : UInt8) :: (119 : UInt8) :: (120 : UInt8) :: (121 : UInt8) :: (122
  : UInt8) :: nilL UInt8))) (Int.toNat x_2.fst))))) :: nilL ByteArray) (IntKind.wrap IntKind.i64 (x_1.snd + (1 : Int)))) ∧ Wr (List.length x.fst - Int.toNat (IntKind.wrap IntKind.i64 (x_1.snd + (1 : Int))) < List.length
  x.fst - Int.toNat x_1.snd) ∧ Wr (IntKind.wrap IntKind.i64 (x_1.snd + (1 : Int)) = IntKind.wrap IntKind.i64 (x_1.snd + (1 : Int))) ∧ Wr (x.fst = x.fst) ∧ Wr (x.fst = x.fst) ∧ Wr ((↑(List.length x.fst) : Int) =
  (↑(List.length x.fst) : Int)) ∧ Wr (x_1.fst ++ strI (List.drop (Int.toNat (IntKind.wrap IntKind.i64 (x_2.snd.fst - (1 : Int)))) (List.take (Int.toNat (↑(65 : Nat) : Int)) (List.set x_2.snd.snd (Int.toNat (IntKind.wrap
  IntKind.i64 (x_2.snd.fst - (1 : Int)))) (byteAt (ByteArray.mk (List.toArray ((48 : UInt8) :: (49 : UInt8) :: (50 : UInt8) :: (51 : UInt8) :: (52 : UInt8) :: (53 : UInt8) :: (54 : UInt8) :: (55 : UInt8) :: (56 : UInt8)
  :: (57 : UInt8) :: (97 : UInt8) :: (98 : UInt8) :: (99 : UInt8) :: (100 : UInt8) :: (101 : UInt8) :: (102 : UInt8) :: (103 : UInt8) :: (104 : UInt8) :: (105 : UInt8) :: (106 : UInt8) :: (107 : UInt8) :: (108 : UInt8) ::
  (109 : UInt8) :: (110 : UInt8) :: (111 : UInt8) :: (112 : UInt8) :: (113 : UInt8) :: (114 : UInt8) :: (115 : UInt8) :: (116 : UInt8) :: (117 : UInt8) :: (118 : UInt8) :: (119 : UInt8) :: (120 : UInt8) :: (121 : UInt8)
  :: (122 : UInt8) :: nilL UInt8))) (Int.toNat x_2.fst))))) :: nilL ByteArray = x_1.fst ++ strI (List.drop (Int.toNat (IntKind.wrap IntKind.i64 (x_2.snd.fst - (1 : Int)))) (List.take (Int.toNat (↑(65 : Nat) : Int))
  (List.set x_2.snd.snd (Int.toNat (IntKind.wrap IntKind.i64 (x_2.snd.fst - (1 : Int)))) (byteAt (ByteArray.mk (List.toArray ((48 : UInt8) :: (49 : UInt8) :: (50 : UInt8) :: (51 : UInt8) :: (52 : UInt8) :: (53 : UInt8) ::
  (54 : UInt8) :: (55 : UInt8) :: (56 : UInt8) :: (57 : UInt8) :: (97 : UInt8) :: (98 : UInt8) :: (99 : UInt8) :: (100 : UInt8) :: (101 : UInt8) :: (102 : UInt8) :: (103 : UInt8) :: (104 : UInt8) :: (105 : UInt8) :: (106
  : UInt8) :: (107 : UInt8) :: (108 : UInt8) :: (109 : UInt8) :: (110 : UInt8) :: (111 : UInt8) :: (112 : UInt8) :: (113 : UInt8) :: (114 : UInt8) :: (115 : UInt8) :: (116 : UInt8) :: (117 : UInt8) :: (118 : UInt8) ::
  (119 : UInt8) :: (120 : UInt8) :: (121 : UInt8) :: (122 : UInt8) :: nilL UInt8))) (Int.toNat x_2.fst))))) :: nilL ByteArray)))) (Wr ((Decidable.decide ((0 : Int) ≤ IntKind.wrap IntKind.u64 (16 : Int)) &&
  Decidable.decide (IntKind.wrap IntKind.u64 (16 : Int) < (18446744073709551616 : Int))) = Bool.true) ∧ (Wr (BitsI (IntKind.wrap IntKind.u64 (IntKind.wrap IntKind.i64 (List.getD x.fst (Int.toNat x_1.snd) (0 : Int))))
  (IntKind.wrap IntKind.u64 (IntKind.wrap IntKind.i64 (List.getD x.fst (Int.toNat x_1.snd) (0 : Int)))) (65 : Int) (List.replicate (65 : Nat) (0 : Int))) ∧ Wr (IntKind.wrap IntKind.u64 (IntKind.wrap IntKind.i64 (List.getD
  x.fst (Int.toNat x_1.snd) (0 : Int))) = IntKind.wrap IntKind.u64 (IntKind.wrap IntKind.i64 (List.getD x.fst (Int.toNat x_1.snd) (0 : Int)))) ∧ Wr ((65 : Int) = (65 : Int)) ∧ Wr ((0 : Nat) < List.length (List.replicate
  (65 : Nat) (0 : Int))) ∧ Wr ((16 : Int) = (16 : Int)) ∧ Wr (Decidable.decide (IntKind.wrap IntKind.i64 (List.getD x.fst (Int.toNat x_1.snd) (0 : Int)) < (0 : Int)) = Decidable.decide (IntKind.wrap IntKind.i64 (List.getD
  x.fst (Int.toNat x_1.snd) (0 : Int)) < (0 : Int))) ∧ Wr (Bool.false = Bool.false) ∧ Wr (ByteArray.mk (List.toArray (nilL UInt8)) = ByteArray.mk (List.toArray (nilL UInt8))) ∧ Wr (IntKind.wrap IntKind.u64
  (Go.Proofs.YtkimpfoimblhjaaDoor.Lb.ctzZ (IntKind.wrap IntKind.u64 (16 : Int))) = IntKind.wrap IntKind.u64 (Go.Proofs.YtkimpfoimblhjaaDoor.Lb.ctzZ (IntKind.wrap IntKind.u64 (16 : Int)))) ∧ Wr (IntKind.wrap IntKind.u64
  (16 : Int) = IntKind.wrap IntKind.u64 (16 : Int)) ∧ Wr (IntKind.wrap IntKind.u64 (IntKind.wrap IntKind.u64 (16 : Int) - (1 : Int)) = IntKind.wrap IntKind.u64 (IntKind.wrap IntKind.u64 (16 : Int) - (1 : Int))) ∧ Wr
  (List.replicate (65 : Nat) (0 : Int) = List.replicate (65 : Nat) (0 : Int)) ∧ Wr (x_1.fst = x_1.fst)) ∧ ∀ (x_2 : Int × Int × List Int), Wr (BitsI (IntKind.wrap IntKind.u64 (IntKind.wrap IntKind.i64 (List.getD x.fst
  (Int.toNat x_1.snd) (0 : Int)))) x_2.fst x_2.snd.fst x_2.snd.snd) → bcase (Decidable.decide (x_2.fst ≥ IntKind.wrap IntKind.u64 (16 : Int))) (Wr ((0 : Int) ≤ andI IntKind.u64 x_2.fst (IntKind.wrap IntKind.u64
  (IntKind.wrap IntKind.u64 (16 : Int) - (1 : Int)))) ∧ Wr (andI IntKind.u64 x_2.fst (IntKind.wrap IntKind.u64 (IntKind.wrap IntKind.u64 (16 : Int) - (1 : Int))) < (↑(ByteArray.size (ByteArray.mk (List.toArray ((48 :
  UInt8) :: (49 : UInt8) :: (50 : UInt8) :: (51 : UInt8) :: (52 : UInt8) :: (53 : UInt8) :: (54 : UInt8) :: (55 : UInt8) :: (56 : UInt8) :: (57 : UInt8) :: (97 : UInt8) :: (98 : UInt8) :: (99 : UInt8) :: (100 : UInt8) ::
  (101 : UInt8) :: (102 : UInt8) :: (103 : UInt8) :: (104 : UInt8) :: (105 : UInt8) :: (106 : UInt8) :: (107 : UInt8) :: (108 : UInt8) :: (109 : UInt8) :: (110 : UInt8) :: (111 : UInt8) :: (112 : UInt8) :: (113 : UInt8)
  :: (114 : UInt8) :: (115 : UInt8) :: (116 : UInt8) :: (117 : UInt8) :: (118 : UInt8) :: (119 : UInt8) :: (120 : UInt8) :: (121 : UInt8) :: (122 : UInt8) :: nilL UInt8)))) : Int)) ∧ Wr (List.length x_2.snd.snd = (65 :
  Nat)) ∧ Wr ((0 : Int) ≤ IntKind.wrap IntKind.i64 (x_2.snd.fst - (1 : Int))) ∧ Wr (IntKind.wrap IntKind.i64 (x_2.snd.fst - (1 : Int)) < (↑(65 : Nat) : Int)) ∧ Wr ((0 : Int) ≤ IntKind.wrap IntKind.u64
  (Go.Proofs.YtkimpfoimblhjaaDoor.Lb.ctzZ (IntKind.wrap IntKind.u64 (16 : Int)))) ∧ Wr (BitsI (IntKind.wrap IntKind.u64 (IntKind.wrap IntKind.i64 (List.getD x.fst (Int.toNat x_1.snd) (0 : Int)))) (Int.fdiv x_2.fst ((2 :
  Int) ^ Min.min (Int.toNat (IntKind.wrap IntKind.u64 (Go.Proofs.YtkimpfoimblhjaaDoor.Lb.ctzZ (IntKind.wrap IntKind.u64 (16 : Int))))) (IntKind.bits IntKind.u64))) (IntKind.wrap IntKind.i64 (x_2.snd.fst - (1 : Int)))
  (List.set x_2.snd.snd (Int.toNat (IntKind.wrap IntKind.i64 (x_2.snd.fst - (1 : Int)))) (byteAt (ByteArray.mk (List.toArray ((48 : UInt8) :: (49 : UInt8) :: (50 : UInt8) :: (51 : UInt8) :: (52 : UInt8) :: (53 : UInt8) ::
  (54 : UInt8) :: (55 : UInt8) :: (56 : UInt8) :: (57 : UInt8) :: (97 : UInt8) :: (98 : UInt8) :: (99 : UInt8) :: (100 : UInt8) :: (101 : UInt8) :: (102 : UInt8) :: (103 : UInt8) :: (104 : UInt8) :: (105 : UInt8) :: (106
  : UInt8) :: (107 : UInt8) :: (108 : UInt8) :: (109 : UInt8) :: (110 : UInt8) :: (111 : UInt8) :: (112 : UInt8) :: (113 : UInt8) :: (114 : UInt8) :: (115 : UInt8) :: (116 : UInt8) :: (117 : UInt8) :: (118 : UInt8) ::
  (119 : UInt8) :: (120 : UInt8) :: (121 : UInt8) :: (122 : UInt8) :: nilL UInt8))) (Int.toNat (andI IntKind.u64 x_2.fst (IntKind.wrap IntKind.u64 (IntKind.wrap IntKind.u64 (16 : Int) - (1 : Int)))))))) ∧ Wr (Int.toNat
  (IntKind.wrap IntKind.i64 (x_2.snd.fst - (1 : Int))) < Int.toNat x_2.snd.fst) ∧ Wr (Int.fdiv x_2.fst ((2 : Int) ^ Min.min (Int.toNat (IntKind.wrap IntKind.u64 (Go.Proofs.YtkimpfoimblhjaaDoor.Lb.ctzZ (IntKind.wrap
  IntKind.u64 (16 : Int))))) (IntKind.bits IntKind.u64)) = Int.fdiv x_2.fst ((2 : Int) ^ Min.min (Int.toNat (IntKind.wrap IntKind.u64 (Go.Proofs.YtkimpfoimblhjaaDoor.Lb.ctzZ (IntKind.wrap IntKind.u64 (16 : Int)))))
  (IntKind.bits IntKind.u64))) ∧ Wr (IntKind.wrap IntKind.i64 (x_2.snd.fst - (1 : Int)) = IntKind.wrap IntKind.i64 (x_2.snd.fst - (1 : Int))) ∧ Wr ((0 : Nat) < List.length (List.set x_2.snd.snd (Int.toNat (IntKind.wrap
  IntKind.i64 (x_2.snd.fst - (1 : Int)))) (byteAt (ByteArray.mk (List.toArray ((48 : UInt8) :: (49 : UInt8) :: (50 : UInt8) :: (51 : UInt8) :: (52 : UInt8) :: (53 : UInt8) :: (54 : UInt8) :: (55 : UInt8) :: (56 : UInt8)
  :: (57 : UInt8) :: (97 : UInt8) :: (98 : UInt8) :: (99 : UInt8) :: (100 : UInt8) :: (101 : UInt8) :: (102 : UInt8) :: (103 : UInt8) :: (104 : UInt8) :: (105 : UInt8) :: (106 : UInt8) :: (107 : UInt8) :: (108 : UInt8) ::
  (109 : UInt8) :: (110 : UInt8) :: (111 : UInt8) :: (112 : UInt8) :: (113 : UInt8) :: (114 : UInt8) :: (115 : UInt8) :: (116 : UInt8) :: (117 : UInt8) :: (118 : UInt8) :: (119 : UInt8) :: (120 : UInt8) :: (121 : UInt8)
  :: (122 : UInt8) :: nilL UInt8))) (Int.toNat (andI IntKind.u64 x_2.fst (IntKind.wrap IntKind.u64 (IntKind.wrap IntKind.u64 (16 : Int) - (1 : Int)))))))) ∧ Wr ((16 : Int) = (16 : Int)) ∧ Wr (Decidable.decide
  (IntKind.wrap IntKind.i64 (List.getD x.fst (Int.toNat x_1.snd) (0 : Int)) < (0 : Int)) = Decidable.decide (IntKind.wrap IntKind.i64 (List.getD x.fst (Int.toNat x_1.snd) (0 : Int)) < (0 : Int))) ∧ Wr (Bool.false =
  Bool.false) ∧ Wr (ByteArray.mk (List.toArray (nilL UInt8)) = ByteArray.mk (List.toArray (nilL UInt8))) ∧ Wr (IntKind.wrap IntKind.u64 (Go.Proofs.YtkimpfoimblhjaaDoor.Lb.ctzZ (IntKind.wrap IntKind.u64 (16 : Int))) =
  IntKind.wrap IntKind.u64 (Go.Proofs.YtkimpfoimblhjaaDoor.Lb.ctzZ (IntKind.wrap IntKind.u64 (16 : Int)))) ∧ Wr (IntKind.wrap IntKind.u64 (16 : Int) = IntKind.wrap IntKind.u64 (16 : Int)) ∧ Wr (IntKind.wrap IntKind.u64
  (IntKind.wrap IntKind.u64 (16 : Int) - (1 : Int)) = IntKind.wrap IntKind.u64 (IntKind.wrap IntKind.u64 (16 : Int) - (1 : Int))) ∧ Wr (List.set x_2.snd.snd (Int.toNat (IntKind.wrap IntKind.i64 (x_2.snd.fst - (1 : Int))))
  (byteAt (ByteArray.mk (List.toArray ((48 : UInt8) :: (49 : UInt8) :: (50 : UInt8) :: (51 : UInt8) :: (52 : UInt8) :: (53 : UInt8) :: (54 : UInt8) :: (55 : UInt8) :: (56 : UInt8) :: (57 : UInt8) :: (97 : UInt8) :: (98 :
  UInt8) :: (99 : UInt8) :: (100 : UInt8) :: (101 : UInt8) :: (102 : UInt8) :: (103 : UInt8) :: (104 : UInt8) :: (105 : UInt8) :: (106 : UInt8) :: (107 : UInt8) :: (108 : UInt8) :: (109 : UInt8) :: (110 : UInt8) :: (111 :
  UInt8) :: (112 : UInt8) :: (113 : UInt8) :: (114 : UInt8) :: (115 : UInt8) :: (116 : UInt8) :: (117 : UInt8) :: (118 : UInt8) :: (119 : UInt8) :: (120 : UInt8) :: (121 : UInt8) :: (122 : UInt8) :: nilL UInt8)))
  (Int.toNat (andI IntKind.u64 x_2.fst (IntKind.wrap IntKind.u64 (IntKind.wrap IntKind.u64 (16 : Int) - (1 : Int)))))) = List.set x_2.snd.snd (Int.toNat (IntKind.wrap IntKind.i64 (x_2.snd.fst - (1 : Int)))) (byteAt
  (ByteArray.mk (List.toArray ((48 : UInt8) :: (49 : UInt8) :: (50 : UInt8) :: (51 : UInt8) :: (52 : UInt8) :: (53 : UInt8) :: (54 : UInt8) :: (55 : UInt8) :: (56 : UInt8) :: (57 : UInt8) :: (97 : UInt8) :: (98 : UInt8)
  :: (99 : UInt8) :: (100 : UInt8) :: (101 : UInt8) :: (102 : UInt8) :: (103 : UInt8) :: (104 : UInt8) :: (105 : UInt8) :: (106 : UInt8) :: (107 : UInt8) :: (108 : UInt8) :: (109 : UInt8) :: (110 : UInt8) :: (111 : UInt8)
  :: (112 : UInt8) :: (113 : UInt8) :: (114 : UInt8) :: (115 : UInt8) :: (116 : UInt8) :: (117 : UInt8) :: (118 : UInt8) :: (119 : UInt8) :: (120 : UInt8) :: (121 : UInt8) :: (122 : UInt8) :: nilL UInt8))) (Int.toNat
  (andI IntKind.u64 x_2.fst (IntKind.wrap IntKind.u64 (IntKind.wrap IntKind.u64 (16 : Int) - (1 : Int))))))) ∧ Wr (x_1.fst = x_1.fst)) (Wr ((0 : Int) ≤ x_2.fst) ∧ Wr (x_2.fst < (↑(ByteArray.size (ByteArray.mk
  (List.toArray ((48 : UInt8) :: (49 : UInt8) :: (50 : UInt8) :: (51 : UInt8) :: (52 : UInt8) :: (53 : UInt8) :: (54 : UInt8) :: (55 : UInt8) :: (56 : UInt8) :: (57 : UInt8) :: (97 : UInt8) :: (98 : UInt8) :: (99 : UInt8)
  :: (100 : UInt8) :: (101 : UInt8) :: (102 : UInt8) :: (103 : UInt8) :: (104 : UInt8) :: (105 : UInt8) :: (106 : UInt8) :: (107 : UInt8) :: (108 : UInt8) :: (109 : UInt8) :: (110 : UInt8) :: (111 : UInt8) :: (112 :
  UInt8) :: (113 : UInt8) :: (114 : UInt8) :: (115 : UInt8) :: (116 : UInt8) :: (117 : UInt8) :: (118 : UInt8) :: (119 : UInt8) :: (120 : UInt8) :: (121 : UInt8) :: (122 : UInt8) :: nilL UInt8)))) : Int)) ∧ Wr
  (List.length x_2.snd.snd = (65 : Nat)) ∧ Wr ((0 : Int) ≤ IntKind.wrap IntKind.i64 (x_2.snd.fst - (1 : Int))) ∧ Wr (IntKind.wrap IntKind.i64 (x_2.snd.fst - (1 : Int)) < (↑(65 : Nat) : Int)) ∧ bcase (Decidable.decide
  (IntKind.wrap IntKind.i64 (List.getD x.fst (Int.toNat x_1.snd) (0 : Int)) < (0 : Int))) (Wr (List.length (List.set x_2.snd.snd (Int.toNat (IntKind.wrap IntKind.i64 (x_2.snd.fst - (1 : Int)))) (byteAt (ByteArray.mk
  (List.toArray ((48 : UInt8) :: (49 : UInt8) :: (50 : UInt8) :: (51 : UInt8) :: (52 : UInt8) :: (53 : UInt8) :: (54 : UInt8) :: (55 : UInt8) :: (56 : UInt8) :: (57 : UInt8) :: (97 : UInt8) :: (98 : UInt8) :: (99 : UInt8)
  :: (100 : UInt8) :: (101 : UInt8) :: (102 : UInt8) :: (103 : UInt8) :: (104 : UInt8) :: (105 : UInt8) :: (106 : UInt8) :: (107 : UInt8) :: (108 : UInt8) :: (109 : UInt8) :: (110 : UInt8) :: (111 : UInt8) :: (112 :
  UInt8) :: (113 : UInt8) :: (114 : UInt8) :: (115 : UInt8) :: (116 : UInt8) :: (117 : UInt8) :: (118 : UInt8) :: (119 : UInt8) :: (120 : UInt8) :: (121 : UInt8) :: (122 : UInt8) :: nilL UInt8))) (Int.toNat x_2.fst))) =
  (65 : Nat)) ∧ Wr ((0 : Int) ≤ IntKind.wrap IntKind.i64 (IntKind.wrap IntKind.i64 (x_2.snd.fst - (1 : Int)) - (1 : Int))) ∧ Wr (IntKind.wrap IntKind.i64 (IntKind.wrap IntKind.i64 (x_2.snd.fst - (1 : Int)) - (1 : Int)) <
  (↑(65 : Nat) : Int)) ∧ Wr ((0 : Int) ≤ IntKind.wrap IntKind.i64 (IntKind.wrap IntKind.i64 (x_2.snd.fst - (1 : Int)) - (1 : Int))) ∧ Wr (IntKind.wrap IntKind.i64 (IntKind.wrap IntKind.i64 (x_2.snd.fst - (1 : Int)) - (1 :
  Int)) ≤ (↑(65 : Nat) : Int)) ∧ Wr ((↑(65 : Nat) : Int) ≤ (↑(65 : Nat) : Int)) ∧ Wr (List.length (List.set (List.set x_2.snd.snd (Int.toNat (IntKind.wrap IntKind.i64 (x_2.snd.fst - (1 : Int)))) (byteAt (ByteArray.mk
  (List.toArray ((48 : UInt8) :: (49 : UInt8) :: (50 : UInt8) :: (51 : UInt8) :: (52 : UInt8) :: (53 : UInt8) :: (54 : UInt8) :: (55 : UInt8) :: (56 : UInt8) :: (57 : UInt8) :: (97 : UInt8) :: (98 : UInt8) :: (99 : UInt8)
  :: (100 : UInt8) :: (101 : UInt8) :: (102 : UInt8) :: (103 : UInt8) :: (104 : UInt8) :: (105 : UInt8) :: (106 : UInt8) :: (107 : UInt8) :: (108 : UInt8) :: (109 : UInt8) :: (110 : UInt8) :: (111 : UInt8) :: (112 :
  UInt8) :: (113 : UInt8) :: (114 : UInt8) :: (115 : UInt8) :: (116 : UInt8) :: (117 : UInt8) :: (118 : UInt8) :: (119 : UInt8) :: (120 : UInt8) :: (121 : UInt8) :: (122 : UInt8) :: nilL UInt8))) (Int.toNat x_2.fst)))
  (Int.toNat (IntKind.wrap IntKind.i64 (IntKind.wrap IntKind.i64 (x_2.snd.fst - (1 : Int)) - (1 : Int)))) (45 : Int)) = (65 : Nat)) ∧ Wr (List.length (List.drop (Int.toNat (IntKind.wrap IntKind.i64 (IntKind.wrap
  IntKind.i64 (x_2.snd.fst - (1 : Int)) - (1 : Int)))) (List.take (Int.toNat (↑(65 : Nat) : Int)) (List.set (List.set x_2.snd.snd (Int.toNat (IntKind.wrap IntKind.i64 (x_2.snd.fst - (1 : Int)))) (byteAt (ByteArray.mk
  (List.toArray ((48 : UInt8) :: (49 : UInt8) :: (50 : UInt8) :: (51 : UInt8) :: (52 : UInt8) :: (53 : UInt8) :: (54 : UInt8) :: (55 : UInt8) :: (56 : UInt8) :: (57 : UInt8) :: (97 : UInt8) :: (98 : UInt8) :: (99 : UInt8)
  :: (100 : UInt8) :: (101 : UInt8) :: (102 : UInt8) :: (103 : UInt8) :: (104 : UInt8) :: (105 : UInt8) :: (106 : UInt8) :: (107 : UInt8) :: (108 : UInt8) :: (109 : UInt8) :: (110 : UInt8) :: (111 : UInt8) :: (112 :
  UInt8) :: (113 : UInt8) :: (114 : UInt8) :: (115 : UInt8) :: (116 : UInt8) :: (117 : UInt8) :: (118 : UInt8) :: (119 : UInt8) :: (120 : UInt8) :: (121 : UInt8) :: (122 : UInt8) :: nilL UInt8))) (Int.toNat x_2.fst)))
  (Int.toNat (IntKind.wrap IntKind.i64 (IntKind.wrap IntKind.i64 (x_2.snd.fst - (1 : Int)) - (1 : Int)))) (45 : Int)))) ≤ Go.maxLen) ∧ Wr ((List.length x_1.fst + List.length (strI (List.drop (Int.toNat (IntKind.wrap
  IntKind.i64 (IntKind.wrap IntKind.i64 (x_2.snd.fst - (1 : Int)) - (1 : Int)))) (List.take (Int.toNat (↑(65 : Nat) : Int)) (List.set (List.set x_2.snd.snd (Int.toNat (IntKind.wrap IntKind.i64 (x_2.snd.fst - (1 : Int))))
  (byteAt (ByteArray.mk (List.toArray ((48 : UInt8) :: (49 : UInt8) :: (50 : UInt8) :: (51 : UInt8) :: (52 : UInt8) :: (53 : UInt8) :: (54 : UInt8) :: (55 : UInt8) :: (56 : UInt8) :: (57 : UInt8) :: (97 : UInt8) :: (98 :
  UInt8) :: (99 : UInt8) :: (100 : UInt8) :: (101 : UInt8) :: (102 : UInt8) :: (103 : UInt8) :: (104 : UInt8) :: (105 : UInt8) :: (106 : UInt8) :: (107 : UInt8) :: (108 : UInt8) :: (109 : UInt8) :: (110 : UInt8) :: (111 :
  UInt8) :: (112 : UInt8) :: (113 : UInt8) :: (114 : UInt8) :: (115 : UInt8) :: (116 : UInt8) :: (117 : UInt8) :: (118 : UInt8) :: (119 : UInt8) :: (120 : UInt8) :: (121 : UInt8) :: (122 : UInt8) :: nilL UInt8)))
  (Int.toNat x_2.fst))) (Int.toNat (IntKind.wrap IntKind.i64 (IntKind.wrap IntKind.i64 (x_2.snd.fst - (1 : Int)) - (1 : Int)))) (45 : Int)))) :: nilL ByteArray)) * (16 : Nat) ≤ (140737488355328 : Nat)) ∧ Wr (MapI
  Go.Ad.hexS x.fst (x_1.fst ++ strI (List.drop (Int.toNat (IntKind.wrap IntKind.i64 (IntKind.wrap IntKind.i64 (x_2.snd.fst - (1 : Int)) - (1 : Int)))) (List.take (Int.toNat (↑(65 : Nat) : Int)) (List.set (List.set
  x_2.snd.snd (Int.toNat (IntKind.wrap IntKind.i64 (x_2.snd.fst - (1 : Int)))) (byteAt (ByteArray.mk (List.toArray ((48 : UInt8) :: (49 : UInt8) :: (50 : UInt8) :: (51 : UInt8) :: (52 : UInt8) :: (53 : UInt8) :: (54 :
  UInt8) :: (55 : UInt8) :: (56 : UInt8) :: (57 : UInt8) :: (97 : UInt8) :: (98 : UInt8) :: (99 : UInt8) :: (100 : UInt8) :: (101 : UInt8) :: (102 : UInt8) :: (103 : UInt8) :: (104 : UInt8) :: (105 : UInt8) :: (106 :
  UInt8) :: (107 : UInt8) :: (108 : UInt8) :: (109 : UInt8) :: (110 : UInt8) :: (111 : UInt8) :: (112 : UInt8) :: (113 : UInt8) :: (114 : UInt8) :: (115 : UInt8) :: (116 : UInt8) :: (117 : UInt8) :: (118 : UInt8) :: (119
  : UInt8) :: (120 : UInt8) :: (121 : UInt8) :: (122 : UInt8) :: nilL UInt8))) (Int.toNat x_2.fst))) (Int.toNat (IntKind.wrap IntKind.i64 (IntKind.wrap IntKind.i64 (x_2.snd.fst - (1 : Int)) - (1 : Int)))) (45 : Int)))) ::
  nilL ByteArray) (IntKind.wrap IntKind.i64 (x_1.snd + (1 : Int)))) ∧ Wr (List.length x.fst - Int.toNat (IntKind.wrap IntKind.i64 (x_1.snd + (1 : Int))) < List.length x.fst - Int.toNat x_1.snd) ∧ Wr (IntKind.wrap
  IntKind.i64 (x_1.snd + (1 : Int)) = IntKind.wrap IntKind.i64 (x_1.snd + (1 : Int))) ∧ Wr (x.fst = x.fst) ∧ Wr (x.fst = x.fst) ∧ Wr ((↑(List.length x.fst) : Int) = (↑(List.length x.fst) : Int)) ∧ Wr (x_1.fst ++ strI
  (List.drop (Int.toNat (IntKind.wrap IntKind.i64 (IntKind.wrap IntKind.i64 (x_2.snd.fst - (1 : Int)) - (1 : Int)))) (List.take (Int.toNat (↑(65 : Nat) : Int)) (List.set (List.set x_2.snd.snd (Int.toNat (IntKind.wrap
  IntKind.i64 (x_2.snd.fst - (1 : Int)))) (byteAt (ByteArray.mk (List.toArray ((48 : UInt8) :: (49 : UInt8) :: (50 : UInt8) :: (51 : UInt8) :: (52 : UInt8) :: (53 : UInt8) :: (54 : UInt8) :: (55 : UInt8) :: (56 : UInt8)
  :: (57 : UInt8) :: (97 : UInt8) :: (98 : UInt8) :: (99 : UInt8) :: (100 : UInt8) :: (101 : UInt8) :: (102 : UInt8) :: (103 : UInt8) :: (104 : UInt8) :: (105 : UInt8) :: (106 : UInt8) :: (107 : UInt8) :: (108 : UInt8) ::
  (109 : UInt8) :: (110 : UInt8) :: (111 : UInt8) :: (112 : UInt8) :: (113 : UInt8) :: (114 : UInt8) :: (115 : UInt8) :: (116 : UInt8) :: (117 : UInt8) :: (118 : UInt8) :: (119 : UInt8) :: (120 : UInt8) :: (121 : UInt8)
  :: (122 : UInt8) :: nilL UInt8))) (Int.toNat x_2.fst))) (Int.toNat (IntKind.wrap IntKind.i64 (IntKind.wrap IntKind.i64 (x_2.snd.fst - (1 : Int)) - (1 : Int)))) (45 : Int)))) :: nilL ByteArray = x_1.fst ++ strI
  (List.drop (Int.toNat (IntKind.wrap IntKind.i64 (IntKind.wrap IntKind.i64 (x_2.snd.fst - (1 : Int)) - (1 : Int)))) (List.take (Int.toNat (↑(65 : Nat) : Int)) (List.set (List.set x_2.snd.snd (Int.toNat (IntKind.wrap
  IntKind.i64 (x_2.snd.fst - (1 : Int)))) (byteAt (ByteArray.mk (List.toArray ((48 : UInt8) :: (49 : UInt8) :: (50 : UInt8) :: (51 : UInt8) :: (52 : UInt8) :: (53 : UInt8) :: (54 : UInt8) :: (55 : UInt8) :: (56 : UInt8)
  :: (57 : UInt8) :: (97 : UInt8) :: (98 : UInt8) :: (99 : UInt8) :: (100 : UInt8) :: (101 : UInt8) :: (102 : UInt8) :: (103 : UInt8) :: (104 : UInt8) :: (105 : UInt8) :: (106 : UInt8) :: (107 : UInt8) :: (108 : UInt8) ::
  (109 : UInt8) :: (110 : UInt8) :: (111 : UInt8) :: (112 : UInt8) :: (113 : UInt8) :: (114 : UInt8) :: (115 : UInt8) :: (116 : UInt8) :: (117 : UInt8) :: (118 : UInt8) :: (119 : UInt8) :: (120 : UInt8) :: (121 : UInt8)
  :: (122 : UInt8) :: nilL UInt8))) (Int.toNat x_2.fst))) (Int.toNat (IntKind.wrap IntKind.i64 (IntKind.wrap IntKind.i64 (x_2.snd.fst - (1 : Int)) - (1 : Int)))) (45 : Int)))) :: nilL ByteArray)) (Wr ((0 : Int) ≤
  IntKind.wrap IntKind.i64 (x_2.snd.fst - (1 : Int))) ∧ Wr (IntKind.wrap IntKind.i64 (x_2.snd.fst - (1 : Int)) ≤ (↑(65 : Nat) : Int)) ∧ Wr ((↑(65 : Nat) : Int) ≤ (↑(65 : Nat) : Int)) ∧ Wr (List.length (List.set
  x_2.snd.snd (Int.toNat (IntKind.wrap IntKind.i64 (x_2.snd.fst - (1 : Int)))) (byteAt (ByteArray.mk (List.toArray ((48 : UInt8) :: (49 : UInt8) :: (50 : UInt8) :: (51 : UInt8) :: (52 : UInt8) :: (53 : UInt8) :: (54 :
  UInt8) :: (55 : UInt8) :: (56 : UInt8) :: (57 : UInt8) :: (97 : UInt8) :: (98 : UInt8) :: (99 : UInt8) :: (100 : UInt8) :: (101 : UInt8) :: (102 : UInt8) :: (103 : UInt8) :: (104 : UInt8) :: (105 : UInt8) :: (106 :
  UInt8) :: (107 : UInt8) :: (108 : UInt8) :: (109 : UInt8) :: (110 : UInt8) :: (111 : UInt8) :: (112 : UInt8) :: (113 : UInt8) :: (114 : UInt8) :: (115 : UInt8) :: (116 : UInt8) :: (117 : UInt8) :: (118 : UInt8) :: (119
  : UInt8) :: (120 : UInt8) :: (121 : UInt8) :: (122 : UInt8) :: nilL UInt8))) (Int.toNat x_2.fst))) = (65 : Nat)) ∧ Wr (List.length (List.drop (Int.toNat (IntKind.wrap IntKind.i64 (x_2.snd.fst - (1 : Int)))) (List.take
  (Int.toNat (↑(65 : Nat) : Int)) (List.set x_2.snd.snd (Int.toNat (IntKind.wrap IntKind.i64 (x_2.snd.fst - (1 : Int)))) (byteAt (ByteArray.mk (List.toArray ((48 : UInt8) :: (49 : UInt8) :: (50 : UInt8) :: (51 : UInt8) ::
  (52 : UInt8) :: (53 : UInt8) :: (54 : UInt8) :: (55 : UInt8) :: (56 : UInt8) :: (57 : UInt8) :: (97 : UInt8) :: (98 : UInt8) :: (99 : UInt8) :: (100 : UInt8) :: (101 : UInt8) :: (102 : UInt8) :: (103 : UInt8) :: (104 :
  UInt8) :: (105 : UInt8) :: (106 : UInt8) :: (107 : UInt8) :: (108 : UInt8) :: (109 : UInt8) :: (110 : UInt8) :: (111 : UInt8) :: (112 : UInt8) :: (113 : UInt8) :: (114 : UInt8) :: (115 : UInt8) :: (116 : UInt8) :: (117
  : UInt8) :: (118 : UInt8) :: (119 : UInt8) :: (120 : UInt8) :: (121 : UInt8) :: (122 : UInt8) :: nilL UInt8))) (Int.toNat x_2.fst))))) ≤ Go.maxLen) ∧ Wr ((List.length x_1.fst + List.length (strI (List.drop (Int.toNat
  (IntKind.wrap IntKind.i64 (x_2.snd.fst - (1 : Int)))) (List.take (Int.toNat (↑(65 : Nat) : Int)) (List.set x_2.snd.snd (Int.toNat (IntKind.wrap IntKind.i64 (x_2.snd.fst - (1 : Int)))) (byteAt (ByteArray.mk (List.toArray
  ((48 : UInt8) :: (49 : UInt8) :: (50 : UInt8) :: (51 : UInt8) :: (52 : UInt8) :: (53 : UInt8) :: (54 : UInt8) :: (55 : UInt8) :: (56 : UInt8) :: (57 : UInt8) :: (97 : UInt8) :: (98 : UInt8) :: (99 : UInt8) :: (100 :
  UInt8) :: (101 : UInt8) :: (102 : UInt8) :: (103 : UInt8) :: (104 : UInt8) :: (105 : UInt8) :: (106 : UInt8) :: (107 : UInt8) :: (108 : UInt8) :: (109 : UInt8) :: (110 : UInt8) :: (111 : UInt8) :: (112 : UInt8) :: (113
  : UInt8) :: (114 : UInt8) :: (115 : UInt8) :: (116 : UInt8) :: (117 : UInt8) :: (118 : UInt8) :: (119 : UInt8) :: (120 : UInt8) :: (121 : UInt8) :: (122 : UInt8) :: nilL UInt8))) (Int.toNat x_2.fst))))) :: nilL
  ByteArray)) * (16 : Nat) ≤ (140737488355328 : Nat)) ∧ Wr (MapI Go.Ad.hexS x.fst (x_1.fst ++ strI (List.drop (Int.toNat (IntKind.wrap IntKind.i64 (x_2.snd.fst - (1 : Int)))) (List.take (Int.toNat (↑(65 : Nat) : Int))
  (List.set x_2.snd.snd (Int.toNat (IntKind.wrap IntKind.i64 (x_2.snd.fst - (1 : Int)))) (byteAt (ByteArray.mk (List.toArray ((48 : UInt8) :: (49 : UInt8) :: (50 : UInt8) :: (51 : UInt8) :: (52 : UInt8) :: (53 : UInt8) ::
  (54 : UInt8) :: (55 : UInt8) :: (56 : UInt8) :: (57 : UInt8) :: (97 : UInt8) :: (98 : UInt8) :: (99 : UInt8) :: (100 : UInt8) :: (101 : UInt8) :: (102 : UInt8) :: (103 : UInt8) :: (104 : UInt8) :: (105 : UInt8) :: (106
  : UInt8) :: (107 : UInt8) :: (108 : UInt8) :: (109 : UInt8) :: (110 : UInt8) :: (111 : UInt8) :: (112 : UInt8) :: (113 : UInt8) :: (114 : UInt8) :: (115 : UInt8) :: (116 : UInt8) :: (117 : UInt8) :: (118 : UInt8) ::
  (119 : UInt8) :: (120 : UInt8) :: (121 : UInt8) :: (122 : UInt8) :: nilL UInt8))) (Int.toNat x_2.fst))))) :: nilL ByteArray) (IntKind.wrap IntKind.i64 (x_1.snd + (1 : Int)))) ∧ Wr (List.length x.fst - Int.toNat
  (IntKind.wrap IntKind.i64 (x_1.snd + (1 : Int))) < List.length x.fst - Int.toNat x_1.snd) ∧ Wr (IntKind.wrap IntKind.i64 (x_1.snd + (1 : Int)) = IntKind.wrap IntKind.i64 (x_1.snd + (1 : Int))) ∧ Wr (x.fst = x.fst) ∧ Wr
  (x.fst = x.fst) ∧ Wr ((↑(List.length x.fst) : Int) = (↑(List.length x.fst) : Int)) ∧ Wr (x_1.fst ++ strI (List.drop (Int.toNat (IntKind.wrap IntKind.i64 (x_2.snd.fst - (1 : Int)))) (List.take (Int.toNat (↑(65 : Nat) :
  Int)) (List.set x_2.snd.snd (Int.toNat (IntKind.wrap IntKind.i64 (x_2.snd.fst - (1 : Int)))) (byteAt (ByteArray.mk (List.toArray ((48 : UInt8) :: (49 : UInt8) :: (50 : UInt8) :: (51 : UInt8) :: (52 : UInt8) :: (53 :
  UInt8) :: (54 : UInt8) :: (55 : UInt8) :: (56 : UInt8) :: (57 : UInt8) :: (97 : UInt8) :: (98 : UInt8) :: (99 : UInt8) :: (100 : UInt8) :: (101 : UInt8) :: (102 : UInt8) :: (103 : UInt8) :: (104 : UInt8) :: (105 :
  UInt8) :: (106 : UInt8) :: (107 : UInt8) :: (108 : UInt8) :: (109 : UInt8) :: (110 : UInt8) :: (111 : UInt8) :: (112 : UInt8) :: (113 : UInt8) :: (114 : UInt8) :: (115 : UInt8) :: (116 : UInt8) :: (117 : UInt8) :: (118
  : UInt8) :: (119 : UInt8) :: (120 : UInt8) :: (121 : UInt8) :: (122 : UInt8) :: nilL UInt8))) (Int.toNat x_2.fst))))) :: nilL ByteArray = x_1.fst ++ strI (List.drop (Int.toNat (IntKind.wrap IntKind.i64 (x_2.snd.fst - (1
  : Int)))) (List.take (Int.toNat (↑(65 : Nat) : Int)) (List.set x_2.snd.snd (Int.toNat (IntKind.wrap IntKind.i64 (x_2.snd.fst - (1 : Int)))) (byteAt (ByteArray.mk (List.toArray ((48 : UInt8) :: (49 : UInt8) :: (50 :
  UInt8) :: (51 : UInt8) :: (52 : UInt8) :: (53 : UInt8) :: (54 : UInt8) :: (55 : UInt8) :: (56 : UInt8) :: (57 : UInt8) :: (97 : UInt8) :: (98 : UInt8) :: (99 : UInt8) :: (100 : UInt8) :: (101 : UInt8) :: (102 : UInt8)
  :: (103 : UInt8) :: (104 : UInt8) :: (105 : UInt8) :: (106 : UInt8) :: (107 : UInt8) :: (108 : UInt8) :: (109 : UInt8) :: (110 : UInt8) :: (111 : UInt8) :: (112 : UInt8) :: (113 : UInt8) :: (114 : UInt8) :: (115 :
  UInt8) :: (116 : UInt8) :: (117 : UInt8) :: (118 : UInt8) :: (119 : UInt8) :: (120 : UInt8) :: (121 : UInt8) :: (122 : UInt8) :: nilL UInt8))) (Int.toNat x_2.fst))))) :: nilL ByteArray))))) (Wr ((Decidable.decide
  (List.length x_1.fst ≤ (100000 : Nat)) && Decidable.decide (List.length (Go.Proofs.YtkimpfoimblhjaaDoor.Lb.joinL x_1.fst (ByteArray.mk (List.toArray ((58 : UInt8) :: nilL UInt8)))) ≤ (4000000000 : Nat))) = Bool.true) ∧
  (Go.Proofs.YtkimpfoimblhjaaDoor.Lb.joinS x_1.fst (ByteArray.mk (List.toArray ((58 : UInt8) :: nilL UInt8))), ()) = (Go.Ad.hexes x.fst, ()))) := by kernel_rfl
theorem v17_eq : vcFn g17 300 Tryd.f17 cText.T = ( ∀ (x : (Int × (Int × Int × Int × Int × Int × Int × Int × Int × Unit) × Int × Unit) × Unit), Wr (typedB (Ty.cons AdT Ty.unit) x = Bool.true ∧ Bool.true = Bool.true) → Wr (lenA (x.fst :: nilL (Int × (Int × Int × Int × Int
  × Int × Int × Int × Int × Unit) × Int × Unit)) = Bool.true) ∧ bcase (!Go.Ad.mayA (x.fst :: nilL (Int × (Int × Int × Int × Int × Int × Int × Int × Int × Unit) × Int × Unit))) ((ByteArray.mk (List.toArray (nilL UInt8)),
  (20 : Int), ()) = (Go.Ad.text1 x.fst, Go.Ad.text2 x.fst, ())) (Wr ((Decidable.decide ((0 : Int) ≤ x.fst.snd.snd.fst) && Decidable.decide (x.fst.snd.snd.fst ≤ (65535 : Int))) = Bool.true) ∧ Wr (ByteArray.size
  (ByteArray.mk (List.toArray ((58 : UInt8) :: nilL UInt8))) + ByteArray.size (Go.Lb.digS x.fst.snd.snd.fst) ≤ Go.maxLen) ∧ bcase (Decidable.decide (x.fst.fst = (4 : Int))) (Wr ((0 : Int) ≤ (0 : Int)) ∧ Wr ((0 : Int) ≤ (2
  : Int)) ∧ Wr ((2 : Int) ≤ (↑(8 : Nat) : Int)) ∧ Wr ((0 : Int) ≤ (0 : Int)) ∧ Wr ((0 : Int) < (↑(Int.toNat (2 : Int) - Int.toNat (0 : Int)) : Int)) ∧ Wr ((0 : Int) ≤ (8 : Int)) ∧ Wr ((Decidable.decide ((0 : Int) ≤
  IntKind.wrap IntKind.i64 (Int.fdiv (List.getD (x.fst.snd.fst.fst :: x.fst.snd.fst.snd.fst :: x.fst.snd.fst.snd.snd.fst :: x.fst.snd.fst.snd.snd.snd.fst :: x.fst.snd.fst.snd.snd.snd.snd.fst ::
  x.fst.snd.fst.snd.snd.snd.snd.snd.fst :: x.fst.snd.fst.snd.snd.snd.snd.snd.snd.fst :: x.fst.snd.fst.snd.snd.snd.snd.snd.snd.snd.fst :: nilL Int) (Int.toNat (0 : Int) + Int.toNat (0 : Int)) (0 : Int)) ((2 : Int) ^
  Min.min (Int.toNat (8 : Int)) (IntKind.bits IntKind.u16)))) && Decidable.decide (IntKind.wrap IntKind.i64 (Int.fdiv (List.getD (x.fst.snd.fst.fst :: x.fst.snd.fst.snd.fst :: x.fst.snd.fst.snd.snd.fst ::
  x.fst.snd.fst.snd.snd.snd.fst :: x.fst.snd.fst.snd.snd.snd.snd.fst :: x.fst.snd.fst.snd.snd.snd.snd.snd.fst :: x.fst.snd.fst.snd.snd.snd.snd.snd.snd.fst :: x.fst.snd.fst.snd.snd.snd.snd.snd.snd.snd.fst :: nilL Int)
  (Int.toNat (0 : Int) + Int.toNat (0 : Int)) (0 : Int)) ((2 : Int) ^ Min.min (Int.toNat (8 : Int)) (IntKind.bits IntKind.u16))) ≤ (65535 : Int))) = Bool.true) ∧ Wr ((Decidable.decide ((0 : Int) ≤ IntKind.wrap IntKind.i64
  (andI IntKind.u16 (List.getD (x.fst.snd.fst.fst :: x.fst.snd.fst.snd.fst :: x.fst.snd.fst.snd.snd.fst :: x.fst.snd.fst.snd.snd.snd.fst :: x.fst.snd.fst.snd.snd.snd.snd.fst :: x.fst.snd.fst.snd.snd.snd.snd.snd.fst ::
  x.fst.snd.fst.snd.snd.snd.snd.snd.snd.fst :: x.fst.snd.fst.snd.snd.snd.snd.snd.snd.snd.fst :: nilL Int) (Int.toNat (0 : Int) + Int.toNat (0 : Int)) (0 : Int)) (255 : Int))) && Decidable.decide (IntKind.wrap IntKind.i64
  (andI IntKind.u16 (List.getD (x.fst.snd.fst.fst :: x.fst.snd.fst.snd.fst :: x.fst.snd.fst.snd.snd.fst :: x.fst.snd.fst.snd.snd.snd.fst :: x.fst.snd.fst.snd.snd.snd.snd.fst :: x.fst.snd.fst.snd.snd.snd.snd.snd.fst ::
  x.fst.snd.fst.snd.snd.snd.snd.snd.snd.fst :: x.fst.snd.fst.snd.snd.snd.snd.snd.snd.snd.fst :: nilL Int) (Int.toNat (0 : Int) + Int.toNat (0 : Int)) (0 : Int)) (255 : Int)) ≤ (65535 : Int))) = Bool.true) ∧ Wr
  (List.length (Go.Lb.digS (IntKind.wrap IntKind.i64 (Int.fdiv (List.getD (x.fst.snd.fst.fst :: x.fst.snd.fst.snd.fst :: x.fst.snd.fst.snd.snd.fst :: x.fst.snd.fst.snd.snd.snd.fst :: x.fst.snd.fst.snd.snd.snd.snd.fst ::
  x.fst.snd.fst.snd.snd.snd.snd.snd.fst :: x.fst.snd.fst.snd.snd.snd.snd.snd.snd.fst :: x.fst.snd.fst.snd.snd.snd.snd.snd.snd.snd.fst :: nilL Int) (Int.toNat (0 : Int) + Int.toNat (0 : Int)) (0 : Int)) ((2 : Int) ^
  Min.min (Int.toNat (8 : Int)) (IntKind.bits IntKind.u16)))) :: Go.Lb.digS (IntKind.wrap IntKind.i64 (andI IntKind.u16 (List.getD (x.fst.snd.fst.fst :: x.fst.snd.fst.snd.fst :: x.fst.snd.fst.snd.snd.fst ::
  x.fst.snd.fst.snd.snd.snd.fst :: x.fst.snd.fst.snd.snd.snd.snd.fst :: x.fst.snd.fst.snd.snd.snd.snd.snd.fst :: x.fst.snd.fst.snd.snd.snd.snd.snd.snd.fst :: x.fst.snd.fst.snd.snd.snd.snd.snd.snd.snd.fst :: nilL Int)
  (Int.toNat (0 : Int) + Int.toNat (0 : Int)) (0 : Int)) (255 : Int))) :: nilL ByteArray) * (16 : Nat) ≤ (140737488355328 : Nat)) ∧ Wr ((0 : Int) ≤ IntKind.wrap IntKind.i64 ((0 : Int) + (1 : Int))) ∧ Wr (IntKind.wrap
  IntKind.i64 ((0 : Int) + (1 : Int)) < (↑(Int.toNat (2 : Int) - Int.toNat (0 : Int)) : Int)) ∧ Wr ((0 : Int) ≤ (8 : Int)) ∧ Wr ((Decidable.decide ((0 : Int) ≤ IntKind.wrap IntKind.i64 (Int.fdiv (List.getD
  (x.fst.snd.fst.fst :: x.fst.snd.fst.snd.fst :: x.fst.snd.fst.snd.snd.fst :: x.fst.snd.fst.snd.snd.snd.fst :: x.fst.snd.fst.snd.snd.snd.snd.fst :: x.fst.snd.fst.snd.snd.snd.snd.snd.fst ::
  x.fst.snd.fst.snd.snd.snd.snd.snd.snd.fst :: x.fst.snd.fst.snd.snd.snd.snd.snd.snd.snd.fst :: nilL Int) (Int.toNat (0 : Int) + Int.toNat (IntKind.wrap IntKind.i64 ((0 : Int) + (1 : Int)))) (0 : Int)) ((2 : Int) ^
  Min.min (Int.toNat (8 : Int)) (IntKind.bits IntKind.u16)))) && Decidable.decide (IntKind.wrap IntKind.i64 (Int.fdiv (List.getD (x.fst.snd.fst.fst :: x.fst.snd.fst.snd.fst :: x.fst.snd.fst.snd.snd.fst ::
  x.fst.snd.fst.snd.snd.snd.fst :: x.fst.snd.fst.snd.snd.snd.snd.fst :: x.fst.snd.fst.snd.snd.snd.snd.snd.fst :: x.fst.snd.fst.snd.snd.snd.snd.snd.snd.fst :: x.fst.snd.fst.snd.snd.snd.snd.snd.snd.snd.fst :: nilL Int)
  (Int.toNat (0 : Int) + Int.toNat (IntKind.wrap IntKind.i64 ((0 : Int) + (1 : Int)))) (0 : Int)) ((2 : Int) ^ Min.min (Int.toNat (8 : Int)) (IntKind.bits IntKind.u16))) ≤ (65535 : Int))) = Bool.true) ∧ Wr
  ((Decidable.decide ((0 : Int) ≤ IntKind.wrap IntKind.i64 (andI IntKind.u16 (List.getD (x.fst.snd.fst.fst :: x.fst.snd.fst.snd.fst :: x.fst.snd.fst.snd.snd.fst :: x.fst.snd.fst.snd.snd.snd.fst ::
  x.fst.snd.fst.snd.snd.snd.snd.fst :: x.fst.snd.fst.snd.snd.snd.snd.snd.fst :: x.fst.snd.fst.snd.snd.snd.snd.snd.snd.fst :: x.fst.snd.fst.snd.snd.snd.snd.snd.snd.snd.fst :: nilL Int) (Int.toNat (0 : Int) + Int.toNat
  (IntKind.wrap IntKind.i64 ((0 : Int) + (1 : Int)))) (0 : Int)) (255 : Int))) && Decidable.decide (IntKind.wrap IntKind.i64 (andI IntKind.u16 (List.getD (x.fst.snd.fst.fst :: x.fst.snd.fst.snd.fst ::
  x.fst.snd.fst.snd.snd.fst :: x.fst.snd.fst.snd.snd.snd.fst :: x.fst.snd.fst.snd.snd.snd.snd.fst :: x.fst.snd.fst.snd.snd.snd.snd.snd.fst :: x.fst.snd.fst.snd.snd.snd.snd.snd.snd.fst ::
  x.fst.snd.fst.snd.snd.snd.snd.snd.snd.snd.fst :: nilL Int) (Int.toNat (0 : Int) + Int.toNat (IntKind.wrap IntKind.i64 ((0 : Int) + (1 : Int)))) (0 : Int)) (255 : Int)) ≤ (65535 : Int))) = Bool.true) ∧ Wr ((List.length
  (Go.Lb.digS (IntKind.wrap IntKind.i64 (Int.fdiv (List.getD (x.fst.snd.fst.fst :: x.fst.snd.fst.snd.fst :: x.fst.snd.fst.snd.snd.fst :: x.fst.snd.fst.snd.snd.snd.fst :: x.fst.snd.fst.snd.snd.snd.snd.fst ::
  x.fst.snd.fst.snd.snd.snd.snd.snd.fst :: x.fst.snd.fst.snd.snd.snd.snd.snd.snd.fst :: x.fst.snd.fst.snd.snd.snd.snd.snd.snd.snd.fst :: nilL Int) (Int.toNat (0 : Int) + Int.toNat (0 : Int)) (0 : Int)) ((2 : Int) ^
  Min.min (Int.toNat (8 : Int)) (IntKind.bits IntKind.u16)))) :: Go.Lb.digS (IntKind.wrap IntKind.i64 (andI IntKind.u16 (List.getD (x.fst.snd.fst.fst :: x.fst.snd.fst.snd.fst :: x.fst.snd.fst.snd.snd.fst ::
  x.fst.snd.fst.snd.snd.snd.fst :: x.fst.snd.fst.snd.snd.snd.snd.fst :: x.fst.snd.fst.snd.snd.snd.snd.snd.fst :: x.fst.snd.fst.snd.snd.snd.snd.snd.snd.fst :: x.fst.snd.fst.snd.snd.snd.snd.snd.snd.snd.fst :: nilL Int)
  (Int.toNat (0 : Int) + Int.toNat (0 : Int)) (0 : Int)) (255 : Int))) :: nilL ByteArray) + List.length (Go.Lb.digS (IntKind.wrap IntKind.i64 (Int.fdiv (List.getD (x.fst.snd.fst.fst :: x.fst.snd.fst.snd.fst ::
  x.fst.snd.fst.snd.snd.fst :: x.fst.snd.fst.snd.snd.snd.fst :: x.fst.snd.fst.snd.snd.snd.snd.fst :: x.fst.snd.fst.snd.snd.snd.snd.snd.fst :: x.fst.snd.fst.snd.snd.snd.snd.snd.snd.fst ::
  x.fst.snd.fst.snd.snd.snd.snd.snd.snd.snd.fst :: nilL Int) (Int.toNat (0 : Int) + Int.toNat (IntKind.wrap IntKind.i64 ((0 : Int) + (1 : Int)))) (0 : Int)) ((2 : Int) ^ Min.min (Int.toNat (8 : Int)) (IntKind.bits
  IntKind.u16)))) :: Go.Lb.digS (IntKind.wrap IntKind.i64 (andI IntKind.u16 (List.getD (x.fst.snd.fst.fst :: x.fst.snd.fst.snd.fst :: x.fst.snd.fst.snd.snd.fst :: x.fst.snd.fst.snd.snd.snd.fst ::
  x.fst.snd.fst.snd.snd.snd.snd.fst :: x.fst.snd.fst.snd.snd.snd.snd.snd.fst :: x.fst.snd.fst.snd.snd.snd.snd.snd.snd.fst :: x.fst.snd.fst.snd.snd.snd.snd.snd.snd.snd.fst :: nilL Int) (Int.toNat (0 : Int) + Int.toNat
  (IntKind.wrap IntKind.i64 ((0 : Int) + (1 : Int)))) (0 : Int)) (255 : Int))) :: nilL ByteArray)) * (16 : Nat) ≤ (140737488355328 : Nat)) ∧ Wr ((Decidable.decide (List.length (Go.Lb.digS (IntKind.wrap IntKind.i64
  (Int.fdiv (List.getD (x.fst.snd.fst.fst :: x.fst.snd.fst.snd.fst :: x.fst.snd.fst.snd.snd.fst :: x.fst.snd.fst.snd.snd.snd.fst :: x.fst.snd.fst.snd.snd.snd.snd.fst :: x.fst.snd.fst.snd.snd.snd.snd.snd.fst ::
  x.fst.snd.fst.snd.snd.snd.snd.snd.snd.fst :: x.fst.snd.fst.snd.snd.snd.snd.snd.snd.snd.fst :: nilL Int) (Int.toNat (0 : Int) + Int.toNat (0 : Int)) (0 : Int)) ((2 : Int) ^ Min.min (Int.toNat (8 : Int)) (IntKind.bits
  IntKind.u16)))) :: Go.Lb.digS (IntKind.wrap IntKind.i64 (andI IntKind.u16 (List.getD (x.fst.snd.fst.fst :: x.fst.snd.fst.snd.fst :: x.fst.snd.fst.snd.snd.fst :: x.fst.snd.fst.snd.snd.snd.fst ::
  x.fst.snd.fst.snd.snd.snd.snd.fst :: x.fst.snd.fst.snd.snd.snd.snd.snd.fst :: x.fst.snd.fst.snd.snd.snd.snd.snd.snd.fst :: x.fst.snd.fst.snd.snd.snd.snd.snd.snd.snd.fst :: nilL Int) (Int.toNat (0 : Int) + Int.toNat (0 :
  Int)) (0 : Int)) (255 : Int))) :: nilL ByteArray ++ Go.Lb.digS (IntKind.wrap IntKind.i64 (Int.fdiv (List.getD (x.fst.snd.fst.fst :: x.fst.snd.fst.snd.fst :: x.fst.snd.fst.snd.snd.fst :: x.fst.snd.fst.snd.snd.snd.fst ::
  x.fst.snd.fst.snd.snd.snd.snd.fst :: x.fst.snd.fst.snd.snd.snd.snd.snd.fst :: x.fst.snd.fst.snd.snd.snd.snd.snd.snd.fst :: x.fst.snd.fst.snd.snd.snd.snd.snd.snd.snd.fst :: nilL Int) (Int.toNat (0 : Int) + Int.toNat
  (IntKind.wrap IntKind.i64 ((0 : Int) + (1 : Int)))) (0 : Int)) ((2 : Int) ^ Min.min (Int.toNat (8 : Int)) (IntKind.bits IntKind.u16)))) :: Go.Lb.digS (IntKind.wrap IntKind.i64 (andI IntKind.u16 (List.getD
  (x.fst.snd.fst.fst :: x.fst.snd.fst.snd.fst :: x.fst.snd.fst.snd.snd.fst :: x.fst.snd.fst.snd.snd.snd.fst :: x.fst.snd.fst.snd.snd.snd.snd.fst :: x.fst.snd.fst.snd.snd.snd.snd.snd.fst ::
  x.fst.snd.fst.snd.snd.snd.snd.snd.snd.fst :: x.fst.snd.fst.snd.snd.snd.snd.snd.snd.snd.fst :: nilL Int) (Int.toNat (0 : Int) + Int.toNat (IntKind.wrap IntKind.i64 ((0 : Int) + (1 : Int)))) (0 : Int)) (255 : Int))) ::
  nilL ByteArray) ≤ (100000 : Nat)) && Decidable.decide (List.length (Go.Proofs.YtkimpfoimblhjaaDoor.Lb.joinL (Go.Lb.digS (IntKind.wrap IntKind.i64 (Int.fdiv (List.getD (x.fst.snd.fst.fst :: x.fst.snd.fst.snd.fst ::
  x.fst.snd.fst.snd.snd.fst :: x.fst.snd.fst.snd.snd.snd.fst :: x.fst.snd.fst.snd.snd.snd.snd.fst :: x.fst.snd.fst.snd.snd.snd.snd.snd.fst :: x.fst.snd.fst.snd.snd.snd.snd.snd.snd.fst ::
  x.fst.snd.fst.snd.snd.snd.snd.snd.snd.snd.fst :: nilL Int) (Int.toNat (0 : Int) + Int.toNat (0 : Int)) (0 : Int)) ((2 : Int) ^ Min.min (Int.toNat (8 : Int)) (IntKind.bits IntKind.u16)))) :: Go.Lb.digS (IntKind.wrap
  IntKind.i64 (andI IntKind.u16 (List.getD (x.fst.snd.fst.fst :: x.fst.snd.fst.snd.fst :: x.fst.snd.fst.snd.snd.fst :: x.fst.snd.fst.snd.snd.snd.fst :: x.fst.snd.fst.snd.snd.snd.snd.fst ::
  x.fst.snd.fst.snd.snd.snd.snd.snd.fst :: x.fst.snd.fst.snd.snd.snd.snd.snd.snd.fst :: x.fst.snd.fst.snd.snd.snd.snd.snd.snd.snd.fst :: nilL Int) (Int.toNat (0 : Int) + Int.toNat (0 : Int)) (0 : Int)) (255 : Int))) ::
  nilL ByteArray ++ Go.Lb.digS (IntKind.wrap IntKind.i64 (Int.fdiv (List.getD (x.fst.snd.fst.fst :: x.fst.snd.fst.snd.fst :: x.fst.snd.fst.snd.snd.fst :: x.fst.snd.fst.snd.snd.snd.fst :: x.fst.snd.fst.snd.snd.snd.snd.fst
  :: x.fst.snd.fst.snd.snd.snd.snd.snd.fst :: x.fst.snd.fst.snd.snd.snd.snd.snd.snd.fst :: x.fst.snd.fst.snd.snd.snd.snd.snd.snd.snd.fst :: nilL Int) (Int.toNat (0 : Int) + Int.toNat (IntKind.wrap IntKind.i64 ((0 : Int) +
  (1 : Int)))) (0 : Int)) ((2 : Int) ^ Min.min (Int.toNat (8 : Int)) (IntKind.bits IntKind.u16)))) :: Go.Lb.digS (IntKind.wrap IntKind.i64 (andI IntKind.u16 (List.getD (x.fst.snd.fst.fst :: x.fst.snd.fst.snd.fst ::
  x.fst.snd.fst.snd.snd.fst :: x.fst.snd.fst.snd.snd.snd.fst :: x.fst.snd.fst.snd.snd.snd.snd.fst :: x.fst.snd.fst.snd.snd.snd.snd.snd.fst :: x.fst.snd.fst.snd.snd.snd.snd.snd.snd.fst ::
  x.fst.snd.fst.snd.snd.snd.snd.snd.snd.snd.fst :: nilL Int) (Int.toNat (0 : Int) + Int.toNat (IntKind.wrap IntKind.i64 ((0 : Int) + (1 : Int)))) (0 : Int)) (255 : Int))) :: nilL ByteArray) (ByteArray.mk (List.toArray
  ((46 : UInt8) :: nilL UInt8)))) ≤ (4000000000 : Nat))) = Bool.true) ∧ Wr (ByteArray.size (Go.Proofs.YtkimpfoimblhjaaDoor.Lb.joinS (Go.Lb.digS (IntKind.wrap IntKind.i64 (Int.fdiv (List.getD (x.fst.snd.fst.fst ::
  x.fst.snd.fst.snd.fst :: x.fst.snd.fst.snd.snd.fst :: x.fst.snd.fst.snd.snd.snd.fst :: x.fst.snd.fst.snd.snd.snd.snd.fst :: x.fst.snd.fst.snd.snd.snd.snd.snd.fst :: x.fst.snd.fst.snd.snd.snd.snd.snd.snd.fst ::
  x.fst.snd.fst.snd.snd.snd.snd.snd.snd.snd.fst :: nilL Int) (Int.toNat (0 : Int) + Int.toNat (0 : Int)) (0 : Int)) ((2 : Int) ^ Min.min (Int.toNat (8 : Int)) (IntKind.bits IntKind.u16)))) :: Go.Lb.digS (IntKind.wrap
  IntKind.i64 (andI IntKind.u16 (List.getD (x.fst.snd.fst.fst :: x.fst.snd.fst.snd.fst :: x.fst.snd.fst.snd.snd.fst :: x.fst.snd.fst.snd.snd.snd.fst :: x.fst.snd.fst.snd.snd.snd.snd.fst ::
  x.fst.snd.fst.snd.snd.snd.snd.snd.fst :: x.fst.snd.fst.snd.snd.snd.snd.snd.snd.fst :: x.fst.snd.fst.snd.snd.snd.snd.snd.snd.snd.fst :: nilL Int) (Int.toNat (0 : Int) + Int.toNat (0 : Int)) (0 : Int)) (255 : Int))) ::
  nilL ByteArray ++ Go.Lb.digS (IntKind.wrap IntKind.i64 (Int.fdiv (List.getD (x.fst.snd.fst.fst :: x.fst.snd.fst.snd.fst :: x.fst.snd.fst.snd.snd.fst :: x.fst.snd.fst.snd.snd.snd.fst :: x.fst.snd.fst.snd.snd.snd.snd.fst
  :: x.fst.snd.fst.snd.snd.snd.snd.snd.fst :: x.fst.snd.fst.snd.snd.snd.snd.snd.snd.fst :: x.fst.snd.fst.snd.snd.snd.snd.snd.snd.snd.fst :: nilL Int) (Int.toNat (0 : Int) + Int.toNat (IntKind.wrap IntKind.i64 ((0 : Int) +
  (1 : Int)))) (0 : Int)) ((2 : Int) ^ Min.min (Int.toNat (8 : Int)) (IntKind.bits IntKind.u16)))) :: Go.Lb.digS (IntKind.wrap IntKind.i64 (andI IntKind.u16 (List.getD (x.fst.snd.fst.fst :: x.fst.snd.fst.snd.fst ::
  x.fst.snd.fst.snd.snd.fst :: x.fst.snd.fst.snd.snd.snd.fst :: x.fst.snd.fst.snd.snd.snd.snd.fst :: x.fst.snd.fst.snd.snd.snd.snd.snd.fst :: x.fst.snd.fst.snd.snd.snd.snd.snd.snd.fst ::
  x.fst.snd.fst.snd.snd.snd.snd.snd.snd.snd.fst :: nilL Int) (Int.toNat (0 : Int) + Int.toNat (IntKind.wrap IntKind.i64 ((0 : Int) + (1 : Int)))) (0 : Int)) (255 : Int))) :: nilL ByteArray) (ByteArray.mk (List.toArray
  ((46 : UInt8) :: nilL UInt8)))) + ByteArray.size (ByteArray.mk (List.toArray ((58 : UInt8) :: nilL UInt8)) ++ Go.Lb.digS x.fst.snd.snd.fst) ≤ Go.maxLen) ∧ (Go.Proofs.YtkimpfoimblhjaaDoor.Lb.joinS (Go.Lb.digS
  (IntKind.wrap IntKind.i64 (Int.fdiv (List.getD (x.fst.snd.fst.fst :: x.fst.snd.fst.snd.fst :: x.fst.snd.fst.snd.snd.fst :: x.fst.snd.fst.snd.snd.snd.fst :: x.fst.snd.fst.snd.snd.snd.snd.fst ::
  x.fst.snd.fst.snd.snd.snd.snd.snd.fst :: x.fst.snd.fst.snd.snd.snd.snd.snd.snd.fst :: x.fst.snd.fst.snd.snd.snd.snd.snd.snd.snd.fst :: nilL Int) (Int.toNat (0 : Int) + Int.toNat (0 : Int)) (0 : Int)) ((2 : Int) ^
  Min.min (Int.toNat (8 : Int)) (IntKind.bits IntKind.u16)))) :: Go.Lb.digS (IntKind.wrap IntKind.i64 (andI IntKind.u16 (List.getD (x.fst.snd.fst.fst :: x.fst.snd.fst.snd.fst :: x.fst.snd.fst.snd.snd.fst ::
  x.fst.snd.fst.snd.snd.snd.fst :: x.fst.snd.fst.snd.snd.snd.snd.fst :: x.fst.snd.fst.snd.snd.snd.snd.snd.fst :: x.fst.snd.fst.snd.snd.snd.snd.snd.snd.fst :: x.fst.snd.fst.snd.snd.snd.snd.snd.snd.snd.fst :: nilL Int)
  (Int.toNat (0 : Int) + Int.toNat (0 : Int)) (0 : Int)) (255 : Int))) :: nilL ByteArray ++ Go.Lb.digS (IntKind.wrap IntKind.i64 (Int.fdiv (List.getD (x.fst.snd.fst.fst :: x.fst.snd.fst.snd.fst ::
  x.fst.snd.fst.snd.snd.fst :: x.fst.snd.fst.snd.snd.snd.fst :: x.fst.snd.fst.snd.snd.snd.snd.fst :: x.fst.snd.fst.snd.snd.snd.snd.snd.fst :: x.fst.snd.fst.snd.snd.snd.snd.snd.snd.fst ::
  x.fst.snd.fst.snd.snd.snd.snd.snd.snd.snd.fst :: nilL Int) (Int.toNat (0 : Int) + Int.toNat (IntKind.wrap IntKind.i64 ((0 : Int) + (1 : Int)))) (0 : Int)) ((2 : Int) ^ Min.min (Int.toNat (8 : Int)) (IntKind.bits
  IntKind.u16)))) :: Go.Lb.digS (IntKind.wrap IntKind.i64 (andI IntKind.u16 (List.getD (x.fst.snd.fst.fst :: x.fst.snd.fst.snd.fst :: x.fst.snd.fst.snd.snd.fst :: x.fst.snd.fst.snd.snd.snd.fst ::
  x.fst.snd.fst.snd.snd.snd.snd.fst :: x.fst.snd.fst.snd.snd.snd.snd.snd.fst :: x.fst.snd.fst.snd.snd.snd.snd.snd.snd.fst :: x.fst.snd.fst.snd.snd.snd.snd.snd.snd.snd.fst :: nilL Int) (Int.toNat (0 : Int) + Int.toNat
  (IntKind.wrap IntKind.i64 ((0 : Int) + (1 : Int)))) (0 : Int)) (255 : Int))) :: nilL ByteArray) (ByteArray.mk (List.toArray ((46 : UInt8) :: nilL UInt8))) ++ (ByteArray.mk (List.toArray ((58 : UInt8) :: nilL UInt8)) ++
  Go.Lb.digS x.fst.snd.snd.fst), (0 : Int), ()) = (Go.Ad.text1 x.fst, Go.Ad.text2 x.fst, ())) (Wr (Bool.true = Bool.true) ∧ bcase (Decidable.decide (Go.Ad.long2 x.fst.snd.fst = (0 : Int))) (Wr ((0 : Int) ≤ (0 : Int)) ∧ Wr
  ((0 : Int) ≤ (↑(8 : Nat) : Int)) ∧ Wr ((↑(8 : Nat) : Int) ≤ (↑(8 : Nat) : Int)) ∧ Wr (Decidable.decide (List.length (List.drop (Int.toNat (0 : Int)) (List.take (Int.toNat (↑(8 : Nat) : Int)) (x.fst.snd.fst.fst ::
  x.fst.snd.fst.snd.fst :: x.fst.snd.fst.snd.snd.fst :: x.fst.snd.fst.snd.snd.snd.fst :: x.fst.snd.fst.snd.snd.snd.snd.fst :: x.fst.snd.fst.snd.snd.snd.snd.snd.fst :: x.fst.snd.fst.snd.snd.snd.snd.snd.snd.fst ::
  x.fst.snd.fst.snd.snd.snd.snd.snd.snd.snd.fst :: nilL Int))) ≤ (8 : Nat)) = Bool.true) ∧ Wr (ByteArray.size (ByteArray.mk (List.toArray ((91 : UInt8) :: nilL UInt8))) + ByteArray.size (Go.Ad.hexes (List.drop (Int.toNat
  (0 : Int)) (List.take (Int.toNat (↑(8 : Nat) : Int)) (x.fst.snd.fst.fst :: x.fst.snd.fst.snd.fst :: x.fst.snd.fst.snd.snd.fst :: x.fst.snd.fst.snd.snd.snd.fst :: x.fst.snd.fst.snd.snd.snd.snd.fst ::
  x.fst.snd.fst.snd.snd.snd.snd.snd.fst :: x.fst.snd.fst.snd.snd.snd.snd.snd.snd.fst :: x.fst.snd.fst.snd.snd.snd.snd.snd.snd.snd.fst :: nilL Int)))) ≤ Go.maxLen) ∧ Wr (ByteArray.size (ByteArray.mk (List.toArray ((91 :
  UInt8) :: nilL UInt8)) ++ Go.Ad.hexes (List.drop (Int.toNat (0 : Int)) (List.take (Int.toNat (↑(8 : Nat) : Int)) (x.fst.snd.fst.fst :: x.fst.snd.fst.snd.fst :: x.fst.snd.fst.snd.snd.fst :: x.fst.snd.fst.snd.snd.snd.fst
  :: x.fst.snd.fst.snd.snd.snd.snd.fst :: x.fst.snd.fst.snd.snd.snd.snd.snd.fst :: x.fst.snd.fst.snd.snd.snd.snd.snd.snd.fst :: x.fst.snd.fst.snd.snd.snd.snd.snd.snd.snd.fst :: nilL Int)))) + ByteArray.size (ByteArray.mk
  (List.toArray ((93 : UInt8) :: nilL UInt8))) ≤ Go.maxLen) ∧ Wr (ByteArray.size (ByteArray.mk (List.toArray ((91 : UInt8) :: nilL UInt8)) ++ Go.Ad.hexes (List.drop (Int.toNat (0 : Int)) (List.take (Int.toNat (↑(8 : Nat)
  : Int)) (x.fst.snd.fst.fst :: x.fst.snd.fst.snd.fst :: x.fst.snd.fst.snd.snd.fst :: x.fst.snd.fst.snd.snd.snd.fst :: x.fst.snd.fst.snd.snd.snd.snd.fst :: x.fst.snd.fst.snd.snd.snd.snd.snd.fst ::
  x.fst.snd.fst.snd.snd.snd.snd.snd.snd.fst :: x.fst.snd.fst.snd.snd.snd.snd.snd.snd.snd.fst :: nilL Int))) ++ ByteArray.mk (List.toArray ((93 : UInt8) :: nilL UInt8))) + ByteArray.size (ByteArray.mk (List.toArray ((58 :
  UInt8) :: nilL UInt8)) ++ Go.Lb.digS x.fst.snd.snd.fst) ≤ Go.maxLen) ∧ (ByteArray.mk (List.toArray ((91 : UInt8) :: nilL UInt8)) ++ Go.Ad.hexes (List.drop (Int.toNat (0 : Int)) (List.take (Int.toNat (↑(8 : Nat) : Int))
  (x.fst.snd.fst.fst :: x.fst.snd.fst.snd.fst :: x.fst.snd.fst.snd.snd.fst :: x.fst.snd.fst.snd.snd.snd.fst :: x.fst.snd.fst.snd.snd.snd.snd.fst :: x.fst.snd.fst.snd.snd.snd.snd.snd.fst ::
  x.fst.snd.fst.snd.snd.snd.snd.snd.snd.fst :: x.fst.snd.fst.snd.snd.snd.snd.snd.snd.snd.fst :: nilL Int))) ++ ByteArray.mk (List.toArray ((93 : UInt8) :: nilL UInt8)) ++ (ByteArray.mk (List.toArray ((58 : UInt8) :: nilL
  UInt8)) ++ Go.Lb.digS x.fst.snd.snd.fst), (0 : Int), ()) = (Go.Ad.text1 x.fst, Go.Ad.text2 x.fst, ())) (Wr ((0 : Int) ≤ (0 : Int)) ∧ Wr ((0 : Int) ≤ Go.Ad.long1 x.fst.snd.fst) ∧ Wr (Go.Ad.long1 x.fst.snd.fst ≤ (↑(8 :
  Nat) : Int)) ∧ Wr (Decidable.decide (List.length (List.drop (Int.toNat (0 : Int)) (List.take (Int.toNat (Go.Ad.long1 x.fst.snd.fst)) (x.fst.snd.fst.fst :: x.fst.snd.fst.snd.fst :: x.fst.snd.fst.snd.snd.fst ::
  x.fst.snd.fst.snd.snd.snd.fst :: x.fst.snd.fst.snd.snd.snd.snd.fst :: x.fst.snd.fst.snd.snd.snd.snd.snd.fst :: x.fst.snd.fst.snd.snd.snd.snd.snd.snd.fst :: x.fst.snd.fst.snd.snd.snd.snd.snd.snd.snd.fst :: nilL Int))) ≤
  (8 : Nat)) = Bool.true) ∧ Wr (ByteArray.size (ByteArray.mk (List.toArray ((91 : UInt8) :: nilL UInt8))) + ByteArray.size (Go.Ad.hexes (List.drop (Int.toNat (0 : Int)) (List.take (Int.toNat (Go.Ad.long1 x.fst.snd.fst))
  (x.fst.snd.fst.fst :: x.fst.snd.fst.snd.fst :: x.fst.snd.fst.snd.snd.fst :: x.fst.snd.fst.snd.snd.snd.fst :: x.fst.snd.fst.snd.snd.snd.snd.fst :: x.fst.snd.fst.snd.snd.snd.snd.snd.fst ::
  x.fst.snd.fst.snd.snd.snd.snd.snd.snd.fst :: x.fst.snd.fst.snd.snd.snd.snd.snd.snd.snd.fst :: nilL Int)))) ≤ Go.maxLen) ∧ Wr (ByteArray.size (ByteArray.mk (List.toArray ((91 : UInt8) :: nilL UInt8)) ++ Go.Ad.hexes
  (List.drop (Int.toNat (0 : Int)) (List.take (Int.toNat (Go.Ad.long1 x.fst.snd.fst)) (x.fst.snd.fst.fst :: x.fst.snd.fst.snd.fst :: x.fst.snd.fst.snd.snd.fst :: x.fst.snd.fst.snd.snd.snd.fst ::
  x.fst.snd.fst.snd.snd.snd.snd.fst :: x.fst.snd.fst.snd.snd.snd.snd.snd.fst :: x.fst.snd.fst.snd.snd.snd.snd.snd.snd.fst :: x.fst.snd.fst.snd.snd.snd.snd.snd.snd.snd.fst :: nilL Int)))) + ByteArray.size (ByteArray.mk
  (List.toArray ((58 : UInt8) :: (58 : UInt8) :: nilL UInt8))) ≤ Go.maxLen) ∧ Wr ((0 : Int) ≤ IntKind.wrap IntKind.i64 (Go.Ad.long1 x.fst.snd.fst + Go.Ad.long2 x.fst.snd.fst)) ∧ Wr (IntKind.wrap IntKind.i64 (Go.Ad.long1
  x.fst.snd.fst + Go.Ad.long2 x.fst.snd.fst) ≤ (↑(8 : Nat) : Int)) ∧ Wr ((↑(8 : Nat) : Int) ≤ (↑(8 : Nat) : Int)) ∧ Wr (Decidable.decide (List.length (List.drop (Int.toNat (IntKind.wrap IntKind.i64 (Go.Ad.long1
  x.fst.snd.fst + Go.Ad.long2 x.fst.snd.fst))) (List.take (Int.toNat (↑(8 : Nat) : Int)) (x.fst.snd.fst.fst :: x.fst.snd.fst.snd.fst :: x.fst.snd.fst.snd.snd.fst :: x.fst.snd.fst.snd.snd.snd.fst ::
  x.fst.snd.fst.snd.snd.snd.snd.fst :: x.fst.snd.fst.snd.snd.snd.snd.snd.fst :: x.fst.snd.fst.snd.snd.snd.snd.snd.snd.fst :: x.fst.snd.fst.snd.snd.snd.snd.snd.snd.snd.fst :: nilL Int))) ≤ (8 : Nat)) = Bool.true) ∧ Wr
  (ByteArray.size (ByteArray.mk (List.toArray ((91 : UInt8) :: nilL UInt8)) ++ Go.Ad.hexes (List.drop (Int.toNat (0 : Int)) (List.take (Int.toNat (Go.Ad.long1 x.fst.snd.fst)) (x.fst.snd.fst.fst :: x.fst.snd.fst.snd.fst ::
  x.fst.snd.fst.snd.snd.fst :: x.fst.snd.fst.snd.snd.snd.fst :: x.fst.snd.fst.snd.snd.snd.snd.fst :: x.fst.snd.fst.snd.snd.snd.snd.snd.fst :: x.fst.snd.fst.snd.snd.snd.snd.snd.snd.fst ::
  x.fst.snd.fst.snd.snd.snd.snd.snd.snd.snd.fst :: nilL Int))) ++ ByteArray.mk (List.toArray ((58 : UInt8) :: (58 : UInt8) :: nilL UInt8))) + ByteArray.size (Go.Ad.hexes (List.drop (Int.toNat (IntKind.wrap IntKind.i64
  (Go.Ad.long1 x.fst.snd.fst + Go.Ad.long2 x.fst.snd.fst))) (List.take (Int.toNat (↑(8 : Nat) : Int)) (x.fst.snd.fst.fst :: x.fst.snd.fst.snd.fst :: x.fst.snd.fst.snd.snd.fst :: x.fst.snd.fst.snd.snd.snd.fst ::
  x.fst.snd.fst.snd.snd.snd.snd.fst :: x.fst.snd.fst.snd.snd.snd.snd.snd.fst :: x.fst.snd.fst.snd.snd.snd.snd.snd.snd.fst :: x.fst.snd.fst.snd.snd.snd.snd.snd.snd.snd.fst :: nilL Int)))) ≤ Go.maxLen) ∧ Wr (ByteArray.size
  (ByteArray.mk (List.toArray ((91 : UInt8) :: nilL UInt8)) ++ Go.Ad.hexes (List.drop (Int.toNat (0 : Int)) (List.take (Int.toNat (Go.Ad.long1 x.fst.snd.fst)) (x.fst.snd.fst.fst :: x.fst.snd.fst.snd.fst ::
  x.fst.snd.fst.snd.snd.fst :: x.fst.snd.fst.snd.snd.snd.fst :: x.fst.snd.fst.snd.snd.snd.snd.fst :: x.fst.snd.fst.snd.snd.snd.snd.snd.fst :: x.fst.snd.fst.snd.snd.snd.snd.snd.snd.fst ::
  x.fst.snd.fst.snd.snd.snd.snd.snd.snd.snd.fst :: nilL Int))) ++ ByteArray.mk (List.toArray ((58 : UInt8) :: (58 : UInt8) :: nilL UInt8)) ++ Go.Ad.hexes (List.drop (Int.toNat (IntKind.wrap IntKind.i64 (Go.Ad.long1
  x.fst.snd.fst + Go.Ad.long2 x.fst.snd.fst))) (List.take (Int.toNat (↑(8 : Nat) : Int)) (x.fst.snd.fst.fst :: x.fst.snd.fst.snd.fst :: x.fst.snd.fst.snd.snd.fst :: x.fst.snd.fst.snd.snd.snd.fst ::
  x.fst.snd.fst.snd.snd.snd.snd.fst :: x.fst.snd.fst.snd.snd.snd.snd.snd.fst :: x.fst.snd.fst.snd.snd.snd.snd.snd.snd.fst :: x.fst.snd.fst.snd.snd.snd.snd.snd.snd.snd.fst :: nilL Int)))) + ByteArray.size (ByteArray.mk
  (List.toArray ((93 : UInt8) :: nilL UInt8))) ≤ Go.maxLen) ∧ Wr (ByteArray.size (ByteArray.mk (List.toArray ((91 : UInt8) :: nilL UInt8)) ++ Go.Ad.hexes (List.drop (Int.toNat (0 : Int)) (List.take (Int.toNat (Go.Ad.long1
  x.fst.snd.fst)) (x.fst.snd.fst.fst :: x.fst.snd.fst.snd.fst :: x.fst.snd.fst.snd.snd.fst :: x.fst.snd.fst.snd.snd.snd.fst :: x.fst.snd.fst.snd.snd.snd.snd.fst :: x.fst.snd.fst.snd.snd.snd.snd.snd.fst ::
  x.fst.snd.fst.snd.snd.snd.snd.snd.snd.fst :: x.fst.snd.fst.snd.snd.snd.snd.snd.snd.snd.fst :: nilL Int))) ++ ByteArray.mk (List.toArray ((58 : UInt8) :: (58 : UInt8) :: nilL UInt8)) ++ Go.Ad.hexes (List.drop (Int.toNat
  (IntKind.wrap IntKind.i64 (Go.Ad.long1 x.fst.snd.fst + Go.Ad.long2 x.fst.snd.fst))) (List.take (Int.toNat (↑(8 : Nat) : Int)) (x.fst.snd.fst.fst :: x.fst.snd.fst.snd.fst :: x.fst.snd.fst.snd.snd.fst ::
  x.fst.snd.fst.snd.snd.snd.fst :: x.fst.snd.fst.snd.snd.snd.snd.fst :: x.fst.snd.fst.snd.snd.snd.snd.snd.fst :: x.fst.snd.fst.snd.snd.snd.snd.snd.snd.fst :: x.fst.snd.fst.snd.snd.snd.snd.snd.snd.snd.fst :: nilL Int))) ++
  ByteArray.mk (List.toArray ((93 : UInt8) :: nilL UInt8))) + ByteArray.size (ByteArray.mk (List.toArray ((58 : UInt8) :: nilL UInt8)) ++ Go.Lb.digS x.fst.snd.snd.fst) ≤ Go.maxLen) ∧ (ByteArray.mk (List.toArray ((91 :
  UInt8) :: nilL UInt8)) ++ Go.Ad.hexes (List.drop (Int.toNat (0 : Int)) (List.take (Int.toNat (Go.Ad.long1 x.fst.snd.fst)) (x.fst.snd.fst.fst :: x.fst.snd.fst.snd.fst :: x.fst.snd.fst.snd.snd.fst ::
  x.fst.snd.fst.snd.snd.snd.fst :: x.fst.snd.fst.snd.snd.snd.snd.fst :: x.fst.snd.fst.snd.snd.snd.snd.snd.fst :: x.fst.snd.fst.snd.snd.snd.snd.snd.snd.fst :: x.fst.snd.fst.snd.snd.snd.snd.snd.snd.snd.fst :: nilL Int))) ++
  ByteArray.mk (List.toArray ((58 : UInt8) :: (58 : UInt8) :: nilL UInt8)) ++ Go.Ad.hexes (List.drop (Int.toNat (IntKind.wrap IntKind.i64 (Go.Ad.long1 x.fst.snd.fst + Go.Ad.long2 x.fst.snd.fst))) (List.take (Int.toNat
  (↑(8 : Nat) : Int)) (x.fst.snd.fst.fst :: x.fst.snd.fst.snd.fst :: x.fst.snd.fst.snd.snd.fst :: x.fst.snd.fst.snd.snd.snd.fst :: x.fst.snd.fst.snd.snd.snd.snd.fst :: x.fst.snd.fst.snd.snd.snd.snd.snd.fst ::
  x.fst.snd.fst.snd.snd.snd.snd.snd.snd.fst :: x.fst.snd.fst.snd.snd.snd.snd.snd.snd.snd.fst :: nilL Int))) ++ ByteArray.mk (List.toArray ((93 : UInt8) :: nilL UInt8)) ++ (ByteArray.mk (List.toArray ((58 : UInt8) :: nilL
  UInt8)) ++ Go.Lb.digS x.fst.snd.snd.fst), (0 : Int), ()) = (Go.Ad.text1 x.fst, Go.Ad.text2 x.fst, ()))))) := by kernel_rfl
theorem v56_eq : vcFn g56 300 Tryd.f56 cNum = ( ∀ (x : ByteArray × Int × Unit), Wr (Go.Proofs.YtkimpfoimblhjaaDoor.Lb.szOk x.fst = Bool.true) → Wr ((!(Decidable.decide (x.fst = ByteArray.mk (List.toArray (nilL UInt8))) || Decidable.decide ((↑(ByteArray.size x.fst) :
  Int) > (5 : Int)))) = Bool.true → (0 : Int) ≤ (0 : Int)) ∧ Wr ((!(Decidable.decide (x.fst = ByteArray.mk (List.toArray (nilL UInt8))) || Decidable.decide ((↑(ByteArray.size x.fst) : Int) > (5 : Int)))) = Bool.true → (0
  : Int) < (↑(ByteArray.size x.fst) : Int)) ∧ bcase (Decidable.decide (x.fst = ByteArray.mk (List.toArray (nilL UInt8))) || Decidable.decide ((↑(ByteArray.size x.fst) : Int) > (5 : Int)) || Decidable.decide (byteAt x.fst
  (Int.toNat (0 : Int)) = (48 : Int)) && !Decidable.decide (x.fst = ByteArray.mk (List.toArray ((48 : UInt8) :: nilL UInt8)))) (((0 : Int), Bool.false, ()) = (Go.Ad.num1 x.fst x.snd.fst, Go.Ad.num2 x.fst x.snd.fst, ()))
  ((Wr (NumI x.fst (0 : Int) (0 : Nat)) ∧ Wr ((0 : Int) = (0 : Int)) ∧ Wr (x.fst = x.fst) ∧ Wr (x.snd.fst = x.snd.fst) ∧ Wr (x.fst = x.fst) ∧ Wr ((0 : Nat) = (0 : Nat))) ∧ ∀ (x_1 : Int × Nat), Wr (NumI x.fst x_1.fst
  x_1.snd) → bcase (Decidable.decide (x_1.snd < ByteArray.size x.fst)) (bcase (Decidable.decide (runeAt x.fst x_1.snd < (48 : Int)) || Decidable.decide (runeAt x.fst x_1.snd > (57 : Int))) (((0 : Int), Bool.false, ()) =
  (Go.Ad.num1 x.fst x.snd.fst, Go.Ad.num2 x.fst x.snd.fst, ())) (Wr (NumI x.fst (IntKind.wrap IntKind.i64 (IntKind.wrap IntKind.i64 ((10 : Int) * x_1.fst) + IntKind.wrap IntKind.i64 (IntKind.wrap IntKind.i32 (runeAt x.fst
  x_1.snd - (48 : Int))))) (nextP x.fst x_1.snd)) ∧ Wr (ByteArray.size x.fst - nextP x.fst x_1.snd < ByteArray.size x.fst - x_1.snd) ∧ Wr (IntKind.wrap IntKind.i64 (IntKind.wrap IntKind.i64 ((10 : Int) * x_1.fst) +
  IntKind.wrap IntKind.i64 (IntKind.wrap IntKind.i32 (runeAt x.fst x_1.snd - (48 : Int)))) = IntKind.wrap IntKind.i64 (IntKind.wrap IntKind.i64 ((10 : Int) * x_1.fst) + IntKind.wrap IntKind.i64 (IntKind.wrap IntKind.i32
  (runeAt x.fst x_1.snd - (48 : Int))))) ∧ Wr (x.fst = x.fst) ∧ Wr (x.snd.fst = x.snd.fst) ∧ Wr (x.fst = x.fst) ∧ Wr (nextP x.fst x_1.snd = nextP x.fst x_1.snd))) ((x_1.fst, Decidable.decide (x_1.fst ≤ x.snd.fst), ()) =
  (Go.Ad.num1 x.fst x.snd.fst, Go.Ad.num2 x.fst x.snd.fst, ())))) := by kernel_rfl
theorem v105_eq : vcFn g105 300 Tryd.f105 cGrp = ( ∀ (x : ByteArray × Unit), Wr (Go.Proofs.YtkimpfoimblhjaaDoor.Lb.szOk x.fst = Bool.true) → (Wr (GrpI x.fst (0 : Int) (0 : Nat)) ∧ Wr ((0 : Int) = (0 : Int)) ∧ Wr (x.fst = x.fst) ∧ Wr (x.fst = x.fst) ∧ Wr ((0 : Nat) = (0 :
  Nat))) ∧ ∀ (x_1 : Int × Nat), Wr (GrpI x.fst x_1.fst x_1.snd) → bcase (Decidable.decide (x_1.snd < ByteArray.size x.fst)) (bcase (Decidable.decide ((48 : Int) ≤ runeAt x.fst x_1.snd) && Decidable.decide (runeAt x.fst
  x_1.snd ≤ (57 : Int))) (Wr ((0 : Int) ≤ (4 : Int)) ∧ bcase (Decidable.decide (orI IntKind.i32 (IntKind.wrap IntKind.i32 (x_1.fst * (2 : Int) ^ Min.min (Int.toNat (4 : Int)) (IntKind.bits IntKind.i32))) (IntKind.wrap
  IntKind.i32 (runeAt x.fst x_1.snd - (48 : Int))) > (65535 : Int))) (((0 : Int), Bool.false, ()) = (Go.Ad.grp1 x.fst, Go.Ad.grp2 x.fst, ())) (Wr (GrpI x.fst (orI IntKind.i32 (IntKind.wrap IntKind.i32 (x_1.fst * (2 : Int)
  ^ Min.min (Int.toNat (4 : Int)) (IntKind.bits IntKind.i32))) (IntKind.wrap IntKind.i32 (runeAt x.fst x_1.snd - (48 : Int)))) (nextP x.fst x_1.snd)) ∧ Wr (ByteArray.size x.fst - nextP x.fst x_1.snd < ByteArray.size x.fst
  - x_1.snd) ∧ Wr (orI IntKind.i32 (IntKind.wrap IntKind.i32 (x_1.fst * (2 : Int) ^ Min.min (Int.toNat (4 : Int)) (IntKind.bits IntKind.i32))) (IntKind.wrap IntKind.i32 (runeAt x.fst x_1.snd - (48 : Int))) = orI
  IntKind.i32 (IntKind.wrap IntKind.i32 (x_1.fst * (2 : Int) ^ Min.min (Int.toNat (4 : Int)) (IntKind.bits IntKind.i32))) (IntKind.wrap IntKind.i32 (runeAt x.fst x_1.snd - (48 : Int)))) ∧ Wr (x.fst = x.fst) ∧ Wr (x.fst =
  x.fst) ∧ Wr (nextP x.fst x_1.snd = nextP x.fst x_1.snd))) (bcase (Decidable.decide ((97 : Int) ≤ runeAt x.fst x_1.snd) && Decidable.decide (runeAt x.fst x_1.snd ≤ (102 : Int))) (Wr ((0 : Int) ≤ (4 : Int)) ∧ bcase
  (Decidable.decide (orI IntKind.i32 (IntKind.wrap IntKind.i32 (x_1.fst * (2 : Int) ^ Min.min (Int.toNat (4 : Int)) (IntKind.bits IntKind.i32))) (IntKind.wrap IntKind.i32 (IntKind.wrap IntKind.i32 (runeAt x.fst x_1.snd -
  (97 : Int)) + (10 : Int))) > (65535 : Int))) (((0 : Int), Bool.false, ()) = (Go.Ad.grp1 x.fst, Go.Ad.grp2 x.fst, ())) (Wr (GrpI x.fst (orI IntKind.i32 (IntKind.wrap IntKind.i32 (x_1.fst * (2 : Int) ^ Min.min (Int.toNat
  (4 : Int)) (IntKind.bits IntKind.i32))) (IntKind.wrap IntKind.i32 (IntKind.wrap IntKind.i32 (runeAt x.fst x_1.snd - (97 : Int)) + (10 : Int)))) (nextP x.fst x_1.snd)) ∧ Wr (ByteArray.size x.fst - nextP x.fst x_1.snd <
  ByteArray.size x.fst - x_1.snd) ∧ Wr (orI IntKind.i32 (IntKind.wrap IntKind.i32 (x_1.fst * (2 : Int) ^ Min.min (Int.toNat (4 : Int)) (IntKind.bits IntKind.i32))) (IntKind.wrap IntKind.i32 (IntKind.wrap IntKind.i32
  (runeAt x.fst x_1.snd - (97 : Int)) + (10 : Int))) = orI IntKind.i32 (IntKind.wrap IntKind.i32 (x_1.fst * (2 : Int) ^ Min.min (Int.toNat (4 : Int)) (IntKind.bits IntKind.i32))) (IntKind.wrap IntKind.i32 (IntKind.wrap
  IntKind.i32 (runeAt x.fst x_1.snd - (97 : Int)) + (10 : Int)))) ∧ Wr (x.fst = x.fst) ∧ Wr (x.fst = x.fst) ∧ Wr (nextP x.fst x_1.snd = nextP x.fst x_1.snd))) (bcase (Decidable.decide ((65 : Int) ≤ runeAt x.fst x_1.snd)
  && Decidable.decide (runeAt x.fst x_1.snd ≤ (70 : Int))) (Wr ((0 : Int) ≤ (4 : Int)) ∧ bcase (Decidable.decide (orI IntKind.i32 (IntKind.wrap IntKind.i32 (x_1.fst * (2 : Int) ^ Min.min (Int.toNat (4 : Int))
  (IntKind.bits IntKind.i32))) (IntKind.wrap IntKind.i32 (IntKind.wrap IntKind.i32 (runeAt x.fst x_1.snd - (65 : Int)) + (10 : Int))) > (65535 : Int))) (((0 : Int), Bool.false, ()) = (Go.Ad.grp1 x.fst, Go.Ad.grp2 x.fst,
  ())) (Wr (GrpI x.fst (orI IntKind.i32 (IntKind.wrap IntKind.i32 (x_1.fst * (2 : Int) ^ Min.min (Int.toNat (4 : Int)) (IntKind.bits IntKind.i32))) (IntKind.wrap IntKind.i32 (IntKind.wrap IntKind.i32 (runeAt x.fst x_1.snd
  - (65 : Int)) + (10 : Int)))) (nextP x.fst x_1.snd)) ∧ Wr (ByteArray.size x.fst - nextP x.fst x_1.snd < ByteArray.size x.fst - x_1.snd) ∧ Wr (orI IntKind.i32 (IntKind.wrap IntKind.i32 (x_1.fst * (2 : Int) ^ Min.min
  (Int.toNat (4 : Int)) (IntKind.bits IntKind.i32))) (IntKind.wrap IntKind.i32 (IntKind.wrap IntKind.i32 (runeAt x.fst x_1.snd - (65 : Int)) + (10 : Int))) = orI IntKind.i32 (IntKind.wrap IntKind.i32 (x_1.fst * (2 : Int)
  ^ Min.min (Int.toNat (4 : Int)) (IntKind.bits IntKind.i32))) (IntKind.wrap IntKind.i32 (IntKind.wrap IntKind.i32 (runeAt x.fst x_1.snd - (65 : Int)) + (10 : Int)))) ∧ Wr (x.fst = x.fst) ∧ Wr (x.fst = x.fst) ∧ Wr (nextP
  x.fst x_1.snd = nextP x.fst x_1.snd))) (((0 : Int), Bool.false, ()) = (Go.Ad.grp1 x.fst, Go.Ad.grp2 x.fst, ()))))) ((IntKind.wrap IntKind.u16 x_1.fst, !Decidable.decide (x.fst = ByteArray.mk (List.toArray (nilL UInt8)))
  && Decidable.decide ((↑(ByteArray.size x.fst) : Int) ≤ (4 : Int)), ()) = (Go.Ad.grp1 x.fst, Go.Ad.grp2 x.fst, ()))) := by kernel_rfl
theorem v85_eq : vcFn g85 300 Tryd.f85 cSide = ( ∀ (x : ByteArray × Unit), Wr (Go.Proofs.YtkimpfoimblhjaaDoor.Lb.szOk x.fst = Bool.true) → bcase (Decidable.decide (x.fst = ByteArray.mk (List.toArray (nilL UInt8)))) ((nilL Int, Bool.true, ()) = (Go.Ad.side1 x.fst,
  Go.Ad.side2 x.fst, ())) (Wr ((Go.Proofs.YtkimpfoimblhjaaDoor.Lb.szOk x.fst && Decidable.decide (ByteArray.size (ByteArray.mk (List.toArray ((58 : UInt8) :: nilL UInt8))) = (1 : Nat))) = Bool.true) ∧ (Wr (GoI Go.Ad.grpO
  (Go.Lb.splitS x.fst (ByteArray.mk (List.toArray ((58 : UInt8) :: nilL UInt8)))) (nilL Int) (0 : Int)) ∧ Wr ((0 : Int) = (0 : Int)) ∧ Wr (Go.Lb.splitS x.fst (ByteArray.mk (List.toArray ((58 : UInt8) :: nilL UInt8))) =
  Go.Lb.splitS x.fst (ByteArray.mk (List.toArray ((58 : UInt8) :: nilL UInt8)))) ∧ Wr ((↑(List.length (Go.Lb.splitS x.fst (ByteArray.mk (List.toArray ((58 : UInt8) :: nilL UInt8))))) : Int) = (↑(List.length (Go.Lb.splitS
  x.fst (ByteArray.mk (List.toArray ((58 : UInt8) :: nilL UInt8))))) : Int)) ∧ Wr (nilL Int = nilL Int)) ∧ ∀ (x_1 : List Int × Int), Wr (GoI Go.Ad.grpO (Go.Lb.splitS x.fst (ByteArray.mk (List.toArray ((58 : UInt8) :: nilL
  UInt8)))) x_1.fst x_1.snd) → bcase (Decidable.decide (x_1.snd < (↑(List.length (Go.Lb.splitS x.fst (ByteArray.mk (List.toArray ((58 : UInt8) :: nilL UInt8))))) : Int))) (Wr ((0 : Int) ≤ x_1.snd) ∧ Wr (x_1.snd <
  (↑(List.length (Go.Lb.splitS x.fst (ByteArray.mk (List.toArray ((58 : UInt8) :: nilL UInt8))))) : Int)) ∧ Wr (Bool.true = Bool.true) ∧ Wr (Go.Proofs.YtkimpfoimblhjaaDoor.Lb.szOk (List.getD (Go.Lb.splitS x.fst
  (ByteArray.mk (List.toArray ((58 : UInt8) :: nilL UInt8)))) (Int.toNat x_1.snd) (Ty.zero Ty.str)) = Bool.true) ∧ bcase (!Go.Ad.grp2 (List.getD (Go.Lb.splitS x.fst (ByteArray.mk (List.toArray ((58 : UInt8) :: nilL
  UInt8)))) (Int.toNat x_1.snd) (Ty.zero Ty.str))) ((nilL Int, Bool.false, ()) = (Go.Ad.side1 x.fst, Go.Ad.side2 x.fst, ())) (Wr ((List.length x_1.fst + List.length (Go.Ad.grp1 (List.getD (Go.Lb.splitS x.fst (ByteArray.mk
  (List.toArray ((58 : UInt8) :: nilL UInt8)))) (Int.toNat x_1.snd) (Ty.zero Ty.str)) :: nilL Int)) * (2 : Nat) ≤ (140737488355328 : Nat)) ∧ Wr (GoI Go.Ad.grpO (Go.Lb.splitS x.fst (ByteArray.mk (List.toArray ((58 : UInt8)
  :: nilL UInt8)))) (x_1.fst ++ Go.Ad.grp1 (List.getD (Go.Lb.splitS x.fst (ByteArray.mk (List.toArray ((58 : UInt8) :: nilL UInt8)))) (Int.toNat x_1.snd) (Ty.zero Ty.str)) :: nilL Int) (IntKind.wrap IntKind.i64 (x_1.snd +
  (1 : Int)))) ∧ Wr (List.length (Go.Lb.splitS x.fst (ByteArray.mk (List.toArray ((58 : UInt8) :: nilL UInt8)))) - Int.toNat (IntKind.wrap IntKind.i64 (x_1.snd + (1 : Int))) < List.length (Go.Lb.splitS x.fst (ByteArray.mk
  (List.toArray ((58 : UInt8) :: nilL UInt8)))) - Int.toNat x_1.snd) ∧ Wr (IntKind.wrap IntKind.i64 (x_1.snd + (1 : Int)) = IntKind.wrap IntKind.i64 (x_1.snd + (1 : Int))) ∧ Wr (Go.Lb.splitS x.fst (ByteArray.mk
  (List.toArray ((58 : UInt8) :: nilL UInt8))) = Go.Lb.splitS x.fst (ByteArray.mk (List.toArray ((58 : UInt8) :: nilL UInt8)))) ∧ Wr ((↑(List.length (Go.Lb.splitS x.fst (ByteArray.mk (List.toArray ((58 : UInt8) :: nilL
  UInt8))))) : Int) = (↑(List.length (Go.Lb.splitS x.fst (ByteArray.mk (List.toArray ((58 : UInt8) :: nilL UInt8))))) : Int)) ∧ Wr (x_1.fst ++ Go.Ad.grp1 (List.getD (Go.Lb.splitS x.fst (ByteArray.mk (List.toArray ((58 :
  UInt8) :: nilL UInt8)))) (Int.toNat x_1.snd) (Ty.zero Ty.str)) :: nilL Int = x_1.fst ++ Go.Ad.grp1 (List.getD (Go.Lb.splitS x.fst (ByteArray.mk (List.toArray ((58 : UInt8) :: nilL UInt8)))) (Int.toNat x_1.snd) (Ty.zero
  Ty.str)) :: nilL Int))) ((x_1.fst, Bool.true, ()) = (Go.Ad.side1 x.fst, Go.Ad.side2 x.fst, ())))) := by kernel_rfl
theorem v57_eq : vcFn g57 300 Tryd.f57 cFour = ( ∀ (x : ByteArray × Unit), Wr (Go.Proofs.YtkimpfoimblhjaaDoor.Lb.szOk x.fst = Bool.true) → Wr ((Go.Proofs.YtkimpfoimblhjaaDoor.Lb.szOk x.fst && Decidable.decide (ByteArray.size (ByteArray.mk (List.toArray ((46 : UInt8) ::
  nilL UInt8))) = (1 : Nat))) = Bool.true) ∧ bcase (!Decidable.decide ((↑(List.length (Go.Lb.splitS x.fst (ByteArray.mk (List.toArray ((46 : UInt8) :: nilL UInt8))))) : Int) = (4 : Int))) ((((0 : Int), (0 : Int), (0 :
  Int), (0 : Int), (0 : Int), (0 : Int), (0 : Int), (0 : Int), ()), Bool.false, ()) = (Go.Ad.four1 x.fst, Go.Ad.four2 x.fst, ())) ((Wr (FourI (Go.Lb.splitS x.fst (ByteArray.mk (List.toArray ((46 : UInt8) :: nilL UInt8))))
  ((0 : Int), (0 : Int), (0 : Int), (0 : Int), (0 : Int), (0 : Int), (0 : Int), (0 : Int), ()) (0 : Int)) ∧ Wr ((0 : Int) = (0 : Int)) ∧ Wr (Go.Lb.splitS x.fst (ByteArray.mk (List.toArray ((46 : UInt8) :: nilL UInt8))) =
  Go.Lb.splitS x.fst (ByteArray.mk (List.toArray ((46 : UInt8) :: nilL UInt8)))) ∧ Wr ((↑(List.length (Go.Lb.splitS x.fst (ByteArray.mk (List.toArray ((46 : UInt8) :: nilL UInt8))))) : Int) = (↑(List.length (Go.Lb.splitS
  x.fst (ByteArray.mk (List.toArray ((46 : UInt8) :: nilL UInt8))))) : Int)) ∧ Wr ((0 : Int) = (0 : Int)) ∧ Wr ((0 : Int) = (0 : Int)) ∧ Wr ((0 : Int) = (0 : Int)) ∧ Wr ((0 : Int) = (0 : Int)) ∧ Wr ((0 : Int) = (0 : Int))
  ∧ Wr ((0 : Int) = (0 : Int)) ∧ Wr ((0 : Int) = (0 : Int)) ∧ Wr ((0 : Int) = (0 : Int))) ∧ ∀ (x_1 : (Int × Int × Int × Int × Int × Int × Int × Int × Unit) × Int), Wr (FourI (Go.Lb.splitS x.fst (ByteArray.mk (List.toArray
  ((46 : UInt8) :: nilL UInt8)))) x_1.fst x_1.snd) → bcase (Decidable.decide (x_1.snd < (↑(List.length (Go.Lb.splitS x.fst (ByteArray.mk (List.toArray ((46 : UInt8) :: nilL UInt8))))) : Int))) (Wr ((0 : Int) ≤ x_1.snd) ∧
  Wr (x_1.snd < (↑(List.length (Go.Lb.splitS x.fst (ByteArray.mk (List.toArray ((46 : UInt8) :: nilL UInt8))))) : Int)) ∧ Wr (Bool.true = Bool.true) ∧ Wr (Go.Proofs.YtkimpfoimblhjaaDoor.Lb.szOk (List.getD (Go.Lb.splitS
  x.fst (ByteArray.mk (List.toArray ((46 : UInt8) :: nilL UInt8)))) (Int.toNat x_1.snd) (Ty.zero Ty.str)) = Bool.true) ∧ bcase (!Go.Ad.num2 (List.getD (Go.Lb.splitS x.fst (ByteArray.mk (List.toArray ((46 : UInt8) :: nilL
  UInt8)))) (Int.toNat x_1.snd) (Ty.zero Ty.str)) (255 : Int)) ((((0 : Int), (0 : Int), (0 : Int), (0 : Int), (0 : Int), (0 : Int), (0 : Int), (0 : Int), ()), Bool.false, ()) = (Go.Ad.four1 x.fst, Go.Ad.four2 x.fst, ()))
  (Wr ((2 : Int) ≠ (0 : Int)) ∧ Wr ((2 : Int) ≠ (0 : Int)) ∧ Wr ((0 : Int) ≤ IntKind.wrap IntKind.i64 (Int.tdiv x_1.snd (2 : Int))) ∧ Wr (IntKind.wrap IntKind.i64 (Int.tdiv x_1.snd (2 : Int)) < (↑(8 : Nat) : Int)) ∧ Wr
  ((0 : Int) ≤ (8 : Int)) ∧ Wr ((0 : Int) ≤ IntKind.wrap IntKind.i64 (Int.tdiv x_1.snd (2 : Int))) ∧ Wr (IntKind.wrap IntKind.i64 (Int.tdiv x_1.snd (2 : Int)) < (↑(8 : Nat) : Int)) ∧ Wr (FourI (Go.Lb.splitS x.fst
  (ByteArray.mk (List.toArray ((46 : UInt8) :: nilL UInt8)))) (List.getD (List.set (x_1.fst.fst :: x_1.fst.snd.fst :: x_1.fst.snd.snd.fst :: x_1.fst.snd.snd.snd.fst :: x_1.fst.snd.snd.snd.snd.fst ::
  x_1.fst.snd.snd.snd.snd.snd.fst :: x_1.fst.snd.snd.snd.snd.snd.snd.fst :: x_1.fst.snd.snd.snd.snd.snd.snd.snd.fst :: nilL Int) (Int.toNat (IntKind.wrap IntKind.i64 (Int.tdiv x_1.snd (2 : Int)))) (orI IntKind.u16
  (IntKind.wrap IntKind.u16 (List.getD (x_1.fst.fst :: x_1.fst.snd.fst :: x_1.fst.snd.snd.fst :: x_1.fst.snd.snd.snd.fst :: x_1.fst.snd.snd.snd.snd.fst :: x_1.fst.snd.snd.snd.snd.snd.fst ::
  x_1.fst.snd.snd.snd.snd.snd.snd.fst :: x_1.fst.snd.snd.snd.snd.snd.snd.snd.fst :: nilL Int) (Int.toNat (IntKind.wrap IntKind.i64 (Int.tdiv x_1.snd (2 : Int)))) (0 : Int) * (2 : Int) ^ Min.min (Int.toNat (8 : Int))
  (IntKind.bits IntKind.u16))) (IntKind.wrap IntKind.u16 (Go.Ad.num1 (List.getD (Go.Lb.splitS x.fst (ByteArray.mk (List.toArray ((46 : UInt8) :: nilL UInt8)))) (Int.toNat x_1.snd) (Ty.zero Ty.str)) (255 : Int))))) (0 :
  Nat) (0 : Int), List.getD (List.set (x_1.fst.fst :: x_1.fst.snd.fst :: x_1.fst.snd.snd.fst :: x_1.fst.snd.snd.snd.fst :: x_1.fst.snd.snd.snd.snd.fst :: x_1.fst.snd.snd.snd.snd.snd.fst ::
  x_1.fst.snd.snd.snd.snd.snd.snd.fst :: x_1.fst.snd.snd.snd.snd.snd.snd.snd.fst :: nilL Int) (Int.toNat (IntKind.wrap IntKind.i64 (Int.tdiv x_1.snd (2 : Int)))) (orI IntKind.u16 (IntKind.wrap IntKind.u16 (List.getD
  (x_1.fst.fst :: x_1.fst.snd.fst :: x_1.fst.snd.snd.fst :: x_1.fst.snd.snd.snd.fst :: x_1.fst.snd.snd.snd.snd.fst :: x_1.fst.snd.snd.snd.snd.snd.fst :: x_1.fst.snd.snd.snd.snd.snd.snd.fst ::
  x_1.fst.snd.snd.snd.snd.snd.snd.snd.fst :: nilL Int) (Int.toNat (IntKind.wrap IntKind.i64 (Int.tdiv x_1.snd (2 : Int)))) (0 : Int) * (2 : Int) ^ Min.min (Int.toNat (8 : Int)) (IntKind.bits IntKind.u16))) (IntKind.wrap
  IntKind.u16 (Go.Ad.num1 (List.getD (Go.Lb.splitS x.fst (ByteArray.mk (List.toArray ((46 : UInt8) :: nilL UInt8)))) (Int.toNat x_1.snd) (Ty.zero Ty.str)) (255 : Int))))) (1 : Nat) (0 : Int), List.getD (List.set
  (x_1.fst.fst :: x_1.fst.snd.fst :: x_1.fst.snd.snd.fst :: x_1.fst.snd.snd.snd.fst :: x_1.fst.snd.snd.snd.snd.fst :: x_1.fst.snd.snd.snd.snd.snd.fst :: x_1.fst.snd.snd.snd.snd.snd.snd.fst ::
  x_1.fst.snd.snd.snd.snd.snd.snd.snd.fst :: nilL Int) (Int.toNat (IntKind.wrap IntKind.i64 (Int.tdiv x_1.snd (2 : Int)))) (orI IntKind.u16 (IntKind.wrap IntKind.u16 (List.getD (x_1.fst.fst :: x_1.fst.snd.fst ::
  x_1.fst.snd.snd.fst :: x_1.fst.snd.snd.snd.fst :: x_1.fst.snd.snd.snd.snd.fst :: x_1.fst.snd.snd.snd.snd.snd.fst :: x_1.fst.snd.snd.snd.snd.snd.snd.fst :: x_1.fst.snd.snd.snd.snd.snd.snd.snd.fst :: nilL Int) (Int.toNat
  (IntKind.wrap IntKind.i64 (Int.tdiv x_1.snd (2 : Int)))) (0 : Int) * (2 : Int) ^ Min.min (Int.toNat (8 : Int)) (IntKind.bits IntKind.u16))) (IntKind.wrap IntKind.u16 (Go.Ad.num1 (List.getD (Go.Lb.splitS x.fst
  (ByteArray.mk (List.toArray ((46 : UInt8) :: nilL UInt8)))) (Int.toNat x_1.snd) (Ty.zero Ty.str)) (255 : Int))))) (2 : Nat) (0 : Int), List.getD (List.set (x_1.fst.fst :: x_1.fst.snd.fst :: x_1.fst.snd.snd.fst ::
  x_1.fst.snd.snd.snd.fst :: x_1.fst.snd.snd.snd.snd.fst :: x_1.fst.snd.snd.snd.snd.snd.fst :: x_1.fst.snd.snd.snd.snd.snd.snd.fst :: x_1.fst.snd.snd.snd.snd.snd.snd.snd.fst :: nilL Int) (Int.toNat (IntKind.wrap
  IntKind.i64 (Int.tdiv x_1.snd (2 : Int)))) (orI IntKind.u16 (IntKind.wrap IntKind.u16 (List.getD (x_1.fst.fst :: x_1.fst.snd.fst :: x_1.fst.snd.snd.fst :: x_1.fst.snd.snd.snd.fst :: x_1.fst.snd.snd.snd.snd.fst ::
  x_1.fst.snd.snd.snd.snd.snd.fst :: x_1.fst.snd.snd.snd.snd.snd.snd.fst :: x_1.fst.snd.snd.snd.snd.snd.snd.snd.fst :: nilL Int) (Int.toNat (IntKind.wrap IntKind.i64 (Int.tdiv x_1.snd (2 : Int)))) (0 : Int) * (2 : Int) ^
  Min.min (Int.toNat (8 : Int)) (IntKind.bits IntKind.u16))) (IntKind.wrap IntKind.u16 (Go.Ad.num1 (List.getD (Go.Lb.splitS x.fst (ByteArray.mk (List.toArray ((46 : UInt8) :: nilL UInt8)))) (Int.toNat x_1.snd) (Ty.zero
  Ty.str)) (255 : Int))))) (3 : Nat) (0 : Int), List.getD (List.set (x_1.fst.fst :: x_1.fst.snd.fst :: x_1.fst.snd.snd.fst :: x_1.fst.snd.snd.snd.fst :: x_1.fst.snd.snd.snd.snd.fst :: x_1.fst.snd.snd.snd.snd.snd.fst ::
  x_1.fst.snd.snd.snd.snd.snd.snd.fst :: x_1.fst.snd.snd.snd.snd.snd.snd.snd.fst :: nilL Int) (Int.toNat (IntKind.wrap IntKind.i64 (Int.tdiv x_1.snd (2 : Int)))) (orI IntKind.u16 (IntKind.wrap IntKind.u16 (List.getD
  (x_1.fst.fst :: x_1.fst.snd.fst :: x_1.fst.snd.snd.fst :: x_1.fst.snd.snd.snd.fst :: x_1.fst.snd.snd.snd.snd.fst :: x_1.fst.snd.snd.snd.snd.snd.fst :: x_1.fst.snd.snd.snd.snd.snd.snd.fst ::
  x_1.fst.snd.snd.snd.snd.snd.snd.snd.fst :: nilL Int) (Int.toNat (IntKind.wrap IntKind.i64 (Int.tdiv x_1.snd (2 : Int)))) (0 : Int) * (2 : Int) ^ Min.min (Int.toNat (8 : Int)) (IntKind.bits IntKind.u16))) (IntKind.wrap
  IntKind.u16 (Go.Ad.num1 (List.getD (Go.Lb.splitS x.fst (ByteArray.mk (List.toArray ((46 : UInt8) :: nilL UInt8)))) (Int.toNat x_1.snd) (Ty.zero Ty.str)) (255 : Int))))) (4 : Nat) (0 : Int), List.getD (List.set
  (x_1.fst.fst :: x_1.fst.snd.fst :: x_1.fst.snd.snd.fst :: x_1.fst.snd.snd.snd.fst :: x_1.fst.snd.snd.snd.snd.fst :: x_1.fst.snd.snd.snd.snd.snd.fst :: x_1.fst.snd.snd.snd.snd.snd.snd.fst ::
  x_1.fst.snd.snd.snd.snd.snd.snd.snd.fst :: nilL Int) (Int.toNat (IntKind.wrap IntKind.i64 (Int.tdiv x_1.snd (2 : Int)))) (orI IntKind.u16 (IntKind.wrap IntKind.u16 (List.getD (x_1.fst.fst :: x_1.fst.snd.fst ::
  x_1.fst.snd.snd.fst :: x_1.fst.snd.snd.snd.fst :: x_1.fst.snd.snd.snd.snd.fst :: x_1.fst.snd.snd.snd.snd.snd.fst :: x_1.fst.snd.snd.snd.snd.snd.snd.fst :: x_1.fst.snd.snd.snd.snd.snd.snd.snd.fst :: nilL Int) (Int.toNat
  (IntKind.wrap IntKind.i64 (Int.tdiv x_1.snd (2 : Int)))) (0 : Int) * (2 : Int) ^ Min.min (Int.toNat (8 : Int)) (IntKind.bits IntKind.u16))) (IntKind.wrap IntKind.u16 (Go.Ad.num1 (List.getD (Go.Lb.splitS x.fst
  (ByteArray.mk (List.toArray ((46 : UInt8) :: nilL UInt8)))) (Int.toNat x_1.snd) (Ty.zero Ty.str)) (255 : Int))))) (5 : Nat) (0 : Int), List.getD (List.set (x_1.fst.fst :: x_1.fst.snd.fst :: x_1.fst.snd.snd.fst ::
  x_1.fst.snd.snd.snd.fst :: x_1.fst.snd.snd.snd.snd.fst :: x_1.fst.snd.snd.snd.snd.snd.fst :: x_1.fst.snd.snd.snd.snd.snd.snd.fst :: x_1.fst.snd.snd.snd.snd.snd.snd.snd.fst :: nilL Int) (Int.toNat (IntKind.wrap
  IntKind.i64 (Int.tdiv x_1.snd (2 : Int)))) (orI IntKind.u16 (IntKind.wrap IntKind.u16 (List.getD (x_1.fst.fst :: x_1.fst.snd.fst :: x_1.fst.snd.snd.fst :: x_1.fst.snd.snd.snd.fst :: x_1.fst.snd.snd.snd.snd.fst ::
  x_1.fst.snd.snd.snd.snd.snd.fst :: x_1.fst.snd.snd.snd.snd.snd.snd.fst :: x_1.fst.snd.snd.snd.snd.snd.snd.snd.fst :: nilL Int) (Int.toNat (IntKind.wrap IntKind.i64 (Int.tdiv x_1.snd (2 : Int)))) (0 : Int) * (2 : Int) ^
  Min.min (Int.toNat (8 : Int)) (IntKind.bits IntKind.u16))) (IntKind.wrap IntKind.u16 (Go.Ad.num1 (List.getD (Go.Lb.splitS x.fst (ByteArray.mk (List.toArray ((46 : UInt8) :: nilL UInt8)))) (Int.toNat x_1.snd) (Ty.zero
  Ty.str)) (255 : Int))))) (6 : Nat) (0 : Int), List.getD (List.set (x_1.fst.fst :: x_1.fst.snd.fst :: x_1.fst.snd.snd.fst :: x_1.fst.snd.snd.snd.fst :: x_1.fst.snd.snd.snd.snd.fst :: x_1.fst.snd.snd.snd.snd.snd.fst ::
  x_1.fst.snd.snd.snd.snd.snd.snd.fst :: x_1.fst.snd.snd.snd.snd.snd.snd.snd.fst :: nilL Int) (Int.toNat (IntKind.wrap IntKind.i64 (Int.tdiv x_1.snd (2 : Int)))) (orI IntKind.u16 (IntKind.wrap IntKind.u16 (List.getD
  (x_1.fst.fst :: x_1.fst.snd.fst :: x_1.fst.snd.snd.fst :: x_1.fst.snd.snd.snd.fst :: x_1.fst.snd.snd.snd.snd.fst :: x_1.fst.snd.snd.snd.snd.snd.fst :: x_1.fst.snd.snd.snd.snd.snd.snd.fst ::
  x_1.fst.snd.snd.snd.snd.snd.snd.snd.fst :: nilL Int) (Int.toNat (IntKind.wrap IntKind.i64 (Int.tdiv x_1.snd (2 : Int)))) (0 : Int) * (2 : Int) ^ Min.min (Int.toNat (8 : Int)) (IntKind.bits IntKind.u16))) (IntKind.wrap
  IntKind.u16 (Go.Ad.num1 (List.getD (Go.Lb.splitS x.fst (ByteArray.mk (List.toArray ((46 : UInt8) :: nilL UInt8)))) (Int.toNat x_1.snd) (Ty.zero Ty.str)) (255 : Int))))) (7 : Nat) (0 : Int), ()) (IntKind.wrap IntKind.i64
  (x_1.snd + (1 : Int)))) ∧ Wr ((4 : Nat) - Int.toNat (IntKind.wrap IntKind.i64 (x_1.snd + (1 : Int))) < (4 : Nat) - Int.toNat x_1.snd) ∧ Wr (IntKind.wrap IntKind.i64 (x_1.snd + (1 : Int)) = IntKind.wrap IntKind.i64
  (x_1.snd + (1 : Int))) ∧ Wr (Go.Lb.splitS x.fst (ByteArray.mk (List.toArray ((46 : UInt8) :: nilL UInt8))) = Go.Lb.splitS x.fst (ByteArray.mk (List.toArray ((46 : UInt8) :: nilL UInt8)))) ∧ Wr ((↑(List.length
  (Go.Lb.splitS x.fst (ByteArray.mk (List.toArray ((46 : UInt8) :: nilL UInt8))))) : Int) = (↑(List.length (Go.Lb.splitS x.fst (ByteArray.mk (List.toArray ((46 : UInt8) :: nilL UInt8))))) : Int)) ∧ Wr (List.getD (List.set
  (x_1.fst.fst :: x_1.fst.snd.fst :: x_1.fst.snd.snd.fst :: x_1.fst.snd.snd.snd.fst :: x_1.fst.snd.snd.snd.snd.fst :: x_1.fst.snd.snd.snd.snd.snd.fst :: x_1.fst.snd.snd.snd.snd.snd.snd.fst ::
  x_1.fst.snd.snd.snd.snd.snd.snd.snd.fst :: nilL Int) (Int.toNat (IntKind.wrap IntKind.i64 (Int.tdiv x_1.snd (2 : Int)))) (orI IntKind.u16 (IntKind.wrap IntKind.u16 (List.getD (x_1.fst.fst :: x_1.fst.snd.fst ::
  x_1.fst.snd.snd.fst :: x_1.fst.snd.snd.snd.fst :: x_1.fst.snd.snd.snd.snd.fst :: x_1.fst.snd.snd.snd.snd.snd.fst :: x_1.fst.snd.snd.snd.snd.snd.snd.fst :: x_1.fst.snd.snd.snd.snd.snd.snd.snd.fst :: nilL Int) (Int.toNat
  (IntKind.wrap IntKind.i64 (Int.tdiv x_1.snd (2 : Int)))) (0 : Int) * (2 : Int) ^ Min.min (Int.toNat (8 : Int)) (IntKind.bits IntKind.u16))) (IntKind.wrap IntKind.u16 (Go.Ad.num1 (List.getD (Go.Lb.splitS x.fst
  (ByteArray.mk (List.toArray ((46 : UInt8) :: nilL UInt8)))) (Int.toNat x_1.snd) (Ty.zero Ty.str)) (255 : Int))))) (0 : Nat) (0 : Int) = List.getD (List.set (x_1.fst.fst :: x_1.fst.snd.fst :: x_1.fst.snd.snd.fst ::
  x_1.fst.snd.snd.snd.fst :: x_1.fst.snd.snd.snd.snd.fst :: x_1.fst.snd.snd.snd.snd.snd.fst :: x_1.fst.snd.snd.snd.snd.snd.snd.fst :: x_1.fst.snd.snd.snd.snd.snd.snd.snd.fst :: nilL Int) (Int.toNat (IntKind.wrap
  IntKind.i64 (Int.tdiv x_1.snd (2 : Int)))) (orI IntKind.u16 (IntKind.wrap IntKind.u16 (List.getD (x_1.fst.fst :: x_1.fst.snd.fst :: x_1.fst.snd.snd.fst :: x_1.fst.snd.snd.snd.fst :: x_1.fst.snd.snd.snd.snd.fst ::
  x_1.fst.snd.snd.snd.snd.snd.fst :: x_1.fst.snd.snd.snd.snd.snd.snd.fst :: x_1.fst.snd.snd.snd.snd.snd.snd.snd.fst :: nilL Int) (Int.toNat (IntKind.wrap IntKind.i64 (Int.tdiv x_1.snd (2 : Int)))) (0 : Int) * (2 : Int) ^
  Min.min (Int.toNat (8 : Int)) (IntKind.bits IntKind.u16))) (IntKind.wrap IntKind.u16 (Go.Ad.num1 (List.getD (Go.Lb.splitS x.fst (ByteArray.mk (List.toArray ((46 : UInt8) :: nilL UInt8)))) (Int.toNat x_1.snd) (Ty.zero
  Ty.str)) (255 : Int))))) (0 : Nat) (0 : Int)) ∧ Wr (List.getD (List.set (x_1.fst.fst :: x_1.fst.snd.fst :: x_1.fst.snd.snd.fst :: x_1.fst.snd.snd.snd.fst :: x_1.fst.snd.snd.snd.snd.fst :: x_1.fst.snd.snd.snd.snd.snd.fst
  :: x_1.fst.snd.snd.snd.snd.snd.snd.fst :: x_1.fst.snd.snd.snd.snd.snd.snd.snd.fst :: nilL Int) (Int.toNat (IntKind.wrap IntKind.i64 (Int.tdiv x_1.snd (2 : Int)))) (orI IntKind.u16 (IntKind.wrap IntKind.u16 (List.getD
  (x_1.fst.fst :: x_1.fst.snd.fst :: x_1.fst.snd.snd.fst :: x_1.fst.snd.snd.snd.fst :: x_1.fst.snd.snd.snd.snd.fst :: x_1.fst.snd.snd.snd.snd.snd.fst :: x_1.fst.snd.snd.snd.snd.snd.snd.fst ::
  x_1.fst.snd.snd.snd.snd.snd.snd.snd.fst :: nilL Int) (Int.toNat (IntKind.wrap IntKind.i64 (Int.tdiv x_1.snd (2 : Int)))) (0 : Int) * (2 : Int) ^ Min.min (Int.toNat (8 : Int)) (IntKind.bits IntKind.u16))) (IntKind.wrap
  IntKind.u16 (Go.Ad.num1 (List.getD (Go.Lb.splitS x.fst (ByteArray.mk (List.toArray ((46 : UInt8) :: nilL UInt8)))) (Int.toNat x_1.snd) (Ty.zero Ty.str)) (255 : Int))))) (1 : Nat) (0 : Int) = List.getD (List.set
  (x_1.fst.fst :: x_1.fst.snd.fst :: x_1.fst.snd.snd.fst :: x_1.fst.snd.snd.snd.fst :: x_1.fst.snd.snd.snd.snd.fst :: x_1.fst.snd.snd.snd.snd.snd.fst :: x_1.fst.snd.snd.snd.snd.snd.snd.fst ::
  x_1.fst.snd.snd.snd.snd.snd.snd.snd.fst :: nilL Int) (Int.toNat (IntKind.wrap IntKind.i64 (Int.tdiv x_1.snd (2 : Int)))) (orI IntKind.u16 (IntKind.wrap IntKind.u16 (List.getD (x_1.fst.fst :: x_1.fst.snd.fst ::
  x_1.fst.snd.snd.fst :: x_1.fst.snd.snd.snd.fst :: x_1.fst.snd.snd.snd.snd.fst :: x_1.fst.snd.snd.snd.snd.snd.fst :: x_1.fst.snd.snd.snd.snd.snd.snd.fst :: x_1.fst.snd.snd.snd.snd.snd.snd.snd.fst :: nilL Int) (Int.toNat
  (IntKind.wrap IntKind.i64 (Int.tdiv x_1.snd (2 : Int)))) (0 : Int) * (2 : Int) ^ Min.min (Int.toNat (8 : Int)) (IntKind.bits IntKind.u16))) (IntKind.wrap IntKind.u16 (Go.Ad.num1 (List.getD (Go.Lb.splitS x.fst
  (ByteArray.mk (List.toArray ((46 : UInt8) :: nilL UInt8)))) (Int.toNat x_1.snd) (Ty.zero Ty.str)) (255 : Int))))) (1 : Nat) (0 : Int)) ∧ Wr (List.getD (List.set (x_1.fst.fst :: x_1.fst.snd.fst :: x_1.fst.snd.snd.fst ::
  x_1.fst.snd.snd.snd.fst :: x_1.fst.snd.snd.snd.snd.fst :: x_1.fst.snd.snd.snd.snd.snd.fst :: x_1.fst.snd.snd.snd.snd.snd.snd.fst :: x_1.fst.snd.snd.snd.snd.snd.snd.snd.fst :: nilL Int) (Int.toNat (IntKind.wrap
  IntKind.i64 (Int.tdiv x_1.snd (2 : Int)))) (orI IntKind.u16 (IntKind.wrap IntKind.u16 (List.getD (x_1.fst.fst :: x_1.fst.snd.fst :: x_1.fst.snd.snd.fst :: x_1.fst.snd.snd.snd.fst :: x_1.fst.snd.snd.snd.snd.fst ::
  x_1.fst.snd.snd.snd.snd.snd.fst :: x_1.fst.snd.snd.snd.snd.snd.snd.fst :: x_1.fst.snd.snd.snd.snd.snd.snd.snd.fst :: nilL Int) (Int.toNat (IntKind.wrap IntKind.i64 (Int.tdiv x_1.snd (2 : Int)))) (0 : Int) * (2 : Int) ^
  Min.min (Int.toNat (8 : Int)) (IntKind.bits IntKind.u16))) (IntKind.wrap IntKind.u16 (Go.Ad.num1 (List.getD (Go.Lb.splitS x.fst (ByteArray.mk (List.toArray ((46 : UInt8) :: nilL UInt8)))) (Int.toNat x_1.snd) (Ty.zero
  Ty.str)) (255 : Int))))) (2 : Nat) (0 : Int) = List.getD (List.set (x_1.fst.fst :: x_1.fst.snd.fst :: x_1.fst.snd.snd.fst :: x_1.fst.snd.snd.snd.fst :: x_1.fst.snd.snd.snd.snd.fst :: x_1.fst.snd.snd.snd.snd.snd.fst ::
  x_1.fst.snd.snd.snd.snd.snd.snd.fst :: x_1.fst.snd.snd.snd.snd.snd.snd.snd.fst :: nilL Int) (Int.toNat (IntKind.wrap IntKind.i64 (Int.tdiv x_1.snd (2 : Int)))) (orI IntKind.u16 (IntKind.wrap IntKind.u16 (List.getD
  (x_1.fst.fst :: x_1.fst.snd.fst :: x_1.fst.snd.snd.fst :: x_1.fst.snd.snd.snd.fst :: x_1.fst.snd.snd.snd.snd.fst :: x_1.fst.snd.snd.snd.snd.snd.fst :: x_1.fst.snd.snd.snd.snd.snd.snd.fst ::
  x_1.fst.snd.snd.snd.snd.snd.snd.snd.fst :: nilL Int) (Int.toNat (IntKind.wrap IntKind.i64 (Int.tdiv x_1.snd (2 : Int)))) (0 : Int) * (2 : Int) ^ Min.min (Int.toNat (8 : Int)) (IntKind.bits IntKind.u16))) (IntKind.wrap
  IntKind.u16 (Go.Ad.num1 (List.getD (Go.Lb.splitS x.fst (ByteArray.mk (List.toArray ((46 : UInt8) :: nilL UInt8)))) (Int.toNat x_1.snd) (Ty.zero Ty.str)) (255 : Int))))) (2 : Nat) (0 : Int)) ∧ Wr (List.getD (List.set
  (x_1.fst.fst :: x_1.fst.snd.fst :: x_1.fst.snd.snd.fst :: x_1.fst.snd.snd.snd.fst :: x_1.fst.snd.snd.snd.snd.fst :: x_1.fst.snd.snd.snd.snd.snd.fst :: x_1.fst.snd.snd.snd.snd.snd.snd.fst ::
  x_1.fst.snd.snd.snd.snd.snd.snd.snd.fst :: nilL Int) (Int.toNat (IntKind.wrap IntKind.i64 (Int.tdiv x_1.snd (2 : Int)))) (orI IntKind.u16 (IntKind.wrap IntKind.u16 (List.getD (x_1.fst.fst :: x_1.fst.snd.fst ::
  x_1.fst.snd.snd.fst :: x_1.fst.snd.snd.snd.fst :: x_1.fst.snd.snd.snd.snd.fst :: x_1.fst.snd.snd.snd.snd.snd.fst :: x_1.fst.snd.snd.snd.snd.snd.snd.fst :: x_1.fst.snd.snd.snd.snd.snd.snd.snd.fst :: nilL Int) (Int.toNat
  (IntKind.wrap IntKind.i64 (Int.tdiv x_1.snd (2 : Int)))) (0 : Int) * (2 : Int) ^ Min.min (Int.toNat (8 : Int)) (IntKind.bits IntKind.u16))) (IntKind.wrap IntKind.u16 (Go.Ad.num1 (List.getD (Go.Lb.splitS x.fst
  (ByteArray.mk (List.toArray ((46 : UInt8) :: nilL UInt8)))) (Int.toNat x_1.snd) (Ty.zero Ty.str)) (255 : Int))))) (3 : Nat) (0 : Int) = List.getD (List.set (x_1.fst.fst :: x_1.fst.snd.fst :: x_1.fst.snd.snd.fst ::
  x_1.fst.snd.snd.snd.fst :: x_1.fst.snd.snd.snd.snd.fst :: x_1.fst.snd.snd.snd.snd.snd.fst :: x_1.fst.snd.snd.snd.snd.snd.snd.fst :: x_1.fst.snd.snd.snd.snd.snd.snd.snd.fst :: nilL Int) (Int.toNat (IntKind.wrap
  IntKind.i64 (Int.tdiv x_1.snd (2 : Int)))) (orI IntKind.u16 (IntKind.wrap IntKind.u16 (List.getD (x_1.fst.fst :: x_1.fst.snd.fst :: x_1.fst.snd.snd.fst :: x_1.fst.snd.snd.snd.fst :: x_1.fst.snd.snd.snd.snd.fst ::
  x_1.fst.snd.snd.snd.snd.snd.fst :: x_1.fst.snd.snd.snd.snd.snd.snd.fst :: x_1.fst.snd.snd.snd.snd.snd.snd.snd.fst :: nilL Int) (Int.toNat (IntKind.wrap IntKind.i64 (Int.tdiv x_1.snd (2 : Int)))) (0 : Int) * (2 : Int) ^
  Min.min (Int.toNat (8 : Int)) (IntKind.bits IntKind.u16))) (IntKind.wrap IntKind.u16 (Go.Ad.num1 (List.getD (Go.Lb.splitS x.fst (ByteArray.mk (List.toArray ((46 : UInt8) :: nilL UInt8)))) (Int.toNat x_1.snd) (Ty.zero
  Ty.str)) (255 : Int))))) (3 : Nat) (0 : Int)) ∧ Wr (List.getD (List.set (x_1.fst.fst :: x_1.fst.snd.fst :: x_1.fst.snd.snd.fst :: x_1.fst.snd.snd.snd.fst :: x_1.fst.snd.snd.snd.snd.fst :: x_1.fst.snd.snd.snd.snd.snd.fst
  :: x_1.fst.snd.snd.snd.snd.snd.snd.fst :: x_1.fst.snd.snd.snd.snd.snd.snd.snd.fst :: nilL Int) (Int.toNat (IntKind.wrap IntKind.i64 (Int.tdiv x_1.snd (2 : Int)))) (orI IntKind.u16 (IntKind.wrap IntKind.u16 (List.getD
  (x_1.fst.fst :: x_1.fst.snd.fst :: x_1.fst.snd.snd.fst :: x_1.fst.snd.snd.snd.fst :: x_1.fst.snd.snd.snd.snd.fst :: x_1.fst.snd.snd.snd.snd.snd.fst :: x_1.fst.snd.snd.snd.snd.snd.snd.fst ::
  x_1.fst.snd.snd.snd.snd.snd.snd.snd.fst :: nilL Int) (Int.toNat (IntKind.wrap IntKind.i64 (Int.tdiv x_1.snd (2 : Int)))) (0 : Int) * (2 : Int) ^ Min.min (Int.toNat (8 : Int)) (IntKind.bits IntKind.u16))) (IntKind.wrap
  IntKind.u16 (Go.Ad.num1 (List.getD (Go.Lb.splitS x.fst (ByteArray.mk (List.toArray ((46 : UInt8) :: nilL UInt8)))) (Int.toNat x_1.snd) (Ty.zero Ty.str)) (255 : Int))))) (4 : Nat) (0 : Int) = List.getD (List.set
  (x_1.fst.fst :: x_1.fst.snd.fst :: x_1.fst.snd.snd.fst :: x_1.fst.snd.snd.snd.fst :: x_1.fst.snd.snd.snd.snd.fst :: x_1.fst.snd.snd.snd.snd.snd.fst :: x_1.fst.snd.snd.snd.snd.snd.snd.fst ::
  x_1.fst.snd.snd.snd.snd.snd.snd.snd.fst :: nilL Int) (Int.toNat (IntKind.wrap IntKind.i64 (Int.tdiv x_1.snd (2 : Int)))) (orI IntKind.u16 (IntKind.wrap IntKind.u16 (List.getD (x_1.fst.fst :: x_1.fst.snd.fst ::
  x_1.fst.snd.snd.fst :: x_1.fst.snd.snd.snd.fst :: x_1.fst.snd.snd.snd.snd.fst :: x_1.fst.snd.snd.snd.snd.snd.fst :: x_1.fst.snd.snd.snd.snd.snd.snd.fst :: x_1.fst.snd.snd.snd.snd.snd.snd.snd.fst :: nilL Int) (Int.toNat
  (IntKind.wrap IntKind.i64 (Int.tdiv x_1.snd (2 : Int)))) (0 : Int) * (2 : Int) ^ Min.min (Int.toNat (8 : Int)) (IntKind.bits IntKind.u16))) (IntKind.wrap IntKind.u16 (Go.Ad.num1 (List.getD (Go.Lb.splitS x.fst
  (ByteArray.mk (List.toArray ((46 : UInt8) :: nilL UInt8)))) (Int.toNat x_1.snd) (Ty.zero Ty.str)) (255 : Int))))) (4 : Nat) (0 : Int)) ∧ Wr (List.getD (List.set (x_1.fst.fst :: x_1.fst.snd.fst :: x_1.fst.snd.snd.fst ::
  x_1.fst.snd.snd.snd.fst :: x_1.fst.snd.snd.snd.snd.fst :: x_1.fst.snd.snd.snd.snd.snd.fst :: x_1.fst.snd.snd.snd.snd.snd.snd.fst :: x_1.fst.snd.snd.snd.snd.snd.snd.snd.fst :: nilL Int) (Int.toNat (IntKind.wrap
  IntKind.i64 (Int.tdiv x_1.snd (2 : Int)))) (orI IntKind.u16 (IntKind.wrap IntKind.u16 (List.getD (x_1.fst.fst :: x_1.fst.snd.fst :: x_1.fst.snd.snd.fst :: x_1.fst.snd.snd.snd.fst :: x_1.fst.snd.snd.snd.snd.fst ::
  x_1.fst.snd.snd.snd.snd.snd.fst :: x_1.fst.snd.snd.snd.snd.snd.snd.fst :: x_1.fst.snd.snd.snd.snd.snd.snd.snd.fst :: nilL Int) (Int.toNat (IntKind.wrap IntKind.i64 (Int.tdiv x_1.snd (2 : Int)))) (0 : Int) * (2 : Int) ^
  Min.min (Int.toNat (8 : Int)) (IntKind.bits IntKind.u16))) (IntKind.wrap IntKind.u16 (Go.Ad.num1 (List.getD (Go.Lb.splitS x.fst (ByteArray.mk (List.toArray ((46 : UInt8) :: nilL UInt8)))) (Int.toNat x_1.snd) (Ty.zero
  Ty.str)) (255 : Int))))) (5 : Nat) (0 : Int) = List.getD (List.set (x_1.fst.fst :: x_1.fst.snd.fst :: x_1.fst.snd.snd.fst :: x_1.fst.snd.snd.snd.fst :: x_1.fst.snd.snd.snd.snd.fst :: x_1.fst.snd.snd.snd.snd.snd.fst ::
  x_1.fst.snd.snd.snd.snd.snd.snd.fst :: x_1.fst.snd.snd.snd.snd.snd.snd.snd.fst :: nilL Int) (Int.toNat (IntKind.wrap IntKind.i64 (Int.tdiv x_1.snd (2 : Int)))) (orI IntKind.u16 (IntKind.wrap IntKind.u16 (List.getD
  (x_1.fst.fst :: x_1.fst.snd.fst :: x_1.fst.snd.snd.fst :: x_1.fst.snd.snd.snd.fst :: x_1.fst.snd.snd.snd.snd.fst :: x_1.fst.snd.snd.snd.snd.snd.fst :: x_1.fst.snd.snd.snd.snd.snd.snd.fst ::
  x_1.fst.snd.snd.snd.snd.snd.snd.snd.fst :: nilL Int) (Int.toNat (IntKind.wrap IntKind.i64 (Int.tdiv x_1.snd (2 : Int)))) (0 : Int) * (2 : Int) ^ Min.min (Int.toNat (8 : Int)) (IntKind.bits IntKind.u16))) (IntKind.wrap
  IntKind.u16 (Go.Ad.num1 (List.getD (Go.Lb.splitS x.fst (ByteArray.mk (List.toArray ((46 : UInt8) :: nilL UInt8)))) (Int.toNat x_1.snd) (Ty.zero Ty.str)) (255 : Int))))) (5 : Nat) (0 : Int)) ∧ Wr (List.getD (List.set
  (x_1.fst.fst :: x_1.fst.snd.fst :: x_1.fst.snd.snd.fst :: x_1.fst.snd.snd.snd.fst :: x_1.fst.snd.snd.snd.snd.fst :: x_1.fst.snd.snd.snd.snd.snd.fst :: x_1.fst.snd.snd.snd.snd.snd.snd.fst ::
  x_1.fst.snd.snd.snd.snd.snd.snd.snd.fst :: nilL Int) (Int.toNat (IntKind.wrap IntKind.i64 (Int.tdiv x_1.snd (2 : Int)))) (orI IntKind.u16 (IntKind.wrap IntKind.u16 (List.getD (x_1.fst.fst :: x_1.fst.snd.fst ::
  x_1.fst.snd.snd.fst :: x_1.fst.snd.snd.snd.fst :: x_1.fst.snd.snd.snd.snd.fst :: x_1.fst.snd.snd.snd.snd.snd.fst :: x_1.fst.snd.snd.snd.snd.snd.snd.fst :: x_1.fst.snd.snd.snd.snd.snd.snd.snd.fst :: nilL Int) (Int.toNat
  (IntKind.wrap IntKind.i64 (Int.tdiv x_1.snd (2 : Int)))) (0 : Int) * (2 : Int) ^ Min.min (Int.toNat (8 : Int)) (IntKind.bits IntKind.u16))) (IntKind.wrap IntKind.u16 (Go.Ad.num1 (List.getD (Go.Lb.splitS x.fst
  (ByteArray.mk (List.toArray ((46 : UInt8) :: nilL UInt8)))) (Int.toNat x_1.snd) (Ty.zero Ty.str)) (255 : Int))))) (6 : Nat) (0 : Int) = List.getD (List.set (x_1.fst.fst :: x_1.fst.snd.fst :: x_1.fst.snd.snd.fst ::
  x_1.fst.snd.snd.snd.fst :: x_1.fst.snd.snd.snd.snd.fst :: x_1.fst.snd.snd.snd.snd.snd.fst :: x_1.fst.snd.snd.snd.snd.snd.snd.fst :: x_1.fst.snd.snd.snd.snd.snd.snd.snd.fst :: nilL Int) (Int.toNat (IntKind.wrap
  IntKind.i64 (Int.tdiv x_1.snd (2 : Int)))) (orI IntKind.u16 (IntKind.wrap IntKind.u16 (List.getD (x_1.fst.fst :: x_1.fst.snd.fst :: x_1.fst.snd.snd.fst :: x_1.fst.snd.snd.snd.fst :: x_1.fst.snd.snd.snd.snd.fst ::
  x_1.fst.snd.snd.snd.snd.snd.fst :: x_1.fst.snd.snd.snd.snd.snd.snd.fst :: x_1.fst.snd.snd.snd.snd.snd.snd.snd.fst :: nilL Int) (Int.toNat (IntKind.wrap IntKind.i64 (Int.tdiv x_1.snd (2 : Int)))) (0 : Int) * (2 : Int) ^
  Min.min (Int.toNat (8 : Int)) (IntKind.bits IntKind.u16))) (IntKind.wrap IntKind.u16 (Go.Ad.num1 (List.getD (Go.Lb.splitS x.fst (ByteArray.mk (List.toArray ((46 : UInt8) :: nilL UInt8)))) (Int.toNat x_1.snd) (Ty.zero
  Ty.str)) (255 : Int))))) (6 : Nat) (0 : Int)) ∧ Wr (List.getD (List.set (x_1.fst.fst :: x_1.fst.snd.fst :: x_1.fst.snd.snd.fst :: x_1.fst.snd.snd.snd.fst :: x_1.fst.snd.snd.snd.snd.fst :: x_1.fst.snd.snd.snd.snd.snd.fst
  :: x_1.fst.snd.snd.snd.snd.snd.snd.fst :: x_1.fst.snd.snd.snd.snd.snd.snd.snd.fst :: nilL Int) (Int.toNat (IntKind.wrap IntKind.i64 (Int.tdiv x_1.snd (2 : Int)))) (orI IntKind.u16 (IntKind.wrap IntKind.u16 (List.getD
  (x_1.fst.fst :: x_1.fst.snd.fst :: x_1.fst.snd.snd.fst :: x_1.fst.snd.snd.snd.fst :: x_1.fst.snd.snd.snd.snd.fst :: x_1.fst.snd.snd.snd.snd.snd.fst :: x_1.fst.snd.snd.snd.snd.snd.snd.fst ::
  x_1.fst.snd.snd.snd.snd.snd.snd.snd.fst :: nilL Int) (Int.toNat (IntKind.wrap IntKind.i64 (Int.tdiv x_1.snd (2 : Int)))) (0 : Int) * (2 : Int) ^ Min.min (Int.toNat (8 : Int)) (IntKind.bits IntKind.u16))) (IntKind.wrap
  IntKind.u16 (Go.Ad.num1 (List.getD (Go.Lb.splitS x.fst (ByteArray.mk (List.toArray ((46 : UInt8) :: nilL UInt8)))) (Int.toNat x_1.snd) (Ty.zero Ty.str)) (255 : Int))))) (7 : Nat) (0 : Int) = List.getD (List.set
  (x_1.fst.fst :: x_1.fst.snd.fst :: x_1.fst.snd.snd.fst :: x_1.fst.snd.snd.snd.fst :: x_1.fst.snd.snd.snd.snd.fst :: x_1.fst.snd.snd.snd.snd.snd.fst :: x_1.fst.snd.snd.snd.snd.snd.snd.fst ::
  x_1.fst.snd.snd.snd.snd.snd.snd.snd.fst :: nilL Int) (Int.toNat (IntKind.wrap IntKind.i64 (Int.tdiv x_1.snd (2 : Int)))) (orI IntKind.u16 (IntKind.wrap IntKind.u16 (List.getD (x_1.fst.fst :: x_1.fst.snd.fst ::
  x_1.fst.snd.snd.fst :: x_1.fst.snd.snd.snd.fst :: x_1.fst.snd.snd.snd.snd.fst :: x_1.fst.snd.snd.snd.snd.snd.fst :: x_1.fst.snd.snd.snd.snd.snd.snd.fst :: x_1.fst.snd.snd.snd.snd.snd.snd.snd.fst :: nilL Int) (Int.toNat
  (IntKind.wrap IntKind.i64 (Int.tdiv x_1.snd (2 : Int)))) (0 : Int) * (2 : Int) ^ Min.min (Int.toNat (8 : Int)) (IntKind.bits IntKind.u16))) (IntKind.wrap IntKind.u16 (Go.Ad.num1 (List.getD (Go.Lb.splitS x.fst
  (ByteArray.mk (List.toArray ((46 : UInt8) :: nilL UInt8)))) (Int.toNat x_1.snd) (Ty.zero Ty.str)) (255 : Int))))) (7 : Nat) (0 : Int)))) ((x_1.fst, Bool.true, ()) = (Go.Ad.four1 x.fst, Go.Ad.four2 x.fst, ())))) := by kernel_rfl
theorem v58_eq : vcFn g58 300 Tryd.f58 cSix = ( ∀ (x : ByteArray × Unit), Wr (Go.Proofs.YtkimpfoimblhjaaDoor.Lb.szOk x.fst = Bool.true) → Wr (Go.Proofs.YtkimpfoimblhjaaDoor.Lb.szOk x.fst = Bool.true) ∧ Wr (Go.Proofs.YtkimpfoimblhjaaDoor.Lb.szOk
  (Go.Proofs.YtkimpfoimblhjaaDoor.Lb.cut1 x.fst (ByteArray.mk (List.toArray ((58 : UInt8) :: (58 : UInt8) :: nilL UInt8)))) = Bool.true) ∧ Wr (Go.Proofs.YtkimpfoimblhjaaDoor.Lb.szOk (Go.Proofs.YtkimpfoimblhjaaDoor.Lb.cut2
  x.fst (ByteArray.mk (List.toArray ((58 : UInt8) :: (58 : UInt8) :: nilL UInt8)))) = Bool.true) ∧ bcase (!Go.Ad.side2 (Go.Proofs.YtkimpfoimblhjaaDoor.Lb.cut1 x.fst (ByteArray.mk (List.toArray ((58 : UInt8) :: (58 :
  UInt8) :: nilL UInt8)))) || !Go.Ad.side2 (Go.Proofs.YtkimpfoimblhjaaDoor.Lb.cut2 x.fst (ByteArray.mk (List.toArray ((58 : UInt8) :: (58 : UInt8) :: nilL UInt8))))) (bcase (!Go.Ad.side2
  (Go.Proofs.YtkimpfoimblhjaaDoor.Lb.cut1 x.fst (ByteArray.mk (List.toArray ((58 : UInt8) :: (58 : UInt8) :: nilL UInt8)))) || !Go.Ad.side2 (Go.Proofs.YtkimpfoimblhjaaDoor.Lb.cut2 x.fst (ByteArray.mk (List.toArray ((58 :
  UInt8) :: (58 : UInt8) :: nilL UInt8))))) ((((0 : Int), (0 : Int), (0 : Int), (0 : Int), (0 : Int), (0 : Int), (0 : Int), (0 : Int), ()), Bool.false, ()) = (Go.Ad.six1 x.fst, Go.Ad.six2 x.fst, ())) (Wr ((0 : Int) ≤ (0 :
  Int)) ∧ Wr ((0 : Int) ≤ (↑(8 : Nat) : Int)) ∧ Wr ((↑(8 : Nat) : Int) ≤ (↑(8 : Nat) : Int)) ∧ Wr ((0 : Int) ≤ IntKind.wrap IntKind.i64 ((8 : Int) - (↑(List.length (Go.Ad.side1 (Go.Proofs.YtkimpfoimblhjaaDoor.Lb.cut2
  x.fst (ByteArray.mk (List.toArray ((58 : UInt8) :: (58 : UInt8) :: nilL UInt8)))))) : Int))) ∧ Wr (IntKind.wrap IntKind.i64 ((8 : Int) - (↑(List.length (Go.Ad.side1 (Go.Proofs.YtkimpfoimblhjaaDoor.Lb.cut2 x.fst
  (ByteArray.mk (List.toArray ((58 : UInt8) :: (58 : UInt8) :: nilL UInt8)))))) : Int)) ≤ (↑(8 : Nat) : Int)) ∧ Wr ((↑(8 : Nat) : Int) ≤ (↑(8 : Nat) : Int)) ∧ ((List.getD (cpL (List.getD (cpL ((0 : Int) :: (0 : Int) :: (0
  : Int) :: (0 : Int) :: (0 : Int) :: (0 : Int) :: (0 : Int) :: (0 : Int) :: nilL Int) (Int.toNat (0 : Int)) (Int.toNat (↑(8 : Nat) : Int) - Int.toNat (0 : Int)) (Go.Ad.side1 (Go.Proofs.YtkimpfoimblhjaaDoor.Lb.cut1 x.fst
  (ByteArray.mk (List.toArray ((58 : UInt8) :: (58 : UInt8) :: nilL UInt8)))))) (0 : Nat) (0 : Int) :: List.getD (cpL ((0 : Int) :: (0 : Int) :: (0 : Int) :: (0 : Int) :: (0 : Int) :: (0 : Int) :: (0 : Int) :: (0 : Int)
  :: nilL Int) (Int.toNat (0 : Int)) (Int.toNat (↑(8 : Nat) : Int) - Int.toNat (0 : Int)) (Go.Ad.side1 (Go.Proofs.YtkimpfoimblhjaaDoor.Lb.cut1 x.fst (ByteArray.mk (List.toArray ((58 : UInt8) :: (58 : UInt8) :: nilL
  UInt8)))))) (1 : Nat) (0 : Int) :: List.getD (cpL ((0 : Int) :: (0 : Int) :: (0 : Int) :: (0 : Int) :: (0 : Int) :: (0 : Int) :: (0 : Int) :: (0 : Int) :: nilL Int) (Int.toNat (0 : Int)) (Int.toNat (↑(8 : Nat) : Int) -
  Int.toNat (0 : Int)) (Go.Ad.side1 (Go.Proofs.YtkimpfoimblhjaaDoor.Lb.cut1 x.fst (ByteArray.mk (List.toArray ((58 : UInt8) :: (58 : UInt8) :: nilL UInt8)))))) (2 : Nat) (0 : Int) :: List.getD (cpL ((0 : Int) :: (0 : Int)
  :: (0 : Int) :: (0 : Int) :: (0 : Int) :: (0 : Int) :: (0 : Int) :: (0 : Int) :: nilL Int) (Int.toNat (0 : Int)) (Int.toNat (↑(8 : Nat) : Int) - Int.toNat (0 : Int)) (Go.Ad.side1 (Go.Proofs.YtkimpfoimblhjaaDoor.Lb.cut1
  x.fst (ByteArray.mk (List.toArray ((58 : UInt8) :: (58 : UInt8) :: nilL UInt8)))))) (3 : Nat) (0 : Int) :: List.getD (cpL ((0 : Int) :: (0 : Int) :: (0 : Int) :: (0 : Int) :: (0 : Int) :: (0 : Int) :: (0 : Int) :: (0 :
  Int) :: nilL Int) (Int.toNat (0 : Int)) (Int.toNat (↑(8 : Nat) : Int) - Int.toNat (0 : Int)) (Go.Ad.side1 (Go.Proofs.YtkimpfoimblhjaaDoor.Lb.cut1 x.fst (ByteArray.mk (List.toArray ((58 : UInt8) :: (58 : UInt8) :: nilL
  UInt8)))))) (4 : Nat) (0 : Int) :: List.getD (cpL ((0 : Int) :: (0 : Int) :: (0 : Int) :: (0 : Int) :: (0 : Int) :: (0 : Int) :: (0 : Int) :: (0 : Int) :: nilL Int) (Int.toNat (0 : Int)) (Int.toNat (↑(8 : Nat) : Int) -
  Int.toNat (0 : Int)) (Go.Ad.side1 (Go.Proofs.YtkimpfoimblhjaaDoor.Lb.cut1 x.fst (ByteArray.mk (List.toArray ((58 : UInt8) :: (58 : UInt8) :: nilL UInt8)))))) (5 : Nat) (0 : Int) :: List.getD (cpL ((0 : Int) :: (0 : Int)
  :: (0 : Int) :: (0 : Int) :: (0 : Int) :: (0 : Int) :: (0 : Int) :: (0 : Int) :: nilL Int) (Int.toNat (0 : Int)) (Int.toNat (↑(8 : Nat) : Int) - Int.toNat (0 : Int)) (Go.Ad.side1 (Go.Proofs.YtkimpfoimblhjaaDoor.Lb.cut1
  x.fst (ByteArray.mk (List.toArray ((58 : UInt8) :: (58 : UInt8) :: nilL UInt8)))))) (6 : Nat) (0 : Int) :: List.getD (cpL ((0 : Int) :: (0 : Int) :: (0 : Int) :: (0 : Int) :: (0 : Int) :: (0 : Int) :: (0 : Int) :: (0 :
  Int) :: nilL Int) (Int.toNat (0 : Int)) (Int.toNat (↑(8 : Nat) : Int) - Int.toNat (0 : Int)) (Go.Ad.side1 (Go.Proofs.YtkimpfoimblhjaaDoor.Lb.cut1 x.fst (ByteArray.mk (List.toArray ((58 : UInt8) :: (58 : UInt8) :: nilL
  UInt8)))))) (7 : Nat) (0 : Int) :: nilL Int) (Int.toNat (IntKind.wrap IntKind.i64 ((8 : Int) - (↑(List.length (Go.Ad.side1 (Go.Proofs.YtkimpfoimblhjaaDoor.Lb.cut2 x.fst (ByteArray.mk (List.toArray ((58 : UInt8) :: (58 :
  UInt8) :: nilL UInt8)))))) : Int)))) (Int.toNat (↑(8 : Nat) : Int) - Int.toNat (IntKind.wrap IntKind.i64 ((8 : Int) - (↑(List.length (Go.Ad.side1 (Go.Proofs.YtkimpfoimblhjaaDoor.Lb.cut2 x.fst (ByteArray.mk (List.toArray
  ((58 : UInt8) :: (58 : UInt8) :: nilL UInt8)))))) : Int)))) (Go.Ad.side1 (Go.Proofs.YtkimpfoimblhjaaDoor.Lb.cut2 x.fst (ByteArray.mk (List.toArray ((58 : UInt8) :: (58 : UInt8) :: nilL UInt8)))))) (0 : Nat) (0 : Int),
  List.getD (cpL (List.getD (cpL ((0 : Int) :: (0 : Int) :: (0 : Int) :: (0 : Int) :: (0 : Int) :: (0 : Int) :: (0 : Int) :: (0 : Int) :: nilL Int) (Int.toNat (0 : Int)) (Int.toNat (↑(8 : Nat) : Int) - Int.toNat (0 :
  Int)) (Go.Ad.side1 (Go.Proofs.YtkimpfoimblhjaaDoor.Lb.cut1 x.fst (ByteArray.mk (List.toArray ((58 : UInt8) :: (58 : UInt8) :: nilL UInt8)))))) (0 : Nat) (0 : Int) :: List.getD (cpL ((0 : Int) :: (0 : Int) :: (0 : Int)
  :: (0 : Int) :: (0 : Int) :: (0 : Int) :: (0 : Int) :: (0 : Int) :: nilL Int) (Int.toNat (0 : Int)) (Int.toNat (↑(8 : Nat) : Int) - Int.toNat (0 : Int)) (Go.Ad.side1 (Go.Proofs.YtkimpfoimblhjaaDoor.Lb.cut1 x.fst
  (ByteArray.mk (List.toArray ((58 : UInt8) :: (58 : UInt8) :: nilL UInt8)))))) (1 : Nat) (0 : Int) :: List.getD (cpL ((0 : Int) :: (0 : Int) :: (0 : Int) :: (0 : Int) :: (0 : Int) :: (0 : Int) :: (0 : Int) :: (0 : Int)
  :: nilL Int) (Int.toNat (0 : Int)) (Int.toNat (↑(8 : Nat) : Int) - Int.toNat (0 : Int)) (Go.Ad.side1 (Go.Proofs.YtkimpfoimblhjaaDoor.Lb.cut1 x.fst (ByteArray.mk (List.toArray ((58 : UInt8) :: (58 : UInt8) :: nilL
  UInt8)))))) (2 : Nat) (0 : Int) :: List.getD (cpL ((0 : Int) :: (0 : Int) :: (0 : Int) :: (0 : Int) :: (0 : Int) :: (0 : Int) :: (0 : Int) :: (0 : Int) :: nilL Int) (Int.toNat (0 : Int)) (Int.toNat (↑(8 : Nat) : Int) -
  Int.toNat (0 : Int)) (Go.Ad.side1 (Go.Proofs.YtkimpfoimblhjaaDoor.Lb.cut1 x.fst (ByteArray.mk (List.toArray ((58 : UInt8) :: (58 : UInt8) :: nilL UInt8)))))) (3 : Nat) (0 : Int) :: List.getD (cpL ((0 : Int) :: (0 : Int)
  :: (0 : Int) :: (0 : Int) :: (0 : Int) :: (0 : Int) :: (0 : Int) :: (0 : Int) :: nilL Int) (Int.toNat (0 : Int)) (Int.toNat (↑(8 : Nat) : Int) - Int.toNat (0 : Int)) (Go.Ad.side1 (Go.Proofs.YtkimpfoimblhjaaDoor.Lb.cut1
  x.fst (ByteArray.mk (List.toArray ((58 : UInt8) :: (58 : UInt8) :: nilL UInt8)))))) (4 : Nat) (0 : Int) :: List.getD (cpL ((0 : Int) :: (0 : Int) :: (0 : Int) :: (0 : Int) :: (0 : Int) :: (0 : Int) :: (0 : Int) :: (0 :
  Int) :: nilL Int) (Int.toNat (0 : Int)) (Int.toNat (↑(8 : Nat) : Int) - Int.toNat (0 : Int)) (Go.Ad.side1 (Go.Proofs.YtkimpfoimblhjaaDoor.Lb.cut1 x.fst (ByteArray.mk (List.toArray ((58 : UInt8) :: (58 : UInt8) :: nilL
  UInt8)))))) (5 : Nat) (0 : Int) :: List.getD (cpL ((0 : Int) :: (0 : Int) :: (0 : Int) :: (0 : Int) :: (0 : Int) :: (0 : Int) :: (0 : Int) :: (0 : Int) :: nilL Int) (Int.toNat (0 : Int)) (Int.toNat (↑(8 : Nat) : Int) -
  Int.toNat (0 : Int)) (Go.Ad.side1 (Go.Proofs.YtkimpfoimblhjaaDoor.Lb.cut1 x.fst (ByteArray.mk (List.toArray ((58 : UInt8) :: (58 : UInt8) :: nilL UInt8)))))) (6 : Nat) (0 : Int) :: List.getD (cpL ((0 : Int) :: (0 : Int)
  :: (0 : Int) :: (0 : Int) :: (0 : Int) :: (0 : Int) :: (0 : Int) :: (0 : Int) :: nilL Int) (Int.toNat (0 : Int)) (Int.toNat (↑(8 : Nat) : Int) - Int.toNat (0 : Int)) (Go.Ad.side1 (Go.Proofs.YtkimpfoimblhjaaDoor.Lb.cut1
  x.fst (ByteArray.mk (List.toArray ((58 : UInt8) :: (58 : UInt8) :: nilL UInt8)))))) (7 : Nat) (0 : Int) :: nilL Int) (Int.toNat (IntKind.wrap IntKind.i64 ((8 : Int) - (↑(List.length (Go.Ad.side1
  (Go.Proofs.YtkimpfoimblhjaaDoor.Lb.cut2 x.fst (ByteArray.mk (List.toArray ((58 : UInt8) :: (58 : UInt8) :: nilL UInt8)))))) : Int)))) (Int.toNat (↑(8 : Nat) : Int) - Int.toNat (IntKind.wrap IntKind.i64 ((8 : Int) -
  (↑(List.length (Go.Ad.side1 (Go.Proofs.YtkimpfoimblhjaaDoor.Lb.cut2 x.fst (ByteArray.mk (List.toArray ((58 : UInt8) :: (58 : UInt8) :: nilL UInt8)))))) : Int)))) (Go.Ad.side1 (Go.Proofs.YtkimpfoimblhjaaDoor.Lb.cut2
  x.fst (ByteArray.mk (List.toArray ((58 : UInt8) :: (58 : UInt8) :: nilL UInt8)))))) (1 : Nat) (0 : Int), List.getD (cpL (List.getD (cpL ((0 : Int) :: (0 : Int) :: (0 : Int) :: (0 : Int) :: (0 : Int) :: (0 : Int) :: (0 :
  Int) :: (0 : Int) :: nilL Int) (Int.toNat (0 : Int)) (Int.toNat (↑(8 : Nat) : Int) - Int.toNat (0 : Int)) (Go.Ad.side1 (Go.Proofs.YtkimpfoimblhjaaDoor.Lb.cut1 x.fst (ByteArray.mk (List.toArray ((58 : UInt8) :: (58 :
  UInt8) :: nilL UInt8)))))) (0 : Nat) (0 : Int) :: List.getD (cpL ((0 : Int) :: (0 : Int) :: (0 : Int) :: (0 : Int) :: (0 : Int) :: (0 : Int) :: (0 : Int) :: (0 : Int) :: nilL Int) (Int.toNat (0 : Int)) (Int.toNat (↑(8 :
  Nat) : Int) - Int.toNat (0 : Int)) (Go.Ad.side1 (Go.Proofs.YtkimpfoimblhjaaDoor.Lb.cut1 x.fst (ByteArray.mk (List.toArray ((58 : UInt8) :: (58 : UInt8) :: nilL UInt8)))))) (1 : Nat) (0 : Int) :: List.getD (cpL ((0 :
  Int) :: (0 : Int) :: (0 : Int) :: (0 : Int) :: (0 : Int) :: (0 : Int) :: (0 : Int) :: (0 : Int) :: nilL Int) (Int.toNat (0 : Int)) (Int.toNat (↑(8 : Nat) : Int) - Int.toNat (0 : Int)) (Go.Ad.side1
  (Go.Proofs.YtkimpfoimblhjaaDoor.Lb.cut1 x.fst (ByteArray.mk (List.toArray ((58 : UInt8) :: (58 : UInt8) :: nilL UInt8)))))) (2 : Nat) (0 : Int) :: List.getD (cpL ((0 : Int) :: (0 : Int) :: (0 : Int) :: (0 : Int) :: (0 :
  Int) :: (0 : Int) :: (0 : Int) :: (0 : Int) :: nilL Int) (Int.toNat (0 : Int)) (Int.toNat (↑(8 : Nat) : Int) - Int.toNat (0 : Int)) (Go.Ad.side1 (Go.Proofs.YtkimpfoimblhjaaDoor.Lb.cut1 x.fst (ByteArray.mk (List.toArray
  ((58 : UInt8) :: (58 : UInt8) :: nilL UInt8)))))) (3 : Nat) (0 : Int) :: List.getD (cpL ((0 : Int) :: (0 : Int) :: (0 : Int) :: (0 : Int) :: (0 : Int) :: (0 : Int) :: (0 : Int) :: (0 : Int) :: nilL Int) (Int.toNat (0 :
  Int)) (Int.toNat (↑(8 : Nat) : Int) - Int.toNat (0 : Int)) (Go.Ad.side1 (Go.Proofs.YtkimpfoimblhjaaDoor.Lb.cut1 x.fst (ByteArray.mk (List.toArray ((58 : UInt8) :: (58 : UInt8) :: nilL UInt8)))))) (4 : Nat) (0 : Int) ::
  List.getD (cpL ((0 : Int) :: (0 : Int) :: (0 : Int) :: (0 : Int) :: (0 : Int) :: (0 : Int) :: (0 : Int) :: (0 : Int) :: nilL Int) (Int.toNat (0 : Int)) (Int.toNat (↑(8 : Nat) : Int) - Int.toNat (0 : Int)) (Go.Ad.side1
  (Go.Proofs.YtkimpfoimblhjaaDoor.Lb.cut1 x.fst (ByteArray.mk (List.toArray ((58 : UInt8) :: (58 : UInt8) :: nilL UInt8)))))) (5 : Nat) (0 : Int) :: List.getD (cpL ((0 : Int) :: (0 : Int) :: (0 : Int) :: (0 : Int) :: (0 :
  Int) :: (0 : Int) :: (0 : Int) :: (0 : Int) :: nilL Int) (Int.toNat (0 : Int)) (Int.toNat (↑(8 : Nat) : Int) - Int.toNat (0 : Int)) (Go.Ad.side1 (Go.Proofs.YtkimpfoimblhjaaDoor.Lb.cut1 x.fst (ByteArray.mk (List.toArray
  ((58 : UInt8) :: (58 : UInt8) :: nilL UInt8)))))) (6 : Nat) (0 : Int) :: List.getD (cpL ((0 : Int) :: (0 : Int) :: (0 : Int) :: (0 : Int) :: (0 : Int) :: (0 : Int) :: (0 : Int) :: (0 : Int) :: nilL Int) (Int.toNat (0 :
  Int)) (Int.toNat (↑(8 : Nat) : Int) - Int.toNat (0 : Int)) (Go.Ad.side1 (Go.Proofs.YtkimpfoimblhjaaDoor.Lb.cut1 x.fst (ByteArray.mk (List.toArray ((58 : UInt8) :: (58 : UInt8) :: nilL UInt8)))))) (7 : Nat) (0 : Int) ::
  nilL Int) (Int.toNat (IntKind.wrap IntKind.i64 ((8 : Int) - (↑(List.length (Go.Ad.side1 (Go.Proofs.YtkimpfoimblhjaaDoor.Lb.cut2 x.fst (ByteArray.mk (List.toArray ((58 : UInt8) :: (58 : UInt8) :: nilL UInt8)))))) :
  Int)))) (Int.toNat (↑(8 : Nat) : Int) - Int.toNat (IntKind.wrap IntKind.i64 ((8 : Int) - (↑(List.length (Go.Ad.side1 (Go.Proofs.YtkimpfoimblhjaaDoor.Lb.cut2 x.fst (ByteArray.mk (List.toArray ((58 : UInt8) :: (58 :
  UInt8) :: nilL UInt8)))))) : Int)))) (Go.Ad.side1 (Go.Proofs.YtkimpfoimblhjaaDoor.Lb.cut2 x.fst (ByteArray.mk (List.toArray ((58 : UInt8) :: (58 : UInt8) :: nilL UInt8)))))) (2 : Nat) (0 : Int), List.getD (cpL
  (List.getD (cpL ((0 : Int) :: (0 : Int) :: (0 : Int) :: (0 : Int) :: (0 : Int) :: (0 : Int) :: (0 : Int) :: (0 : Int) :: nilL Int) (Int.toNat (0 : Int)) (Int.toNat (↑(8 : Nat) : Int) - Int.toNat (0 : Int)) (Go.Ad.side1
  (Go.Proofs.YtkimpfoimblhjaaDoor.Lb.cut1 x.fst (ByteArray.mk (List.toArray ((58 : UInt8) :: (58 : UInt8) :: nilL UInt8)))))) (0 : Nat) (0 : Int) :: List.getD (cpL ((0 : Int) :: (0 : Int) :: (0 : Int) :: (0 : Int) :: (0 :
  Int) :: (0 : Int) :: (0 : Int) :: (0 : Int) :: nilL Int) (Int.toNat (0 : Int)) (Int.toNat (↑(8 : Nat) : Int) - Int.toNat (0 : Int)) (Go.Ad.side1 (Go.Proofs.YtkimpfoimblhjaaDoor.Lb.cut1 x.fst (ByteArray.mk (List.toArray
  ((58 : UInt8) :: (58 : UInt8) :: nilL UInt8)))))) (1 : Nat) (0 : Int) :: List.getD (cpL ((0 : Int) :: (0 : Int) :: (0 : Int) :: (0 : Int) :: (0 : Int) :: (0 : Int) :: (0 : Int) :: (0 : Int) :: nilL Int) (Int.toNat (0 :
  Int)) (Int.toNat (↑(8 : Nat) : Int) - Int.toNat (0 : Int)) (Go.Ad.side1 (Go.Proofs.YtkimpfoimblhjaaDoor.Lb.cut1 x.fst (ByteArray.mk (List.toArray ((58 : UInt8) :: (58 : UInt8) :: nilL UInt8)))))) (2 : Nat) (0 : Int) ::
  List.getD (cpL ((0 : Int) :: (0 : Int) :: (0 : Int) :: (0 : Int) :: (0 : Int) :: (0 : Int) :: (0 : Int) :: (0 : Int) :: nilL Int) (Int.toNat (0 : Int)) (Int.toNat (↑(8 : Nat) : Int) - Int.toNat (0 : Int)) (Go.Ad.side1
  (Go.Proofs.YtkimpfoimblhjaaDoor.Lb.cut1 x.fst (ByteArray.mk (List.toArray ((58 : UInt8) :: (58 : UInt8) :: nilL UInt8)))))) (3 : Nat) (0 : Int) :: List.getD (cpL ((0 : Int) :: (0 : Int) :: (0 : Int) :: (0 : Int) :: (0 :
  Int) :: (0 : Int) :: (0 : Int) :: (0 : Int) :: nilL Int) (Int.toNat (0 : Int)) (Int.toNat (↑(8 : Nat) : Int) - Int.toNat (0 : Int)) (Go.Ad.side1 (Go.Proofs.YtkimpfoimblhjaaDoor.Lb.cut1 x.fst (ByteArray.mk (List.toArray
  ((58 : UInt8) :: (58 : UInt8) :: nilL UInt8)))))) (4 : Nat) (0 : Int) :: List.getD (cpL ((0 : Int) :: (0 : Int) :: (0 : Int) :: (0 : Int) :: (0 : Int) :: (0 : Int) :: (0 : Int) :: (0 : Int) :: nilL Int) (Int.toNat (0 :
  Int)) (Int.toNat (↑(8 : Nat) : Int) - Int.toNat (0 : Int)) (Go.Ad.side1 (Go.Proofs.YtkimpfoimblhjaaDoor.Lb.cut1 x.fst (ByteArray.mk (List.toArray ((58 : UInt8) :: (58 : UInt8) :: nilL UInt8)))))) (5 : Nat) (0 : Int) ::
  List.getD (cpL ((0 : Int) :: (0 : Int) :: (0 : Int) :: (0 : Int) :: (0 : Int) :: (0 : Int) :: (0 : Int) :: (0 : Int) :: nilL Int) (Int.toNat (0 : Int)) (Int.toNat (↑(8 : Nat) : Int) - Int.toNat (0 : Int)) (Go.Ad.side1
  (Go.Proofs.YtkimpfoimblhjaaDoor.Lb.cut1 x.fst (ByteArray.mk (List.toArray ((58 : UInt8) :: (58 : UInt8) :: nilL UInt8)))))) (6 : Nat) (0 : Int) :: List.getD (cpL ((0 : Int) :: (0 : Int) :: (0 : Int) :: (0 : Int) :: (0 :
  Int) :: (0 : Int) :: (0 : Int) :: (0 : Int) :: nilL Int) (Int.toNat (0 : Int)) (Int.toNat (↑(8 : Nat) : Int) - Int.toNat (0 : Int)) (Go.Ad.side1 (Go.Proofs.YtkimpfoimblhjaaDoor.Lb.cut1 x.fst (ByteArray.mk (List.toArray
  ((58 : UInt8) :: (58 : UInt8) :: nilL UInt8)))))) (7 : Nat) (0 : Int) :: nilL Int) (Int.toNat (IntKind.wrap IntKind.i64 ((8 : Int) - (↑(List.length (Go.Ad.side1 (Go.Proofs.YtkimpfoimblhjaaDoor.Lb.cut2 x.fst
  (ByteArray.mk (List.toArray ((58 : UInt8) :: (58 : UInt8) :: nilL UInt8)))))) : Int)))) (Int.toNat (↑(8 : Nat) : Int) - Int.toNat (IntKind.wrap IntKind.i64 ((8 : Int) - (↑(List.length (Go.Ad.side1
  (Go.Proofs.YtkimpfoimblhjaaDoor.Lb.cut2 x.fst (ByteArray.mk (List.toArray ((58 : UInt8) :: (58 : UInt8) :: nilL UInt8)))))) : Int)))) (Go.Ad.side1 (Go.Proofs.YtkimpfoimblhjaaDoor.Lb.cut2 x.fst (ByteArray.mk
  (List.toArray ((58 : UInt8) :: (58 : UInt8) :: nilL UInt8)))))) (3 : Nat) (0 : Int), List.getD (cpL (List.getD (cpL ((0 : Int) :: (0 : Int) :: (0 : Int) :: (0 : Int) :: (0 : Int) :: (0 : Int) :: (0 : Int) :: (0 : Int)
  :: nilL Int) (Int.toNat (0 : Int)) (Int.toNat (↑(8 : Nat) : Int) - Int.toNat (0 : Int)) (Go.Ad.side1 (Go.Proofs.YtkimpfoimblhjaaDoor.Lb.cut1 x.fst (ByteArray.mk (List.toArray ((58 : UInt8) :: (58 : UInt8) :: nilL
  UInt8)))))) (0 : Nat) (0 : Int) :: List.getD (cpL ((0 : Int) :: (0 : Int) :: (0 : Int) :: (0 : Int) :: (0 : Int) :: (0 : Int) :: (0 : Int) :: (0 : Int) :: nilL Int) (Int.toNat (0 : Int)) (Int.toNat (↑(8 : Nat) : Int) -
  Int.toNat (0 : Int)) (Go.Ad.side1 (Go.Proofs.YtkimpfoimblhjaaDoor.Lb.cut1 x.fst (ByteArray.mk (List.toArray ((58 : UInt8) :: (58 : UInt8) :: nilL UInt8)))))) (1 : Nat) (0 : Int) :: List.getD (cpL ((0 : Int) :: (0 : Int)
  :: (0 : Int) :: (0 : Int) :: (0 : Int) :: (0 : Int) :: (0 : Int) :: (0 : Int) :: nilL Int) (Int.toNat (0 : Int)) (Int.toNat (↑(8 : Nat) : Int) - Int.toNat (0 : Int)) (Go.Ad.side1 (Go.Proofs.YtkimpfoimblhjaaDoor.Lb.cut1
  x.fst (ByteArray.mk (List.toArray ((58 : UInt8) :: (58 : UInt8) :: nilL UInt8)))))) (2 : Nat) (0 : Int) :: List.getD (cpL ((0 : Int) :: (0 : Int) :: (0 : Int) :: (0 : Int) :: (0 : Int) :: (0 : Int) :: (0 : Int) :: (0 :
  Int) :: nilL Int) (Int.toNat (0 : Int)) (Int.toNat (↑(8 : Nat) : Int) - Int.toNat (0 : Int)) (Go.Ad.side1 (Go.Proofs.YtkimpfoimblhjaaDoor.Lb.cut1 x.fst (ByteArray.mk (List.toArray ((58 : UInt8) :: (58 : UInt8) :: nilL
  UInt8)))))) (3 : Nat) (0 : Int) :: List.getD (cpL ((0 : Int) :: (0 : Int) :: (0 : Int) :: (0 : Int) :: (0 : Int) :: (0 : Int) :: (0 : Int) :: (0 : Int) :: nilL Int) (Int.toNat (0 : Int)) (Int.toNat (↑(8 : Nat) : Int) -
  Int.toNat (0 : Int)) (Go.Ad.side1 (Go.Proofs.YtkimpfoimblhjaaDoor.Lb.cut1 x.fst (ByteArray.mk (List.toArray ((58 : UInt8) :: (58 : UInt8) :: nilL UInt8)))))) (4 : Nat) (0 : Int) :: List.getD (cpL ((0 : Int) :: (0 : Int)
  :: (0 : Int) :: (0 : Int) :: (0 : Int) :: (0 : Int) :: (0 : Int) :: (0 : Int) :: nilL Int) (Int.toNat (0 : Int)) (Int.toNat (↑(8 : Nat) : Int) - Int.toNat (0 : Int)) (Go.Ad.side1 (Go.Proofs.YtkimpfoimblhjaaDoor.Lb.cut1
  x.fst (ByteArray.mk (List.toArray ((58 : UInt8) :: (58 : UInt8) :: nilL UInt8)))))) (5 : Nat) (0 : Int) :: List.getD (cpL ((0 : Int) :: (0 : Int) :: (0 : Int) :: (0 : Int) :: (0 : Int) :: (0 : Int) :: (0 : Int) :: (0 :
  Int) :: nilL Int) (Int.toNat (0 : Int)) (Int.toNat (↑(8 : Nat) : Int) - Int.toNat (0 : Int)) (Go.Ad.side1 (Go.Proofs.YtkimpfoimblhjaaDoor.Lb.cut1 x.fst (ByteArray.mk (List.toArray ((58 : UInt8) :: (58 : UInt8) :: nilL
  UInt8)))))) (6 : Nat) (0 : Int) :: List.getD (cpL ((0 : Int) :: (0 : Int) :: (0 : Int) :: (0 : Int) :: (0 : Int) :: (0 : Int) :: (0 : Int) :: (0 : Int) :: nilL Int) (Int.toNat (0 : Int)) (Int.toNat (↑(8 : Nat) : Int) -
  Int.toNat (0 : Int)) (Go.Ad.side1 (Go.Proofs.YtkimpfoimblhjaaDoor.Lb.cut1 x.fst (ByteArray.mk (List.toArray ((58 : UInt8) :: (58 : UInt8) :: nilL UInt8)))))) (7 : Nat) (0 : Int) :: nilL Int) (Int.toNat (IntKind.wrap
  IntKind.i64 ((8 : Int) - (↑(List.length (Go.Ad.side1 (Go.Proofs.YtkimpfoimblhjaaDoor.Lb.cut2 x.fst (ByteArray.mk (List.toArray ((58 : UInt8) :: (58 : UInt8) :: nilL UInt8)))))) : Int)))) (Int.toNat (↑(8 : Nat) : Int) -
  Int.toNat (IntKind.wrap IntKind.i64 ((8 : Int) - (↑(List.length (Go.Ad.side1 (Go.Proofs.YtkimpfoimblhjaaDoor.Lb.cut2 x.fst (ByteArray.mk (List.toArray ((58 : UInt8) :: (58 : UInt8) :: nilL UInt8)))))) : Int))))
  (Go.Ad.side1 (Go.Proofs.YtkimpfoimblhjaaDoor.Lb.cut2 x.fst (ByteArray.mk (List.toArray ((58 : UInt8) :: (58 : UInt8) :: nilL UInt8)))))) (4 : Nat) (0 : Int), List.getD (cpL (List.getD (cpL ((0 : Int) :: (0 : Int) :: (0
  : Int) :: (0 : Int) :: (0 : Int) :: (0 : Int) :: (0 : Int) :: (0 : Int) :: nilL Int) (Int.toNat (0 : Int)) (Int.toNat (↑(8 : Nat) : Int) - Int.toNat (0 : Int)) (Go.Ad.side1 (Go.Proofs.YtkimpfoimblhjaaDoor.Lb.cut1 x.fst
  (ByteArray.mk (List.toArray ((58 : UInt8) :: (58 : UInt8) :: nilL UInt8)))))) (0 : Nat) (0 : Int) :: List.getD (cpL ((0 : Int) :: (0 : Int) :: (0 : Int) :: (0 : Int) :: (0 : Int) :: (0 : Int) :: (0 : Int) :: (0 : Int)
  :: nilL Int) (Int.toNat (0 : Int)) (Int.toNat (↑(8 : Nat) : Int) - Int.toNat (0 : Int)) (Go.Ad.side1 (Go.Proofs.YtkimpfoimblhjaaDoor.Lb.cut1 x.fst (ByteArray.mk (List.toArray ((58 : UInt8) :: (58 : UInt8) :: nilL
  UInt8)))))) (1 : Nat) (0 : Int) :: List.getD (cpL ((0 : Int) :: (0 : Int) :: (0 : Int) :: (0 : Int) :: (0 : Int) :: (0 : Int) :: (0 : Int) :: (0 : Int) :: nilL Int) (Int.toNat (0 : Int)) (Int.toNat (↑(8 : Nat) : Int) -
  Int.toNat (0 : Int)) (Go.Ad.side1 (Go.Proofs.YtkimpfoimblhjaaDoor.Lb.cut1 x.fst (ByteArray.mk (List.toArray ((58 : UInt8) :: (58 : UInt8) :: nilL UInt8)))))) (2 : Nat) (0 : Int) :: List.getD (cpL ((0 : Int) :: (0 : Int)
  :: (0 : Int) :: (0 : Int) :: (0 : Int) :: (0 : Int) :: (0 : Int) :: (0 : Int) :: nilL Int) (Int.toNat (0 : Int)) (Int.toNat (↑(8 : Nat) : Int) - Int.toNat (0 : Int)) (Go.Ad.side1 (Go.Proofs.YtkimpfoimblhjaaDoor.Lb.cut1
  x.fst (ByteArray.mk (List.toArray ((58 : UInt8) :: (58 : UInt8) :: nilL UInt8)))))) (3 : Nat) (0 : Int) :: List.getD (cpL ((0 : Int) :: (0 : Int) :: (0 : Int) :: (0 : Int) :: (0 : Int) :: (0 : Int) :: (0 : Int) :: (0 :
  Int) :: nilL Int) (Int.toNat (0 : Int)) (Int.toNat (↑(8 : Nat) : Int) - Int.toNat (0 : Int)) (Go.Ad.side1 (Go.Proofs.YtkimpfoimblhjaaDoor.Lb.cut1 x.fst (ByteArray.mk (List.toArray ((58 : UInt8) :: (58 : UInt8) :: nilL
  UInt8)))))) (4 : Nat) (0 : Int) :: List.getD (cpL ((0 : Int) :: (0 : Int) :: (0 : Int) :: (0 : Int) :: (0 : Int) :: (0 : Int) :: (0 : Int) :: (0 : Int) :: nilL Int) (Int.toNat (0 : Int)) (Int.toNat (↑(8 : Nat) : Int) -
  Int.toNat (0 : Int)) (Go.Ad.side1 (Go.Proofs.YtkimpfoimblhjaaDoor.Lb.cut1 x.fst (ByteArray.mk (List.toArray ((58 : UInt8) :: (58 : UInt8) :: nilL UInt8)))))) (5 : Nat) (0 : Int) :: List.getD (cpL ((0 : Int) :: (0 : Int)
  :: (0 : Int) :: (0 : Int) :: (0 : Int) :: (0 : Int) :: (0 : Int) :: (0 : Int) :: nilL Int) (Int.toNat (0 : Int)) (Int.toNat (↑(8 : Nat) : Int) - Int.toNat (0 : Int)) (Go.Ad.side1 (Go.Proofs.YtkimpfoimblhjaaDoor.Lb.cut1
  x.fst (ByteArray.mk (List.toArray ((58 : UInt8) :: (58 : UInt8) :: nilL UInt8)))))) (6 : Nat) (0 : Int) :: List.getD (cpL ((0 : Int) :: (0 : Int) :: (0 : Int) :: (0 : Int) :: (0 : Int) :: (0 : Int) :: (0 : Int) :: (0 :
  Int) :: nilL Int) (Int.toNat (0 : Int)) (Int.toNat (↑(8 : Nat) : Int) - Int.toNat (0 : Int)) (Go.Ad.side1 (Go.Proofs.YtkimpfoimblhjaaDoor.Lb.cut1 x.fst (ByteArray.mk (List.toArray ((58 : UInt8) :: (58 : UInt8) :: nilL
  UInt8)))))) (7 : Nat) (0 : Int) :: nilL Int) (Int.toNat (IntKind.wrap IntKind.i64 ((8 : Int) - (↑(List.length (Go.Ad.side1 (Go.Proofs.YtkimpfoimblhjaaDoor.Lb.cut2 x.fst (ByteArray.mk (List.toArray ((58 : UInt8) :: (58 :
  UInt8) :: nilL UInt8)))))) : Int)))) (Int.toNat (↑(8 : Nat) : Int) - Int.toNat (IntKind.wrap IntKind.i64 ((8 : Int) - (↑(List.length (Go.Ad.side1 (Go.Proofs.YtkimpfoimblhjaaDoor.Lb.cut2 x.fst (ByteArray.mk (List.toArray
  ((58 : UInt8) :: (58 : UInt8) :: nilL UInt8)))))) : Int)))) (Go.Ad.side1 (Go.Proofs.YtkimpfoimblhjaaDoor.Lb.cut2 x.fst (ByteArray.mk (List.toArray ((58 : UInt8) :: (58 : UInt8) :: nilL UInt8)))))) (5 : Nat) (0 : Int),
  List.getD (cpL (List.getD (cpL ((0 : Int) :: (0 : Int) :: (0 : Int) :: (0 : Int) :: (0 : Int) :: (0 : Int) :: (0 : Int) :: (0 : Int) :: nilL Int) (Int.toNat (0 : Int)) (Int.toNat (↑(8 : Nat) : Int) - Int.toNat (0 :
  Int)) (Go.Ad.side1 (Go.Proofs.YtkimpfoimblhjaaDoor.Lb.cut1 x.fst (ByteArray.mk (List.toArray ((58 : UInt8) :: (58 : UInt8) :: nilL UInt8)))))) (0 : Nat) (0 : Int) :: List.getD (cpL ((0 : Int) :: (0 : Int) :: (0 : Int)
  :: (0 : Int) :: (0 : Int) :: (0 : Int) :: (0 : Int) :: (0 : Int) :: nilL Int) (Int.toNat (0 : Int)) (Int.toNat (↑(8 : Nat) : Int) - Int.toNat (0 : Int)) (Go.Ad.side1 (Go.Proofs.YtkimpfoimblhjaaDoor.Lb.cut1 x.fst
  (ByteArray.mk (List.toArray ((58 : UInt8) :: (58 : UInt8) :: nilL UInt8)))))) (1 : Nat) (0 : Int) :: List.getD (cpL ((0 : Int) :: (0 : Int) :: (0 : Int) :: (0 : Int) :: (0 : Int) :: (0 : Int) :: (0 : Int) :: (0 : Int)
  :: nilL Int) (Int.toNat (0 : Int)) (Int.toNat (↑(8 : Nat) : Int) - Int.toNat (0 : Int)) (Go.Ad.side1 (Go.Proofs.YtkimpfoimblhjaaDoor.Lb.cut1 x.fst (ByteArray.mk (List.toArray ((58 : UInt8) :: (58 : UInt8) :: nilL
  UInt8)))))) (2 : Nat) (0 : Int) :: List.getD (cpL ((0 : Int) :: (0 : Int) :: (0 : Int) :: (0 : Int) :: (0 : Int) :: (0 : Int) :: (0 : Int) :: (0 : Int) :: nilL Int) (Int.toNat (0 : Int)) (Int.toNat (↑(8 : Nat) : Int) -
  Int.toNat (0 : Int)) (Go.Ad.side1 (Go.Proofs.YtkimpfoimblhjaaDoor.Lb.cut1 x.fst (ByteArray.mk (List.toArray ((58 : UInt8) :: (58 : UInt8) :: nilL UInt8)))))) (3 : Nat) (0 : Int) :: List.getD (cpL ((0 : Int) :: (0 : Int)
  :: (0 : Int) :: (0 : Int) :: (0 : Int) :: (0 : Int) :: (0 : Int) :: (0 : Int) :: nilL Int) (Int.toNat (0 : Int)) (Int.toNat (↑(8 : Nat) : Int) - Int.toNat (0 : Int)) (Go.Ad.side1 (Go.Proofs.YtkimpfoimblhjaaDoor.Lb.cut1
  x.fst (ByteArray.mk (List.toArray ((58 : UInt8) :: (58 : UInt8) :: nilL UInt8)))))) (4 : Nat) (0 : Int) :: List.getD (cpL ((0 : Int) :: (0 : Int) :: (0 : Int) :: (0 : Int) :: (0 : Int) :: (0 : Int) :: (0 : Int) :: (0 :
  Int) :: nilL Int) (Int.toNat (0 : Int)) (Int.toNat (↑(8 : Nat) : Int) - Int.toNat (0 : Int)) (Go.Ad.side1 (Go.Proofs.YtkimpfoimblhjaaDoor.Lb.cut1 x.fst (ByteArray.mk (List.toArray ((58 : UInt8) :: (58 : UInt8) :: nilL
  UInt8)))))) (5 : Nat) (0 : Int) :: List.getD (cpL ((0 : Int) :: (0 : Int) :: (0 : Int) :: (0 : Int) :: (0 : Int) :: (0 : Int) :: (0 : Int) :: (0 : Int) :: nilL Int) (Int.toNat (0 : Int)) (Int.toNat (↑(8 : Nat) : Int) -
  Int.toNat (0 : Int)) (Go.Ad.side1 (Go.Proofs.YtkimpfoimblhjaaDoor.Lb.cut1 x.fst (ByteArray.mk (List.toArray ((58 : UInt8) :: (58 : UInt8) :: nilL UInt8)))))) (6 : Nat) (0 : Int) :: List.getD (cpL ((0 : Int) :: (0 : Int)
  :: (0 : Int) :: (0 : Int) :: (0 : Int) :: (0 : Int) :: (0 : Int) :: (0 : Int) :: nilL Int) (Int.toNat (0 : Int)) (Int.toNat (↑(8 : Nat) : Int) - Int.toNat (0 : Int)) (Go.Ad.side1 (Go.Proofs.YtkimpfoimblhjaaDoor.Lb.cut1
  x.fst (ByteArray.mk (List.toArray ((58 : UInt8) :: (58 : UInt8) :: nilL UInt8)))))) (7 : Nat) (0 : Int) :: nilL Int) (Int.toNat (IntKind.wrap IntKind.i64 ((8 : Int) - (↑(List.length (Go.Ad.side1
  (Go.Proofs.YtkimpfoimblhjaaDoor.Lb.cut2 x.fst (ByteArray.mk (List.toArray ((58 : UInt8) :: (58 : UInt8) :: nilL UInt8)))))) : Int)))) (Int.toNat (↑(8 : Nat) : Int) - Int.toNat (IntKind.wrap IntKind.i64 ((8 : Int) -
  (↑(List.length (Go.Ad.side1 (Go.Proofs.YtkimpfoimblhjaaDoor.Lb.cut2 x.fst (ByteArray.mk (List.toArray ((58 : UInt8) :: (58 : UInt8) :: nilL UInt8)))))) : Int)))) (Go.Ad.side1 (Go.Proofs.YtkimpfoimblhjaaDoor.Lb.cut2
  x.fst (ByteArray.mk (List.toArray ((58 : UInt8) :: (58 : UInt8) :: nilL UInt8)))))) (6 : Nat) (0 : Int), List.getD (cpL (List.getD (cpL ((0 : Int) :: (0 : Int) :: (0 : Int) :: (0 : Int) :: (0 : Int) :: (0 : Int) :: (0 :
  Int) :: (0 : Int) :: nilL Int) (Int.toNat (0 : Int)) (Int.toNat (↑(8 : Nat) : Int) - Int.toNat (0 : Int)) (Go.Ad.side1 (Go.Proofs.YtkimpfoimblhjaaDoor.Lb.cut1 x.fst (ByteArray.mk (List.toArray ((58 : UInt8) :: (58 :
  UInt8) :: nilL UInt8)))))) (0 : Nat) (0 : Int) :: List.getD (cpL ((0 : Int) :: (0 : Int) :: (0 : Int) :: (0 : Int) :: (0 : Int) :: (0 : Int) :: (0 : Int) :: (0 : Int) :: nilL Int) (Int.toNat (0 : Int)) (Int.toNat (↑(8 :
  Nat) : Int) - Int.toNat (0 : Int)) (Go.Ad.side1 (Go.Proofs.YtkimpfoimblhjaaDoor.Lb.cut1 x.fst (ByteArray.mk (List.toArray ((58 : UInt8) :: (58 : UInt8) :: nilL UInt8)))))) (1 : Nat) (0 : Int) :: List.getD (cpL ((0 :
  Int) :: (0 : Int) :: (0 : Int) :: (0 : Int) :: (0 : Int) :: (0 : Int) :: (0 : Int) :: (0 : Int) :: nilL Int) (Int.toNat (0 : Int)) (Int.toNat (↑(8 : Nat) : Int) - Int.toNat (0 : Int)) (Go.Ad.side1
  (Go.Proofs.YtkimpfoimblhjaaDoor.Lb.cut1 x.fst (ByteArray.mk (List.toArray ((58 : UInt8) :: (58 : UInt8) :: nilL UInt8)))))) (2 : Nat) (0 : Int) :: List.getD (cpL ((0 : Int) :: (0 : Int) :: (0 : Int) :: (0 : Int) :: (0 :
  Int) :: (0 : Int) :: (0 : Int) :: (0 : Int) :: nilL Int) (Int.toNat (0 : Int)) (Int.toNat (↑(8 : Nat) : Int) - Int.toNat (0 : Int)) (Go.Ad.side1 (Go.Proofs.YtkimpfoimblhjaaDoor.Lb.cut1 x.fst (ByteArray.mk (List.toArray
  ((58 : UInt8) :: (58 : UInt8) :: nilL UInt8)))))) (3 : Nat) (0 : Int) :: List.getD (cpL ((0 : Int) :: (0 : Int) :: (0 : Int) :: (0 : Int) :: (0 : Int) :: (0 : Int) :: (0 : Int) :: (0 : Int) :: nilL Int) (Int.toNat (0 :
  Int)) (Int.toNat (↑(8 : Nat) : Int) - Int.toNat (0 : Int)) (Go.Ad.side1 (Go.Proofs.YtkimpfoimblhjaaDoor.Lb.cut1 x.fst (ByteArray.mk (List.toArray ((58 : UInt8) :: (58 : UInt8) :: nilL UInt8)))))) (4 : Nat) (0 : Int) ::
  List.getD (cpL ((0 : Int) :: (0 : Int) :: (0 : Int) :: (0 : Int) :: (0 : Int) :: (0 : Int) :: (0 : Int) :: (0 : Int) :: nilL Int) (Int.toNat (0 : Int)) (Int.toNat (↑(8 : Nat) : Int) - Int.toNat (0 : Int)) (Go.Ad.side1
  (Go.Proofs.YtkimpfoimblhjaaDoor.Lb.cut1 x.fst (ByteArray.mk (List.toArray ((58 : UInt8) :: (58 : UInt8) :: nilL UInt8)))))) (5 : Nat) (0 : Int) :: List.getD (cpL ((0 : Int) :: (0 : Int) :: (0 : Int) :: (0 : Int) :: (0 :
  Int) :: (0 : Int) :: (0 : Int) :: (0 : Int) :: nilL Int) (Int.toNat (0 : Int)) (Int.toNat (↑(8 : Nat) : Int) - Int.toNat (0 : Int)) (Go.Ad.side1 (Go.Proofs.YtkimpfoimblhjaaDoor.Lb.cut1 x.fst (ByteArray.mk (List.toArray
  ((58 : UInt8) :: (58 : UInt8) :: nilL UInt8)))))) (6 : Nat) (0 : Int) :: List.getD (cpL ((0 : Int) :: (0 : Int) :: (0 : Int) :: (0 : Int) :: (0 : Int) :: (0 : Int) :: (0 : Int) :: (0 : Int) :: nilL Int) (Int.toNat (0 :
  Int)) (Int.toNat (↑(8 : Nat) : Int) - Int.toNat (0 : Int)) (Go.Ad.side1 (Go.Proofs.YtkimpfoimblhjaaDoor.Lb.cut1 x.fst (ByteArray.mk (List.toArray ((58 : UInt8) :: (58 : UInt8) :: nilL UInt8)))))) (7 : Nat) (0 : Int) ::
  nilL Int) (Int.toNat (IntKind.wrap IntKind.i64 ((8 : Int) - (↑(List.length (Go.Ad.side1 (Go.Proofs.YtkimpfoimblhjaaDoor.Lb.cut2 x.fst (ByteArray.mk (List.toArray ((58 : UInt8) :: (58 : UInt8) :: nilL UInt8)))))) :
  Int)))) (Int.toNat (↑(8 : Nat) : Int) - Int.toNat (IntKind.wrap IntKind.i64 ((8 : Int) - (↑(List.length (Go.Ad.side1 (Go.Proofs.YtkimpfoimblhjaaDoor.Lb.cut2 x.fst (ByteArray.mk (List.toArray ((58 : UInt8) :: (58 :
  UInt8) :: nilL UInt8)))))) : Int)))) (Go.Ad.side1 (Go.Proofs.YtkimpfoimblhjaaDoor.Lb.cut2 x.fst (ByteArray.mk (List.toArray ((58 : UInt8) :: (58 : UInt8) :: nilL UInt8)))))) (7 : Nat) (0 : Int), ()), Bool.true, ()) =
  (Go.Ad.six1 x.fst, Go.Ad.six2 x.fst, ()))) (bcase (Go.Proofs.YtkimpfoimblhjaaDoor.Lb.cutOk x.fst (ByteArray.mk (List.toArray ((58 : UInt8) :: (58 : UInt8) :: nilL UInt8))) && Decidable.decide (IntKind.wrap IntKind.i64
  ((↑(List.length (Go.Ad.side1 (Go.Proofs.YtkimpfoimblhjaaDoor.Lb.cut1 x.fst (ByteArray.mk (List.toArray ((58 : UInt8) :: (58 : UInt8) :: nilL UInt8)))))) : Int) + (↑(List.length (Go.Ad.side1
  (Go.Proofs.YtkimpfoimblhjaaDoor.Lb.cut2 x.fst (ByteArray.mk (List.toArray ((58 : UInt8) :: (58 : UInt8) :: nilL UInt8)))))) : Int)) > (7 : Int))) (bcase (Go.Proofs.YtkimpfoimblhjaaDoor.Lb.cutOk x.fst (ByteArray.mk
  (List.toArray ((58 : UInt8) :: (58 : UInt8) :: nilL UInt8))) && Decidable.decide (IntKind.wrap IntKind.i64 ((↑(List.length (Go.Ad.side1 (Go.Proofs.YtkimpfoimblhjaaDoor.Lb.cut1 x.fst (ByteArray.mk (List.toArray ((58 :
  UInt8) :: (58 : UInt8) :: nilL UInt8)))))) : Int) + (↑(List.length (Go.Ad.side1 (Go.Proofs.YtkimpfoimblhjaaDoor.Lb.cut2 x.fst (ByteArray.mk (List.toArray ((58 : UInt8) :: (58 : UInt8) :: nilL UInt8)))))) : Int)) > (7 :
  Int))) ((((0 : Int), (0 : Int), (0 : Int), (0 : Int), (0 : Int), (0 : Int), (0 : Int), (0 : Int), ()), Bool.false, ()) = (Go.Ad.six1 x.fst, Go.Ad.six2 x.fst, ())) (Wr ((0 : Int) ≤ (0 : Int)) ∧ Wr ((0 : Int) ≤ (↑(8 :
  Nat) : Int)) ∧ Wr ((↑(8 : Nat) : Int) ≤ (↑(8 : Nat) : Int)) ∧ Wr ((0 : Int) ≤ IntKind.wrap IntKind.i64 ((8 : Int) - (↑(List.length (Go.Ad.side1 (Go.Proofs.YtkimpfoimblhjaaDoor.Lb.cut2 x.fst (ByteArray.mk (List.toArray
  ((58 : UInt8) :: (58 : UInt8) :: nilL UInt8)))))) : Int))) ∧ Wr (IntKind.wrap IntKind.i64 ((8 : Int) - (↑(List.length (Go.Ad.side1 (Go.Proofs.YtkimpfoimblhjaaDoor.Lb.cut2 x.fst (ByteArray.mk (List.toArray ((58 : UInt8)
  :: (58 : UInt8) :: nilL UInt8)))))) : Int)) ≤ (↑(8 : Nat) : Int)) ∧ Wr ((↑(8 : Nat) : Int) ≤ (↑(8 : Nat) : Int)) ∧ ((List.getD (cpL (List.getD (cpL ((0 : Int) :: (0 : Int) :: (0 : Int) :: (0 : Int) :: (0 : Int) :: (0 :
  Int) :: (0 : Int) :: (0 : Int) :: nilL Int) (Int.toNat (0 : Int)) (Int.toNat (↑(8 : Nat) : Int) - Int.toNat (0 : Int)) (Go.Ad.side1 (Go.Proofs.YtkimpfoimblhjaaDoor.Lb.cut1 x.fst (ByteArray.mk (List.toArray ((58 : UInt8)
  :: (58 : UInt8) :: nilL UInt8)))))) (0 : Nat) (0 : Int) :: List.getD (cpL ((0 : Int) :: (0 : Int) :: (0 : Int) :: (0 : Int) :: (0 : Int) :: (0 : Int) :: (0 : Int) :: (0 : Int) :: nilL Int) (Int.toNat (0 : Int))
  (Int.toNat (↑(8 : Nat) : Int) - Int.toNat (0 : Int)) (Go.Ad.side1 (Go.Proofs.YtkimpfoimblhjaaDoor.Lb.cut1 x.fst (ByteArray.mk (List.toArray ((58 : UInt8) :: (58 : UInt8) :: nilL UInt8)))))) (1 : Nat) (0 : Int) ::
  List.getD (cpL ((0 : Int) :: (0 : Int) :: (0 : Int) :: (0 : Int) :: (0 : Int) :: (0 : Int) :: (0 : Int) :: (0 : Int) :: nilL Int) (Int.toNat (0 : Int)) (Int.toNat (↑(8 : Nat) : Int) - Int.toNat (0 : Int)) (Go.Ad.side1
  (Go.Proofs.YtkimpfoimblhjaaDoor.Lb.cut1 x.fst (ByteArray.mk (List.toArray ((58 : UInt8) :: (58 : UInt8) :: nilL UInt8)))))) (2 : Nat) (0 : Int) :: List.getD (cpL ((0 : Int) :: (0 : Int) :: (0 : Int) :: (0 : Int) :: (0 :
  Int) :: (0 : Int) :: (0 : Int) :: (0 : Int) :: nilL Int) (Int.toNat (0 : Int)) (Int.toNat (↑(8 : Nat) : Int) - Int.toNat (0 : Int)) (Go.Ad.side1 (Go.Proofs.YtkimpfoimblhjaaDoor.Lb.cut1 x.fst (ByteArray.mk (List.toArray
  ((58 : UInt8) :: (58 : UInt8) :: nilL UInt8)))))) (3 : Nat) (0 : Int) :: List.getD (cpL ((0 : Int) :: (0 : Int) :: (0 : Int) :: (0 : Int) :: (0 : Int) :: (0 : Int) :: (0 : Int) :: (0 : Int) :: nilL Int) (Int.toNat (0 :
  Int)) (Int.toNat (↑(8 : Nat) : Int) - Int.toNat (0 : Int)) (Go.Ad.side1 (Go.Proofs.YtkimpfoimblhjaaDoor.Lb.cut1 x.fst (ByteArray.mk (List.toArray ((58 : UInt8) :: (58 : UInt8) :: nilL UInt8)))))) (4 : Nat) (0 : Int) ::
  List.getD (cpL ((0 : Int) :: (0 : Int) :: (0 : Int) :: (0 : Int) :: (0 : Int) :: (0 : Int) :: (0 : Int) :: (0 : Int) :: nilL Int) (Int.toNat (0 : Int)) (Int.toNat (↑(8 : Nat) : Int) - Int.toNat (0 : Int)) (Go.Ad.side1
  (Go.Proofs.YtkimpfoimblhjaaDoor.Lb.cut1 x.fst (ByteArray.mk (List.toArray ((58 : UInt8) :: (58 : UInt8) :: nilL UInt8)))))) (5 : Nat) (0 : Int) :: List.getD (cpL ((0 : Int) :: (0 : Int) :: (0 : Int) :: (0 : Int) :: (0 :
  Int) :: (0 : Int) :: (0 : Int) :: (0 : Int) :: nilL Int) (Int.toNat (0 : Int)) (Int.toNat (↑(8 : Nat) : Int) - Int.toNat (0 : Int)) (Go.Ad.side1 (Go.Proofs.YtkimpfoimblhjaaDoor.Lb.cut1 x.fst (ByteArray.mk (List.toArray
  ((58 : UInt8) :: (58 : UInt8) :: nilL UInt8)))))) (6 : Nat) (0 : Int) :: List.getD (cpL ((0 : Int) :: (0 : Int) :: (0 : Int) :: (0 : Int) :: (0 : Int) :: (0 : Int) :: (0 : Int) :: (0 : Int) :: nilL Int) (Int.toNat (0 :
  Int)) (Int.toNat (↑(8 : Nat) : Int) - Int.toNat (0 : Int)) (Go.Ad.side1 (Go.Proofs.YtkimpfoimblhjaaDoor.Lb.cut1 x.fst (ByteArray.mk (List.toArray ((58 : UInt8) :: (58 : UInt8) :: nilL UInt8)))))) (7 : Nat) (0 : Int) ::
  nilL Int) (Int.toNat (IntKind.wrap IntKind.i64 ((8 : Int) - (↑(List.length (Go.Ad.side1 (Go.Proofs.YtkimpfoimblhjaaDoor.Lb.cut2 x.fst (ByteArray.mk (List.toArray ((58 : UInt8) :: (58 : UInt8) :: nilL UInt8)))))) :
  Int)))) (Int.toNat (↑(8 : Nat) : Int) - Int.toNat (IntKind.wrap IntKind.i64 ((8 : Int) - (↑(List.length (Go.Ad.side1 (Go.Proofs.YtkimpfoimblhjaaDoor.Lb.cut2 x.fst (ByteArray.mk (List.toArray ((58 : UInt8) :: (58 :
  UInt8) :: nilL UInt8)))))) : Int)))) (Go.Ad.side1 (Go.Proofs.YtkimpfoimblhjaaDoor.Lb.cut2 x.fst (ByteArray.mk (List.toArray ((58 : UInt8) :: (58 : UInt8) :: nilL UInt8)))))) (0 : Nat) (0 : Int), List.getD (cpL
  (List.getD (cpL ((0 : Int) :: (0 : Int) :: (0 : Int) :: (0 : Int) :: (0 : Int) :: (0 : Int) :: (0 : Int) :: (0 : Int) :: nilL Int) (Int.toNat (0 : Int)) (Int.toNat (↑(8 : Nat) : Int) - Int.toNat (0 : Int)) (Go.Ad.side1
  (Go.Proofs.YtkimpfoimblhjaaDoor.Lb.cut1 x.fst (ByteArray.mk (List.toArray ((58 : UInt8) :: (58 : UInt8) :: nilL UInt8)))))) (0 : Nat) (0 : Int) :: List.getD (cpL ((0 : Int) :: (0 : Int) :: (0 : Int) :: (0 : Int) :: (0 :
  Int) :: (0 : Int) :: (0 : Int) :: (0 : Int) :: nilL Int) (Int.toNat (0 : Int)) (Int.toNat (↑(8 : Nat) : Int) - Int.toNat (0 : Int)) (Go.Ad.side1 (Go.Proofs.YtkimpfoimblhjaaDoor.Lb.cut1 x.fst (ByteArray.mk (List.toArray
  ((58 : UInt8) :: (58 : UInt8) :: nilL UInt8)))))) (1 : Nat) (0 : Int) :: List.getD (cpL ((0 : Int) :: (0 : Int) :: (0 : Int) :: (0 : Int) :: (0 : Int) :: (0 : Int) :: (0 : Int) :: (0 : Int) :: nilL Int) (Int.toNat (0 :
  Int)) (Int.toNat (↑(8 : Nat) : Int) - Int.toNat (0 : Int)) (Go.Ad.side1 (Go.Proofs.YtkimpfoimblhjaaDoor.Lb.cut1 x.fst (ByteArray.mk (List.toArray ((58 : UInt8) :: (58 : UInt8) :: nilL UInt8)))))) (2 : Nat) (0 : Int) ::
  List.getD (cpL ((0 : Int) :: (0 : Int) :: (0 : Int) :: (0 : Int) :: (0 : Int) :: (0 : Int) :: (0 : Int) :: (0 : Int) :: nilL Int) (Int.toNat (0 : Int)) (Int.toNat (↑(8 : Nat) : Int) - Int.toNat (0 : Int)) (Go.Ad.side1
  (Go.Proofs.YtkimpfoimblhjaaDoor.Lb.cut1 x.fst (ByteArray.mk (List.toArray ((58 : UInt8) :: (58 : UInt8) :: nilL UInt8)))))) (3 : Nat) (0 : Int) :: List.getD (cpL ((0 : Int) :: (0 : Int) :: (0 : Int) :: (0 : Int) :: (0 :
  Int) :: (0 : Int) :: (0 : Int) :: (0 : Int) :: nilL Int) (Int.toNat (0 : Int)) (Int.toNat (↑(8 : Nat) : Int) - Int.toNat (0 : Int)) (Go.Ad.side1 (Go.Proofs.YtkimpfoimblhjaaDoor.Lb.cut1 x.fst (ByteArray.mk (List.toArray
  ((58 : UInt8) :: (58 : UInt8) :: nilL UInt8)))))) (4 : Nat) (0 : Int) :: List.getD (cpL ((0 : Int) :: (0 : Int) :: (0 : Int) :: (0 : Int) :: (0 : Int) :: (0 : Int) :: (0 : Int) :: (0 : Int) :: nilL Int) (Int.toNat (0 :
  Int)) (Int.toNat (↑(8 : Nat) : Int) - Int.toNat (0 : Int)) (Go.Ad.side1 (Go.Proofs.YtkimpfoimblhjaaDoor.Lb.cut1 x.fst (ByteArray.mk (List.toArray ((58 : UInt8) :: (58 : UInt8) :: nilL UInt8)))))) (5 : Nat) (0 : Int) ::
  List.getD (cpL ((0 : Int) :: (0 : Int) :: (0 : Int) :: (0 : Int) :: (0 : Int) :: (0 : Int) :: (0 : Int) :: (0 : Int) :: nilL Int) (Int.toNat (0 : Int)) (Int.toNat (↑(8 : Nat) : Int) - Int.toNat (0 : Int)) (Go.Ad.side1
  (Go.Proofs.YtkimpfoimblhjaaDoor.Lb.cut1 x.fst (ByteArray.mk (List.toArray ((58 : UInt8) :: (58 : UInt8) :: nilL UInt8)))))) (6 : Nat) (0 : Int) :: List.getD (cpL ((0 : Int) :: (0 : Int) :: (0 : Int) :: (0 : Int) :: (0 :
  Int) :: (0 : Int) :: (0 : Int) :: (0 : Int) :: nilL Int) (Int.toNat (0 : Int)) (Int.toNat (↑(8 : Nat) : Int) - Int.toNat (0 : Int)) (Go.Ad.side1 (Go.Proofs.YtkimpfoimblhjaaDoor.Lb.cut1 x.fst (ByteArray.mk (List.toArray
  ((58 : UInt8) :: (58 : UInt8) :: nilL UInt8)))))) (7 : Nat) (0 : Int) :: nilL Int) (Int.toNat (IntKind.wrap IntKind.i64 ((8 : Int) - (↑(List.length (Go.Ad.side1 (Go.Proofs.YtkimpfoimblhjaaDoor.Lb.cut2 x.fst
  (ByteArray.mk (List.toArray ((58 : UInt8) :: (58 : UInt8) :: nilL UInt8)))))) : Int)))) (Int.toNat (↑(8 : Nat) : Int) - Int.toNat (IntKind.wrap IntKind.i64 ((8 : Int) - (↑(List.length (Go.Ad.side1
  (Go.Proofs.YtkimpfoimblhjaaDoor.Lb.cut2 x.fst (ByteArray.mk (List.toArray ((58 : UInt8) :: (58 : UInt8) :: nilL UInt8)))))) : Int)))) (Go.Ad.side1 (Go.Proofs.YtkimpfoimblhjaaDoor.Lb.cut2 x.fst (ByteArray.mk
  (List.toArray ((58 : UInt8) :: (58 : UInt8) :: nilL UInt8)))))) (1 : Nat) (0 : Int), List.getD (cpL (List.getD (cpL ((0 : Int) :: (0 : Int) :: (0 : Int) :: (0 : Int) :: (0 : Int) :: (0 : Int) :: (0 : Int) :: (0 : Int)
  :: nilL Int) (Int.toNat (0 : Int)) (Int.toNat (↑(8 : Nat) : Int) - Int.toNat (0 : Int)) (Go.Ad.side1 (Go.Proofs.YtkimpfoimblhjaaDoor.Lb.cut1 x.fst (ByteArray.mk (List.toArray ((58 : UInt8) :: (58 : UInt8) :: nilL
  UInt8)))))) (0 : Nat) (0 : Int) :: List.getD (cpL ((0 : Int) :: (0 : Int) :: (0 : Int) :: (0 : Int) :: (0 : Int) :: (0 : Int) :: (0 : Int) :: (0 : Int) :: nilL Int) (Int.toNat (0 : Int)) (Int.toNat (↑(8 : Nat) : Int) -
  Int.toNat (0 : Int)) (Go.Ad.side1 (Go.Proofs.YtkimpfoimblhjaaDoor.Lb.cut1 x.fst (ByteArray.mk (List.toArray ((58 : UInt8) :: (58 : UInt8) :: nilL UInt8)))))) (1 : Nat) (0 : Int) :: List.getD (cpL ((0 : Int) :: (0 : Int)
  :: (0 : Int) :: (0 : Int) :: (0 : Int) :: (0 : Int) :: (0 : Int) :: (0 : Int) :: nilL Int) (Int.toNat (0 : Int)) (Int.toNat (↑(8 : Nat) : Int) - Int.toNat (0 : Int)) (Go.Ad.side1 (Go.Proofs.YtkimpfoimblhjaaDoor.Lb.cut1
  x.fst (ByteArray.mk (List.toArray ((58 : UInt8) :: (58 : UInt8) :: nilL UInt8)))))) (2 : Nat) (0 : Int) :: List.getD (cpL ((0 : Int) :: (0 : Int) :: (0 : Int) :: (0 : Int) :: (0 : Int) :: (0 : Int) :: (0 : Int) :: (0 :
  Int) :: nilL Int) (Int.toNat (0 : Int)) (Int.toNat (↑(8 : Nat) : Int) - Int.toNat (0 : Int)) (Go.Ad.side1 (Go.Proofs.YtkimpfoimblhjaaDoor.Lb.cut1 x.fst (ByteArray.mk (List.toArray ((58 : UInt8) :: (58 : UInt8) :: nilL
  UInt8)))))) (3 : Nat) (0 : Int) :: List.getD (cpL ((0 : Int) :: (0 : Int) :: (0 : Int) :: (0 : Int) :: (0 : Int) :: (0 : Int) :: (0 : Int) :: (0 : Int) :: nilL Int) (Int.toNat (0 : Int)) (Int.toNat (↑(8 : Nat) : Int) -
  Int.toNat (0 : Int)) (Go.Ad.side1 (Go.Proofs.YtkimpfoimblhjaaDoor.Lb.cut1 x.fst (ByteArray.mk (List.toArray ((58 : UInt8) :: (58 : UInt8) :: nilL UInt8)))))) (4 : Nat) (0 : Int) :: List.getD (cpL ((0 : Int) :: (0 : Int)
  :: (0 : Int) :: (0 : Int) :: (0 : Int) :: (0 : Int) :: (0 : Int) :: (0 : Int) :: nilL Int) (Int.toNat (0 : Int)) (Int.toNat (↑(8 : Nat) : Int) - Int.toNat (0 : Int)) (Go.Ad.side1 (Go.Proofs.YtkimpfoimblhjaaDoor.Lb.cut1
  x.fst (ByteArray.mk (List.toArray ((58 : UInt8) :: (58 : UInt8) :: nilL UInt8)))))) (5 : Nat) (0 : Int) :: List.getD (cpL ((0 : Int) :: (0 : Int) :: (0 : Int) :: (0 : Int) :: (0 : Int) :: (0 : Int) :: (0 : Int) :: (0 :
  Int) :: nilL Int) (Int.toNat (0 : Int)) (Int.toNat (↑(8 : Nat) : Int) - Int.toNat (0 : Int)) (Go.Ad.side1 (Go.Proofs.YtkimpfoimblhjaaDoor.Lb.cut1 x.fst (ByteArray.mk (List.toArray ((58 : UInt8) :: (58 : UInt8) :: nilL
  UInt8)))))) (6 : Nat) (0 : Int) :: List.getD (cpL ((0 : Int) :: (0 : Int) :: (0 : Int) :: (0 : Int) :: (0 : Int) :: (0 : Int) :: (0 : Int) :: (0 : Int) :: nilL Int) (Int.toNat (0 : Int)) (Int.toNat (↑(8 : Nat) : Int) -
  Int.toNat (0 : Int)) (Go.Ad.side1 (Go.Proofs.YtkimpfoimblhjaaDoor.Lb.cut1 x.fst (ByteArray.mk (List.toArray ((58 : UInt8) :: (58 : UInt8) :: nilL UInt8)))))) (7 : Nat) (0 : Int) :: nilL Int) (Int.toNat (IntKind.wrap
  IntKind.i64 ((8 : Int) - (↑(List.length (Go.Ad.side1 (Go.Proofs.YtkimpfoimblhjaaDoor.Lb.cut2 x.fst (ByteArray.mk (List.toArray ((58 : UInt8) :: (58 : UInt8) :: nilL UInt8)))))) : Int)))) (Int.toNat (↑(8 : Nat) : Int) -
  Int.toNat (IntKind.wrap IntKind.i64 ((8 : Int) - (↑(List.length (Go.Ad.side1 (Go.Proofs.YtkimpfoimblhjaaDoor.Lb.cut2 x.fst (ByteArray.mk (List.toArray ((58 : UInt8) :: (58 : UInt8) :: nilL UInt8)))))) : Int))))
  (Go.Ad.side1 (Go.Proofs.YtkimpfoimblhjaaDoor.Lb.cut2 x.fst (ByteArray.mk (List.toArray ((58 : UInt8) :: (58 : UInt8) :: nilL UInt8)))))) (2 : Nat) (0 : Int), List.getD (cpL (List.getD (cpL ((0 : Int) :: (0 : Int) :: (0
  : Int) :: (0 : Int) :: (0 : Int) :: (0 : Int) :: (0 : Int) :: (0 : Int) :: nilL Int) (Int.toNat (0 : Int)) (Int.toNat (↑(8 : Nat) : Int) - Int.toNat (0 : Int)) (Go.Ad.side1 (Go.Proofs.YtkimpfoimblhjaaDoor.Lb.cut1 x.fst
  (ByteArray.mk (List.toArray ((58 : UInt8) :: (58 : UInt8) :: nilL UInt8)))))) (0 : Nat) (0 : Int) :: List.getD (cpL ((0 : Int) :: (0 : Int) :: (0 : Int) :: (0 : Int) :: (0 : Int) :: (0 : Int) :: (0 : Int) :: (0 : Int)
  :: nilL Int) (Int.toNat (0 : Int)) (Int.toNat (↑(8 : Nat) : Int) - Int.toNat (0 : Int)) (Go.Ad.side1 (Go.Proofs.YtkimpfoimblhjaaDoor.Lb.cut1 x.fst (ByteArray.mk (List.toArray ((58 : UInt8) :: (58 : UInt8) :: nilL
  UInt8)))))) (1 : Nat) (0 : Int) :: List.getD (cpL ((0 : Int) :: (0 : Int) :: (0 : Int) :: (0 : Int) :: (0 : Int) :: (0 : Int) :: (0 : Int) :: (0 : Int) :: nilL Int) (Int.toNat (0 : Int)) (Int.toNat (↑(8 : Nat) : Int) -
  Int.toNat (0 : Int)) (Go.Ad.side1 (Go.Proofs.YtkimpfoimblhjaaDoor.Lb.cut1 x.fst (ByteArray.mk (List.toArray ((58 : UInt8) :: (58 : UInt8) :: nilL UInt8)))))) (2 : Nat) (0 : Int) :: List.getD (cpL ((0 : Int) :: (0 : Int)
  :: (0 : Int) :: (0 : Int) :: (0 : Int) :: (0 : Int) :: (0 : Int) :: (0 : Int) :: nilL Int) (Int.toNat (0 : Int)) (Int.toNat (↑(8 : Nat) : Int) - Int.toNat (0 : Int)) (Go.Ad.side1 (Go.Proofs.YtkimpfoimblhjaaDoor.Lb.cut1
  x.fst (ByteArray.mk (List.toArray ((58 : UInt8) :: (58 : UInt8) :: nilL UInt8)))))) (3 : Nat) (0 : Int) :: List.getD (cpL ((0 : Int) :: (0 : Int) :: (0 : Int) :: (0 : Int) :: (0 : Int) :: (0 : Int) :: (0 : Int) :: (0 :
  Int) :: nilL Int) (Int.toNat (0 : Int)) (Int.toNat (↑(8 : Nat) : Int) - Int.toNat (0 : Int)) (Go.Ad.side1 (Go.Proofs.YtkimpfoimblhjaaDoor.Lb.cut1 x.fst (ByteArray.mk (List.toArray ((58 : UInt8) :: (58 : UInt8) :: nilL
  UInt8)))))) (4 : Nat) (0 : Int) :: List.getD (cpL ((0 : Int) :: (0 : Int) :: (0 : Int) :: (0 : Int) :: (0 : Int) :: (0 : Int) :: (0 : Int) :: (0 : Int) :: nilL Int) (Int.toNat (0 : Int)) (Int.toNat (↑(8 : Nat) : Int) -
  Int.toNat (0 : Int)) (Go.Ad.side1 (Go.Proofs.YtkimpfoimblhjaaDoor.Lb.cut1 x.fst (ByteArray.mk (List.toArray ((58 : UInt8) :: (58 : UInt8) :: nilL UInt8)))))) (5 : Nat) (0 : Int) :: List.getD (cpL ((0 : Int) :: (0 : Int)
  :: (0 : Int) :: (0 : Int) :: (0 : Int) :: (0 : Int) :: (0 : Int) :: (0 : Int) :: nilL Int) (Int.toNat (0 : Int)) (Int.toNat (↑(8 : Nat) : Int) - Int.toNat (0 : Int)) (Go.Ad.side1 (Go.Proofs.YtkimpfoimblhjaaDoor.Lb.cut1
  x.fst (ByteArray.mk (List.toArray ((58 : UInt8) :: (58 : UInt8) :: nilL UInt8)))))) (6 : Nat) (0 : Int) :: List.getD (cpL ((0 : Int) :: (0 : Int) :: (0 : Int) :: (0 : Int) :: (0 : Int) :: (0 : Int) :: (0 : Int) :: (0 :
  Int) :: nilL Int) (Int.toNat (0 : Int)) (Int.toNat (↑(8 : Nat) : Int) - Int.toNat (0 : Int)) (Go.Ad.side1 (Go.Proofs.YtkimpfoimblhjaaDoor.Lb.cut1 x.fst (ByteArray.mk (List.toArray ((58 : UInt8) :: (58 : UInt8) :: nilL
  UInt8)))))) (7 : Nat) (0 : Int) :: nilL Int) (Int.toNat (IntKind.wrap IntKind.i64 ((8 : Int) - (↑(List.length (Go.Ad.side1 (Go.Proofs.YtkimpfoimblhjaaDoor.Lb.cut2 x.fst (ByteArray.mk (List.toArray ((58 : UInt8) :: (58 :
  UInt8) :: nilL UInt8)))))) : Int)))) (Int.toNat (↑(8 : Nat) : Int) - Int.toNat (IntKind.wrap IntKind.i64 ((8 : Int) - (↑(List.length (Go.Ad.side1 (Go.Proofs.YtkimpfoimblhjaaDoor.Lb.cut2 x.fst (ByteArray.mk (List.toArray
  ((58 : UInt8) :: (58 : UInt8) :: nilL UInt8)))))) : Int)))) (Go.Ad.side1 (Go.Proofs.YtkimpfoimblhjaaDoor.Lb.cut2 x.fst (ByteArray.mk (List.toArray ((58 : UInt8) :: (58 : UInt8) :: nilL UInt8)))))) (3 : Nat) (0 : Int),
  List.getD (cpL (List.getD (cpL ((0 : Int) :: (0 : Int) :: (0 : Int) :: (0 : Int) :: (0 : Int) :: (0 : Int) :: (0 : Int) :: (0 : Int) :: nilL Int) (Int.toNat (0 : Int)) (Int.toNat (↑(8 : Nat) : Int) - Int.toNat (0 :
  Int)) (Go.Ad.side1 (Go.Proofs.YtkimpfoimblhjaaDoor.Lb.cut1 x.fst (ByteArray.mk (List.toArray ((58 : UInt8) :: (58 : UInt8) :: nilL UInt8)))))) (0 : Nat) (0 : Int) :: List.getD (cpL ((0 : Int) :: (0 : Int) :: (0 : Int)
  :: (0 : Int) :: (0 : Int) :: (0 : Int) :: (0 : Int) :: (0 : Int) :: nilL Int) (Int.toNat (0 : Int)) (Int.toNat (↑(8 : Nat) : Int) - Int.toNat (0 : Int)) (Go.Ad.side1 (Go.Proofs.YtkimpfoimblhjaaDoor.Lb.cut1 x.fst
  (ByteArray.mk (List.toArray ((58 : UInt8) :: (58 : UInt8) :: nilL UInt8)))))) (1 : Nat) (0 : Int) :: List.getD (cpL ((0 : Int) :: (0 : Int) :: (0 : Int) :: (0 : Int) :: (0 : Int) :: (0 : Int) :: (0 : Int) :: (0 : Int)
  :: nilL Int) (Int.toNat (0 : Int)) (Int.toNat (↑(8 : Nat) : Int) - Int.toNat (0 : Int)) (Go.Ad.side1 (Go.Proofs.YtkimpfoimblhjaaDoor.Lb.cut1 x.fst (ByteArray.mk (List.toArray ((58 : UInt8) :: (58 : UInt8) :: nilL
  UInt8)))))) (2 : Nat) (0 : Int) :: List.getD (cpL ((0 : Int) :: (0 : Int) :: (0 : Int) :: (0 : Int) :: (0 : Int) :: (0 : Int) :: (0 : Int) :: (0 : Int) :: nilL Int) (Int.toNat (0 : Int)) (Int.toNat (↑(8 : Nat) : Int) -
  Int.toNat (0 : Int)) (Go.Ad.side1 (Go.Proofs.YtkimpfoimblhjaaDoor.Lb.cut1 x.fst (ByteArray.mk (List.toArray ((58 : UInt8) :: (58 : UInt8) :: nilL UInt8)))))) (3 : Nat) (0 : Int) :: List.getD (cpL ((0 : Int) :: (0 : Int)
  :: (0 : Int) :: (0 : Int) :: (0 : Int) :: (0 : Int) :: (0 : Int) :: (0 : Int) :: nilL Int) (Int.toNat (0 : Int)) (Int.toNat (↑(8 : Nat) : Int) - Int.toNat (0 : Int)) (Go.Ad.side1 (Go.Proofs.YtkimpfoimblhjaaDoor.Lb.cut1
  x.fst (ByteArray.mk (List.toArray ((58 : UInt8) :: (58 : UInt8) :: nilL UInt8)))))) (4 : Nat) (0 : Int) :: List.getD (cpL ((0 : Int) :: (0 : Int) :: (0 : Int) :: (0 : Int) :: (0 : Int) :: (0 : Int) :: (0 : Int) :: (0 :
  Int) :: nilL Int) (Int.toNat (0 : Int)) (Int.toNat (↑(8 : Nat) : Int) - Int.toNat (0 : Int)) (Go.Ad.side1 (Go.Proofs.YtkimpfoimblhjaaDoor.Lb.cut1 x.fst (ByteArray.mk (List.toArray ((58 : UInt8) :: (58 : UInt8) :: nilL
  UInt8)))))) (5 : Nat) (0 : Int) :: List.getD (cpL ((0 : Int) :: (0 : Int) :: (0 : Int) :: (0 : Int) :: (0 : Int) :: (0 : Int) :: (0 : Int) :: (0 : Int) :: nilL Int) (Int.toNat (0 : Int)) (Int.toNat (↑(8 : Nat) : Int) -
  Int.toNat (0 : Int)) (Go.Ad.side1 (Go.Proofs.YtkimpfoimblhjaaDoor.Lb.cut1 x.fst (ByteArray.mk (List.toArray ((58 : UInt8) :: (58 : UInt8) :: nilL UInt8)))))) (6 : Nat) (0 : Int) :: List.getD (cpL ((0 : Int) :: (0 : Int)
  :: (0 : Int) :: (0 : Int) :: (0 : Int) :: (0 : Int) :: (0 : Int) :: (0 : Int) :: nilL Int) (Int.toNat (0 : Int)) (Int.toNat (↑(8 : Nat) : Int) - Int.toNat (0 : Int)) (Go.Ad.side1 (Go.Proofs.YtkimpfoimblhjaaDoor.Lb.cut1
  x.fst (ByteArray.mk (List.toArray ((58 : UInt8) :: (58 : UInt8) :: nilL UInt8)))))) (7 : Nat) (0 : Int) :: nilL Int) (Int.toNat (IntKind.wrap IntKind.i64 ((8 : Int) - (↑(List.length (Go.Ad.side1
  (Go.Proofs.YtkimpfoimblhjaaDoor.Lb.cut2 x.fst (ByteArray.mk (List.toArray ((58 : UInt8) :: (58 : UInt8) :: nilL UInt8)))))) : Int)))) (Int.toNat (↑(8 : Nat) : Int) - Int.toNat (IntKind.wrap IntKind.i64 ((8 : Int) -
  (↑(List.length (Go.Ad.side1 (Go.Proofs.YtkimpfoimblhjaaDoor.Lb.cut2 x.fst (ByteArray.mk (List.toArray ((58 : UInt8) :: (58 : UInt8) :: nilL UInt8)))))) : Int)))) (Go.Ad.side1 (Go.Proofs.YtkimpfoimblhjaaDoor.Lb.cut2
  x.fst (ByteArray.mk (List.toArray ((58 : UInt8) :: (58 : UInt8) :: nilL UInt8)))))) (4 : Nat) (0 : Int), List.getD (cpL (List.getD (cpL ((0 : Int) :: (0 : Int) :: (0 : Int) :: (0 : Int) :: (0 : Int) :: (0 : Int) :: (0 :
  Int) :: (0 : Int) :: nilL Int) (Int.toNat (0 : Int)) (Int.toNat (↑(8 : Nat) : Int) - Int.toNat (0 : Int)) (Go.Ad.side1 (Go.Proofs.YtkimpfoimblhjaaDoor.Lb.cut1 x.fst (ByteArray.mk (List.toArray ((58 : UInt8) :: (58 :
  UInt8) :: nilL UInt8)))))) (0 : Nat) (0 : Int) :: List.getD (cpL ((0 : Int) :: (0 : Int) :: (0 : Int) :: (0 : Int) :: (0 : Int) :: (0 : Int) :: (0 : Int) :: (0 : Int) :: nilL Int) (Int.toNat (0 : Int)) (Int.toNat (↑(8 :
  Nat) : Int) - Int.toNat (0 : Int)) (Go.Ad.side1 (Go.Proofs.YtkimpfoimblhjaaDoor.Lb.cut1 x.fst (ByteArray.mk (List.toArray ((58 : UInt8) :: (58 : UInt8) :: nilL UInt8)))))) (1 : Nat) (0 : Int) :: List.getD (cpL ((0 :
  Int) :: (0 : Int) :: (0 : Int) :: (0 : Int) :: (0 : Int) :: (0 : Int) :: (0 : Int) :: (0 : Int) :: nilL Int) (Int.toNat (0 : Int)) (Int.toNat (↑(8 : Nat) : Int) - Int.toNat (0 : Int)) (Go.Ad.side1
  (Go.Proofs.YtkimpfoimblhjaaDoor.Lb.cut1 x.fst (ByteArray.mk (List.toArray ((58 : UInt8) :: (58 : UInt8) :: nilL UInt8)))))) (2 : Nat) (0 : Int) :: List.getD (cpL ((0 : Int) :: (0 : Int) :: (0 : Int) :: (0 : Int) :: (0 :
  Int) :: (0 : Int) :: (0 : Int) :: (0 : Int) :: nilL Int) (Int.toNat (0 : Int)) (Int.toNat (↑(8 : Nat) : Int) - Int.toNat (0 : Int)) (Go.Ad.side1 (Go.Proofs.YtkimpfoimblhjaaDoor.Lb.cut1 x.fst (ByteArray.mk (List.toArray
  ((58 : UInt8) :: (58 : UInt8) :: nilL UInt8)))))) (3 : Nat) (0 : Int) :: List.getD (cpL ((0 : Int) :: (0 : Int) :: (0 : Int) :: (0 : Int) :: (0 : Int) :: (0 : Int) :: (0 : Int) :: (0 : Int) :: nilL Int) (Int.toNat (0 :
  Int)) (Int.toNat (↑(8 : Nat) : Int) - Int.toNat (0 : Int)) (Go.Ad.side1 (Go.Proofs.YtkimpfoimblhjaaDoor.Lb.cut1 x.fst (ByteArray.mk (List.toArray ((58 : UInt8) :: (58 : UInt8) :: nilL UInt8)))))) (4 : Nat) (0 : Int) ::
  List.getD (cpL ((0 : Int) :: (0 : Int) :: (0 : Int) :: (0 : Int) :: (0 : Int) :: (0 : Int) :: (0 : Int) :: (0 : Int) :: nilL Int) (Int.toNat (0 : Int)) (Int.toNat (↑(8 : Nat) : Int) - Int.toNat (0 : Int)) (Go.Ad.side1
  (Go.Proofs.YtkimpfoimblhjaaDoor.Lb.cut1 x.fst (ByteArray.mk (List.toArray ((58 : UInt8) :: (58 : UInt8) :: nilL UInt8)))))) (5 : Nat) (0 : Int) :: List.getD (cpL ((0 : Int) :: (0 : Int) :: (0 : Int) :: (0 : Int) :: (0 :
  Int) :: (0 : Int) :: (0 : Int) :: (0 : Int) :: nilL Int) (Int.toNat (0 : Int)) (Int.toNat (↑(8 : Nat) : Int) - Int.toNat (0 : Int)) (Go.Ad.side1 (Go.Proofs.YtkimpfoimblhjaaDoor.Lb.cut1 x.fst (ByteArray.mk (List.toArray
  ((58 : UInt8) :: (58 : UInt8) :: nilL UInt8)))))) (6 : Nat) (0 : Int) :: List.getD (cpL ((0 : Int) :: (0 : Int) :: (0 : Int) :: (0 : Int) :: (0 : Int) :: (0 : Int) :: (0 : Int) :: (0 : Int) :: nilL Int) (Int.toNat (0 :
  Int)) (Int.toNat (↑(8 : Nat) : Int) - Int.toNat (0 : Int)) (Go.Ad.side1 (Go.Proofs.YtkimpfoimblhjaaDoor.Lb.cut1 x.fst (ByteArray.mk (List.toArray ((58 : UInt8) :: (58 : UInt8) :: nilL UInt8)))))) (7 : Nat) (0 : Int) ::
  nilL Int) (Int.toNat (IntKind.wrap IntKind.i64 ((8 : Int) - (↑(List.length (Go.Ad.side1 (Go.Proofs.YtkimpfoimblhjaaDoor.Lb.cut2 x.fst (ByteArray.mk (List.toArray ((58 : UInt8) :: (58 : UInt8) :: nilL UInt8)))))) :
  Int)))) (Int.toNat (↑(8 : Nat) : Int) - Int.toNat (IntKind.wrap IntKind.i64 ((8 : Int) - (↑(List.length (Go.Ad.side1 (Go.Proofs.YtkimpfoimblhjaaDoor.Lb.cut2 x.fst (ByteArray.mk (List.toArray ((58 : UInt8) :: (58 :
  UInt8) :: nilL UInt8)))))) : Int)))) (Go.Ad.side1 (Go.Proofs.YtkimpfoimblhjaaDoor.Lb.cut2 x.fst (ByteArray.mk (List.toArray ((58 : UInt8) :: (58 : UInt8) :: nilL UInt8)))))) (5 : Nat) (0 : Int), List.getD (cpL
  (List.getD (cpL ((0 : Int) :: (0 : Int) :: (0 : Int) :: (0 : Int) :: (0 : Int) :: (0 : Int) :: (0 : Int) :: (0 : Int) :: nilL Int) (Int.toNat (0 : Int)) (Int.toNat (↑(8 : Nat) : Int) - Int.toNat (0 : Int)) (Go.Ad.side1
  (Go.Proofs.YtkimpfoimblhjaaDoor.Lb.cut1 x.fst (ByteArray.mk (List.toArray ((58 : UInt8) :: (58 : UInt8) :: nilL UInt8)))))) (0 : Nat) (0 : Int) :: List.getD (cpL ((0 : Int) :: (0 : Int) :: (0 : Int) :: (0 : Int) :: (0 :
  Int) :: (0 : Int) :: (0 : Int) :: (0 : Int) :: nilL Int) (Int.toNat (0 : Int)) (Int.toNat (↑(8 : Nat) : Int) - Int.toNat (0 : Int)) (Go.Ad.side1 (Go.Proofs.YtkimpfoimblhjaaDoor.Lb.cut1 x.fst (ByteArray.mk (List.toArray
  ((58 : UInt8) :: (58 : UInt8) :: nilL UInt8)))))) (1 : Nat) (0 : Int) :: List.getD (cpL ((0 : Int) :: (0 : Int) :: (0 : Int) :: (0 : Int) :: (0 : Int) :: (0 : Int) :: (0 : Int) :: (0 : Int) :: nilL Int) (Int.toNat (0 :
  Int)) (Int.toNat (↑(8 : Nat) : Int) - Int.toNat (0 : Int)) (Go.Ad.side1 (Go.Proofs.YtkimpfoimblhjaaDoor.Lb.cut1 x.fst (ByteArray.mk (List.toArray ((58 : UInt8) :: (58 : UInt8) :: nilL UInt8)))))) (2 : Nat) (0 : Int) ::
  List.getD (cpL ((0 : Int) :: (0 : Int) :: (0 : Int) :: (0 : Int) :: (0 : Int) :: (0 : Int) :: (0 : Int) :: (0 : Int) :: nilL Int) (Int.toNat (0 : Int)) (Int.toNat (↑(8 : Nat) : Int) - Int.toNat (0 : Int)) (Go.Ad.side1
  (Go.Proofs.YtkimpfoimblhjaaDoor.Lb.cut1 x.fst (ByteArray.mk (List.toArray ((58 : UInt8) :: (58 : UInt8) :: nilL UInt8)))))) (3 : Nat) (0 : Int) :: List.getD (cpL ((0 : Int) :: (0 : Int) :: (0 : Int) :: (0 : Int) :: (0 :
  Int) :: (0 : Int) :: (0 : Int) :: (0 : Int) :: nilL Int) (Int.toNat (0 : Int)) (Int.toNat (↑(8 : Nat) : Int) - Int.toNat (0 : Int)) (Go.Ad.side1 (Go.Proofs.YtkimpfoimblhjaaDoor.Lb.cut1 x.fst (ByteArray.mk (List.toArray
  ((58 : UInt8) :: (58 : UInt8) :: nilL UInt8)))))) (4 : Nat) (0 : Int) :: List.getD (cpL ((0 : Int) :: (0 : Int) :: (0 : Int) :: (0 : Int) :: (0 : Int) :: (0 : Int) :: (0 : Int) :: (0 : Int) :: nilL Int) (Int.toNat (0 :
  Int)) (Int.toNat (↑(8 : Nat) : Int) - Int.toNat (0 : Int)) (Go.Ad.side1 (Go.Proofs.YtkimpfoimblhjaaDoor.Lb.cut1 x.fst (ByteArray.mk (List.toArray ((58 : UInt8) :: (58 : UInt8) :: nilL UInt8)))))) (5 : Nat) (0 : Int) ::
  List.getD (cpL ((0 : Int) :: (0 : Int) :: (0 : Int) :: (0 : Int) :: (0 : Int) :: (0 : Int) :: (0 : Int) :: (0 : Int) :: nilL Int) (Int.toNat (0 : Int)) (Int.toNat (↑(8 : Nat) : Int) - Int.toNat (0 : Int)) (Go.Ad.side1
  (Go.Proofs.YtkimpfoimblhjaaDoor.Lb.cut1 x.fst (ByteArray.mk (List.toArray ((58 : UInt8) :: (58 : UInt8) :: nilL UInt8)))))) (6 : Nat) (0 : Int) :: List.getD (cpL ((0 : Int) :: (0 : Int) :: (0 : Int) :: (0 : Int) :: (0 :
  Int) :: (0 : Int) :: (0 : Int) :: (0 : Int) :: nilL Int) (Int.toNat (0 : Int)) (Int.toNat (↑(8 : Nat) : Int) - Int.toNat (0 : Int)) (Go.Ad.side1 (Go.Proofs.YtkimpfoimblhjaaDoor.Lb.cut1 x.fst (ByteArray.mk (List.toArray
  ((58 : UInt8) :: (58 : UInt8) :: nilL UInt8)))))) (7 : Nat) (0 : Int) :: nilL Int) (Int.toNat (IntKind.wrap IntKind.i64 ((8 : Int) - (↑(List.length (Go.Ad.side1 (Go.Proofs.YtkimpfoimblhjaaDoor.Lb.cut2 x.fst
  (ByteArray.mk (List.toArray ((58 : UInt8) :: (58 : UInt8) :: nilL UInt8)))))) : Int)))) (Int.toNat (↑(8 : Nat) : Int) - Int.toNat (IntKind.wrap IntKind.i64 ((8 : Int) - (↑(List.length (Go.Ad.side1
  (Go.Proofs.YtkimpfoimblhjaaDoor.Lb.cut2 x.fst (ByteArray.mk (List.toArray ((58 : UInt8) :: (58 : UInt8) :: nilL UInt8)))))) : Int)))) (Go.Ad.side1 (Go.Proofs.YtkimpfoimblhjaaDoor.Lb.cut2 x.fst (ByteArray.mk
  (List.toArray ((58 : UInt8) :: (58 : UInt8) :: nilL UInt8)))))) (6 : Nat) (0 : Int), List.getD (cpL (List.getD (cpL ((0 : Int) :: (0 : Int) :: (0 : Int) :: (0 : Int) :: (0 : Int) :: (0 : Int) :: (0 : Int) :: (0 : Int)
  :: nilL Int) (Int.toNat (0 : Int)) (Int.toNat (↑(8 : Nat) : Int) - Int.toNat (0 : Int)) (Go.Ad.side1 (Go.Proofs.YtkimpfoimblhjaaDoor.Lb.cut1 x.fst (ByteArray.mk (List.toArray ((58 : UInt8) :: (58 : UInt8) :: nilL
  UInt8)))))) (0 : Nat) (0 : Int) :: List.getD (cpL ((0 : Int) :: (0 : Int) :: (0 : Int) :: (0 : Int) :: (0 : Int) :: (0 : Int) :: (0 : Int) :: (0 : Int) :: nilL Int) (Int.toNat (0 : Int)) (Int.toNat (↑(8 : Nat) : Int) -
  Int.toNat (0 : Int)) (Go.Ad.side1 (Go.Proofs.YtkimpfoimblhjaaDoor.Lb.cut1 x.fst (ByteArray.mk (List.toArray ((58 : UInt8) :: (58 : UInt8) :: nilL UInt8)))))) (1 : Nat) (0 : Int) :: List.getD (cpL ((0 : Int) :: (0 : Int)
  :: (0 : Int) :: (0 : Int) :: (0 : Int) :: (0 : Int) :: (0 : Int) :: (0 : Int) :: nilL Int) (Int.toNat (0 : Int)) (Int.toNat (↑(8 : Nat) : Int) - Int.toNat (0 : Int)) (Go.Ad.side1 (Go.Proofs.YtkimpfoimblhjaaDoor.Lb.cut1
  x.fst (ByteArray.mk (List.toArray ((58 : UInt8) :: (58 : UInt8) :: nilL UInt8)))))) (2 : Nat) (0 : Int) :: List.getD (cpL ((0 : Int) :: (0 : Int) :: (0 : Int) :: (0 : Int) :: (0 : Int) :: (0 : Int) :: (0 : Int) :: (0 :
  Int) :: nilL Int) (Int.toNat (0 : Int)) (Int.toNat (↑(8 : Nat) : Int) - Int.toNat (0 : Int)) (Go.Ad.side1 (Go.Proofs.YtkimpfoimblhjaaDoor.Lb.cut1 x.fst (ByteArray.mk (List.toArray ((58 : UInt8) :: (58 : UInt8) :: nilL
  UInt8)))))) (3 : Nat) (0 : Int) :: List.getD (cpL ((0 : Int) :: (0 : Int) :: (0 : Int) :: (0 : Int) :: (0 : Int) :: (0 : Int) :: (0 : Int) :: (0 : Int) :: nilL Int) (Int.toNat (0 : Int)) (Int.toNat (↑(8 : Nat) : Int) -
  Int.toNat (0 : Int)) (Go.Ad.side1 (Go.Proofs.YtkimpfoimblhjaaDoor.Lb.cut1 x.fst (ByteArray.mk (List.toArray ((58 : UInt8) :: (58 : UInt8) :: nilL UInt8)))))) (4 : Nat) (0 : Int) :: List.getD (cpL ((0 : Int) :: (0 : Int)
  :: (0 : Int) :: (0 : Int) :: (0 : Int) :: (0 : Int) :: (0 : Int) :: (0 : Int) :: nilL Int) (Int.toNat (0 : Int)) (Int.toNat (↑(8 : Nat) : Int) - Int.toNat (0 : Int)) (Go.Ad.side1 (Go.Proofs.YtkimpfoimblhjaaDoor.Lb.cut1
  x.fst (ByteArray.mk (List.toArray ((58 : UInt8) :: (58 : UInt8) :: nilL UInt8)))))) (5 : Nat) (0 : Int) :: List.getD (cpL ((0 : Int) :: (0 : Int) :: (0 : Int) :: (0 : Int) :: (0 : Int) :: (0 : Int) :: (0 : Int) :: (0 :
  Int) :: nilL Int) (Int.toNat (0 : Int)) (Int.toNat (↑(8 : Nat) : Int) - Int.toNat (0 : Int)) (Go.Ad.side1 (Go.Proofs.YtkimpfoimblhjaaDoor.Lb.cut1 x.fst (ByteArray.mk (List.toArray ((58 : UInt8) :: (58 : UInt8) :: nilL
  UInt8)))))) (6 : Nat) (0 : Int) :: List.getD (cpL ((0 : Int) :: (0 : Int) :: (0 : Int) :: (0 : Int) :: (0 : Int) :: (0 : Int) :: (0 : Int) :: (0 : Int) :: nilL Int) (Int.toNat (0 : Int)) (Int.toNat (↑(8 : Nat) : Int) -
  Int.toNat (0 : Int)) (Go.Ad.side1 (Go.Proofs.YtkimpfoimblhjaaDoor.Lb.cut1 x.fst (ByteArray.mk (List.toArray ((58 : UInt8) :: (58 : UInt8) :: nilL UInt8)))))) (7 : Nat) (0 : Int) :: nilL Int) (Int.toNat (IntKind.wrap
  IntKind.i64 ((8 : Int) - (↑(List.length (Go.Ad.side1 (Go.Proofs.YtkimpfoimblhjaaDoor.Lb.cut2 x.fst (ByteArray.mk (List.toArray ((58 : UInt8) :: (58 : UInt8) :: nilL UInt8)))))) : Int)))) (Int.toNat (↑(8 : Nat) : Int) -
  Int.toNat (IntKind.wrap IntKind.i64 ((8 : Int) - (↑(List.length (Go.Ad.side1 (Go.Proofs.YtkimpfoimblhjaaDoor.Lb.cut2 x.fst (ByteArray.mk (List.toArray ((58 : UInt8) :: (58 : UInt8) :: nilL UInt8)))))) : Int))))
  (Go.Ad.side1 (Go.Proofs.YtkimpfoimblhjaaDoor.Lb.cut2 x.fst (ByteArray.mk (List.toArray ((58 : UInt8) :: (58 : UInt8) :: nilL UInt8)))))) (7 : Nat) (0 : Int), ()), Bool.true, ()) = (Go.Ad.six1 x.fst, Go.Ad.six2 x.fst,
  ()))) (bcase (!Go.Proofs.YtkimpfoimblhjaaDoor.Lb.cutOk x.fst (ByteArray.mk (List.toArray ((58 : UInt8) :: (58 : UInt8) :: nilL UInt8))) && !Decidable.decide ((↑(List.length (Go.Ad.side1
  (Go.Proofs.YtkimpfoimblhjaaDoor.Lb.cut1 x.fst (ByteArray.mk (List.toArray ((58 : UInt8) :: (58 : UInt8) :: nilL UInt8)))))) : Int) = (8 : Int))) ((((0 : Int), (0 : Int), (0 : Int), (0 : Int), (0 : Int), (0 : Int), (0 :
  Int), (0 : Int), ()), Bool.false, ()) = (Go.Ad.six1 x.fst, Go.Ad.six2 x.fst, ())) (Wr ((0 : Int) ≤ (0 : Int)) ∧ Wr ((0 : Int) ≤ (↑(8 : Nat) : Int)) ∧ Wr ((↑(8 : Nat) : Int) ≤ (↑(8 : Nat) : Int)) ∧ Wr ((0 : Int) ≤
  IntKind.wrap IntKind.i64 ((8 : Int) - (↑(List.length (Go.Ad.side1 (Go.Proofs.YtkimpfoimblhjaaDoor.Lb.cut2 x.fst (ByteArray.mk (List.toArray ((58 : UInt8) :: (58 : UInt8) :: nilL UInt8)))))) : Int))) ∧ Wr (IntKind.wrap
  IntKind.i64 ((8 : Int) - (↑(List.length (Go.Ad.side1 (Go.Proofs.YtkimpfoimblhjaaDoor.Lb.cut2 x.fst (ByteArray.mk (List.toArray ((58 : UInt8) :: (58 : UInt8) :: nilL UInt8)))))) : Int)) ≤ (↑(8 : Nat) : Int)) ∧ Wr ((↑(8 :
  Nat) : Int) ≤ (↑(8 : Nat) : Int)) ∧ ((List.getD (cpL (List.getD (cpL ((0 : Int) :: (0 : Int) :: (0 : Int) :: (0 : Int) :: (0 : Int) :: (0 : Int) :: (0 : Int) :: (0 : Int) :: nilL Int) (Int.toNat (0 : Int)) (Int.toNat
  (↑(8 : Nat) : Int) - Int.toNat (0 : Int)) (Go.Ad.side1 (Go.Proofs.YtkimpfoimblhjaaDoor.Lb.cut1 x.fst (ByteArray.mk (List.toArray ((58 : UInt8) :: (58 : UInt8) :: nilL UInt8)))))) (0 : Nat) (0 : Int) :: List.getD (cpL
  ((0 : Int) :: (0 : Int) :: (0 : Int) :: (0 : Int) :: (0 : Int) :: (0 : Int) :: (0 : Int) :: (0 : Int) :: nilL Int) (Int.toNat (0 : Int)) (Int.toNat (↑(8 : Nat) : Int) - Int.toNat (0 : Int)) (Go.Ad.side1
  (Go.Proofs.YtkimpfoimblhjaaDoor.Lb.cut1 x.fst (ByteArray.mk (List.toArray ((58 : UInt8) :: (58 : UInt8) :: nilL UInt8)))))) (1 : Nat) (0 : Int) :: List.getD (cpL ((0 : Int) :: (0 : Int) :: (0 : Int) :: (0 : Int) :: (0 :
  Int) :: (0 : Int) :: (0 : Int) :: (0 : Int) :: nilL Int) (Int.toNat (0 : Int)) (Int.toNat (↑(8 : Nat) : Int) - Int.toNat (0 : Int)) (Go.Ad.side1 (Go.Proofs.YtkimpfoimblhjaaDoor.Lb.cut1 x.fst (ByteArray.mk (List.toArray
  ((58 : UInt8) :: (58 : UInt8) :: nilL UInt8)))))) (2 : Nat) (0 : Int) :: List.getD (cpL ((0 : Int) :: (0 : Int) :: (0 : Int) :: (0 : Int) :: (0 : Int) :: (0 : Int) :: (0 : Int) :: (0 : Int) :: nilL Int) (Int.toNat (0 :
  Int)) (Int.toNat (↑(8 : Nat) : Int) - Int.toNat (0 : Int)) (Go.Ad.side1 (Go.Proofs.YtkimpfoimblhjaaDoor.Lb.cut1 x.fst (ByteArray.mk (List.toArray ((58 : UInt8) :: (58 : UInt8) :: nilL UInt8)))))) (3 : Nat) (0 : Int) ::
  List.getD (cpL ((0 : Int) :: (0 : Int) :: (0 : Int) :: (0 : Int) :: (0 : Int) :: (0 : Int) :: (0 : Int) :: (0 : Int) :: nilL Int) (Int.toNat (0 : Int)) (Int.toNat (↑(8 : Nat) : Int) - Int.toNat (0 : Int)) (Go.Ad.side1
  (Go.Proofs.YtkimpfoimblhjaaDoor.Lb.cut1 x.fst (ByteArray.mk (List.toArray ((58 : UInt8) :: (58 : UInt8) :: nilL UInt8)))))) (4 : Nat) (0 : Int) :: List.getD (cpL ((0 : Int) :: (0 : Int) :: (0 : Int) :: (0 : Int) :: (0 :
  Int) :: (0 : Int) :: (0 : Int) :: (0 : Int) :: nilL Int) (Int.toNat (0 : Int)) (Int.toNat (↑(8 : Nat) : Int) - Int.toNat (0 : Int)) (Go.Ad.side1 (Go.Proofs.YtkimpfoimblhjaaDoor.Lb.cut1 x.fst (ByteArray.mk (List.toArray
  ((58 : UInt8) :: (58 : UInt8) :: nilL UInt8)))))) (5 : Nat) (0 : Int) :: List.getD (cpL ((0 : Int) :: (0 : Int) :: (0 : Int) :: (0 : Int) :: (0 : Int) :: (0 : Int) :: (0 : Int) :: (0 : Int) :: nilL Int) (Int.toNat (0 :
  Int)) (Int.toNat (↑(8 : Nat) : Int) - Int.toNat (0 : Int)) (Go.Ad.side1 (Go.Proofs.YtkimpfoimblhjaaDoor.Lb.cut1 x.fst (ByteArray.mk (List.toArray ((58 : UInt8) :: (58 : UInt8) :: nilL UInt8)))))) (6 : Nat) (0 : Int) ::
  List.getD (cpL ((0 : Int) :: (0 : Int) :: (0 : Int) :: (0 : Int) :: (0 : Int) :: (0 : Int) :: (0 : Int) :: (0 : Int) :: nilL Int) (Int.toNat (0 : Int)) (Int.toNat (↑(8 : Nat) : Int) - Int.toNat (0 : Int)) (Go.Ad.side1
  (Go.Proofs.YtkimpfoimblhjaaDoor.Lb.cut1 x.fst (ByteArray.mk (List.toArray ((58 : UInt8) :: (58 : UInt8) :: nilL UInt8)))))) (7 : Nat) (0 : Int) :: nilL Int) (Int.toNat (IntKind.wrap IntKind.i64 ((8 : Int) -
  (↑(List.length (Go.Ad.side1 (Go.Proofs.YtkimpfoimblhjaaDoor.Lb.cut2 x.fst (ByteArray.mk (List.toArray ((58 : UInt8) :: (58 : UInt8) :: nilL UInt8)))))) : Int)))) (Int.toNat (↑(8 : Nat) : Int) - Int.toNat (IntKind.wrap
  IntKind.i64 ((8 : Int) - (↑(List.length (Go.Ad.side1 (Go.Proofs.YtkimpfoimblhjaaDoor.Lb.cut2 x.fst (ByteArray.mk (List.toArray ((58 : UInt8) :: (58 : UInt8) :: nilL UInt8)))))) : Int)))) (Go.Ad.side1
  (Go.Proofs.YtkimpfoimblhjaaDoor.Lb.cut2 x.fst (ByteArray.mk (List.toArray ((58 : UInt8) :: (58 : UInt8) :: nilL UInt8)))))) (0 : Nat) (0 : Int), List.getD (cpL (List.getD (cpL ((0 : Int) :: (0 : Int) :: (0 : Int) :: (0
  : Int) :: (0 : Int) :: (0 : Int) :: (0 : Int) :: (0 : Int) :: nilL Int) (Int.toNat (0 : Int)) (Int.toNat (↑(8 : Nat) : Int) - Int.toNat (0 : Int)) (Go.Ad.side1 (Go.Proofs.YtkimpfoimblhjaaDoor.Lb.cut1 x.fst (ByteArray.mk
  (List.toArray ((58 : UInt8) :: (58 : UInt8) :: nilL UInt8)))))) (0 : Nat) (0 : Int) :: List.getD (cpL ((0 : Int) :: (0 : Int) :: (0 : Int) :: (0 : Int) :: (0 : Int) :: (0 : Int) :: (0 : Int) :: (0 : Int) :: nilL Int)
  (Int.toNat (0 : Int)) (Int.toNat (↑(8 : Nat) : Int) - Int.toNat (0 : Int)) (Go.Ad.side1 (Go.Proofs.YtkimpfoimblhjaaDoor.Lb.cut1 x.fst (ByteArray.mk (List.toArray ((58 : UInt8) :: (58 : UInt8) :: nilL UInt8)))))) (1 :
  Nat) (0 : Int) :: List.getD (cpL ((0 : Int) :: (0 : Int) :: (0 : Int) :: (0 : Int) :: (0 : Int) :: (0 : Int) :: (0 : Int) :: (0 : Int) :: nilL Int) (Int.toNat (0 : Int)) (Int.toNat (↑(8 : Nat) : Int) - Int.toNat (0 :
  Int)) (Go.Ad.side1 (Go.Proofs.YtkimpfoimblhjaaDoor.Lb.cut1 x.fst (ByteArray.mk (List.toArray ((58 : UInt8) :: (58 : UInt8) :: nilL UInt8)))))) (2 : Nat) (0 : Int) :: List.getD (cpL ((0 : Int) :: (0 : Int) :: (0 : Int)
  :: (0 : Int) :: (0 : Int) :: (0 : Int) :: (0 : Int) :: (0 : Int) :: nilL Int) (Int.toNat (0 : Int)) (Int.toNat (↑(8 : Nat) : Int) - Int.toNat (0 : Int)) (Go.Ad.side1 (Go.Proofs.YtkimpfoimblhjaaDoor.Lb.cut1 x.fst
  (ByteArray.mk (List.toArray ((58 : UInt8) :: (58 : UInt8) :: nilL UInt8)))))) (3 : Nat) (0 : Int) :: List.getD (cpL ((0 : Int) :: (0 : Int) :: (0 : Int) :: (0 : Int) :: (0 : Int) :: (0 : Int) :: (0 : Int) :: (0 : Int)
  :: nilL Int) (Int.toNat (0 : Int)) (Int.toNat (↑(8 : Nat) : Int) - Int.toNat (0 : Int)) (Go.Ad.side1 (Go.Proofs.YtkimpfoimblhjaaDoor.Lb.cut1 x.fst (ByteArray.mk (List.toArray ((58 : UInt8) :: (58 : UInt8) :: nilL
  UInt8)))))) (4 : Nat) (0 : Int) :: List.getD (cpL ((0 : Int) :: (0 : Int) :: (0 : Int) :: (0 : Int) :: (0 : Int) :: (0 : Int) :: (0 : Int) :: (0 : Int) :: nilL Int) (Int.toNat (0 : Int)) (Int.toNat (↑(8 : Nat) : Int) -
  Int.toNat (0 : Int)) (Go.Ad.side1 (Go.Proofs.YtkimpfoimblhjaaDoor.Lb.cut1 x.fst (ByteArray.mk (List.toArray ((58 : UInt8) :: (58 : UInt8) :: nilL UInt8)))))) (5 : Nat) (0 : Int) :: List.getD (cpL ((0 : Int) :: (0 : Int)
  :: (0 : Int) :: (0 : Int) :: (0 : Int) :: (0 : Int) :: (0 : Int) :: (0 : Int) :: nilL Int) (Int.toNat (0 : Int)) (Int.toNat (↑(8 : Nat) : Int) - Int.toNat (0 : Int)) (Go.Ad.side1 (Go.Proofs.YtkimpfoimblhjaaDoor.Lb.cut1
  x.fst (ByteArray.mk (List.toArray ((58 : UInt8) :: (58 : UInt8) :: nilL UInt8)))))) (6 : Nat) (0 : Int) :: List.getD (cpL ((0 : Int) :: (0 : Int) :: (0 : Int) :: (0 : Int) :: (0 : Int) :: (0 : Int) :: (0 : Int) :: (0 :
  Int) :: nilL Int) (Int.toNat (0 : Int)) (Int.toNat (↑(8 : Nat) : Int) - Int.toNat (0 : Int)) (Go.Ad.side1 (Go.Proofs.YtkimpfoimblhjaaDoor.Lb.cut1 x.fst (ByteArray.mk (List.toArray ((58 : UInt8) :: (58 : UInt8) :: nilL
  UInt8)))))) (7 : Nat) (0 : Int) :: nilL Int) (Int.toNat (IntKind.wrap IntKind.i64 ((8 : Int) - (↑(List.length (Go.Ad.side1 (Go.Proofs.YtkimpfoimblhjaaDoor.Lb.cut2 x.fst (ByteArray.mk (List.toArray ((58 : UInt8) :: (58 :
  UInt8) :: nilL UInt8)))))) : Int)))) (Int.toNat (↑(8 : Nat) : Int) - Int.toNat (IntKind.wrap IntKind.i64 ((8 : Int) - (↑(List.length (Go.Ad.side1 (Go.Proofs.YtkimpfoimblhjaaDoor.Lb.cut2 x.fst (ByteArray.mk (List.toArray
  ((58 : UInt8) :: (58 : UInt8) :: nilL UInt8)))))) : Int)))) (Go.Ad.side1 (Go.Proofs.YtkimpfoimblhjaaDoor.Lb.cut2 x.fst (ByteArray.mk (List.toArray ((58 : UInt8) :: (58 : UInt8) :: nilL UInt8)))))) (1 : Nat) (0 : Int),
  List.getD (cpL (List.getD (cpL ((0 : Int) :: (0 : Int) :: (0 : Int) :: (0 : Int) :: (0 : Int) :: (0 : Int) :: (0 : Int) :: (0 : Int) :: nilL Int) (Int.toNat (0 : Int)) (Int.toNat (↑(8 : Nat) : Int) - Int.toNat (0 :
  Int)) (Go.Ad.side1 (Go.Proofs.YtkimpfoimblhjaaDoor.Lb.cut1 x.fst (ByteArray.mk (List.toArray ((58 : UInt8) :: (58 : UInt8) :: nilL UInt8)))))) (0 : Nat) (0 : Int) :: List.getD (cpL ((0 : Int) :: (0 : Int) :: (0 : Int)
  :: (0 : Int) :: (0 : Int) :: (0 : Int) :: (0 : Int) :: (0 : Int) :: nilL Int) (Int.toNat (0 : Int)) (Int.toNat (↑(8 : Nat) : Int) - Int.toNat (0 : Int)) (Go.Ad.side1 (Go.Proofs.YtkimpfoimblhjaaDoor.Lb.cut1 x.fst
  (ByteArray.mk (List.toArray ((58 : UInt8) :: (58 : UInt8) :: nilL UInt8)))))) (1 : Nat) (0 : Int) :: List.getD (cpL ((0 : Int) :: (0 : Int) :: (0 : Int) :: (0 : Int) :: (0 : Int) :: (0 : Int) :: (0 : Int) :: (0 : Int)
  :: nilL Int) (Int.toNat (0 : Int)) (Int.toNat (↑(8 : Nat) : Int) - Int.toNat (0 : Int)) (Go.Ad.side1 (Go.Proofs.YtkimpfoimblhjaaDoor.Lb.cut1 x.fst (ByteArray.mk (List.toArray ((58 : UInt8) :: (58 : UInt8) :: nilL
  UInt8)))))) (2 : Nat) (0 : Int) :: List.getD (cpL ((0 : Int) :: (0 : Int) :: (0 : Int) :: (0 : Int) :: (0 : Int) :: (0 : Int) :: (0 : Int) :: (0 : Int) :: nilL Int) (Int.toNat (0 : Int)) (Int.toNat (↑(8 : Nat) : Int) -
  Int.toNat (0 : Int)) (Go.Ad.side1 (Go.Proofs.YtkimpfoimblhjaaDoor.Lb.cut1 x.fst (ByteArray.mk (List.toArray ((58 : UInt8) :: (58 : UInt8) :: nilL UInt8)))))) (3 : Nat) (0 : Int) :: List.getD (cpL ((0 : Int) :: (0 : Int)
  :: (0 : Int) :: (0 : Int) :: (0 : Int) :: (0 : Int) :: (0 : Int) :: (0 : Int) :: nilL Int) (Int.toNat (0 : Int)) (Int.toNat (↑(8 : Nat) : Int) - Int.toNat (0 : Int)) (Go.Ad.side1 (Go.Proofs.YtkimpfoimblhjaaDoor.Lb.cut1
  x.fst (ByteArray.mk (List.toArray ((58 : UInt8) :: (58 : UInt8) :: nilL UInt8)))))) (4 : Nat) (0 : Int) :: List.getD (cpL ((0 : Int) :: (0 : Int) :: (0 : Int) :: (0 : Int) :: (0 : Int) :: (0 : Int) :: (0 : Int) :: (0 :
  Int) :: nilL Int) (Int.toNat (0 : Int)) (Int.toNat (↑(8 : Nat) : Int) - Int.toNat (0 : Int)) (Go.Ad.side1 (Go.Proofs.YtkimpfoimblhjaaDoor.Lb.cut1 x.fst (ByteArray.mk (List.toArray ((58 : UInt8) :: (58 : UInt8) :: nilL
  UInt8)))))) (5 : Nat) (0 : Int) :: List.getD (cpL ((0 : Int) :: (0 : Int) :: (0 : Int) :: (0 : Int) :: (0 : Int) :: (0 : Int) :: (0 : Int) :: (0 : Int) :: nilL Int) (Int.toNat (0 : Int)) (Int.toNat (↑(8 : Nat) : Int) -
  Int.toNat (0 : Int)) (Go.Ad.side1 (Go.Proofs.YtkimpfoimblhjaaDoor.Lb.cut1 x.fst (ByteArray.mk (List.toArray ((58 : UInt8) :: (58 : UInt8) :: nilL UInt8)))))) (6 : Nat) (0 : Int) :: List.getD (cpL ((0 : Int) :: (0 : Int)
  :: (0 : Int) :: (0 : Int) :: (0 : Int) :: (0 : Int) :: (0 : Int) :: (0 : Int) :: nilL Int) (Int.toNat (0 : Int)) (Int.toNat (↑(8 : Nat) : Int) - Int.toNat (0 : Int)) (Go.Ad.side1 (Go.Proofs.YtkimpfoimblhjaaDoor.Lb.cut1
  x.fst (ByteArray.mk (List.toArray ((58 : UInt8) :: (58 : UInt8) :: nilL UInt8)))))) (7 : Nat) (0 : Int) :: nilL Int) (Int.toNat (IntKind.wrap IntKind.i64 ((8 : Int) - (↑(List.length (Go.Ad.side1
  (Go.Proofs.YtkimpfoimblhjaaDoor.Lb.cut2 x.fst (ByteArray.mk (List.toArray ((58 : UInt8) :: (58 : UInt8) :: nilL UInt8)))))) : Int)))) (Int.toNat (↑(8 : Nat) : Int) - Int.toNat (IntKind.wrap IntKind.i64 ((8 : Int) -
  (↑(List.length (Go.Ad.side1 (Go.Proofs.YtkimpfoimblhjaaDoor.Lb.cut2 x.fst (ByteArray.mk (List.toArray ((58 : UInt8) :: (58 : UInt8) :: nilL UInt8)))))) : Int)))) (Go.Ad.side1 (Go.Proofs.YtkimpfoimblhjaaDoor.Lb.cut2
  x.fst (ByteArray.mk (List.toArray ((58 : UInt8) :: (58 : UInt8) :: nilL UInt8)))))) (2 : Nat) (0 : Int), List.getD (cpL (List.getD (cpL ((0 : Int) :: (0 : Int) :: (0 : Int) :: (0 : Int) :: (0 : Int) :: (0 : Int) :: (0 :
  Int) :: (0 : Int) :: nilL Int) (Int.toNat (0 : Int)) (Int.toNat (↑(8 : Nat) : Int) - Int.toNat (0 : Int)) (Go.Ad.side1 (Go.Proofs.YtkimpfoimblhjaaDoor.Lb.cut1 x.fst (ByteArray.mk (List.toArray ((58 : UInt8) :: (58 :
  UInt8) :: nilL UInt8)))))) (0 : Nat) (0 : Int) :: List.getD (cpL ((0 : Int) :: (0 : Int) :: (0 : Int) :: (0 : Int) :: (0 : Int) :: (0 : Int) :: (0 : Int) :: (0 : Int) :: nilL Int) (Int.toNat (0 : Int)) (Int.toNat (↑(8 :
  Nat) : Int) - Int.toNat (0 : Int)) (Go.Ad.side1 (Go.Proofs.YtkimpfoimblhjaaDoor.Lb.cut1 x.fst (ByteArray.mk (List.toArray ((58 : UInt8) :: (58 : UInt8) :: nilL UInt8)))))) (1 : Nat) (0 : Int) :: List.getD (cpL ((0 :
  Int) :: (0 : Int) :: (0 : Int) :: (0 : Int) :: (0 : Int) :: (0 : Int) :: (0 : Int) :: (0 : Int) :: nilL Int) (Int.toNat (0 : Int)) (Int.toNat (↑(8 : Nat) : Int) - Int.toNat (0 : Int)) (Go.Ad.side1
  (Go.Proofs.YtkimpfoimblhjaaDoor.Lb.cut1 x.fst (ByteArray.mk (List.toArray ((58 : UInt8) :: (58 : UInt8) :: nilL UInt8)))))) (2 : Nat) (0 : Int) :: List.getD (cpL ((0 : Int) :: (0 : Int) :: (0 : Int) :: (0 : Int) :: (0 :
  Int) :: (0 : Int) :: (0 : Int) :: (0 : Int) :: nilL Int) (Int.toNat (0 : Int)) (Int.toNat (↑(8 : Nat) : Int) - Int.toNat (0 : Int)) (Go.Ad.side1 (Go.Proofs.YtkimpfoimblhjaaDoor.Lb.cut1 x.fst (ByteArray.mk (List.toArray
  ((58 : UInt8) :: (58 : UInt8) :: nilL UInt8)))))) (3 : Nat) (0 : Int) :: List.getD (cpL ((0 : Int) :: (0 : Int) :: (0 : Int) :: (0 : Int) :: (0 : Int) :: (0 : Int) :: (0 : Int) :: (0 : Int) :: nilL Int) (Int.toNat (0 :
  Int)) (Int.toNat (↑(8 : Nat) : Int) - Int.toNat (0 : Int)) (Go.Ad.side1 (Go.Proofs.YtkimpfoimblhjaaDoor.Lb.cut1 x.fst (ByteArray.mk (List.toArray ((58 : UInt8) :: (58 : UInt8) :: nilL UInt8)))))) (4 : Nat) (0 : Int) ::
  List.getD (cpL ((0 : Int) :: (0 : Int) :: (0 : Int) :: (0 : Int) :: (0 : Int) :: (0 : Int) :: (0 : Int) :: (0 : Int) :: nilL Int) (Int.toNat (0 : Int)) (Int.toNat (↑(8 : Nat) : Int) - Int.toNat (0 : Int)) (Go.Ad.side1
  (Go.Proofs.YtkimpfoimblhjaaDoor.Lb.cut1 x.fst (ByteArray.mk (List.toArray ((58 : UInt8) :: (58 : UInt8) :: nilL UInt8)))))) (5 : Nat) (0 : Int) :: List.getD (cpL ((0 : Int) :: (0 : Int) :: (0 : Int) :: (0 : Int) :: (0 :
  Int) :: (0 : Int) :: (0 : Int) :: (0 : Int) :: nilL Int) (Int.toNat (0 : Int)) (Int.toNat (↑(8 : Nat) : Int) - Int.toNat (0 : Int)) (Go.Ad.side1 (Go.Proofs.YtkimpfoimblhjaaDoor.Lb.cut1 x.fst (ByteArray.mk (List.toArray
  ((58 : UInt8) :: (58 : UInt8) :: nilL UInt8)))))) (6 : Nat) (0 : Int) :: List.getD (cpL ((0 : Int) :: (0 : Int) :: (0 : Int) :: (0 : Int) :: (0 : Int) :: (0 : Int) :: (0 : Int) :: (0 : Int) :: nilL Int) (Int.toNat (0 :
  Int)) (Int.toNat (↑(8 : Nat) : Int) - Int.toNat (0 : Int)) (Go.Ad.side1 (Go.Proofs.YtkimpfoimblhjaaDoor.Lb.cut1 x.fst (ByteArray.mk (List.toArray ((58 : UInt8) :: (58 : UInt8) :: nilL UInt8)))))) (7 : Nat) (0 : Int) ::
  nilL Int) (Int.toNat (IntKind.wrap IntKind.i64 ((8 : Int) - (↑(List.length (Go.Ad.side1 (Go.Proofs.YtkimpfoimblhjaaDoor.Lb.cut2 x.fst (ByteArray.mk (List.toArray ((58 : UInt8) :: (58 : UInt8) :: nilL UInt8)))))) :
  Int)))) (Int.toNat (↑(8 : Nat) : Int) - Int.toNat (IntKind.wrap IntKind.i64 ((8 : Int) - (↑(List.length (Go.Ad.side1 (Go.Proofs.YtkimpfoimblhjaaDoor.Lb.cut2 x.fst (ByteArray.mk (List.toArray ((58 : UInt8) :: (58 :
  UInt8) :: nilL UInt8)))))) : Int)))) (Go.Ad.side1 (Go.Proofs.YtkimpfoimblhjaaDoor.Lb.cut2 x.fst (ByteArray.mk (List.toArray ((58 : UInt8) :: (58 : UInt8) :: nilL UInt8)))))) (3 : Nat) (0 : Int), List.getD (cpL
  (List.getD (cpL ((0 : Int) :: (0 : Int) :: (0 : Int) :: (0 : Int) :: (0 : Int) :: (0 : Int) :: (0 : Int) :: (0 : Int) :: nilL Int) (Int.toNat (0 : Int)) (Int.toNat (↑(8 : Nat) : Int) - Int.toNat (0 : Int)) (Go.Ad.side1
  (Go.Proofs.YtkimpfoimblhjaaDoor.Lb.cut1 x.fst (ByteArray.mk (List.toArray ((58 : UInt8) :: (58 : UInt8) :: nilL UInt8)))))) (0 : Nat) (0 : Int) :: List.getD (cpL ((0 : Int) :: (0 : Int) :: (0 : Int) :: (0 : Int) :: (0 :
  Int) :: (0 : Int) :: (0 : Int) :: (0 : Int) :: nilL Int) (Int.toNat (0 : Int)) (Int.toNat (↑(8 : Nat) : Int) - Int.toNat (0 : Int)) (Go.Ad.side1 (Go.Proofs.YtkimpfoimblhjaaDoor.Lb.cut1 x.fst (ByteArray.mk (List.toArray
  ((58 : UInt8) :: (58 : UInt8) :: nilL UInt8)))))) (1 : Nat) (0 : Int) :: List.getD (cpL ((0 : Int) :: (0 : Int) :: (0 : Int) :: (0 : Int) :: (0 : Int) :: (0 : Int) :: (0 : Int) :: (0 : Int) :: nilL Int) (Int.toNat (0 :
  Int)) (Int.toNat (↑(8 : Nat) : Int) - Int.toNat (0 : Int)) (Go.Ad.side1 (Go.Proofs.YtkimpfoimblhjaaDoor.Lb.cut1 x.fst (ByteArray.mk (List.toArray ((58 : UInt8) :: (58 : UInt8) :: nilL UInt8)))))) (2 : Nat) (0 : Int) ::
  List.getD (cpL ((0 : Int) :: (0 : Int) :: (0 : Int) :: (0 : Int) :: (0 : Int) :: (0 : Int) :: (0 : Int) :: (0 : Int) :: nilL Int) (Int.toNat (0 : Int)) (Int.toNat (↑(8 : Nat) : Int) - Int.toNat (0 : Int)) (Go.Ad.side1
  (Go.Proofs.YtkimpfoimblhjaaDoor.Lb.cut1 x.fst (ByteArray.mk (List.toArray ((58 : UInt8) :: (58 : UInt8) :: nilL UInt8)))))) (3 : Nat) (0 : Int) :: List.getD (cpL ((0 : Int) :: (0 : Int) :: (0 : Int) :: (0 : Int) :: (0 :
  Int) :: (0 : Int) :: (0 : Int) :: (0 : Int) :: nilL Int) (Int.toNat (0 : Int)) (Int.toNat (↑(8 : Nat) : Int) - Int.toNat (0 : Int)) (Go.Ad.side1 (Go.Proofs.YtkimpfoimblhjaaDoor.Lb.cut1 x.fst (ByteArray.mk (List.toArray
  ((58 : UInt8) :: (58 : UInt8) :: nilL UInt8)))))) (4 : Nat) (0 : Int) :: List.getD (cpL ((0 : Int) :: (0 : Int) :: (0 : Int) :: (0 : Int) :: (0 : Int) :: (0 : Int) :: (0 : Int) :: (0 : Int) :: nilL Int) (Int.toNat (0 :
  Int)) (Int.toNat (↑(8 : Nat) : Int) - Int.toNat (0 : Int)) (Go.Ad.side1 (Go.Proofs.YtkimpfoimblhjaaDoor.Lb.cut1 x.fst (ByteArray.mk (List.toArray ((58 : UInt8) :: (58 : UInt8) :: nilL UInt8)))))) (5 : Nat) (0 : Int) ::
  List.getD (cpL ((0 : Int) :: (0 : Int) :: (0 : Int) :: (0 : Int) :: (0 : Int) :: (0 : Int) :: (0 : Int) :: (0 : Int) :: nilL Int) (Int.toNat (0 : Int)) (Int.toNat (↑(8 : Nat) : Int) - Int.toNat (0 : Int)) (Go.Ad.side1
  (Go.Proofs.YtkimpfoimblhjaaDoor.Lb.cut1 x.fst (ByteArray.mk (List.toArray ((58 : UInt8) :: (58 : UInt8) :: nilL UInt8)))))) (6 : Nat) (0 : Int) :: List.getD (cpL ((0 : Int) :: (0 : Int) :: (0 : Int) :: (0 : Int) :: (0 :
  Int) :: (0 : Int) :: (0 : Int) :: (0 : Int) :: nilL Int) (Int.toNat (0 : Int)) (Int.toNat (↑(8 : Nat) : Int) - Int.toNat (0 : Int)) (Go.Ad.side1 (Go.Proofs.YtkimpfoimblhjaaDoor.Lb.cut1 x.fst (ByteArray.mk (List.toArray
  ((58 : UInt8) :: (58 : UInt8) :: nilL UInt8)))))) (7 : Nat) (0 : Int) :: nilL Int) (Int.toNat (IntKind.wrap IntKind.i64 ((8 : Int) - (↑(List.length (Go.Ad.side1 (Go.Proofs.YtkimpfoimblhjaaDoor.Lb.cut2 x.fst
  (ByteArray.mk (List.toArray ((58 : UInt8) :: (58 : UInt8) :: nilL UInt8)))))) : Int)))) (Int.toNat (↑(8 : Nat) : Int) - Int.toNat (IntKind.wrap IntKind.i64 ((8 : Int) - (↑(List.length (Go.Ad.side1
  (Go.Proofs.YtkimpfoimblhjaaDoor.Lb.cut2 x.fst (ByteArray.mk (List.toArray ((58 : UInt8) :: (58 : UInt8) :: nilL UInt8)))))) : Int)))) (Go.Ad.side1 (Go.Proofs.YtkimpfoimblhjaaDoor.Lb.cut2 x.fst (ByteArray.mk
  (List.toArray ((58 : UInt8) :: (58 : UInt8) :: nilL UInt8)))))) (4 : Nat) (0 : Int), List.getD (cpL (List.getD (cpL ((0 : Int) :: (0 : Int) :: (0 : Int) :: (0 : Int) :: (0 : Int) :: (0 : Int) :: (0 : Int) :: (0 : Int)
  :: nilL Int) (Int.toNat (0 : Int)) (Int.toNat (↑(8 : Nat) : Int) - Int.toNat (0 : Int)) (Go.Ad.side1 (Go.Proofs.YtkimpfoimblhjaaDoor.Lb.cut1 x.fst (ByteArray.mk (List.toArray ((58 : UInt8) :: (58 : UInt8) :: nilL
  UInt8)))))) (0 : Nat) (0 : Int) :: List.getD (cpL ((0 : Int) :: (0 : Int) :: (0 : Int) :: (0 : Int) :: (0 : Int) :: (0 : Int) :: (0 : Int) :: (0 : Int) :: nilL Int) (Int.toNat (0 : Int)) (Int.toNat (↑(8 : Nat) : Int) -
  Int.toNat (0 : Int)) (Go.Ad.side1 (Go.Proofs.YtkimpfoimblhjaaDoor.Lb.cut1 x.fst (ByteArray.mk (List.toArray ((58 : UInt8) :: (58 : UInt8) :: nilL UInt8)))))) (1 : Nat) (0 : Int) :: List.getD (cpL ((0 : Int) :: (0 : Int)
  :: (0 : Int) :: (0 : Int) :: (0 : Int) :: (0 : Int) :: (0 : Int) :: (0 : Int) :: nilL Int) (Int.toNat (0 : Int)) (Int.toNat (↑(8 : Nat) : Int) - Int.toNat (0 : Int)) (Go.Ad.side1 (Go.Proofs.YtkimpfoimblhjaaDoor.Lb.cut1
  x.fst (ByteArray.mk (List.toArray ((58 : UInt8) :: (58 : UInt8) :: nilL UInt8)))))) (2 : Nat) (0 : Int) :: List.getD (cpL ((0 : Int) :: (0 : Int) :: (0 : Int) :: (0 : Int) :: (0 : Int) :: (0 : Int) :: (0 : Int) :: (0 :
  Int) :: nilL Int) (Int.toNat (0 : Int)) (Int.toNat (↑(8 : Nat) : Int) - Int.toNat (0 : Int)) (Go.Ad.side1 (Go.Proofs.YtkimpfoimblhjaaDoor.Lb.cut1 x.fst (ByteArray.mk (List.toArray ((58 : UInt8) :: (58 : UInt8) :: nilL
  UInt8)))))) (3 : Nat) (0 : Int) :: List.getD (cpL ((0 : Int) :: (0 : Int) :: (0 : Int) :: (0 : Int) :: (0 : Int) :: (0 : Int) :: (0 : Int) :: (0 : Int) :: nilL Int) (Int.toNat (0 : Int)) (Int.toNat (↑(8 : Nat) : Int) -
  Int.toNat (0 : Int)) (Go.Ad.side1 (Go.Proofs.YtkimpfoimblhjaaDoor.Lb.cut1 x.fst (ByteArray.mk (List.toArray ((58 : UInt8) :: (58 : UInt8) :: nilL UInt8)))))) (4 : Nat) (0 : Int) :: List.getD (cpL ((0 : Int) :: (0 : Int)
  :: (0 : Int) :: (0 : Int) :: (0 : Int) :: (0 : Int) :: (0 : Int) :: (0 : Int) :: nilL Int) (Int.toNat (0 : Int)) (Int.toNat (↑(8 : Nat) : Int) - Int.toNat (0 : Int)) (Go.Ad.side1 (Go.Proofs.YtkimpfoimblhjaaDoor.Lb.cut1
  x.fst (ByteArray.mk (List.toArray ((58 : UInt8) :: (58 : UInt8) :: nilL UInt8)))))) (5 : Nat) (0 : Int) :: List.getD (cpL ((0 : Int) :: (0 : Int) :: (0 : Int) :: (0 : Int) :: (0 : Int) :: (0 : Int) :: (0 : Int) :: (0 :
  Int) :: nilL Int) (Int.toNat (0 : Int)) (Int.toNat (↑(8 : Nat) : Int) - Int.toNat (0 : Int)) (Go.Ad.side1 (Go.Proofs.YtkimpfoimblhjaaDoor.Lb.cut1 x.fst (ByteArray.mk (List.toArray ((58 : UInt8) :: (58 : UInt8) :: nilL
  UInt8)))))) (6 : Nat) (0 : Int) :: List.getD (cpL ((0 : Int) :: (0 : Int) :: (0 : Int) :: (0 : Int) :: (0 : Int) :: (0 : Int) :: (0 : Int) :: (0 : Int) :: nilL Int) (Int.toNat (0 : Int)) (Int.toNat (↑(8 : Nat) : Int) -
  Int.toNat (0 : Int)) (Go.Ad.side1 (Go.Proofs.YtkimpfoimblhjaaDoor.Lb.cut1 x.fst (ByteArray.mk (List.toArray ((58 : UInt8) :: (58 : UInt8) :: nilL UInt8)))))) (7 : Nat) (0 : Int) :: nilL Int) (Int.toNat (IntKind.wrap
  IntKind.i64 ((8 : Int) - (↑(List.length (Go.Ad.side1 (Go.Proofs.YtkimpfoimblhjaaDoor.Lb.cut2 x.fst (ByteArray.mk (List.toArray ((58 : UInt8) :: (58 : UInt8) :: nilL UInt8)))))) : Int)))) (Int.toNat (↑(8 : Nat) : Int) -
  Int.toNat (IntKind.wrap IntKind.i64 ((8 : Int) - (↑(List.length (Go.Ad.side1 (Go.Proofs.YtkimpfoimblhjaaDoor.Lb.cut2 x.fst (ByteArray.mk (List.toArray ((58 : UInt8) :: (58 : UInt8) :: nilL UInt8)))))) : Int))))
  (Go.Ad.side1 (Go.Proofs.YtkimpfoimblhjaaDoor.Lb.cut2 x.fst (ByteArray.mk (List.toArray ((58 : UInt8) :: (58 : UInt8) :: nilL UInt8)))))) (5 : Nat) (0 : Int), List.getD (cpL (List.getD (cpL ((0 : Int) :: (0 : Int) :: (0
  : Int) :: (0 : Int) :: (0 : Int) :: (0 : Int) :: (0 : Int) :: (0 : Int) :: nilL Int) (Int.toNat (0 : Int)) (Int.toNat (↑(8 : Nat) : Int) - Int.toNat (0 : Int)) (Go.Ad.side1 (Go.Proofs.YtkimpfoimblhjaaDoor.Lb.cut1 x.fst
  (ByteArray.mk (List.toArray ((58 : UInt8) :: (58 : UInt8) :: nilL UInt8)))))) (0 : Nat) (0 : Int) :: List.getD (cpL ((0 : Int) :: (0 : Int) :: (0 : Int) :: (0 : Int) :: (0 : Int) :: (0 : Int) :: (0 : Int) :: (0 : Int)
  :: nilL Int) (Int.toNat (0 : Int)) (Int.toNat (↑(8 : Nat) : Int) - Int.toNat (0 : Int)) (Go.Ad.side1 (Go.Proofs.YtkimpfoimblhjaaDoor.Lb.cut1 x.fst (ByteArray.mk (List.toArray ((58 : UInt8) :: (58 : UInt8) :: nilL
  UInt8)))))) (1 : Nat) (0 : Int) :: List.getD (cpL ((0 : Int) :: (0 : Int) :: (0 : Int) :: (0 : Int) :: (0 : Int) :: (0 : Int) :: (0 : Int) :: (0 : Int) :: nilL Int) (Int.toNat (0 : Int)) (Int.toNat (↑(8 : Nat) : Int) -
  Int.toNat (0 : Int)) (Go.Ad.side1 (Go.Proofs.YtkimpfoimblhjaaDoor.Lb.cut1 x.fst (ByteArray.mk (List.toArray ((58 : UInt8) :: (58 : UInt8) :: nilL UInt8)))))) (2 : Nat) (0 : Int) :: List.getD (cpL ((0 : Int) :: (0 : Int)
  :: (0 : Int) :: (0 : Int) :: (0 : Int) :: (0 : Int) :: (0 : Int) :: (0 : Int) :: nilL Int) (Int.toNat (0 : Int)) (Int.toNat (↑(8 : Nat) : Int) - Int.toNat (0 : Int)) (Go.Ad.side1 (Go.Proofs.YtkimpfoimblhjaaDoor.Lb.cut1
  x.fst (ByteArray.mk (List.toArray ((58 : UInt8) :: (58 : UInt8) :: nilL UInt8)))))) (3 : Nat) (0 : Int) :: List.getD (cpL ((0 : Int) :: (0 : Int) :: (0 : Int) :: (0 : Int) :: (0 : Int) :: (0 : Int) :: (0 : Int) :: (0 :
  Int) :: nilL Int) (Int.toNat (0 : Int)) (Int.toNat (↑(8 : Nat) : Int) - Int.toNat (0 : Int)) (Go.Ad.side1 (Go.Proofs.YtkimpfoimblhjaaDoor.Lb.cut1 x.fst (ByteArray.mk (List.toArray ((58 : UInt8) :: (58 : UInt8) :: nilL
  UInt8)))))) (4 : Nat) (0 : Int) :: List.getD (cpL ((0 : Int) :: (0 : Int) :: (0 : Int) :: (0 : Int) :: (0 : Int) :: (0 : Int) :: (0 : Int) :: (0 : Int) :: nilL Int) (Int.toNat (0 : Int)) (Int.toNat (↑(8 : Nat) : Int) -
  Int.toNat (0 : Int)) (Go.Ad.side1 (Go.Proofs.YtkimpfoimblhjaaDoor.Lb.cut1 x.fst (ByteArray.mk (List.toArray ((58 : UInt8) :: (58 : UInt8) :: nilL UInt8)))))) (5 : Nat) (0 : Int) :: List.getD (cpL ((0 : Int) :: (0 : Int)
  :: (0 : Int) :: (0 : Int) :: (0 : Int) :: (0 : Int) :: (0 : Int) :: (0 : Int) :: nilL Int) (Int.toNat (0 : Int)) (Int.toNat (↑(8 : Nat) : Int) - Int.toNat (0 : Int)) (Go.Ad.side1 (Go.Proofs.YtkimpfoimblhjaaDoor.Lb.cut1
  x.fst (ByteArray.mk (List.toArray ((58 : UInt8) :: (58 : UInt8) :: nilL UInt8)))))) (6 : Nat) (0 : Int) :: List.getD (cpL ((0 : Int) :: (0 : Int) :: (0 : Int) :: (0 : Int) :: (0 : Int) :: (0 : Int) :: (0 : Int) :: (0 :
  Int) :: nilL Int) (Int.toNat (0 : Int)) (Int.toNat (↑(8 : Nat) : Int) - Int.toNat (0 : Int)) (Go.Ad.side1 (Go.Proofs.YtkimpfoimblhjaaDoor.Lb.cut1 x.fst (ByteArray.mk (List.toArray ((58 : UInt8) :: (58 : UInt8) :: nilL
  UInt8)))))) (7 : Nat) (0 : Int) :: nilL Int) (Int.toNat (IntKind.wrap IntKind.i64 ((8 : Int) - (↑(List.length (Go.Ad.side1 (Go.Proofs.YtkimpfoimblhjaaDoor.Lb.cut2 x.fst (ByteArray.mk (List.toArray ((58 : UInt8) :: (58 :
  UInt8) :: nilL UInt8)))))) : Int)))) (Int.toNat (↑(8 : Nat) : Int) - Int.toNat (IntKind.wrap IntKind.i64 ((8 : Int) - (↑(List.length (Go.Ad.side1 (Go.Proofs.YtkimpfoimblhjaaDoor.Lb.cut2 x.fst (ByteArray.mk (List.toArray
  ((58 : UInt8) :: (58 : UInt8) :: nilL UInt8)))))) : Int)))) (Go.Ad.side1 (Go.Proofs.YtkimpfoimblhjaaDoor.Lb.cut2 x.fst (ByteArray.mk (List.toArray ((58 : UInt8) :: (58 : UInt8) :: nilL UInt8)))))) (6 : Nat) (0 : Int),
  List.getD (cpL (List.getD (cpL ((0 : Int) :: (0 : Int) :: (0 : Int) :: (0 : Int) :: (0 : Int) :: (0 : Int) :: (0 : Int) :: (0 : Int) :: nilL Int) (Int.toNat (0 : Int)) (Int.toNat (↑(8 : Nat) : Int) - Int.toNat (0 :
  Int)) (Go.Ad.side1 (Go.Proofs.YtkimpfoimblhjaaDoor.Lb.cut1 x.fst (ByteArray.mk (List.toArray ((58 : UInt8) :: (58 : UInt8) :: nilL UInt8)))))) (0 : Nat) (0 : Int) :: List.getD (cpL ((0 : Int) :: (0 : Int) :: (0 : Int)
  :: (0 : Int) :: (0 : Int) :: (0 : Int) :: (0 : Int) :: (0 : Int) :: nilL Int) (Int.toNat (0 : Int)) (Int.toNat (↑(8 : Nat) : Int) - Int.toNat (0 : Int)) (Go.Ad.side1 (Go.Proofs.YtkimpfoimblhjaaDoor.Lb.cut1 x.fst
  (ByteArray.mk (List.toArray ((58 : UInt8) :: (58 : UInt8) :: nilL UInt8)))))) (1 : Nat) (0 : Int) :: List.getD (cpL ((0 : Int) :: (0 : Int) :: (0 : Int) :: (0 : Int) :: (0 : Int) :: (0 : Int) :: (0 : Int) :: (0 : Int)
  :: nilL Int) (Int.toNat (0 : Int)) (Int.toNat (↑(8 : Nat) : Int) - Int.toNat (0 : Int)) (Go.Ad.side1 (Go.Proofs.YtkimpfoimblhjaaDoor.Lb.cut1 x.fst (ByteArray.mk (List.toArray ((58 : UInt8) :: (58 : UInt8) :: nilL
  UInt8)))))) (2 : Nat) (0 : Int) :: List.getD (cpL ((0 : Int) :: (0 : Int) :: (0 : Int) :: (0 : Int) :: (0 : Int) :: (0 : Int) :: (0 : Int) :: (0 : Int) :: nilL Int) (Int.toNat (0 : Int)) (Int.toNat (↑(8 : Nat) : Int) -
  Int.toNat (0 : Int)) (Go.Ad.side1 (Go.Proofs.YtkimpfoimblhjaaDoor.Lb.cut1 x.fst (ByteArray.mk (List.toArray ((58 : UInt8) :: (58 : UInt8) :: nilL UInt8)))))) (3 : Nat) (0 : Int) :: List.getD (cpL ((0 : Int) :: (0 : Int)
  :: (0 : Int) :: (0 : Int) :: (0 : Int) :: (0 : Int) :: (0 : Int) :: (0 : Int) :: nilL Int) (Int.toNat (0 : Int)) (Int.toNat (↑(8 : Nat) : Int) - Int.toNat (0 : Int)) (Go.Ad.side1 (Go.Proofs.YtkimpfoimblhjaaDoor.Lb.cut1
  x.fst (ByteArray.mk (List.toArray ((58 : UInt8) :: (58 : UInt8) :: nilL UInt8)))))) (4 : Nat) (0 : Int) :: List.getD (cpL ((0 : Int) :: (0 : Int) :: (0 : Int) :: (0 : Int) :: (0 : Int) :: (0 : Int) :: (0 : Int) :: (0 :
  Int) :: nilL Int) (Int.toNat (0 : Int)) (Int.toNat (↑(8 : Nat) : Int) - Int.toNat (0 : Int)) (Go.Ad.side1 (Go.Proofs.YtkimpfoimblhjaaDoor.Lb.cut1 x.fst (ByteArray.mk (List.toArray ((58 : UInt8) :: (58 : UInt8) :: nilL
  UInt8)))))) (5 : Nat) (0 : Int) :: List.getD (cpL ((0 : Int) :: (0 : Int) :: (0 : Int) :: (0 : Int) :: (0 : Int) :: (0 : Int) :: (0 : Int) :: (0 : Int) :: nilL Int) (Int.toNat (0 : Int)) (Int.toNat (↑(8 : Nat) : Int) -
  Int.toNat (0 : Int)) (Go.Ad.side1 (Go.Proofs.YtkimpfoimblhjaaDoor.Lb.cut1 x.fst (ByteArray.mk (List.toArray ((58 : UInt8) :: (58 : UInt8) :: nilL UInt8)))))) (6 : Nat) (0 : Int) :: List.getD (cpL ((0 : Int) :: (0 : Int)
  :: (0 : Int) :: (0 : Int) :: (0 : Int) :: (0 : Int) :: (0 : Int) :: (0 : Int) :: nilL Int) (Int.toNat (0 : Int)) (Int.toNat (↑(8 : Nat) : Int) - Int.toNat (0 : Int)) (Go.Ad.side1 (Go.Proofs.YtkimpfoimblhjaaDoor.Lb.cut1
  x.fst (ByteArray.mk (List.toArray ((58 : UInt8) :: (58 : UInt8) :: nilL UInt8)))))) (7 : Nat) (0 : Int) :: nilL Int) (Int.toNat (IntKind.wrap IntKind.i64 ((8 : Int) - (↑(List.length (Go.Ad.side1
  (Go.Proofs.YtkimpfoimblhjaaDoor.Lb.cut2 x.fst (ByteArray.mk (List.toArray ((58 : UInt8) :: (58 : UInt8) :: nilL UInt8)))))) : Int)))) (Int.toNat (↑(8 : Nat) : Int) - Int.toNat (IntKind.wrap IntKind.i64 ((8 : Int) -
  (↑(List.length (Go.Ad.side1 (Go.Proofs.YtkimpfoimblhjaaDoor.Lb.cut2 x.fst (ByteArray.mk (List.toArray ((58 : UInt8) :: (58 : UInt8) :: nilL UInt8)))))) : Int)))) (Go.Ad.side1 (Go.Proofs.YtkimpfoimblhjaaDoor.Lb.cut2
  x.fst (ByteArray.mk (List.toArray ((58 : UInt8) :: (58 : UInt8) :: nilL UInt8)))))) (7 : Nat) (0 : Int), ()), Bool.true, ()) = (Go.Ad.six1 x.fst, Go.Ad.six2 x.fst, ()))))) := by kernel_rfl
theorem v18_eq : vcFn g18 300 Tryd.f18 cParse = ( ∀ (x : ByteArray × Unit), Wr (Go.Proofs.YtkimpfoimblhjaaDoor.Lb.szOk x.fst = Bool.true) → Wr ((Go.Proofs.YtkimpfoimblhjaaDoor.Lb.szOk x.fst && Decidable.decide ((0 : Int) ≤ (58 : Int)) && Decidable.decide ((58 : Int) <
  (256 : Int))) = Bool.true) ∧ bcase (Decidable.decide (Go.Lb.lastZ x.fst (58 : Int) < (1 : Int))) ((((0 : Int), ((0 : Int), (0 : Int), (0 : Int), (0 : Int), (0 : Int), (0 : Int), (0 : Int), (0 : Int), ()), (0 : Int),
  ()), (20 : Int), ()) = (Go.Ad.parse1 x.fst, Go.Ad.parse2 x.fst, ())) (Wr ((0 : Int) ≤ (0 : Int)) ∧ Wr ((0 : Int) ≤ Go.Lb.lastZ x.fst (58 : Int)) ∧ Wr (Go.Lb.lastZ x.fst (58 : Int) ≤ (↑(ByteArray.size x.fst) : Int)) ∧ Wr
  ((0 : Int) ≤ IntKind.wrap IntKind.i64 (Go.Lb.lastZ x.fst (58 : Int) + (1 : Int))) ∧ Wr (IntKind.wrap IntKind.i64 (Go.Lb.lastZ x.fst (58 : Int) + (1 : Int)) ≤ (↑(ByteArray.size x.fst) : Int)) ∧ Wr ((↑(ByteArray.size
  x.fst) : Int) ≤ (↑(ByteArray.size x.fst) : Int)) ∧ Wr (Go.Proofs.YtkimpfoimblhjaaDoor.Lb.szOk (subS x.fst (Int.toNat (IntKind.wrap IntKind.i64 (Go.Lb.lastZ x.fst (58 : Int) + (1 : Int)))) (Int.toNat (↑(ByteArray.size
  x.fst) : Int))) = Bool.true) ∧ Wr ((0 : Int) ≤ (0 : Int)) ∧ Wr ((0 : Int) < (↑(ByteArray.size (subS x.fst (Int.toNat (0 : Int)) (Int.toNat (Go.Lb.lastZ x.fst (58 : Int))))) : Int)) ∧ bcase (!Decidable.decide (byteAt
  (subS x.fst (Int.toNat (0 : Int)) (Int.toNat (Go.Lb.lastZ x.fst (58 : Int)))) (Int.toNat (0 : Int)) = (91 : Int))) (Wr (Go.Proofs.YtkimpfoimblhjaaDoor.Lb.szOk (subS x.fst (Int.toNat (0 : Int)) (Int.toNat (Go.Lb.lastZ
  x.fst (58 : Int)))) = Bool.true) ∧ bcase (!Go.Ad.num2 (subS x.fst (Int.toNat (IntKind.wrap IntKind.i64 (Go.Lb.lastZ x.fst (58 : Int) + (1 : Int)))) (Int.toNat (↑(ByteArray.size x.fst) : Int))) (65535 : Int) ||
  !Go.Ad.four2 (subS x.fst (Int.toNat (0 : Int)) (Int.toNat (Go.Lb.lastZ x.fst (58 : Int)))) || Decidable.decide (Go.Ad.num1 (subS x.fst (Int.toNat (IntKind.wrap IntKind.i64 (Go.Lb.lastZ x.fst (58 : Int) + (1 : Int))))
  (Int.toNat (↑(ByteArray.size x.fst) : Int))) (65535 : Int) = (0 : Int))) ((((0 : Int), ((0 : Int), (0 : Int), (0 : Int), (0 : Int), (0 : Int), (0 : Int), (0 : Int), (0 : Int), ()), (0 : Int), ()), (20 : Int), ()) =
  (Go.Ad.parse1 x.fst, Go.Ad.parse2 x.fst, ())) ((((4 : Int), Go.Ad.four1 (subS x.fst (Int.toNat (0 : Int)) (Int.toNat (Go.Lb.lastZ x.fst (58 : Int)))), Go.Ad.num1 (subS x.fst (Int.toNat (IntKind.wrap IntKind.i64
  (Go.Lb.lastZ x.fst (58 : Int) + (1 : Int)))) (Int.toNat (↑(ByteArray.size x.fst) : Int))) (65535 : Int), ()), (0 : Int), ()) = (Go.Ad.parse1 x.fst, Go.Ad.parse2 x.fst, ()))) (Wr (Decidable.decide ((↑(ByteArray.size
  (subS x.fst (Int.toNat (0 : Int)) (Int.toNat (Go.Lb.lastZ x.fst (58 : Int))))) : Int) > (1 : Int)) = Bool.true → (0 : Int) ≤ IntKind.wrap IntKind.i64 ((↑(ByteArray.size (subS x.fst (Int.toNat (0 : Int)) (Int.toNat
  (Go.Lb.lastZ x.fst (58 : Int))))) : Int) - (1 : Int))) ∧ Wr (Decidable.decide ((↑(ByteArray.size (subS x.fst (Int.toNat (0 : Int)) (Int.toNat (Go.Lb.lastZ x.fst (58 : Int))))) : Int) > (1 : Int)) = Bool.true →
  IntKind.wrap IntKind.i64 ((↑(ByteArray.size (subS x.fst (Int.toNat (0 : Int)) (Int.toNat (Go.Lb.lastZ x.fst (58 : Int))))) : Int) - (1 : Int)) < (↑(ByteArray.size (subS x.fst (Int.toNat (0 : Int)) (Int.toNat
  (Go.Lb.lastZ x.fst (58 : Int))))) : Int)) ∧ bcase (Decidable.decide ((↑(ByteArray.size (subS x.fst (Int.toNat (0 : Int)) (Int.toNat (Go.Lb.lastZ x.fst (58 : Int))))) : Int) > (1 : Int)) && Decidable.decide (byteAt (subS
  x.fst (Int.toNat (0 : Int)) (Int.toNat (Go.Lb.lastZ x.fst (58 : Int)))) (Int.toNat (IntKind.wrap IntKind.i64 ((↑(ByteArray.size (subS x.fst (Int.toNat (0 : Int)) (Int.toNat (Go.Lb.lastZ x.fst (58 : Int))))) : Int) - (1
  : Int)))) = (93 : Int))) (Wr ((0 : Int) ≤ (1 : Int)) ∧ Wr ((1 : Int) ≤ IntKind.wrap IntKind.i64 ((↑(ByteArray.size (subS x.fst (Int.toNat (0 : Int)) (Int.toNat (Go.Lb.lastZ x.fst (58 : Int))))) : Int) - (1 : Int))) ∧ Wr
  (IntKind.wrap IntKind.i64 ((↑(ByteArray.size (subS x.fst (Int.toNat (0 : Int)) (Int.toNat (Go.Lb.lastZ x.fst (58 : Int))))) : Int) - (1 : Int)) ≤ (↑(ByteArray.size (subS x.fst (Int.toNat (0 : Int)) (Int.toNat
  (Go.Lb.lastZ x.fst (58 : Int))))) : Int)) ∧ Wr (Go.Proofs.YtkimpfoimblhjaaDoor.Lb.szOk (subS (subS x.fst (Int.toNat (0 : Int)) (Int.toNat (Go.Lb.lastZ x.fst (58 : Int)))) (Int.toNat (1 : Int)) (Int.toNat (IntKind.wrap
  IntKind.i64 ((↑(ByteArray.size (subS x.fst (Int.toNat (0 : Int)) (Int.toNat (Go.Lb.lastZ x.fst (58 : Int))))) : Int) - (1 : Int))))) = Bool.true) ∧ bcase (!Go.Ad.num2 (subS x.fst (Int.toNat (IntKind.wrap IntKind.i64
  (Go.Lb.lastZ x.fst (58 : Int) + (1 : Int)))) (Int.toNat (↑(ByteArray.size x.fst) : Int))) (65535 : Int) || !Go.Ad.six2 (subS (subS x.fst (Int.toNat (0 : Int)) (Int.toNat (Go.Lb.lastZ x.fst (58 : Int)))) (Int.toNat (1 :
  Int)) (Int.toNat (IntKind.wrap IntKind.i64 ((↑(ByteArray.size (subS x.fst (Int.toNat (0 : Int)) (Int.toNat (Go.Lb.lastZ x.fst (58 : Int))))) : Int) - (1 : Int))))) || Decidable.decide (Go.Ad.num1 (subS x.fst (Int.toNat
  (IntKind.wrap IntKind.i64 (Go.Lb.lastZ x.fst (58 : Int) + (1 : Int)))) (Int.toNat (↑(ByteArray.size x.fst) : Int))) (65535 : Int) = (0 : Int))) ((((0 : Int), ((0 : Int), (0 : Int), (0 : Int), (0 : Int), (0 : Int), (0 :
  Int), (0 : Int), (0 : Int), ()), (0 : Int), ()), (20 : Int), ()) = (Go.Ad.parse1 x.fst, Go.Ad.parse2 x.fst, ())) ((((6 : Int), Go.Ad.six1 (subS (subS x.fst (Int.toNat (0 : Int)) (Int.toNat (Go.Lb.lastZ x.fst (58 :
  Int)))) (Int.toNat (1 : Int)) (Int.toNat (IntKind.wrap IntKind.i64 ((↑(ByteArray.size (subS x.fst (Int.toNat (0 : Int)) (Int.toNat (Go.Lb.lastZ x.fst (58 : Int))))) : Int) - (1 : Int))))), Go.Ad.num1 (subS x.fst
  (Int.toNat (IntKind.wrap IntKind.i64 (Go.Lb.lastZ x.fst (58 : Int) + (1 : Int)))) (Int.toNat (↑(ByteArray.size x.fst) : Int))) (65535 : Int), ()), (0 : Int), ()) = (Go.Ad.parse1 x.fst, Go.Ad.parse2 x.fst, ()))) (bcase
  (!Go.Ad.num2 (subS x.fst (Int.toNat (IntKind.wrap IntKind.i64 (Go.Lb.lastZ x.fst (58 : Int) + (1 : Int)))) (Int.toNat (↑(ByteArray.size x.fst) : Int))) (65535 : Int) || !Bool.false || Decidable.decide (Go.Ad.num1 (subS
  x.fst (Int.toNat (IntKind.wrap IntKind.i64 (Go.Lb.lastZ x.fst (58 : Int) + (1 : Int)))) (Int.toNat (↑(ByteArray.size x.fst) : Int))) (65535 : Int) = (0 : Int))) ((((0 : Int), ((0 : Int), (0 : Int), (0 : Int), (0 : Int),
  (0 : Int), (0 : Int), (0 : Int), (0 : Int), ()), (0 : Int), ()), (20 : Int), ()) = (Go.Ad.parse1 x.fst, Go.Ad.parse2 x.fst, ())) ((((4 : Int), ((0 : Int), (0 : Int), (0 : Int), (0 : Int), (0 : Int), (0 : Int), (0 :
  Int), (0 : Int), ()), Go.Ad.num1 (subS x.fst (Int.toNat (IntKind.wrap IntKind.i64 (Go.Lb.lastZ x.fst (58 : Int) + (1 : Int)))) (Int.toNat (↑(ByteArray.size x.fst) : Int))) (65535 : Int), ()), (0 : Int), ()) =
  (Go.Ad.parse1 x.fst, Go.Ad.parse2 x.fst, ())))))) := by kernel_rfl
theorem v19_eq : vcFn g19 300 Tryd.f19 cGreat = ( ∀ (x : List (Int × (Int × Int × Int × Int × Int × Int × Int × Int × Unit) × Int × Unit) × Unit), Wr (Bool.true = Bool.true) → (Decidable.decide ((↑(List.length x.fst) : Int) > (60 : Int)), ()) = (Decidable.decide ((60 :
  Nat) < List.length x.fst), ())) := by kernel_rfl
theorem v20_eq : vcFn g20 300 Tryd.f20 cOf = ( ∀ (x : Int × List (Int × (Int × Int × Int × Int × Int × Int × Int × Int × Unit) × Int × Unit) × Unit), Wr (lenA x.snd.fst = Bool.true) → (Wr (OfI x.fst x.snd.fst (nilL (Int × (Int × Int × Int × Int × Int × Int × Int ×
  Int × Unit) × Int × Unit)) (0 : Int)) ∧ Wr ((0 : Int) = (0 : Int)) ∧ Wr (x.fst = x.fst) ∧ Wr (x.snd.fst = x.snd.fst) ∧ Wr (x.snd.fst = x.snd.fst) ∧ Wr ((↑(List.length x.snd.fst) : Int) = (↑(List.length x.snd.fst) :
  Int)) ∧ Wr (nilL (Int × (Int × Int × Int × Int × Int × Int × Int × Int × Unit) × Int × Unit) = nilL (Int × (Int × Int × Int × Int × Int × Int × Int × Int × Unit) × Int × Unit))) ∧ ∀ (x_1 : List (Int × (Int × Int × Int ×
  Int × Int × Int × Int × Int × Unit) × Int × Unit) × Int), Wr (OfI x.fst x.snd.fst x_1.fst x_1.snd) → bcase (Decidable.decide (x_1.snd < (↑(List.length x.snd.fst) : Int))) (Wr ((0 : Int) ≤ x_1.snd) ∧ Wr (x_1.snd <
  (↑(List.length x.snd.fst) : Int)) ∧ Wr (Bool.true = Bool.true) ∧ bcase (Decidable.decide ((List.getD x.snd.fst (Int.toNat x_1.snd) (Ty.zero AdT)).fst = x.fst)) (Wr ((List.length x_1.fst + List.length (List.getD
  x.snd.fst (Int.toNat x_1.snd) (Ty.zero AdT) :: nilL (Int × (Int × Int × Int × Int × Int × Int × Int × Int × Unit) × Int × Unit))) * (32 : Nat) ≤ (140737488355328 : Nat)) ∧ Wr (OfI x.fst x.snd.fst (x_1.fst ++ List.getD
  x.snd.fst (Int.toNat x_1.snd) (Ty.zero AdT) :: nilL (Int × (Int × Int × Int × Int × Int × Int × Int × Int × Unit) × Int × Unit)) (IntKind.wrap IntKind.i64 (x_1.snd + (1 : Int)))) ∧ Wr (List.length x.snd.fst - Int.toNat
  (IntKind.wrap IntKind.i64 (x_1.snd + (1 : Int))) < List.length x.snd.fst - Int.toNat x_1.snd) ∧ Wr (IntKind.wrap IntKind.i64 (x_1.snd + (1 : Int)) = IntKind.wrap IntKind.i64 (x_1.snd + (1 : Int))) ∧ Wr (x.fst = x.fst) ∧
  Wr (x.snd.fst = x.snd.fst) ∧ Wr (x.snd.fst = x.snd.fst) ∧ Wr ((↑(List.length x.snd.fst) : Int) = (↑(List.length x.snd.fst) : Int)) ∧ Wr (x_1.fst ++ List.getD x.snd.fst (Int.toNat x_1.snd) (Ty.zero AdT) :: nilL (Int ×
  (Int × Int × Int × Int × Int × Int × Int × Int × Unit) × Int × Unit) = x_1.fst ++ List.getD x.snd.fst (Int.toNat x_1.snd) (Ty.zero AdT) :: nilL (Int × (Int × Int × Int × Int × Int × Int × Int × Int × Unit) × Int ×
  Unit))) (Wr (OfI x.fst x.snd.fst x_1.fst (IntKind.wrap IntKind.i64 (x_1.snd + (1 : Int)))) ∧ Wr (List.length x.snd.fst - Int.toNat (IntKind.wrap IntKind.i64 (x_1.snd + (1 : Int))) < List.length x.snd.fst - Int.toNat
  x_1.snd) ∧ Wr (IntKind.wrap IntKind.i64 (x_1.snd + (1 : Int)) = IntKind.wrap IntKind.i64 (x_1.snd + (1 : Int))) ∧ Wr (x.fst = x.fst) ∧ Wr (x.snd.fst = x.snd.fst) ∧ Wr (x.snd.fst = x.snd.fst) ∧ Wr ((↑(List.length
  x.snd.fst) : Int) = (↑(List.length x.snd.fst) : Int)) ∧ Wr (x_1.fst = x_1.fst))) ((x_1.fst, ()) = (Go.Ad.ofA x.fst x.snd.fst, ()))) := by kernel_rfl
theorem v21_eq : vcFn g21 300 Tryd.f21 cRow = ( ∀ (x : List (Int × (Int × Int × Int × Int × Int × Int × Int × Int × Unit) × Int × Unit) × Unit), Wr (lenA x.fst = Bool.true) → bcase (Decidable.decide ((↑(List.length x.fst) : Int) > (16 : Int))) ((ByteArray.mk
  (List.toArray (nilL UInt8)), (20 : Int), ()) = (Go.Ad.row1 x.fst, Go.Ad.row2 x.fst, ())) ((Wr (RowI x.fst (nilL ByteArray) (0 : Int)) ∧ Wr ((0 : Int) = (0 : Int)) ∧ Wr (x.fst = x.fst) ∧ Wr (x.fst = x.fst) ∧ Wr
  ((↑(List.length x.fst) : Int) = (↑(List.length x.fst) : Int)) ∧ Wr (nilL ByteArray = nilL ByteArray)) ∧ ∀ (x_1 : List ByteArray × Int), Wr (RowI x.fst x_1.fst x_1.snd) → bcase (Decidable.decide (x_1.snd < (↑(List.length
  x.fst) : Int))) (Wr ((0 : Int) ≤ x_1.snd) ∧ Wr (x_1.snd < (↑(List.length x.fst) : Int)) ∧ Wr (Bool.true = Bool.true) ∧ Wr (Bool.true = Bool.true) ∧ bcase (!Decidable.decide (Go.Ad.text2 (List.getD x.fst (Int.toNat
  x_1.snd) (Ty.zero AdT)) = (0 : Int))) ((ByteArray.mk (List.toArray (nilL UInt8)), Go.Ad.text2 (List.getD x.fst (Int.toNat x_1.snd) (Ty.zero AdT)), ()) = (Go.Ad.row1 x.fst, Go.Ad.row2 x.fst, ())) (Wr ((List.length
  x_1.fst + List.length (Go.Ad.text1 (List.getD x.fst (Int.toNat x_1.snd) (Ty.zero AdT)) :: nilL ByteArray)) * (16 : Nat) ≤ (140737488355328 : Nat)) ∧ Wr (RowI x.fst (x_1.fst ++ Go.Ad.text1 (List.getD x.fst (Int.toNat
  x_1.snd) (Ty.zero AdT)) :: nilL ByteArray) (IntKind.wrap IntKind.i64 (x_1.snd + (1 : Int)))) ∧ Wr (List.length x.fst - Int.toNat (IntKind.wrap IntKind.i64 (x_1.snd + (1 : Int))) < List.length x.fst - Int.toNat x_1.snd)
  ∧ Wr (IntKind.wrap IntKind.i64 (x_1.snd + (1 : Int)) = IntKind.wrap IntKind.i64 (x_1.snd + (1 : Int))) ∧ Wr (x.fst = x.fst) ∧ Wr (x.fst = x.fst) ∧ Wr ((↑(List.length x.fst) : Int) = (↑(List.length x.fst) : Int)) ∧ Wr
  (x_1.fst ++ Go.Ad.text1 (List.getD x.fst (Int.toNat x_1.snd) (Ty.zero AdT)) :: nilL ByteArray = x_1.fst ++ Go.Ad.text1 (List.getD x.fst (Int.toNat x_1.snd) (Ty.zero AdT)) :: nilL ByteArray))) (Wr ((Decidable.decide
  (List.length x_1.fst ≤ (100000 : Nat)) && Decidable.decide (List.length (Go.Proofs.YtkimpfoimblhjaaDoor.Lb.joinL x_1.fst (ByteArray.mk (List.toArray ((32 : UInt8) :: nilL UInt8)))) ≤ (4000000000 : Nat))) = Bool.true) ∧
  (Go.Proofs.YtkimpfoimblhjaaDoor.Lb.joinS x_1.fst (ByteArray.mk (List.toArray ((32 : UInt8) :: nilL UInt8))), (0 : Int), ()) = (Go.Ad.row1 x.fst, Go.Ad.row2 x.fst, ())))) := by kernel_rfl
theorem v23_eq : vcFn g23 300 Tryd.f23 cRead = ( ∀ (x : ByteArray × Unit), Wr (Go.Proofs.YtkimpfoimblhjaaDoor.Lb.szOk x.fst = Bool.true) → bcase (Decidable.decide (x.fst = ByteArray.mk (List.toArray (nilL UInt8)))) ((nilL (Int × (Int × Int × Int × Int × Int × Int × Int
  × Int × Unit) × Int × Unit), (0 : Int), ()) = (Go.Ad.read1 x.fst, Go.Ad.read2 x.fst, ())) (Wr ((Go.Proofs.YtkimpfoimblhjaaDoor.Lb.szOk x.fst && Decidable.decide (ByteArray.size (ByteArray.mk (List.toArray ((32 : UInt8)
  :: nilL UInt8))) = (1 : Nat))) = Bool.true) ∧ bcase (Decidable.decide ((↑(List.length (Go.Lb.splitS x.fst (ByteArray.mk (List.toArray ((32 : UInt8) :: nilL UInt8))))) : Int) > (16 : Int))) ((nilL (Int × (Int × Int × Int
  × Int × Int × Int × Int × Int × Unit) × Int × Unit), (20 : Int), ()) = (Go.Ad.read1 x.fst, Go.Ad.read2 x.fst, ())) ((Wr (GoI Go.Ad.parseO (Go.Lb.splitS x.fst (ByteArray.mk (List.toArray ((32 : UInt8) :: nilL UInt8))))
  (nilL (Int × (Int × Int × Int × Int × Int × Int × Int × Int × Unit) × Int × Unit)) (0 : Int)) ∧ Wr ((0 : Int) = (0 : Int)) ∧ Wr (Go.Lb.splitS x.fst (ByteArray.mk (List.toArray ((32 : UInt8) :: nilL UInt8))) =
  Go.Lb.splitS x.fst (ByteArray.mk (List.toArray ((32 : UInt8) :: nilL UInt8)))) ∧ Wr ((↑(List.length (Go.Lb.splitS x.fst (ByteArray.mk (List.toArray ((32 : UInt8) :: nilL UInt8))))) : Int) = (↑(List.length (Go.Lb.splitS
  x.fst (ByteArray.mk (List.toArray ((32 : UInt8) :: nilL UInt8))))) : Int)) ∧ Wr (nilL (Int × (Int × Int × Int × Int × Int × Int × Int × Int × Unit) × Int × Unit) = nilL (Int × (Int × Int × Int × Int × Int × Int × Int ×
  Int × Unit) × Int × Unit))) ∧ ∀ (x_1 : List (Int × (Int × Int × Int × Int × Int × Int × Int × Int × Unit) × Int × Unit) × Int), Wr (GoI Go.Ad.parseO (Go.Lb.splitS x.fst (ByteArray.mk (List.toArray ((32 : UInt8) :: nilL
  UInt8)))) x_1.fst x_1.snd) → bcase (Decidable.decide (x_1.snd < (↑(List.length (Go.Lb.splitS x.fst (ByteArray.mk (List.toArray ((32 : UInt8) :: nilL UInt8))))) : Int))) (Wr ((0 : Int) ≤ x_1.snd) ∧ Wr (x_1.snd <
  (↑(List.length (Go.Lb.splitS x.fst (ByteArray.mk (List.toArray ((32 : UInt8) :: nilL UInt8))))) : Int)) ∧ Wr (Bool.true = Bool.true) ∧ Wr (Go.Proofs.YtkimpfoimblhjaaDoor.Lb.szOk (List.getD (Go.Lb.splitS x.fst
  (ByteArray.mk (List.toArray ((32 : UInt8) :: nilL UInt8)))) (Int.toNat x_1.snd) (Ty.zero Ty.str)) = Bool.true) ∧ bcase (!Decidable.decide (Go.Ad.parse2 (List.getD (Go.Lb.splitS x.fst (ByteArray.mk (List.toArray ((32 :
  UInt8) :: nilL UInt8)))) (Int.toNat x_1.snd) (Ty.zero Ty.str)) = (0 : Int))) ((nilL (Int × (Int × Int × Int × Int × Int × Int × Int × Int × Unit) × Int × Unit), Go.Ad.parse2 (List.getD (Go.Lb.splitS x.fst (ByteArray.mk
  (List.toArray ((32 : UInt8) :: nilL UInt8)))) (Int.toNat x_1.snd) (Ty.zero Ty.str)), ()) = (Go.Ad.read1 x.fst, Go.Ad.read2 x.fst, ())) (Wr ((List.length x_1.fst + List.length (Go.Ad.parse1 (List.getD (Go.Lb.splitS x.fst
  (ByteArray.mk (List.toArray ((32 : UInt8) :: nilL UInt8)))) (Int.toNat x_1.snd) (Ty.zero Ty.str)) :: nilL (Int × (Int × Int × Int × Int × Int × Int × Int × Int × Unit) × Int × Unit))) * (32 : Nat) ≤ (140737488355328 :
  Nat)) ∧ Wr (GoI Go.Ad.parseO (Go.Lb.splitS x.fst (ByteArray.mk (List.toArray ((32 : UInt8) :: nilL UInt8)))) (x_1.fst ++ Go.Ad.parse1 (List.getD (Go.Lb.splitS x.fst (ByteArray.mk (List.toArray ((32 : UInt8) :: nilL
  UInt8)))) (Int.toNat x_1.snd) (Ty.zero Ty.str)) :: nilL (Int × (Int × Int × Int × Int × Int × Int × Int × Int × Unit) × Int × Unit)) (IntKind.wrap IntKind.i64 (x_1.snd + (1 : Int)))) ∧ Wr (List.length (Go.Lb.splitS
  x.fst (ByteArray.mk (List.toArray ((32 : UInt8) :: nilL UInt8)))) - Int.toNat (IntKind.wrap IntKind.i64 (x_1.snd + (1 : Int))) < List.length (Go.Lb.splitS x.fst (ByteArray.mk (List.toArray ((32 : UInt8) :: nilL
  UInt8)))) - Int.toNat x_1.snd) ∧ Wr (IntKind.wrap IntKind.i64 (x_1.snd + (1 : Int)) = IntKind.wrap IntKind.i64 (x_1.snd + (1 : Int))) ∧ Wr (Go.Lb.splitS x.fst (ByteArray.mk (List.toArray ((32 : UInt8) :: nilL UInt8))) =
  Go.Lb.splitS x.fst (ByteArray.mk (List.toArray ((32 : UInt8) :: nilL UInt8)))) ∧ Wr ((↑(List.length (Go.Lb.splitS x.fst (ByteArray.mk (List.toArray ((32 : UInt8) :: nilL UInt8))))) : Int) = (↑(List.length (Go.Lb.splitS
  x.fst (ByteArray.mk (List.toArray ((32 : UInt8) :: nilL UInt8))))) : Int)) ∧ Wr (x_1.fst ++ Go.Ad.parse1 (List.getD (Go.Lb.splitS x.fst (ByteArray.mk (List.toArray ((32 : UInt8) :: nilL UInt8)))) (Int.toNat x_1.snd)
  (Ty.zero Ty.str)) :: nilL (Int × (Int × Int × Int × Int × Int × Int × Int × Int × Unit) × Int × Unit) = x_1.fst ++ Go.Ad.parse1 (List.getD (Go.Lb.splitS x.fst (ByteArray.mk (List.toArray ((32 : UInt8) :: nilL UInt8))))
  (Int.toNat x_1.snd) (Ty.zero Ty.str)) :: nilL (Int × (Int × Int × Int × Int × Int × Int × Int × Int × Unit) × Int × Unit)))) ((x_1.fst, (0 : Int), ()) = (Go.Ad.read1 x.fst, Go.Ad.read2 x.fst, ()))))) := by kernel_rfl
theorem v25_eq : vcFn g25 300 Tryd.f25 cSameA = ( ∀ (x : List (Int × (Int × Int × Int × Int × Int × Int × Int × Int × Unit) × Int × Unit) × List (Int × (Int × Int × Int × Int × Int × Int × Int × Int × Unit) × Int × Unit) × Unit), Wr (lenA x.fst = Bool.true) → bcase
  (!Decidable.decide ((↑(List.length x.fst) : Int) = (↑(List.length x.snd.fst) : Int))) ((Bool.false, ()) = (sameLs x.fst x.snd.fst, ())) ((Wr (SameI x.fst x.snd.fst (0 : Int)) ∧ Wr ((0 : Int) = (0 : Int)) ∧ Wr (x.fst =
  x.fst) ∧ Wr (x.snd.fst = x.snd.fst)) ∧ ∀ (x_1 : Int), Wr (SameI x.fst x.snd.fst x_1) → bcase (Decidable.decide (x_1 < (↑(List.length x.fst) : Int))) (Wr ((0 : Int) ≤ x_1) ∧ Wr (x_1 < (↑(List.length x.fst) : Int)) ∧ Wr
  (Bool.true = Bool.true) ∧ Wr ((0 : Int) ≤ x_1) ∧ Wr (x_1 < (↑(List.length x.snd.fst) : Int)) ∧ Wr (Bool.true = Bool.true) ∧ bcase (!Ty.eqb (Ty.cons (Ty.int IntKind.i8) (Ty.cons (Ty.arr (8 : Nat) (Ty.int IntKind.u16))
  (Ty.cons (Ty.int IntKind.i64) Ty.unit))) (List.getD x.fst (Int.toNat x_1) (Ty.zero AdT)) (List.getD x.snd.fst (Int.toNat x_1) (Ty.zero AdT))) ((Bool.false, ()) = (sameLs x.fst x.snd.fst, ())) (Wr (SameI x.fst x.snd.fst
  (IntKind.wrap IntKind.i64 (x_1 + (1 : Int)))) ∧ Wr (List.length x.fst - Int.toNat (IntKind.wrap IntKind.i64 (x_1 + (1 : Int))) < List.length x.fst - Int.toNat x_1) ∧ Wr (IntKind.wrap IntKind.i64 (x_1 + (1 : Int)) =
  IntKind.wrap IntKind.i64 (x_1 + (1 : Int))) ∧ Wr (x.fst = x.fst) ∧ Wr (x.snd.fst = x.snd.fst))) ((Bool.true, ()) = (sameLs x.fst x.snd.fst, ())))) := by kernel_rfl
end Go.Proofs.YtkimpfoimblhjaaDoor.Ad
set_option linter.all false
namespace Go.Proofs.YtkimpfoimblhjaaDoor.Ad
open Go Go.Eng Go.Lb Go.Ad Lb
set_option maxRecDepth 100000
set_option maxHeartbeats 1000000

theorem getD_mem {α : Type} {l : List α} {i : Int} {z : α} (h0 : 0 ≤ i) (h : i < l.length) : l.getD i.toNat z ∈ l := by
  have h' : i.toNat < l.length := by omega
  rw [List.getD_eq_getElem?_getD, List.getElem?_eq_getElem h']
  exact List.getElem_mem h'
theorem take_all {α : Type} {l : List α} {i : Int} (h1 : i ≤ l.length) (h : ¬ i < l.length) : l.take i.toNat = l := List.take_of_length_le (by omega)
theorem step {i : Int} {n : Nat} (h0 : 0 ≤ i) (hn : n ≤ 5000000000) (h : i < n) : IntKind.wrap .i64 (i + 1) = i + 1 := w64 (by omega) (by omega)
theorem bL0 (l : List UInt8) : ({ data := { toList := l } } : ByteArray) = ofL l := rfl
theorem wcut {n : Nat} {i : Int} (h0 : 0 ≤ i) (h : i < n) : n - (i + 1).toNat < n - i.toNat := by omega
theorem GoI.zero {α β : Type} (f : α → Option β) (l : List α) : GoI f l [] 0 := ⟨by omega, by omega, rfl⟩
theorem GoI.len {α β : Type} {f : α → Option β} {l : List α} {out : List β} {i : Int} (h : GoI f l out i) : out.length = i.toNat := by
  rw [goO_len h.a, List.length_take]
  have := h.i0; have := h.i1
  omega
theorem GoI.on {α β : Type} {f : α → Option β} {l : List α} {out : List β} {i : Int} {z : α} {b : β} (h : GoI f l out i) (hl : l.length ≤ 5000000000) (hi : i < l.length) (hf : f (l.getD i.toNat z) = some b) :
    GoI f l (out ++ [b]) (IntKind.wrap .i64 (i + 1)) ∧ l.length - (IntKind.wrap .i64 (i + 1)).toNat < l.length - i.toNat := by
  have h0 := h.i0
  rw [step h0 hl hi]
  refine ⟨⟨by omega, by omega, ?_⟩, wcut h0 hi⟩
  rw [take_succ l i z h0 hi, goO_app, h.a]
  simp only [goO, hf]
theorem GoI.no {α β : Type} {f : α → Option β} {l : List α} {out : List β} {i : Int} {z : α} (h : GoI f l out i) (hi : i < l.length) (hf : f (l.getD i.toNat z) = none) : goO f l = none := goO_none (getD_mem h.i0 hi) hf
theorem GoI.fin {α β : Type} {f : α → Option β} {l : List α} {out : List β} {i : Int} (h : GoI f l out i) (hi : ¬ i < l.length) : goO f l = some out := by
  have := h.a
  rwa [take_all h.i1 hi] at this
theorem MapI.zero {α β : Type} (f : α → β) (l : List α) : MapI f l [] 0 := ⟨by omega, by omega, rfl⟩
theorem MapI.on {α β : Type} {f : α → β} {l : List α} {out : List β} {i : Int} {z : α} (h : MapI f l out i) (hl : l.length ≤ 5000000000) (hi : i < l.length) :
    MapI f l (out ++ [f (l.getD i.toNat z)]) (IntKind.wrap .i64 (i + 1)) ∧ l.length - (IntKind.wrap .i64 (i + 1)).toNat < l.length - i.toNat := by
  have h0 := h.i0
  rw [step h0 hl hi]
  refine ⟨⟨by omega, by omega, ?_⟩, wcut h0 hi⟩
  rw [take_succ l i z h0 hi, h.a, List.map_append]
  rfl
theorem MapI.fin {α β : Type} {f : α → β} {l : List α} {out : List β} {i : Int} (h : MapI f l out i) (hi : ¬ i < l.length) : out = l.map f := by
  have := h.a
  rwa [take_all h.i1 hi] at this
theorem eqA (a b : Ad) : Ty.eqb AdT a b = true ↔ a = b := by
  constructor
  · exact eqb_eq AdT rfl a b
  · rintro rfl
    simp [Ty.eqb, Ty.arr]
theorem eqA_f (a b : Ad) : Ty.eqb AdT a b = false ↔ ¬ a = b := by
  rw [← eqA, Bool.not_eq_true]
theorem lenA_iff (l : List Ad) : lenA l = true ↔ l.length ≤ 100000 := by simp [lenA]
def bare (a : Ad) : Ad := (a.1, (a.2.1.1, a.2.1.2.1, 0, 0, 0, 0, 0, 0, ()), a.2.2)
theorem bare_iff (a : Ad) : a = bare a ↔ ∀ x ∈ (gl a.2.1).drop 2, x = 0 := by
  obtain ⟨f, ⟨a0, a1, a2, a3, a4, a5, a6, a7, ⟨⟩⟩, p, ⟨⟩⟩ := a
  simp [bare, gl]
theorem may_no (a : Ad) (h : (a.2.2.1 < 1 ∨ a.2.2.1 > 65535) ∨ ¬ a.1 = 6 ∧ (¬ a.1 = 4 ∨ Ty.eqb AdT a (bare a) = false)) : may1 a = false := by
  rw [eqA_f, bare_iff] at h
  cases hm : may1 a with
  | false => rfl
  | true =>
    rw [may1_iff] at hm
    exfalso
    rcases hm with ⟨⟨h1, h2⟩, h3 | ⟨h3, h4⟩⟩
    · omega
    · rcases h with h | ⟨h5, h6 | h6⟩
      · omega
      · exact h6 h3
      · exact h6 h4
theorem may_yes (a : Ad) (h : (¬ a.2.2.1 < 1 ∧ ¬ a.2.2.1 > 65535) ∧ (a.1 = 6 ∨ a.1 = 4 ∧ Ty.eqb AdT a (bare a) = true)) : may1 a = true := by
  rw [eqA, bare_iff] at h
  rw [may1_iff]
  exact ⟨⟨by omega, by omega⟩, h.2⟩
theorem v15 : Vc g15 300 Tryd.f15 cMay := by
  constructor
  rw [v15_eq]
  simp only [Wr_iff, bcase_iff, true_and, and_true, decide_eq_true_eq, decide_eq_false_iff_not, Bool.and_eq_true, Bool.and_eq_false_iff, Bool.or_eq_true, Bool.or_eq_false_iff, Bool.not_eq_true', Bool.not_eq_false', Option.map_some, Option.getD_some, Option.isSome_some, Option.isSome_map, imp_self, nilL, noneO]
  intro x
  generalize x.fst = l
  intro hl
  have hl := (lenA_iff l).1 hl
  refine ⟨⟨by omega, by omega, rfl⟩, fun i hi => ⟨fun h => ?_, fun h => ?_⟩⟩
  · refine ⟨hi.i0, h, fun hn => ?_, fun hy => ?_⟩
    · have hn := may_no _ hn
      have : mayA l = false := by
        cases hm : mayA l with
        | false => rfl
        | true =>
          have := List.all_eq_true.1 hm _ (getD_mem (z := Ty.zero AdT) hi.i0 h)
          exact absurd (this.symm.trans hn) (by decide)
      rw [this]
    · have hy := may_yes _ hy
      have h0 := hi.i0
      rw [step h0 (by omega) h]
      refine ⟨⟨by omega, by omega, ?_⟩, wcut h0 h⟩
      have e := take_succ l i (Ty.zero AdT) h0 h
      rw [e, List.all_append, hi.a, List.all_cons, List.all_nil, Bool.and_true, Bool.true_and]
      exact hy
  · have := hi.a
    rw [take_all hi.i1 h] at this
    exact congrArg (fun b => (b, ())) this.symm
theorem v19 : Vc g19 300 Tryd.f19 cGreat := by
  constructor
  rw [v19_eq]
  intro x _
  refine congrArg (fun b => (b, ())) ?_
  rw [Bool.eq_iff_iff, decide_eq_true_eq, decide_eq_true_eq]
  exact ⟨fun h => by have h : (60 : Int) < _ := h; omega, fun h => by show (60 : Int) < _; omega⟩
theorem ofA_snoc (f : Int) (l : List Ad) (a : Ad) : ofA f (l ++ [a]) = if a.1 = f then ofA f l ++ [a] else ofA f l := by
  unfold ofA
  rw [List.filter_append, List.filter_cons, List.filter_nil]
  unfold isFam
  by_cases h : a.1 = f <;> simp [h]
theorem v20 : Vc g20 300 Tryd.f20 cOf := by
  constructor
  rw [v20_eq]
  simp only [Wr_iff, bcase_iff, true_and, and_true, decide_eq_true_eq, decide_eq_false_iff_not, Bool.and_eq_true, Bool.and_eq_false_iff, Bool.or_eq_true, Bool.or_eq_false_iff, Bool.not_eq_true', Bool.not_eq_false', Option.map_some, Option.getD_some, Option.isSome_some, Option.isSome_map, imp_self, nilL, noneO]
  intro x
  generalize x.fst = f
  generalize x.snd.fst = l
  intro hl
  have hl := (lenA_iff l).1 hl
  refine ⟨⟨by omega, by omega, rfl⟩, fun y hi => ⟨fun h => ?_, fun h => ?_⟩⟩
  · have h0 := hi.i0
    have hlen : List.length (α := Ad) y.1 ≤ 100000 := by
      have e := hi.a
      have : (ofA f (l.take y.2.toNat)).length ≤ (l.take y.2.toNat).length := List.length_filter_le _ _
      rw [← e, List.length_take] at this
      omega
    have e := take_succ l y.2 (Ty.zero AdT) h0 h
    refine ⟨h0, h, fun hf => ⟨?_, ?_⟩, fun hf => ?_⟩
    · have e1 : List.length (α := Ad) [l.getD y.2.toNat (Ty.zero AdT)] = 1 := rfl
      have : (List.length (α := Ad) y.1 + 1) * 32 ≤ 140737488355328 := by omega
      exact this
    · rw [step h0 (by omega) h]
      refine ⟨⟨by omega, by omega, ?_⟩, wcut h0 h⟩
      have e2 := ofA_snoc f (l.take y.2.toNat) (l.getD y.2.toNat (Ty.zero AdT))
      rw [if_pos hf] at e2
      exact (congrArg (· ++ [l.getD y.2.toNat (Ty.zero AdT)]) hi.a).trans (e2.symm.trans (congrArg (ofA f) e.symm))
    · rw [step h0 (by omega) h]
      refine ⟨⟨by omega, by omega, ?_⟩, wcut h0 h⟩
      have e2 := ofA_snoc f (l.take y.2.toNat) (l.getD y.2.toNat (Ty.zero AdT))
      rw [if_neg hf] at e2
      exact hi.a.trans (e2.symm.trans (congrArg (ofA f) e.symm))
  · have e := hi.a
    rw [take_all hi.i1 h] at e
    rw [e]
theorem v25 : Vc g25 300 Tryd.f25 cSameA := by
  constructor
  rw [v25_eq]
  simp only [Wr_iff, bcase_iff, true_and, and_true, decide_eq_true_eq, decide_eq_false_iff_not, Bool.and_eq_true, Bool.and_eq_false_iff, Bool.or_eq_true, Bool.or_eq_false_iff, Bool.not_eq_true', Bool.not_eq_false', Option.map_some, Option.getD_some, Option.isSome_some, Option.isSome_map, imp_self, nilL, noneO]
  intro x
  generalize x.fst = l
  generalize x.snd.fst = m
  intro hl
  have hl := (lenA_iff l).1 hl
  have no : ¬ (l : List Ad) = m → sameLs l m = false := fun h => decide_eq_false h
  refine ⟨fun h => ?_, fun hlm => ⟨⟨by omega, by omega, by omega, rfl⟩, fun i hi => ⟨fun h => ?_, fun h => ?_⟩⟩⟩
  · rw [no fun e => h (by rw [e])]
  · have h0 := hi.i0
    have hm : i < m.length := by omega
    refine ⟨h0, h, h0, hm, fun he => ?_, fun he => ?_⟩
    · have he := (eqA_f _ _).1 he
      rw [no fun e => he (by rw [e])]
    · have he := (eqA _ _).1 he
      rw [step h0 (by omega) h]
      refine ⟨⟨by omega, by omega, by omega, ?_⟩, wcut h0 h⟩
      have e1 := take_succ l i (Ty.zero AdT) h0 h
      have e2 := take_succ m i (Ty.zero AdT) h0 hm
      exact e1.trans ((congrArg (· ++ _) hi.a).trans ((congrArg (fun b => m.take i.toNat ++ [b]) he).trans e2.symm))
  · have e := hi.a
    have e2 : m.take i.toNat = m := List.take_of_length_le (by omega)
    rw [take_all hi.i1 h, e2] at e
    rw [show sameLs l m = true from decide_eq_true e]
theorem lens_le {n : Nat} : ∀ {ps : List (List UInt8)}, (∀ p ∈ ps, p.length ≤ n) → Go.Lib.lens ps ≤ n * ps.length
  | [], _ => by simp [Go.Lib.lens]
  | p :: r, h => by
    have := lens_le fun x hx => h x (List.mem_cons_of_mem _ hx)
    have h1 := h p List.mem_cons_self
    simp only [Go.Lib.lens, List.map_cons, List.sum_cons, List.length_cons] at this ⊢
    rw [Nat.mul_succ]
    omega
theorem join_le {n : Nat} {d : List UInt8} {ps : List (List UInt8)} (h : ∀ p ∈ ps, p.length ≤ n) : (Go.Lib.join ps d).length ≤ (n + d.length) * ps.length := by
  cases ps with
  | nil => simp [Go.Lib.join_nil]
  | cons p r =>
    rw [Go.Lib.join_cons, List.length_append, Go.Lib.joinTail_length]
    have h1 := h p List.mem_cons_self
    have h2 := lens_le fun x hx => h x (List.mem_cons_of_mem _ hx)
    rw [List.length_cons, Nat.mul_succ, Nat.add_mul]
    omega
theorem hexF_len : ∀ (f n : Nat), (hexF f n).length ≤ f
  | 0, _ => by simp [hexF]
  | f + 1, n => by
    unfold hexF
    rw [cond_eq_ite]
    split
    · simp
    · rw [List.length_append, List.length_singleton]
      have := hexF_len f (n / 16)
      omega
theorem hexesL_len {l : List Int} (h : l.length ≤ 8) : (hexesL l).length ≤ 40 := by
  unfold hexesL
  have := join_le (n := 4) (d := [58]) (ps := l.map fun n => hexL n.toNat) (by
    intro p hp
    obtain ⟨x, _, rfl⟩ := List.mem_map.1 hp
    exact hexF_len 4 _)
  rw [List.length_map] at this
  simp only [List.length_singleton] at this
  omega
theorem text0_len (a : Ad) : (text0 a).length ≤ 200 := by
  have hd : ∀ n, (digL n).length ≤ 5 := fun n => digF_len 5 n
  unfold text0 hostL
  rw [List.length_append, List.length_cons]
  have h1 := hd a.2.2.1.toNat
  rw [cond_eq_ite]
  split
  · unfold fourL
    have := join_le (n := 5) (d := [46]) (ps := [digL (a.2.1.1.toNat / 256), digL (a.2.1.1.toNat % 256), digL (a.2.1.2.1.toNat / 256), digL (a.2.1.2.1.toNat % 256)]) (by
      intro p hp
      simp only [List.mem_cons, List.not_mem_nil, or_false] at hp
      rcases hp with rfl | rfl | rfl | rfl <;> exact hd _)
    simp only [List.length_cons, List.length_nil] at this
    omega
  · unfold inL
    rw [cond_eq_ite]
    split
    · have := hexesL_len (l := gl a.2.1) (by rw [len_gl]; omega)
      simp only [List.length_append, List.length_cons, List.length_nil]
      omega
    · have h2 := hexesL_len (l := (gl a.2.1).take (long1 a.2.1).toNat) (by rw [List.length_take, len_gl]; omega)
      have h3 := hexesL_len (l := (gl a.2.1).drop (long1 a.2.1 + long2 a.2.1).toNat) (by rw [List.length_drop, len_gl]; omega)
      simp only [List.length_append, List.length_cons, List.length_nil]
      omega
theorem text1_len (a : Ad) : (text1 a).size ≤ 200 := by
  unfold text1
  rw [cond_eq_ite]
  split
  · rw [ofL_size]; exact text0_len a
  · rw [ofL_size]; simp
theorem text2_iff (a : Ad) : text2 a = 0 ↔ may1 a = true := by
  unfold text2
  cases may1 a <;> simp
theorem v21 : Vc g21 300 Tryd.f21 cRow := by
  constructor
  rw [v21_eq]
  simp only [Wr_iff, bcase_iff, true_and, and_true, decide_eq_true_eq, decide_eq_false_iff_not, Bool.and_eq_true, Bool.and_eq_false_iff, Bool.or_eq_true, Bool.or_eq_false_iff, Bool.not_eq_true', Bool.not_eq_false', Option.map_some, Option.getD_some, Option.isSome_some, Option.isSome_map, imp_self, nilL, noneO]
  intro x
  generalize x.fst = l
  intro hl
  have hl := (lenA_iff l).1 hl
  have no : Go.Ad.rowOk l = false → row1 l = ofL [] ∧ row2 l = 20 := by
    intro h
    unfold row1 row2
    rw [h]
    exact ⟨rfl, rfl⟩
  refine ⟨fun h => ?_, fun h16 => ⟨⟨by omega, by omega, by omega, rfl, rfl⟩, fun y hi => ⟨fun h => ?_, fun h => ?_⟩⟩⟩
  · have : Go.Ad.rowOk l = false := by unfold Go.Ad.rowOk; rw [show decide (List.length l ≤ 16) = false from decide_eq_false (by omega)]; rfl
    obtain ⟨h1, h2⟩ := no this
    rw [h1, h2]
    rfl
  · have h0 := hi.i0
    refine ⟨h0, h, fun he => ?_, fun he => ⟨?_, ?_⟩⟩
    · have hm : may1 (l.getD y.2.toNat (Ty.zero AdT)) = false := by
        cases hm : may1 (l.getD y.2.toNat (Ty.zero AdT)) with
        | false => rfl
        | true => exact absurd ((text2_iff _).2 hm) he
      have : Go.Ad.rowOk l = false := by
        unfold Go.Ad.rowOk
        have : mayA l = false := by
          cases hx : mayA l with
          | false => rfl
          | true =>
            have := List.all_eq_true.1 hx _ (getD_mem (z := Ty.zero AdT) h0 h)
            exact absurd (this.symm.trans hm) (by decide)
        rw [this, Bool.and_false]
      obtain ⟨h1, h2⟩ := no this
      have h3 : text2 (l.getD y.2.toNat (Ty.zero AdT)) = 20 := by unfold text2; rw [hm]; rfl
      rw [h1, h2, h3]
      rfl
    · have e : y.1.length ≤ 16 := by
        rw [hi.a, List.length_map, List.length_take]; have := hi.l16; omega
      have e1 : List.length [text1 (l.getD y.2.toNat (Ty.zero AdT))] = 1 := rfl
      have : (y.1.length + 1) * 16 ≤ 140737488355328 := by omega
      exact this
    · have hm := (text2_iff _).1 he
      rw [step h0 (by omega) h]
      have e := take_succ l y.2 (Ty.zero AdT) h0 h
      refine ⟨⟨by omega, by omega, hi.l16, ?_, ?_⟩, wcut h0 h⟩
      · rw [e, List.all_append, hi.m, List.all_cons, List.all_nil, Bool.and_true, Bool.true_and]
        exact hm
      · rw [e, List.map_append, ← hi.a]
        rfl
  · have e := hi.a
    have em := hi.m
    rw [take_all hi.i1 h] at e em
    have hr : Go.Ad.rowOk l = true := by
      unfold Go.Ad.rowOk
      rw [show decide (List.length l ≤ 16) = true from decide_eq_true hi.l16, Bool.true_and]
      exact em
    have hj : joinL (l.map text1) { data := #[32] } = rowL l := by
      unfold joinL rowL
      rw [bL0, bytesL_ofL, List.map_map]
      congr 1
      refine List.map_congr_left fun a ha => ?_
      have := text1_may (List.all_eq_true.1 em a ha)
      rw [Function.comp, this, bytesL_ofL]
    have hb := join_le (n := 200) (d := [32]) (ps := l.map text0) (by
      intro p hp
      obtain ⟨a, _, rfl⟩ := List.mem_map.1 hp
      exact text0_len a)
    rw [List.length_map] at hb
    simp only [List.length_singleton] at hb
    have hb2 : (rowL l).length ≤ 201 * l.length := hb
    rw [e]
    refine ⟨⟨by rw [List.length_map]; omega, ?_⟩, ?_⟩
    · have : (joinL (l.map text1) { data := #[32] }).length ≤ 4000000000 := by rw [hj]; omega
      exact this
    · have h1 : row1 l = joinS (l.map text1) { data := #[32] } := by
        unfold row1 joinS
        rw [hr, hj]
        try rfl
      have h2 : row2 l = 0 := by unfold row2; rw [hr]; rfl
      rw [h1, h2]
theorem empty_iff (s : ByteArray) : s = ofL [] ↔ decide ((bytesL s).length = 0) = true := by
  rw [decide_eq_true_eq]
  constructor
  · rintro rfl; rw [bytesL_ofL]; rfl
  · intro h; apply bytesL_inj; rw [bytesL_ofL, List.length_eq_zero_iff.1 h]
theorem splitS_sz {s d p : ByteArray} (hs : szOk s = true) (hp : p ∈ splitS s d) : szOk p = true := by
  rw [szOk_iff] at hs ⊢
  have := (splitS_le s d).1 p hp
  omega
theorem splitS_n {s d : ByteArray} (hs : szOk s = true) : (splitS s d).length ≤ 4000000001 := by
  rw [szOk_iff] at hs
  have := (splitS_le s d).2
  omega
theorem parse2_iff (s : ByteArray) : parse2 s = 0 ↔ parseO s = some (parse1 s) := by
  unfold parse2 parse1
  cases parseO s <;> simp
theorem parse2_no {s : ByteArray} (h : ¬ parse2 s = 0) : parseO s = none ∧ parse2 s = 20 := by
  unfold parse2 at h ⊢
  cases hp : parseO s with
  | none => exact ⟨rfl, rfl⟩
  | some a => rw [hp] at h; exact absurd rfl h
theorem v23 : Vc g23 300 Tryd.f23 cRead := by
  constructor
  rw [v23_eq]
  simp only [Wr_iff, bcase_iff, true_and, and_true, decide_eq_true_eq, decide_eq_false_iff_not, Bool.and_eq_true, Bool.and_eq_false_iff, Bool.or_eq_true, Bool.or_eq_false_iff, Bool.not_eq_true', Bool.not_eq_false', Option.map_some, Option.getD_some, Option.isSome_some, Option.isSome_map, imp_self, nilL, noneO]
  intro x
  generalize x.fst = s
  intro hs
  have hd : ({ data := #[32] } : ByteArray) = ofL [32] := rfl
  have he0 : ({ data := #[] } : ByteArray) = ofL [] := rfl
  have un : readO s = bif decide ((bytesL s).length = 0) then some [] else bif decide ((splitS s (ofL [32])).length ≤ 16) then goO parseO (splitS s (ofL [32])) else none := rfl
  have hn := splitS_n (d := ofL [32]) hs
  have hz := fun p => splitS_sz (p := p) (d := ofL [32]) hs
  have fin : ∀ (o : Option (List Ad)) (a : List Ad) (b : Int), readO s = o → a = o.getD [] → b = (bif o.isSome then 0 else 20) → (a, b, ()) = (read1 s, read2 s, ()) := by
    intro o a b h1 h2 h3
    unfold read1 read2
    rw [h1, h2, h3]
  refine ⟨fun h => ?_, fun h => ⟨⟨hs, rfl⟩, ?_⟩⟩
  · rw [(empty_iff s).1 h] at un
    exact fin _ _ _ un rfl rfl
  · have h : decide ((bytesL s).length = 0) = false := by
      cases hx : decide ((bytesL s).length = 0) with
      | false => rfl
      | true => exact absurd ((empty_iff s).2 hx) h
    rw [h, cond_false] at un
    show _ ∧ _
    rw [hd]
    generalize splitS s (ofL [32]) = l at un hn hz ⊢
    refine ⟨fun h16 => ?_, fun h16 => ⟨GoI.zero _ _, fun y hi => ⟨fun hlt => ?_, fun hlt => ?_⟩⟩⟩
    · rw [show decide (l.length ≤ 16) = false from decide_eq_false (by omega), cond_false] at un
      exact fin _ _ _ un rfl rfl
    · rw [show decide (l.length ≤ 16) = true from decide_eq_true (by omega), cond_true] at un
      have hm := getD_mem (z := Ty.zero .str) hi.i0 hlt
      refine ⟨hi.i0, hlt, hz _ hm, fun hp => ?_, fun hp => ⟨?_, ?_⟩⟩
      · obtain ⟨h1, h2⟩ := parse2_no hp
        rw [hi.no hlt h1] at un
        exact fin _ _ _ un rfl h2
      · have e1 : List.length [parse1 (l.getD y.2.toNat (Ty.zero .str))] = 1 := rfl
        have e2 := hi.len
        have : (List.length (α := Ad) y.1 + 1) * 32 ≤ 140737488355328 := by omega
        exact this
      · exact hi.on (z := Ty.zero .str) (by omega) hlt ((parse2_iff _).1 hp)
    · rw [show decide (l.length ≤ 16) = true from decide_eq_true (by omega), cond_true] at un
      rw [hi.fin hlt] at un
      exact fin _ _ _ un rfl rfl
theorem grp_O {s : ByteArray} : (grp2 s = true → grpO s = some (grp1 s)) ∧ (grp2 s = false → grpO s = none) := by
  unfold grpO
  constructor <;> intro h <;> rw [h] <;> rfl
theorem v85 : Vc g85 300 Tryd.f85 cSide := by
  constructor
  rw [v85_eq]
  simp only [Wr_iff, bcase_iff, true_and, and_true, decide_eq_true_eq, decide_eq_false_iff_not, Bool.and_eq_true, Bool.and_eq_false_iff, Bool.or_eq_true, Bool.or_eq_false_iff, Bool.not_eq_true', Bool.not_eq_false', Option.map_some, Option.getD_some, Option.isSome_some, Option.isSome_map, imp_self, nilL, noneO]
  intro x
  generalize x.fst = s
  intro hs
  have hd : ({ data := #[58] } : ByteArray) = ofL [58] := rfl
  have he0 : ({ data := #[] } : ByteArray) = ofL [] := rfl
  have un : sideO s = bif decide ((bytesL s).length = 0) then some [] else goO grpO (splitS s (ofL [58])) := rfl
  have hn := splitS_n (d := ofL [58]) hs
  have hz := fun p => splitS_sz (p := p) (d := ofL [58]) hs
  have fin : ∀ (o : Option (List Int)) (a : List Int) (b : Bool), sideO s = o → a = o.getD [] → b = o.isSome → (a, b, ()) = (side1 s, side2 s, ()) := by
    intro o a b h1 h2 h3
    unfold side1 side2
    rw [h1, h2, h3]
  refine ⟨fun h => ?_, fun h => ⟨⟨hs, rfl⟩, ?_⟩⟩
  · rw [(empty_iff s).1 h] at un
    exact fin _ _ _ un rfl rfl
  · have h : decide ((bytesL s).length = 0) = false := by
      cases hx : decide ((bytesL s).length = 0) with
      | false => rfl
      | true => exact absurd ((empty_iff s).2 hx) h
    rw [h, cond_false] at un
    show _ ∧ _
    rw [hd]
    generalize splitS s (ofL [58]) = l at un hn hz ⊢
    refine ⟨GoI.zero _ _, fun y hi => ⟨fun hlt => ?_, fun hlt => ?_⟩⟩
    · have hm := getD_mem (z := Ty.zero .str) hi.i0 hlt
      refine ⟨hi.i0, hlt, hz _ hm, fun hp => ?_, fun hp => ⟨?_, ?_⟩⟩
      · rw [hi.no hlt (grp_O.2 hp)] at un
        exact fin _ _ _ un rfl rfl
      · have e1 : List.length [grp1 (l.getD y.2.toNat (Ty.zero .str))] = 1 := rfl
        have e2 := hi.len
        have : (List.length (α := Int) y.1 + 1) * 2 ≤ 140737488355328 := by omega
        exact this
      · exact hi.on (z := Ty.zero .str) (by omega) hlt (grp_O.1 hp)
    · rw [hi.fin hlt] at un
      exact fin _ _ _ un rfl rfl
end Go.Proofs.YtkimpfoimblhjaaDoor.Ad
